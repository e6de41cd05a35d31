/- Functions of the program as plain Lean functions, and proofs that its calls come to just their answers, where they tell one (written by a program of this session). -/
import Derived.Test.YtpbonoecjlafcaaPx0
import Derived.Test.YtpbonoecjlafcaaPx4
import Derived.Test.YtpbonoecjlafcaaPx8
import Derived.Test.YtpbonoecjlafcaaPx10
namespace Go.Proofs.Ytpbonoecjlafcaa.P
open Go.RowKit Go.Proofs.YtpbonoecjlafcaaW.PrintWords Go.Proofs.YtpbonoecjlafcaaW.PrintLast Go.Proofs.YtpbonoecjlafcaaW.PrintMore
attribute [local go_sem] max2_int min2_int max_two min_two max_three min_three max_four min_four   -- for this text's walks alone
set_option linter.unusedVariables false
set_option linter.unusedSimpArgs false

/-! ### annuitylaw02_ShareFair: function 5 -/
mutual
def annuitylaw02_ShareFair.l0 : Nat → Int → List Int → List Int → Int → Int → Int → Option (Bool)
  | 0, _, _, _, _, _, _ => none
  | k + 1, x0, x1, x5, x7, x8, x9 => if x9 < (x5.length : Int) then (if 0 ≤ x9 then (if x9 < (x1.length : Int) then (annuitylaw02_ShareFair.l0 k x0 x1 x5 (wrap64 (x7 + (rd x1 x9))) (wrap64 (x8 + (rd x5 x9))) (wrap64 (x9 + 1))) else (none)) else (none)) else (annuitylaw02_ShareFair.l1 k x0 x1 x5 x7 x8 0)
def annuitylaw02_ShareFair.l1 : Nat → Int → List Int → List Int → Int → Int → Int → Option (Bool)
  | 0, _, _, _, _, _, _ => none
  | k + 1, x0, x1, x5, x7, x8, x10 => if x10 < (x5.length : Int) then (if 0 ≤ x10 then (if x10 < (x1.length : Int) then ((annuityref01_MulDiv.f k x0 (rd x1 x10) x7 0).bind fun bt256 => ((annuityref01_MulDiv.f k x0 (rd x1 x10) x7 1).bind fun bt259 => (if bt256.2 = 0 then (if bt259.2 = 0 then (if (rd x5 x10) < bt256.1 then (annuitylaw02_ShareFair.j2 k x0 x1 x5 x7 x8 x10 true) else (if (rd x5 x10) > bt259.1 then (annuitylaw02_ShareFair.j2 k x0 x1 x5 x7 x8 x10 true) else (if (rd x1 x10) = 0 then (annuitylaw02_ShareFair.j2 k x0 x1 x5 x7 x8 x10 ((rd x5 x10) != 0)) else (annuitylaw02_ShareFair.j2 k x0 x1 x5 x7 x8 x10 false)))) else (annuitylaw02_ShareFair.j2 k x0 x1 x5 x7 x8 x10 true)) else (annuitylaw02_ShareFair.j2 k x0 x1 x5 x7 x8 x10 true)))) else (none)) else (none)) else (if x8 = x0 then ((annuitylaw02_wakes.f k).bind fun t254 => (some t254)) else (none))
def annuitylaw02_ShareFair.j2 : Nat → Int → List Int → List Int → Int → Int → Int → Bool → Option (Bool)
  | 0, _, _, _, _, _, _, _ => none
  | k + 1, x0, x1, x5, x7, x8, x10, x120 => if x120 = true then (none) else (annuitylaw02_ShareFair.l2 k x0 x1 x5 x7 x8 x10 0)
def annuitylaw02_ShareFair.l2 : Nat → Int → List Int → List Int → Int → Int → Int → Int → Option (Bool)
  | 0, _, _, _, _, _, _, _ => none
  | k + 1, x0, x1, x5, x7, x8, x10, x15 => if x15 < x10 then (if 0 ≤ x15 then (if x15 < (x1.length : Int) then (if 0 ≤ x10 then (if x10 < (x1.length : Int) then (if (rd x1 x15) < (rd x1 x10) then (if x15 < (x5.length : Int) then (if x10 < (x5.length : Int) then (if (rd x5 x15) > (rd x5 x10) then (none) else (if (rd x1 x15) > (rd x1 x10) then (if (rd x5 x15) < (rd x5 x10) then (none) else (if (rd x1 x15) = (rd x1 x10) then (annuitylaw02_ShareFair.l2 k x0 x1 x5 x7 x8 x10 (wrap64 (x15 + 1))) else (annuitylaw02_ShareFair.l2 k x0 x1 x5 x7 x8 x10 (wrap64 (x15 + 1))))) else (if (rd x1 x15) = (rd x1 x10) then (if (rd x5 x15) < (rd x5 x10) then (none) else (annuitylaw02_ShareFair.l2 k x0 x1 x5 x7 x8 x10 (wrap64 (x15 + 1)))) else (annuitylaw02_ShareFair.l2 k x0 x1 x5 x7 x8 x10 (wrap64 (x15 + 1)))))) else (none)) else (none)) else (if (rd x1 x15) > (rd x1 x10) then (if x15 < (x5.length : Int) then (if x10 < (x5.length : Int) then (if (rd x5 x15) < (rd x5 x10) then (none) else (if (rd x1 x15) = (rd x1 x10) then (annuitylaw02_ShareFair.l2 k x0 x1 x5 x7 x8 x10 (wrap64 (x15 + 1))) else (annuitylaw02_ShareFair.l2 k x0 x1 x5 x7 x8 x10 (wrap64 (x15 + 1))))) else (none)) else (none)) else (if (rd x1 x15) = (rd x1 x10) then (if x15 < (x5.length : Int) then (if x10 < (x5.length : Int) then (if (rd x5 x15) < (rd x5 x10) then (none) else (annuitylaw02_ShareFair.l2 k x0 x1 x5 x7 x8 x10 (wrap64 (x15 + 1)))) else (none)) else (none)) else (annuitylaw02_ShareFair.l2 k x0 x1 x5 x7 x8 x10 (wrap64 (x15 + 1)))))) else (none)) else (none)) else (none)) else (none)) else (annuitylaw02_ShareFair.l1 k x0 x1 x5 x7 x8 (wrap64 (x10 + 1)))
end
def annuitylaw02_ShareFair.f (k : Nat) (a0 : Int) (l1 : List Int) : Option (Bool) := if (l1.length : Int) > 200 then ((annuitylaw02_wakes.f k).bind fun t240 => (some t240)) else ((some (([] : List Int) : List Int)).bind fun y241 => (if y241.length + l1.length < 17592186044416 then ((share_Split.f k a0 (y241 ++ l1)).bind fun bt247 => (if bt247.2 = 0 then (if (bt247.1.length : Int) = (l1.length : Int) then (annuitylaw02_ShareFair.l0 k a0 l1 bt247.1 0 0 0) else (none)) else (if (bt247.1.length : Int) = 0 then ((annuitylaw02_wakes.f k).bind fun t251 => (some t251)) else (none)))) else (none)))
theorem annuitylaw02_ShareFair.mono_l : ∀ k, (∀ y0 y1 y2 y3 y4 y5, LeO (annuitylaw02_ShareFair.l0 k y0 y1 y2 y3 y4 y5) (annuitylaw02_ShareFair.l0 (k + 1) y0 y1 y2 y3 y4 y5)) ∧ (∀ y0 y1 y2 y3 y4 y5, LeO (annuitylaw02_ShareFair.l1 k y0 y1 y2 y3 y4 y5) (annuitylaw02_ShareFair.l1 (k + 1) y0 y1 y2 y3 y4 y5)) ∧ (∀ y0 y1 y2 y3 y4 y5 y6, LeO (annuitylaw02_ShareFair.j2 k y0 y1 y2 y3 y4 y5 y6) (annuitylaw02_ShareFair.j2 (k + 1) y0 y1 y2 y3 y4 y5 y6)) ∧ (∀ y0 y1 y2 y3 y4 y5 y6, LeO (annuitylaw02_ShareFair.l2 k y0 y1 y2 y3 y4 y5 y6) (annuitylaw02_ShareFair.l2 (k + 1) y0 y1 y2 y3 y4 y5 y6))
  | 0 => ⟨fun _ _ _ _ _ _ r h => by simp [annuitylaw02_ShareFair.l0] at h, fun _ _ _ _ _ _ r h => by simp [annuitylaw02_ShareFair.l1] at h, fun _ _ _ _ _ _ _ r h => by simp [annuitylaw02_ShareFair.j2] at h, fun _ _ _ _ _ _ _ r h => by simp [annuitylaw02_ShareFair.l2] at h⟩
  | k + 1 => by
    obtain ⟨ih0, ih1, ih2, ih3⟩ := annuitylaw02_ShareFair.mono_l k
    refine ⟨?_, ?_, ?_, ?_⟩
    · intro y0 y1 y2 y3 y4 y5
      unfold annuitylaw02_ShareFair.l0
      repeat' first
      | (with_reducible exact ih0 _ _ _ _ _ _)
      | (with_reducible exact ih1 _ _ _ _ _ _)
      | (with_reducible exact ih2 _ _ _ _ _ _ _)
      | (with_reducible exact ih3 _ _ _ _ _ _ _)
      | (with_reducible exact annuitylaw02_wakes.mono _)
      | (with_reducible exact annuityref01_MulDiv.mono _ _ _ _ _)
      | (with_reducible exact share_Split.mono _ _ _)
      | (with_reducible exact LeO.refl _)
      | (with_reducible exact LeO.none _)
      | (with_reducible refine LeO.ite ?_ ?_)
      | (with_reducible refine LeO.bind ?_ (fun _ => ?_))
      | exact ih0 _ _ _ _ _ _
      | exact ih1 _ _ _ _ _ _
      | exact ih2 _ _ _ _ _ _ _
      | exact ih3 _ _ _ _ _ _ _
      | exact annuitylaw02_wakes.mono _
      | exact annuityref01_MulDiv.mono _ _ _ _ _
      | exact share_Split.mono _ _ _
      | exact LeO.none _
      | refine LeO.ite ?_ ?_
      | refine LeO.bind ?_ (fun _ => ?_)
    · intro y0 y1 y2 y3 y4 y5
      unfold annuitylaw02_ShareFair.l1
      repeat' first
      | (with_reducible exact ih0 _ _ _ _ _ _)
      | (with_reducible exact ih1 _ _ _ _ _ _)
      | (with_reducible exact ih2 _ _ _ _ _ _ _)
      | (with_reducible exact ih3 _ _ _ _ _ _ _)
      | (with_reducible exact annuitylaw02_wakes.mono _)
      | (with_reducible exact annuityref01_MulDiv.mono _ _ _ _ _)
      | (with_reducible exact share_Split.mono _ _ _)
      | (with_reducible exact LeO.refl _)
      | (with_reducible exact LeO.none _)
      | (with_reducible refine LeO.ite ?_ ?_)
      | (with_reducible refine LeO.bind ?_ (fun _ => ?_))
      | exact ih0 _ _ _ _ _ _
      | exact ih1 _ _ _ _ _ _
      | exact ih2 _ _ _ _ _ _ _
      | exact ih3 _ _ _ _ _ _ _
      | exact annuitylaw02_wakes.mono _
      | exact annuityref01_MulDiv.mono _ _ _ _ _
      | exact share_Split.mono _ _ _
      | exact LeO.none _
      | refine LeO.ite ?_ ?_
      | refine LeO.bind ?_ (fun _ => ?_)
    · intro y0 y1 y2 y3 y4 y5 y6
      unfold annuitylaw02_ShareFair.j2
      repeat' first
      | (with_reducible exact ih0 _ _ _ _ _ _)
      | (with_reducible exact ih1 _ _ _ _ _ _)
      | (with_reducible exact ih2 _ _ _ _ _ _ _)
      | (with_reducible exact ih3 _ _ _ _ _ _ _)
      | (with_reducible exact annuitylaw02_wakes.mono _)
      | (with_reducible exact annuityref01_MulDiv.mono _ _ _ _ _)
      | (with_reducible exact share_Split.mono _ _ _)
      | (with_reducible exact LeO.refl _)
      | (with_reducible exact LeO.none _)
      | (with_reducible refine LeO.ite ?_ ?_)
      | (with_reducible refine LeO.bind ?_ (fun _ => ?_))
      | exact ih0 _ _ _ _ _ _
      | exact ih1 _ _ _ _ _ _
      | exact ih2 _ _ _ _ _ _ _
      | exact ih3 _ _ _ _ _ _ _
      | exact annuitylaw02_wakes.mono _
      | exact annuityref01_MulDiv.mono _ _ _ _ _
      | exact share_Split.mono _ _ _
      | exact LeO.none _
      | refine LeO.ite ?_ ?_
      | refine LeO.bind ?_ (fun _ => ?_)
    · intro y0 y1 y2 y3 y4 y5 y6
      unfold annuitylaw02_ShareFair.l2
      repeat' first
      | (with_reducible exact ih0 _ _ _ _ _ _)
      | (with_reducible exact ih1 _ _ _ _ _ _)
      | (with_reducible exact ih2 _ _ _ _ _ _ _)
      | (with_reducible exact ih3 _ _ _ _ _ _ _)
      | (with_reducible exact annuitylaw02_wakes.mono _)
      | (with_reducible exact annuityref01_MulDiv.mono _ _ _ _ _)
      | (with_reducible exact share_Split.mono _ _ _)
      | (with_reducible exact LeO.refl _)
      | (with_reducible exact LeO.none _)
      | (with_reducible refine LeO.ite ?_ ?_)
      | (with_reducible refine LeO.bind ?_ (fun _ => ?_))
      | exact ih0 _ _ _ _ _ _
      | exact ih1 _ _ _ _ _ _
      | exact ih2 _ _ _ _ _ _ _
      | exact ih3 _ _ _ _ _ _ _
      | exact annuitylaw02_wakes.mono _
      | exact annuityref01_MulDiv.mono _ _ _ _ _
      | exact share_Split.mono _ _ _
      | exact LeO.none _
      | refine LeO.ite ?_ ?_
      | refine LeO.bind ?_ (fun _ => ?_)
theorem annuitylaw02_ShareFair.mono : ∀ a0 a1 k, LeO (annuitylaw02_ShareFair.f k a0 a1) (annuitylaw02_ShareFair.f (k + 1) a0 a1) := by
  intro a0 a1 k
  obtain ⟨ih0, ih1, ih2, ih3⟩ := annuitylaw02_ShareFair.mono_l k
  unfold annuitylaw02_ShareFair.f
  repeat' first
      | (with_reducible exact ih0 _ _ _ _ _ _)
      | (with_reducible exact ih1 _ _ _ _ _ _)
      | (with_reducible exact ih2 _ _ _ _ _ _ _)
      | (with_reducible exact ih3 _ _ _ _ _ _ _)
      | (with_reducible exact annuitylaw02_wakes.mono _)
      | (with_reducible exact annuityref01_MulDiv.mono _ _ _ _ _)
      | (with_reducible exact share_Split.mono _ _ _)
      | (with_reducible exact LeO.refl _)
      | (with_reducible exact LeO.none _)
      | (with_reducible refine LeO.ite ?_ ?_)
      | (with_reducible refine LeO.bind ?_ (fun _ => ?_))
      | exact ih0 _ _ _ _ _ _
      | exact ih1 _ _ _ _ _ _
      | exact ih2 _ _ _ _ _ _ _
      | exact ih3 _ _ _ _ _ _ _
      | exact annuitylaw02_wakes.mono _
      | exact annuityref01_MulDiv.mono _ _ _ _ _
      | exact share_Split.mono _ _ _
      | exact LeO.none _
      | refine LeO.ite ?_ ?_
      | refine LeO.bind ?_ (fun _ => ?_)
set_option maxHeartbeats 8000000 in
set_option maxRecDepth 100000 in
theorem annuitylaw02_ShareFair.calls (k : Nat) (a0 : Int) (A1 : Option Addr) (c1 : Nat) (l1 : List Int) (r : Bool) (w : World) (hr1 : Kd.C (Kd.int .i64) w A1 l1.length l1) (hc1 : l1.length ≤ c1) (h : annuitylaw02_ShareFair.f k a0 l1 = some r) :
    Calls Try.prog 5 #[.int .i64 a0, .slice A1 l1.length c1] w fun e w' => e = .returned (.bool r) ∧ Below w.heap.size w w' := by
  have HR1 := Aside0.mk hr1
  have HC1 := Aside0.mk hc1
  clear hr1 hc1
  have HB := Aside0.mk (Below.refl w.heap.size w)
  have H : (if (l1.length : Int) > 200 then ((annuitylaw02_wakes.f k).bind fun t240 => (some t240)) else ((some (([] : List Int) : List Int)).bind fun y241 => (if y241.length + l1.length < 17592186044416 then ((share_Split.f k a0 (y241 ++ l1)).bind fun bt247 => (if bt247.2 = 0 then (if (bt247.1.length : Int) = (l1.length : Int) then (annuitylaw02_ShareFair.l0 k a0 l1 bt247.1 0 0 0) else (none)) else (if (bt247.1.length : Int) = 0 then ((annuitylaw02_wakes.f k).bind fun t251 => (some t251)) else (none)))) else (none)))) = some r := h
  clear h
  by_cases c3 : (l1.length : Int) > 200
  · rw [if_pos c3] at H
    have c3b0 : decide (200 < (l1.length : Int)) = true := decide_eq_true c3
    have c3b1 : decide (200 < l1.length) = true := decide_eq_true (by omega)
    clear c3
    replace H := Option.bind_eq_some_iff.mp H
    obtain ⟨t240, A40, H⟩ := H
    replace H : (some t240) = some r := H
    have A4 := Aside0.mk A40
    clear A40
    obtain rfl := Option.some.inj H
    go_enter Try.func5, Try.ntmps5
    go_wp2_with (first | (go_at_call 8; (with_reducible refine (annuitylaw02_wakes.calls k  t240 _ A4.out).mono ?_); rintro e w5 ⟨rfl, hb⟩; have n0_ := Aside0.mk (below_step (by repeat (first | (with_reducible first | exact HB.out | apply below_alloc | apply pw_below_drewN | apply below_drew1) | exact HB.out)) hb); clear HB; have HB := n0_; clear n0_; (try clear hb); (try clear hb2); (try clear hk); (try clear hi)))
    repeat (go_quiet (first | (go_at_call 8; (first | (with_reducible refine (annuitylaw02_wakes.calls k  t240 _ A4.out).mono ?_) | (simp only [i64_w, i32_w]; with_reducible refine (annuitylaw02_wakes.calls k  t240 _ A4.out).mono ?_)); rintro e w5 ⟨rfl, hb⟩; have n0_ := Aside0.mk (below_step (by repeat (first | (with_reducible first | exact HB.out | apply below_alloc | apply pw_below_drewN | apply below_drew1) | exact HB.out)) hb); clear HB; have HB := n0_; clear n0_; (try clear hb); (try clear hb2); (try clear hk); (try clear hi))); try go_wp2_with (first | (go_at_call 8; (first | (with_reducible refine (annuitylaw02_wakes.calls k  t240 _ A4.out).mono ?_) | (simp only [i64_w, i32_w]; with_reducible refine (annuitylaw02_wakes.calls k  t240 _ A4.out).mono ?_)); rintro e w5 ⟨rfl, hb⟩; have n0_ := Aside0.mk (below_step (by repeat (first | (with_reducible first | exact HB.out | apply below_alloc | apply pw_below_drewN | apply below_drew1) | exact HB.out)) hb); clear HB; have HB := n0_; clear n0_; (try clear hb); (try clear hb2); (try clear hk); (try clear hi))))
    go_ret
    exact ⟨by first | rfl | (simp [i64_w, i32_w, errW_none, errW_some]; done) | (simp [errW_none, errW_some] <;> rfl) | (simp [*, errW_none, errW_some] <;> rfl), by repeat (first | (with_reducible first | exact HB.out | apply below_alloc | apply pw_below_drewN | apply below_drew1) | exact HB.out)⟩
  · rw [if_neg c3] at H
    have c3b0 : decide (200 < (l1.length : Int)) = false := decide_eq_false c3
    have c3b1 : decide (200 < l1.length) = false := decide_eq_false (by omega)
    clear c3
    obtain ⟨y241, hy241⟩ : ∃ y_ : List Int, y_ = (([] : List Int)) := ⟨_, rfl⟩
    replace H : (if y241.length + l1.length < 17592186044416 then ((share_Split.f k a0 (y241 ++ l1)).bind fun bt247 => (if bt247.2 = 0 then (if (bt247.1.length : Int) = (l1.length : Int) then (annuitylaw02_ShareFair.l0 k a0 l1 bt247.1 0 0 0) else (none)) else (if (bt247.1.length : Int) = 0 then ((annuitylaw02_wakes.f k).bind fun t251 => (some t251)) else (none)))) else (none)) = some r := by first | (rw [hy241]; with_reducible exact H) | (have H2_ := (Option.bind_some _ _).symm.trans H; rw [hy241]; with_reducible exact H2_) | (have H2_ := (Option.bind_some _ _).symm.trans H; with_reducible exact H2_) | with_reducible exact H | (rw [hy241]; exact H) | exact H
    have Ny241 := Aside0.mk hy241
    clear hy241
    by_cases c6 : y241.length + l1.length < 17592186044416
    · rw [if_pos c6] at H
      have LMc6 := Aside0.mk c6
      clear c6
      obtain ⟨y244, hy244⟩ : ∃ y_ : List Int, y_ = (y241 ++ l1) := ⟨_, rfl⟩
      replace H : ((share_Split.f k a0 y244).bind fun bt247 => (if bt247.2 = 0 then (if (bt247.1.length : Int) = (l1.length : Int) then (annuitylaw02_ShareFair.l0 k a0 l1 bt247.1 0 0 0) else (none)) else (if (bt247.1.length : Int) = 0 then ((annuitylaw02_wakes.f k).bind fun t251 => (some t251)) else (none)))) = some r := by first | (rw [hy244]; with_reducible exact H) | (have H2_ := (Option.bind_some _ _).symm.trans H; rw [hy244]; with_reducible exact H2_) | (have H2_ := (Option.bind_some _ _).symm.trans H; with_reducible exact H2_) | with_reducible exact H | (rw [hy244]; exact H) | exact H
      have Ny244 := Aside0.mk hy244
      clear hy244
      replace H := Option.bind_eq_some_iff.mp H
      obtain ⟨⟨t247, t248⟩, A70, H⟩ := H
      replace H : (if t248 = 0 then (if (t247.length : Int) = (l1.length : Int) then (annuitylaw02_ShareFair.l0 k a0 l1 t247 0 0 0) else (none)) else (if (t247.length : Int) = 0 then ((annuitylaw02_wakes.f k).bind fun t251 => (some t251)) else (none))) = some r := H
      have A7 := Aside0.mk A70
      clear A70
      by_cases c8 : t248 = 0
      · rw [if_pos c8] at H
        have c8b0 : (t248 == 0) = true := beq_iff_eq.mpr c8
        have c8b1 : (t248 != 0) = false := bne_eq_false_iff_eq.mpr c8
        clear c8
        by_cases c9 : (t247.length : Int) = (l1.length : Int)
        · rw [if_pos c9] at H
          have c9b0 : ((t247.length : Int) == (l1.length : Int)) = true := beq_iff_eq.mpr c9
          have c9b1 : ((t247.length : Int) != (l1.length : Int)) = false := bne_eq_false_iff_eq.mpr c9
          have c9b2 : (t247.length == l1.length) = true := by first | simpa using c9 | (simp at c9 ⊢; omega)
          clear c9
          have H' := Aside0.mk H
          clear H
          go_enter Try.func5, Try.ntmps5
          go_wp2_with (first | ((with_reducible refine gate_dst (N := 22) rfl ?_); refine Kd.R_lit (Kd.int .i64) _ 2 ?hg (N := 22) ?hd (xs := ([] : List Int)) (inner := []) (ok := fun _ => True) (okp := fun _ => True) ?hr ?hp (fun _ hk => hk) trivial (Below.refl _ _) (Nat.le_refl _) (by simp) ?_; (case hd => rfl); (case hg => rfl); (case hr => first | (go_simp; done) | (go_simp; rfl)); (case hp => exact (Reps.none _ _)); intro v242 w10 ho11 hb hg_ hnew_; clear hg_ hnew_; (first | rw [← Ny241.out] at ho11 | (simp only [Int.reduceToNat] at ho11; rw [← Ny241.out] at ho11)); have n0_ := Aside0.mk (Kd.R_lower ho11 (below_size (by repeat (first | (with_reducible first | exact HB.out | apply below_alloc | apply pw_below_drewN | apply below_drew1) | exact HB.out)))); have n1_ := Aside0.mk (below_step (by repeat (first | (with_reducible first | exact HB.out | apply below_alloc | apply pw_below_drewN | apply below_drew1) | exact HB.out)) hb); clear HB; have HO243 := n0_; have HB := n1_; clear n0_ n1_; clear hb ho11) | ((with_reducible refine gate_builtin (b := .append) (xs := #[.tmp 22, .tmp 23]) rfl ?_); at_builtin; refine Kd.R_append_rows (Kd.int .i64) (w0 := w) w.heap.size rfl (.tmp 22) (.tmp 23) 22 2 (.int .i64 0) 8 rfl Try.underlying22 info2 rfl (by decide) (by omega) v242 y241 l1 _ _ _ (fun _ => True) (fun _ => False) rfl rfl ?aO ?aR (fun _ _ h => h) (fun _ h => h.elim) ?aF ?aB ?aS ?aL ?_; (case aR => repeat (first | exact (Kd.C_below HR1.out HB.out) | (with_reducible refine Kd.C_alloc ?_ _) | (with_reducible refine Kd.C_drewN ?_ _) | (with_reducible refine Kd.C_drew ?_))); (case aB => exact (by repeat (first | (with_reducible first | exact HB.out | apply below_alloc | apply pw_below_drewN | apply below_drew1) | exact HB.out))); (case aF => exact (fun _ _ => trivial)); (case aO => exact (by (with_reducible repeat (first | apply Kd.R_alloc | apply Kd.R_drewN | apply Kd.R_drew)); exact HO243.out)); (case aS => exact (below_size (by repeat (first | (with_reducible first | exact HB.out | apply below_alloc | apply pw_below_drewN | apply below_drew1) | exact HB.out)))); (case aL => have := LMc6.out; omega); intro v245 w12 ho hb hg hat; rw [← Ny244.out] at ho; have n0_ := Aside0.mk (hb); have n1_ := Aside0.mk (ho); clear HB; clear HO243; have HB := n0_; have HO246 := n1_; clear n0_ n1_; clear ho hb hg hat; obtain ⟨Ao13, co13, eo13⟩ := Kd.R_slice HO246.out; subst eo13) | (go_at_call 9; (with_reducible refine (share_Split.calls k a0 _ _ y244 t247 t248 _ ?side1 ?side2 A7.out).mono ?_); (case side1 => repeat (first | exact (Kd.R_reads' HO246.out).2.2 | (with_reducible refine Kd.C_alloc ?_ _) | (with_reducible refine Kd.C_drewN ?_ _) | (with_reducible refine Kd.C_drew ?_))); (case side2 => exact (Kd.R_reads' HO246.out).2.1); rintro e w14 ⟨v249, rfl, ho0, hb⟩; have n0_ := Aside0.mk (Kd.R_elder' (by (with_reducible repeat (first | apply Kd.R_alloc | apply Kd.R_drewN | apply Kd.R_drew)); exact HO246.out) (Kd.R_base ho0) hb); have n1_ := Aside0.mk (Kd.R_lower (Kd.R_new' ho0 (Kd.R_lt (by (with_reducible repeat (first | apply Kd.R_alloc | apply Kd.R_drewN | apply Kd.R_drew)); exact HO246.out))) (below_size (by repeat (first | (with_reducible first | exact HB.out | apply below_alloc | apply pw_below_drewN | apply below_drew1) | exact HB.out)))); have n2_ := Aside0.mk (below_step (by repeat (first | (with_reducible first | exact HB.out | apply below_alloc | apply pw_below_drewN | apply below_drew1) | exact HB.out)) hb); clear HO246; clear HB; have HO246 := n0_; have HO250 := n1_; have HB := n2_; clear n0_ n1_ n2_; (try clear hb); (try clear hb2); (try clear hk); (try clear hi); (try clear ho0); obtain ⟨Ao15, co15, eo15⟩ := Kd.R_slice HO250.out; subst eo15))
          try (go_quiet (fail); try go_wp2)
          go_loopg [7, 8, 9] k (fun kq v7 v8 v9 w' => ∃ (x7_1 : Int) (x8_1 : Int) (x9_1 : Int), v7 = .int .i64 x7_1 ∧ v8 = .int .i64 x8_1 ∧ v9 = .int .i64 x9_1 ∧ Aside0 (annuitylaw02_ShareFair.l0 kq a0 l1 t247 x7_1 x8_1 x9_1 = some r) ∧ Aside0 (kq ≤ k) ∧ Aside0 (Kd.R (Kd.int .i64) 2 w' w.heap.size (fun _ => True) (.slice Ao15 t247.length co15) t247) ∧ Aside0 (Below w.heap.size w w'))
          case atStart => exact ⟨(0), (0), (0), (by first | rfl | (simp [i64_w, i32_w, errW_none, errW_some]; done) | (simp; done) | (simp [*]; done)), (by first | rfl | (simp [i64_w, i32_w, errW_none, errW_some]; done) | (simp; done) | (simp [*]; done)), (by first | rfl | (simp [i64_w, i32_w, errW_none, errW_some]; done) | (simp; done) | (simp [*]; done)), H', ⟨Nat.le_refl _⟩, ⟨by (with_reducible repeat (first | apply Kd.R_alloc | apply Kd.R_drewN | apply Kd.R_drew)); exact Kd.R_mono HO250.out (fun _ hk => trivial)⟩, ⟨by repeat (first | (with_reducible first | exact HB.out | apply below_alloc | apply pw_below_drewN | apply below_drew1) | exact HB.out)⟩⟩
          case round =>
            clear H'
            try clear c1
            try clear p2
            try clear c3
            try clear c3b0
            try clear c3b1
            try clear c5
            try clear c6
            try clear c8
            try clear c8b0
            try clear c8b1
            try clear c9
            try clear c9b0
            try clear c9b1
            try clear c9b2
            obtain ⟨x7_1, x8_1, x9_1, rfl, rfl, rfl, HA, HK1, HO_5, HB⟩ := hrel
            cases gk with
            | zero => exact absurd HA.out (by simp [annuitylaw02_ShareFair.l0])
            | succ k1 =>
              have H := HA.out
              clear HA
              simp only [annuitylaw02_ShareFair.l0] at H
              by_cases c16 : x9_1 < (t247.length : Int)
              · rw [if_pos c16] at H
                have c16b0 : decide (x9_1 < (t247.length : Int)) = true := decide_eq_true c16
                clear c16
                by_cases c17 : 0 ≤ x9_1
                · rw [if_pos c17] at H
                  have c17b0 : decide (0 ≤ x9_1) = true := decide_eq_true c17
                  clear c17
                  by_cases c18 : x9_1 < (l1.length : Int)
                  · rw [if_pos c18] at H
                    have c18b0 : decide (x9_1 < (l1.length : Int)) = true := decide_eq_true c18
                    clear c18
                    have H' := Aside0.mk H
                    clear H
                    have p252 : 0 ≤ (x9_1 : Int) := of_decide_eq_true (by first | (with_reducible assumption) | assumption)
                    have q252 : x9_1 < (l1.length : Int) := of_decide_eq_true (by first | (with_reducible assumption) | assumption)
                    obtain ⟨ad252, e252, hx252_0⟩ := Kd.at_int HR1.out x9_1 p252 q252
                    cases e252
                    replace hx252_0 := (HB.out.cell (World.block_lt_of_cell? w _ hx252_0)).trans hx252_0
                    replace p252 := eq_true p252
                    replace q252 := eq_true q252
                    have p253 : 0 ≤ (x9_1 : Int) := of_decide_eq_true (by first | (with_reducible assumption) | assumption)
                    have q253 : x9_1 < (t247.length : Int) := of_decide_eq_true (by first | (with_reducible assumption) | assumption)
                    obtain ⟨ad253, e253, hx253_0⟩ := Kd.at_int (Kd.R_reads' HO_5.out).2.2 x9_1 p253 q253
                    cases e253
                    replace p253 := eq_true p253
                    replace q253 := eq_true q253
                    as_aux_lemma =>
                    go_wp2
                    repeat (go_quiet (fail); try go_wp2)
                    go_roundg k1
                    case measure => have := HK1.out; omega
                    case rel => exact ⟨(wrap64 (x7_1 + (rd l1 x9_1))), (wrap64 (x8_1 + (rd t247 x9_1))), (wrap64 (x9_1 + 1)), (by first | rfl | (simp [i64_w, i32_w, errW_none, errW_some]; done) | (simp; done) | (simp [*]; done)), (by first | rfl | (simp [i64_w, i32_w, errW_none, errW_some]; done) | (simp; done) | (simp [*]; done)), (by first | rfl | (simp [i64_w, i32_w, errW_none, errW_some]; done) | (simp; done) | (simp [*]; done)), H', ⟨by have := HK1.out; omega⟩, ⟨by (with_reducible repeat (first | apply Kd.R_alloc | apply Kd.R_drewN | apply Kd.R_drew)); exact HO_5.out⟩, ⟨by repeat (first | (with_reducible first | exact HB.out | apply below_alloc | apply pw_below_drewN | apply below_drew1) | exact HB.out)⟩⟩
                  · rw [if_neg c18] at H
                    exact absurd H (by simp)
                · rw [if_neg c17] at H
                  exact absurd H (by simp)
              · rw [if_neg c16] at H
                have c16b0 : decide (x9_1 < (t247.length : Int)) = false := decide_eq_false c16
                clear c16
                have H' := Aside0.mk H
                clear H
                as_aux_lemma =>
                go_wp2
                repeat (go_quiet (fail); try go_wp2)
                go_loopg [10] k1 (fun kq v10 w' => ∃ (x10_2 : Int), v10 = .int .i64 x10_2 ∧ Aside0 (annuitylaw02_ShareFair.l1 kq a0 l1 t247 x7_1 x8_1 x10_2 = some r) ∧ Aside0 (kq ≤ k1) ∧ Aside0 (Kd.R (Kd.int .i64) 2 w' w.heap.size (fun _ => True) (.slice Ao15 t247.length co15) t247) ∧ Aside0 (Below w.heap.size w w'))
                case atStart => exact ⟨(0), (by first | rfl | (simp [i64_w, i32_w, errW_none, errW_some]; done) | (simp; done) | (simp [*]; done)), H', ⟨Nat.le_refl _⟩, ⟨by (with_reducible repeat (first | apply Kd.R_alloc | apply Kd.R_drewN | apply Kd.R_drew)); exact HO_5.out⟩, ⟨by repeat (first | (with_reducible first | exact HB.out | apply below_alloc | apply pw_below_drewN | apply below_drew1) | exact HB.out)⟩⟩
                case round =>
                  clear H'
                  try clear c1
                  try clear p2
                  try clear q2
                  try clear hx2
                  try clear c3
                  try clear c3b0
                  try clear c3b1
                  try clear c5
                  try clear c6
                  try clear p6
                  try clear c8
                  try clear c8b0
                  try clear c8b1
                  try clear c9
                  try clear c9b0
                  try clear c9b1
                  try clear c9b2
                  try clear c16
                  try clear c16b0
                  try clear c17
                  try clear c17b0
                  try clear c18
                  try clear c18b0
                  try clear hx252_0
                  try clear hx253_0
                  try clear p2
                  try clear p252
                  try clear p253
                  try clear q252
                  try clear q253
                  obtain ⟨x10_2, rfl, HA, HK2, HO_5, HB⟩ := hrel
                  cases gk with
                  | zero => exact absurd HA.out (by simp [annuitylaw02_ShareFair.l1])
                  | succ k2 =>
                    have H := HA.out
                    clear HA
                    simp only [annuitylaw02_ShareFair.l1] at H
                    by_cases c19 : x10_2 < (t247.length : Int)
                    · rw [if_pos c19] at H
                      have c19b0 : decide (x10_2 < (t247.length : Int)) = true := decide_eq_true c19
                      clear c19
                      by_cases c20 : 0 ≤ x10_2
                      · rw [if_pos c20] at H
                        have c20b0 : decide (0 ≤ x10_2) = true := decide_eq_true c20
                        clear c20
                        by_cases c21 : x10_2 < (l1.length : Int)
                        · rw [if_pos c21] at H
                          have c21b0 : decide (x10_2 < (l1.length : Int)) = true := decide_eq_true c21
                          clear c21
                          replace H := Option.bind_eq_some_iff.mp H
                          obtain ⟨⟨t256, t257⟩, A220, H⟩ := H
                          replace H : ((annuityref01_MulDiv.f k2 a0 (rd l1 x10_2) x7_1 1).bind fun bt259 => (if t257 = 0 then (if bt259.2 = 0 then (if (rd t247 x10_2) < t256 then (annuitylaw02_ShareFair.j2 k2 a0 l1 t247 x7_1 x8_1 x10_2 true) else (if (rd t247 x10_2) > bt259.1 then (annuitylaw02_ShareFair.j2 k2 a0 l1 t247 x7_1 x8_1 x10_2 true) else (if (rd l1 x10_2) = 0 then (annuitylaw02_ShareFair.j2 k2 a0 l1 t247 x7_1 x8_1 x10_2 ((rd t247 x10_2) != 0)) else (annuitylaw02_ShareFair.j2 k2 a0 l1 t247 x7_1 x8_1 x10_2 false)))) else (annuitylaw02_ShareFair.j2 k2 a0 l1 t247 x7_1 x8_1 x10_2 true)) else (annuitylaw02_ShareFair.j2 k2 a0 l1 t247 x7_1 x8_1 x10_2 true))) = some r := H
                          have A22 := Aside0.mk A220
                          clear A220
                          replace H := Option.bind_eq_some_iff.mp H
                          obtain ⟨⟨t259, t260⟩, A230, H⟩ := H
                          replace H : (if t257 = 0 then (if t260 = 0 then (if (rd t247 x10_2) < t256 then (annuitylaw02_ShareFair.j2 k2 a0 l1 t247 x7_1 x8_1 x10_2 true) else (if (rd t247 x10_2) > t259 then (annuitylaw02_ShareFair.j2 k2 a0 l1 t247 x7_1 x8_1 x10_2 true) else (if (rd l1 x10_2) = 0 then (annuitylaw02_ShareFair.j2 k2 a0 l1 t247 x7_1 x8_1 x10_2 ((rd t247 x10_2) != 0)) else (annuitylaw02_ShareFair.j2 k2 a0 l1 t247 x7_1 x8_1 x10_2 false)))) else (annuitylaw02_ShareFair.j2 k2 a0 l1 t247 x7_1 x8_1 x10_2 true)) else (annuitylaw02_ShareFair.j2 k2 a0 l1 t247 x7_1 x8_1 x10_2 true)) = some r := H
                          have A23 := Aside0.mk A230
                          clear A230
                          have HC24 := Aside0.mk H
                          clear H
                          have p255 : 0 ≤ (x10_2 : Int) := of_decide_eq_true (by first | (with_reducible assumption) | assumption)
                          have q255 : x10_2 < (l1.length : Int) := of_decide_eq_true (by first | (with_reducible assumption) | assumption)
                          obtain ⟨ad255, e255, hx255_0⟩ := Kd.at_int HR1.out x10_2 p255 q255
                          cases e255
                          replace hx255_0 := (HB.out.cell (World.block_lt_of_cell? w _ hx255_0)).trans hx255_0
                          replace p255 := eq_true p255
                          replace q255 := eq_true q255
                          go_upto_region 19 with (first | (go_at_call 14; (with_reducible refine (annuityref01_MulDiv.calls k2 a0 (rd l1 x10_2) x7_1 0 t256 t257 _ A22.out).mono ?_); rintro e w25 ⟨rfl, hb⟩; have n0_ := Aside0.mk (Kd.R_below (by (with_reducible repeat (first | apply Kd.R_alloc | apply Kd.R_drewN | apply Kd.R_drew)); exact HO_5.out) hb); have n1_ := Aside0.mk (below_step (by repeat (first | (with_reducible first | exact HB.out | apply below_alloc | apply pw_below_drewN | apply below_drew1) | exact HB.out)) hb); clear HO_5; clear HB; have HO_5 := n0_; have HB := n1_; clear n0_ n1_; (try clear hb); (try clear hb2); (try clear hk); (try clear hi); have p258 : 0 ≤ (x10_2 : Int) := of_decide_eq_true (by first | (with_reducible assumption) | assumption); have q258 : x10_2 < (l1.length : Int) := of_decide_eq_true (by first | (with_reducible assumption) | assumption); obtain ⟨ad258, e258, hx258_0⟩ := Kd.at_int HR1.out x10_2 p258 q258; obtain rfl : ad255 = ad258 := (by injection e258); replace hx258_0 := (HB.out.cell (World.block_lt_of_cell? w _ hx258_0)).trans hx258_0; replace p258 := eq_true p258; replace q258 := eq_true q258) | (go_at_call 14; (with_reducible refine (annuityref01_MulDiv.calls k2 a0 (rd l1 x10_2) x7_1 1 t259 t260 _ A23.out).mono ?_); rintro e w26 ⟨rfl, hb⟩; have n0_ := Aside0.mk (Kd.R_below (by (with_reducible repeat (first | apply Kd.R_alloc | apply Kd.R_drewN | apply Kd.R_drew)); exact HO_5.out) hb); have n1_ := Aside0.mk (below_step (by repeat (first | (with_reducible first | exact HB.out | apply below_alloc | apply pw_below_drewN | apply below_drew1) | exact HB.out)) hb); clear HO_5; clear HB; have HO_5 := n0_; have HB := n1_; clear n0_ n1_; (try clear hb); (try clear hb2); (try clear hk); (try clear hi)))
                          repeat (go_quiet (first | (go_at_call 14; (first | (with_reducible refine (annuityref01_MulDiv.calls k2 a0 (rd l1 x10_2) x7_1 0 t256 t257 _ A22.out).mono ?_) | (simp only [i64_w, i32_w]; with_reducible refine (annuityref01_MulDiv.calls k2 a0 (rd l1 x10_2) x7_1 0 t256 t257 _ A22.out).mono ?_)); rintro e w25 ⟨rfl, hb⟩; have n0_ := Aside0.mk (Kd.R_below (by (with_reducible repeat (first | apply Kd.R_alloc | apply Kd.R_drewN | apply Kd.R_drew)); exact HO_5.out) hb); have n1_ := Aside0.mk (below_step (by repeat (first | (with_reducible first | exact HB.out | apply below_alloc | apply pw_below_drewN | apply below_drew1) | exact HB.out)) hb); clear HO_5; clear HB; have HO_5 := n0_; have HB := n1_; clear n0_ n1_; (try clear hb); (try clear hb2); (try clear hk); (try clear hi); have p258 : 0 ≤ (x10_2 : Int) := of_decide_eq_true (by first | (with_reducible assumption) | assumption); have q258 : x10_2 < (l1.length : Int) := of_decide_eq_true (by first | (with_reducible assumption) | assumption); obtain ⟨ad258, e258, hx258_0⟩ := Kd.at_int HR1.out x10_2 p258 q258; obtain rfl : ad255 = ad258 := (by injection e258); replace hx258_0 := (HB.out.cell (World.block_lt_of_cell? w _ hx258_0)).trans hx258_0; replace p258 := eq_true p258; replace q258 := eq_true q258) | (go_at_call 14; (first | (with_reducible refine (annuityref01_MulDiv.calls k2 a0 (rd l1 x10_2) x7_1 1 t259 t260 _ A23.out).mono ?_) | (simp only [i64_w, i32_w]; with_reducible refine (annuityref01_MulDiv.calls k2 a0 (rd l1 x10_2) x7_1 1 t259 t260 _ A23.out).mono ?_)); rintro e w26 ⟨rfl, hb⟩; have n0_ := Aside0.mk (Kd.R_below (by (with_reducible repeat (first | apply Kd.R_alloc | apply Kd.R_drewN | apply Kd.R_drew)); exact HO_5.out) hb); have n1_ := Aside0.mk (below_step (by repeat (first | (with_reducible first | exact HB.out | apply below_alloc | apply pw_below_drewN | apply below_drew1) | exact HB.out)) hb); clear HO_5; clear HB; have HO_5 := n0_; have HB := n1_; clear n0_ n1_; (try clear hb); (try clear hb2); (try clear hk); (try clear hi))); go_upto_region 19 with (first | (go_at_call 14; (first | (with_reducible refine (annuityref01_MulDiv.calls k2 a0 (rd l1 x10_2) x7_1 0 t256 t257 _ A22.out).mono ?_) | (simp only [i64_w, i32_w]; with_reducible refine (annuityref01_MulDiv.calls k2 a0 (rd l1 x10_2) x7_1 0 t256 t257 _ A22.out).mono ?_)); rintro e w25 ⟨rfl, hb⟩; have n0_ := Aside0.mk (Kd.R_below (by (with_reducible repeat (first | apply Kd.R_alloc | apply Kd.R_drewN | apply Kd.R_drew)); exact HO_5.out) hb); have n1_ := Aside0.mk (below_step (by repeat (first | (with_reducible first | exact HB.out | apply below_alloc | apply pw_below_drewN | apply below_drew1) | exact HB.out)) hb); clear HO_5; clear HB; have HO_5 := n0_; have HB := n1_; clear n0_ n1_; (try clear hb); (try clear hb2); (try clear hk); (try clear hi); have p258 : 0 ≤ (x10_2 : Int) := of_decide_eq_true (by first | (with_reducible assumption) | assumption); have q258 : x10_2 < (l1.length : Int) := of_decide_eq_true (by first | (with_reducible assumption) | assumption); obtain ⟨ad258, e258, hx258_0⟩ := Kd.at_int HR1.out x10_2 p258 q258; obtain rfl : ad255 = ad258 := (by injection e258); replace hx258_0 := (HB.out.cell (World.block_lt_of_cell? w _ hx258_0)).trans hx258_0; replace p258 := eq_true p258; replace q258 := eq_true q258) | (go_at_call 14; (first | (with_reducible refine (annuityref01_MulDiv.calls k2 a0 (rd l1 x10_2) x7_1 1 t259 t260 _ A23.out).mono ?_) | (simp only [i64_w, i32_w]; with_reducible refine (annuityref01_MulDiv.calls k2 a0 (rd l1 x10_2) x7_1 1 t259 t260 _ A23.out).mono ?_)); rintro e w26 ⟨rfl, hb⟩; have n0_ := Aside0.mk (Kd.R_below (by (with_reducible repeat (first | apply Kd.R_alloc | apply Kd.R_drewN | apply Kd.R_drew)); exact HO_5.out) hb); have n1_ := Aside0.mk (below_step (by repeat (first | (with_reducible first | exact HB.out | apply below_alloc | apply pw_below_drewN | apply below_drew1) | exact HB.out)) hb); clear HO_5; clear HB; have HO_5 := n0_; have HB := n1_; clear n0_ n1_; (try clear hb); (try clear hb2); (try clear hk); (try clear hi))))
                          (try simp only [Act.put, List.setIfInBounds_toArray, List.set_cons_zero, List.set_cons_succ])
                          go_cut [120] (fun v120 wc => ∃ (kq : Nat) (x120_23 : Bool), v120 = .bool x120_23 ∧ Aside0 (annuitylaw02_ShareFair.j2 kq a0 l1 t247 x7_1 x8_1 x10_2 x120_23 = some r) ∧ Aside0 (kq ≤ k2) ∧ Aside0 (Kd.R (Kd.int .i64) 2 wc w.heap.size (fun _ => True) (.slice Ao15 t247.length co15) t247) ∧ Aside0 (Below w.heap.size w wc))
                          case first =>
                            have H := HC24.out
                            clear HC24
                            by_cases c27 : t257 = 0
                            · rw [if_pos c27] at H
                              have c27b0 : (t257 == 0) = true := beq_iff_eq.mpr c27
                              have c27b1 : (t257 != 0) = false := bne_eq_false_iff_eq.mpr c27
                              clear c27
                              (first | rw [c27b0] | (simp only [i64_w, i32_w]; rw [c27b0]) | skip)
                              by_cases c28 : t260 = 0
                              · rw [if_pos c28] at H
                                have c28b0 : (t260 == 0) = true := beq_iff_eq.mpr c28
                                have c28b1 : (t260 != 0) = false := bne_eq_false_iff_eq.mpr c28
                                clear c28
                                by_cases c29 : (rd t247 x10_2) < t256
                                · rw [if_pos c29] at H
                                  have c29b0 : decide ((rd t247 x10_2) < t256) = true := decide_eq_true c29
                                  clear c29
                                  have H' := Aside0.mk H
                                  clear H
                                  have p261 : 0 ≤ (x10_2 : Int) := of_decide_eq_true (by first | (with_reducible assumption) | assumption)
                                  have q261 : x10_2 < (t247.length : Int) := of_decide_eq_true (by first | (with_reducible assumption) | assumption)
                                  obtain ⟨ad261, e261, hx261_0⟩ := Kd.at_int (Kd.R_reads' HO_5.out).2.2 x10_2 p261 q261
                                  cases e261
                                  replace p261 := eq_true p261
                                  replace q261 := eq_true q261
                                  as_aux_lemma =>
                                  go_wp2
                                  repeat (go_quiet (fail); try go_wp2)
                                  go_meet
                                  case rel => exact ⟨_, (true), (by first | rfl | (simp [i64_w, i32_w, errW_none, errW_some]; done) | (simp; done) | (simp [*]; done)), H', ⟨by have := HK1.out; have := HK2.out; first | omega | exact Nat.le_refl _⟩, ⟨by (with_reducible repeat (first | apply Kd.R_alloc | apply Kd.R_drewN | apply Kd.R_drew)); exact HO_5.out⟩, ⟨by repeat (first | (with_reducible first | exact HB.out | apply below_alloc | apply pw_below_drewN | apply below_drew1) | exact HB.out)⟩⟩
                                · rw [if_neg c29] at H
                                  have c29b0 : decide ((rd t247 x10_2) < t256) = false := decide_eq_false c29
                                  clear c29
                                  by_cases c30 : (rd t247 x10_2) > t259
                                  · rw [if_pos c30] at H
                                    have c30b0 : decide (t259 < (rd t247 x10_2)) = true := decide_eq_true c30
                                    clear c30
                                    have H' := Aside0.mk H
                                    clear H
                                    have p261 : 0 ≤ (x10_2 : Int) := of_decide_eq_true (by first | (with_reducible assumption) | assumption)
                                    have q261 : x10_2 < (t247.length : Int) := of_decide_eq_true (by first | (with_reducible assumption) | assumption)
                                    obtain ⟨ad261, e261, hx261_0⟩ := Kd.at_int (Kd.R_reads' HO_5.out).2.2 x10_2 p261 q261
                                    cases e261
                                    replace p261 := eq_true p261
                                    replace q261 := eq_true q261
                                    have p262 : 0 ≤ (x10_2 : Int) := of_decide_eq_true (by first | (with_reducible assumption) | assumption)
                                    have q262 : x10_2 < (t247.length : Int) := of_decide_eq_true (by first | (with_reducible assumption) | assumption)
                                    obtain ⟨ad262, e262, hx262_0⟩ := Kd.at_int (Kd.R_reads' HO_5.out).2.2 x10_2 p262 q262
                                    obtain rfl : ad261 = ad262 := (by injection e262)
                                    replace p262 := eq_true p262
                                    replace q262 := eq_true q262
                                    as_aux_lemma =>
                                    go_wp2
                                    repeat (go_quiet (fail); try go_wp2)
                                    go_meet
                                    case rel => exact ⟨_, (true), (by first | rfl | (simp [i64_w, i32_w, errW_none, errW_some]; done) | (simp; done) | (simp [*]; done)), H', ⟨by have := HK1.out; have := HK2.out; first | omega | exact Nat.le_refl _⟩, ⟨by (with_reducible repeat (first | apply Kd.R_alloc | apply Kd.R_drewN | apply Kd.R_drew)); exact HO_5.out⟩, ⟨by repeat (first | (with_reducible first | exact HB.out | apply below_alloc | apply pw_below_drewN | apply below_drew1) | exact HB.out)⟩⟩
                                  · rw [if_neg c30] at H
                                    have c30b0 : decide (t259 < (rd t247 x10_2)) = false := decide_eq_false c30
                                    clear c30
                                    by_cases c31 : (rd l1 x10_2) = 0
                                    · rw [if_pos c31] at H
                                      have c31b0 : ((rd l1 x10_2) == 0) = true := beq_iff_eq.mpr c31
                                      have c31b1 : ((rd l1 x10_2) != 0) = false := bne_eq_false_iff_eq.mpr c31
                                      clear c31
                                      have H' := Aside0.mk H
                                      clear H
                                      have p261 : 0 ≤ (x10_2 : Int) := of_decide_eq_true (by first | (with_reducible assumption) | assumption)
                                      have q261 : x10_2 < (t247.length : Int) := of_decide_eq_true (by first | (with_reducible assumption) | assumption)
                                      obtain ⟨ad261, e261, hx261_0⟩ := Kd.at_int (Kd.R_reads' HO_5.out).2.2 x10_2 p261 q261
                                      cases e261
                                      replace p261 := eq_true p261
                                      replace q261 := eq_true q261
                                      have p262 : 0 ≤ (x10_2 : Int) := of_decide_eq_true (by first | (with_reducible assumption) | assumption)
                                      have q262 : x10_2 < (t247.length : Int) := of_decide_eq_true (by first | (with_reducible assumption) | assumption)
                                      obtain ⟨ad262, e262, hx262_0⟩ := Kd.at_int (Kd.R_reads' HO_5.out).2.2 x10_2 p262 q262
                                      obtain rfl : ad261 = ad262 := (by injection e262)
                                      replace p262 := eq_true p262
                                      replace q262 := eq_true q262
                                      have p263 : 0 ≤ (x10_2 : Int) := of_decide_eq_true (by first | (with_reducible assumption) | assumption)
                                      have q263 : x10_2 < (l1.length : Int) := of_decide_eq_true (by first | (with_reducible assumption) | assumption)
                                      obtain ⟨ad263, e263, hx263_0⟩ := Kd.at_int HR1.out x10_2 p263 q263
                                      obtain rfl : ad255 = ad263 := (by injection e263)
                                      replace hx263_0 := (HB.out.cell (World.block_lt_of_cell? w _ hx263_0)).trans hx263_0
                                      replace p263 := eq_true p263
                                      replace q263 := eq_true q263
                                      have p264 : 0 ≤ (x10_2 : Int) := of_decide_eq_true (by first | (with_reducible assumption) | assumption)
                                      have q264 : x10_2 < (t247.length : Int) := of_decide_eq_true (by first | (with_reducible assumption) | assumption)
                                      obtain ⟨ad264, e264, hx264_0⟩ := Kd.at_int (Kd.R_reads' HO_5.out).2.2 x10_2 p264 q264
                                      obtain rfl : ad261 = ad264 := (by injection e264)
                                      replace p264 := eq_true p264
                                      replace q264 := eq_true q264
                                      as_aux_lemma =>
                                      go_wp2
                                      repeat (go_quiet (fail); try go_wp2)
                                      go_meet
                                      case rel => exact ⟨_, (((rd t247 x10_2) != 0)), (by first | rfl | (simp [i64_w, i32_w, errW_none, errW_some]; done) | (simp; done) | (simp [*]; done)), H', ⟨by have := HK1.out; have := HK2.out; first | omega | exact Nat.le_refl _⟩, ⟨by (with_reducible repeat (first | apply Kd.R_alloc | apply Kd.R_drewN | apply Kd.R_drew)); exact HO_5.out⟩, ⟨by repeat (first | (with_reducible first | exact HB.out | apply below_alloc | apply pw_below_drewN | apply below_drew1) | exact HB.out)⟩⟩
                                    · rw [if_neg c31] at H
                                      have c31b0 : ((rd l1 x10_2) == 0) = false := beq_eq_false_iff_ne.mpr c31
                                      have c31b1 : ((rd l1 x10_2) != 0) = true := bne_iff_ne.mpr c31
                                      have H' := Aside0.mk H
                                      clear H
                                      have p261 : 0 ≤ (x10_2 : Int) := of_decide_eq_true (by first | (with_reducible assumption) | assumption)
                                      have q261 : x10_2 < (t247.length : Int) := of_decide_eq_true (by first | (with_reducible assumption) | assumption)
                                      obtain ⟨ad261, e261, hx261_0⟩ := Kd.at_int (Kd.R_reads' HO_5.out).2.2 x10_2 p261 q261
                                      cases e261
                                      replace p261 := eq_true p261
                                      replace q261 := eq_true q261
                                      have p262 : 0 ≤ (x10_2 : Int) := of_decide_eq_true (by first | (with_reducible assumption) | assumption)
                                      have q262 : x10_2 < (t247.length : Int) := of_decide_eq_true (by first | (with_reducible assumption) | assumption)
                                      obtain ⟨ad262, e262, hx262_0⟩ := Kd.at_int (Kd.R_reads' HO_5.out).2.2 x10_2 p262 q262
                                      obtain rfl : ad261 = ad262 := (by injection e262)
                                      replace p262 := eq_true p262
                                      replace q262 := eq_true q262
                                      have p263 : 0 ≤ (x10_2 : Int) := of_decide_eq_true (by first | (with_reducible assumption) | assumption)
                                      have q263 : x10_2 < (l1.length : Int) := of_decide_eq_true (by first | (with_reducible assumption) | assumption)
                                      obtain ⟨ad263, e263, hx263_0⟩ := Kd.at_int HR1.out x10_2 p263 q263
                                      obtain rfl : ad255 = ad263 := (by injection e263)
                                      replace hx263_0 := (HB.out.cell (World.block_lt_of_cell? w _ hx263_0)).trans hx263_0
                                      replace p263 := eq_true p263
                                      replace q263 := eq_true q263
                                      as_aux_lemma =>
                                      go_wp2
                                      repeat (go_quiet (fail); try go_wp2)
                                      go_meet
                                      case rel => exact ⟨_, (false), (by first | rfl | (simp [i64_w, i32_w, errW_none, errW_some]; done) | (simp; done) | (simp [*]; done)), H', ⟨by have := HK1.out; have := HK2.out; first | omega | exact Nat.le_refl _⟩, ⟨by (with_reducible repeat (first | apply Kd.R_alloc | apply Kd.R_drewN | apply Kd.R_drew)); exact HO_5.out⟩, ⟨by repeat (first | (with_reducible first | exact HB.out | apply below_alloc | apply pw_below_drewN | apply below_drew1) | exact HB.out)⟩⟩
                              · rw [if_neg c28] at H
                                have c28b0 : (t260 == 0) = false := beq_eq_false_iff_ne.mpr c28
                                have c28b1 : (t260 != 0) = true := bne_iff_ne.mpr c28
                                have H' := Aside0.mk H
                                clear H
                                as_aux_lemma =>
                                go_wp2
                                repeat (go_quiet (fail); try go_wp2)
                                go_meet
                                case rel => exact ⟨_, (true), (by first | rfl | (simp [i64_w, i32_w, errW_none, errW_some]; done) | (simp; done) | (simp [*]; done)), H', ⟨by have := HK1.out; have := HK2.out; first | omega | exact Nat.le_refl _⟩, ⟨by (with_reducible repeat (first | apply Kd.R_alloc | apply Kd.R_drewN | apply Kd.R_drew)); exact HO_5.out⟩, ⟨by repeat (first | (with_reducible first | exact HB.out | apply below_alloc | apply pw_below_drewN | apply below_drew1) | exact HB.out)⟩⟩
                            · rw [if_neg c27] at H
                              have c27b0 : (t257 == 0) = false := beq_eq_false_iff_ne.mpr c27
                              have c27b1 : (t257 != 0) = true := bne_iff_ne.mpr c27
                              (first | rw [c27b0] | (simp only [i64_w, i32_w]; rw [c27b0]) | skip)
                              have H' := Aside0.mk H
                              clear H
                              as_aux_lemma =>
                              go_wp2
                              repeat (go_quiet (fail); try go_wp2)
                              go_meet
                              case rel => exact ⟨_, (true), (by first | rfl | (simp [i64_w, i32_w, errW_none, errW_some]; done) | (simp; done) | (simp [*]; done)), H', ⟨by have := HK1.out; have := HK2.out; first | omega | exact Nat.le_refl _⟩, ⟨by (with_reducible repeat (first | apply Kd.R_alloc | apply Kd.R_drewN | apply Kd.R_drew)); exact HO_5.out⟩, ⟨by repeat (first | (with_reducible first | exact HB.out | apply below_alloc | apply pw_below_drewN | apply below_drew1) | exact HB.out)⟩⟩
                          case rest =>
                            clear HC24
                            try clear c1
                            try clear c2
                            try clear p2
                            try clear q2
                            try clear hx2
                            try clear c3
                            try clear c3b0
                            try clear c3b1
                            try clear c5
                            try clear c6
                            try clear p6
                            try clear c8
                            try clear c8b0
                            try clear c8b1
                            try clear c9
                            try clear c9b0
                            try clear c9b1
                            try clear c9b2
                            try clear c16
                            try clear c16b0
                            try clear c17
                            try clear c17b0
                            try clear c18
                            try clear c18b0
                            try clear c19
                            try clear c19b0
                            try clear c20
                            try clear c20b0
                            try clear c21
                            try clear c21b0
                            try clear p25
                            try clear q25
                            try clear hx25
                            try clear p26
                            try clear q26
                            try clear hx26
                            try clear c27
                            try clear c27b0
                            try clear c27b1
                            try clear c28
                            try clear c28b0
                            try clear c28b1
                            try clear c29
                            try clear c29b0
                            try clear c30
                            try clear c30b0
                            try clear c31
                            try clear c31b0
                            try clear c31b1
                            try clear hx252_0
                            try clear hx253_0
                            try clear hx255_0
                            try clear hx258_0
                            try clear hx261_0
                            try clear hx262_0
                            try clear hx263_0
                            try clear hx264_0
                            try clear p2
                            try clear p252
                            try clear p253
                            try clear p255
                            try clear p258
                            try clear p261
                            try clear p262
                            try clear p263
                            try clear p264
                            try clear p6
                            try clear q2
                            try clear q252
                            try clear q253
                            try clear q255
                            try clear q258
                            try clear q261
                            try clear q262
                            try clear q263
                            try clear q264
                            obtain ⟨kq, x120_23, rfl, HA, HJ23, HO_5, HB⟩ := hcut
                            cases kq with
                            | zero => exact absurd HA.out (by simp [annuitylaw02_ShareFair.j2])
                            | succ kj23 =>
                              have H := HA.out
                              clear HA
                              simp only [annuitylaw02_ShareFair.j2] at H
                              by_cases c32 : x120_23 = true
                              · subst c32
                                have H1 : (none) = some r := by rw [if_pos rfl] at H; exact H
                                clear H
                                have H := H1
                                clear H1
                                exact absurd H (by simp)
                              · replace c32 := Bool.eq_false_iff.mpr c32
                                subst c32
                                have H1 : (annuitylaw02_ShareFair.l2 kj23 a0 l1 t247 x7_1 x8_1 x10_2 0) = some r := by rw [if_neg (show ¬ (false = true) by decide)] at H; exact H
                                clear H
                                have H := H1
                                clear H1
                                have H' := Aside0.mk H
                                clear H
                                as_aux_lemma =>
                                go_wp2
                                repeat (go_quiet (fail); try go_wp2)
                                go_loopg [15] kj23 (fun kq v15 w' => ∃ (x15_4 : Int), v15 = .int .i64 x15_4 ∧ Aside0 (annuitylaw02_ShareFair.l2 kq a0 l1 t247 x7_1 x8_1 x10_2 x15_4 = some r) ∧ Aside0 (kq ≤ kj23) ∧ Aside0 (Kd.R (Kd.int .i64) 2 w' w.heap.size (fun _ => True) (.slice Ao15 t247.length co15) t247) ∧ Aside0 (Below w.heap.size w w'))
                                case atStart => exact ⟨(0), (by first | rfl | (simp [i64_w, i32_w, errW_none, errW_some]; done) | (simp; done) | (simp [*]; done)), H', ⟨Nat.le_refl _⟩, ⟨by (with_reducible repeat (first | apply Kd.R_alloc | apply Kd.R_drewN | apply Kd.R_drew)); exact HO_5.out⟩, ⟨by repeat (first | (with_reducible first | exact HB.out | apply below_alloc | apply pw_below_drewN | apply below_drew1) | exact HB.out)⟩⟩
                                case round =>
                                  clear H'
                                  try clear c1
                                  try clear c2
                                  try clear p2
                                  try clear q2
                                  try clear hx2
                                  try clear c3
                                  try clear c3b0
                                  try clear c3b1
                                  try clear c5
                                  try clear c6
                                  try clear p6
                                  try clear c8
                                  try clear c8b0
                                  try clear c8b1
                                  try clear c9
                                  try clear c9b0
                                  try clear c9b1
                                  try clear c9b2
                                  try clear c16
                                  try clear c16b0
                                  try clear c17
                                  try clear c17b0
                                  try clear c18
                                  try clear c18b0
                                  try clear c19
                                  try clear c19b0
                                  try clear c20
                                  try clear c20b0
                                  try clear c21
                                  try clear c21b0
                                  try clear p25
                                  try clear q25
                                  try clear hx25
                                  try clear p26
                                  try clear q26
                                  try clear hx26
                                  try clear c27
                                  try clear c27b0
                                  try clear c27b1
                                  try clear c28
                                  try clear c28b0
                                  try clear c28b1
                                  try clear c29
                                  try clear c29b0
                                  try clear c30
                                  try clear c30b0
                                  try clear c31
                                  try clear c31b0
                                  try clear c31b1
                                  try clear c32
                                  try clear hx252_0
                                  try clear hx253_0
                                  try clear hx255_0
                                  try clear hx258_0
                                  try clear hx261_0
                                  try clear hx262_0
                                  try clear hx263_0
                                  try clear hx264_0
                                  try clear p2
                                  try clear p25
                                  try clear p252
                                  try clear p253
                                  try clear p255
                                  try clear p258
                                  try clear p26
                                  try clear p261
                                  try clear p262
                                  try clear p263
                                  try clear p264
                                  try clear p6
                                  try clear q2
                                  try clear q25
                                  try clear q252
                                  try clear q253
                                  try clear q255
                                  try clear q258
                                  try clear q26
                                  try clear q261
                                  try clear q262
                                  try clear q263
                                  try clear q264
                                  obtain ⟨x15_4, rfl, HA, HK4, HO_5, HB⟩ := hrel
                                  cases gk with
                                  | zero => exact absurd HA.out (by simp [annuitylaw02_ShareFair.l2])
                                  | succ k4 =>
                                    have H := HA.out
                                    clear HA
                                    simp only [annuitylaw02_ShareFair.l2] at H
                                    by_cases c33 : x15_4 < x10_2
                                    · rw [if_pos c33] at H
                                      have c33b0 : decide (x15_4 < x10_2) = true := decide_eq_true c33
                                      clear c33
                                      by_cases c34 : 0 ≤ x15_4
                                      · rw [if_pos c34] at H
                                        have c34b0 : decide (0 ≤ x15_4) = true := decide_eq_true c34
                                        clear c34
                                        by_cases c35 : x15_4 < (l1.length : Int)
                                        · rw [if_pos c35] at H
                                          have c35b0 : decide (x15_4 < (l1.length : Int)) = true := decide_eq_true c35
                                          clear c35
                                          by_cases c36 : 0 ≤ x10_2
                                          · rw [if_pos c36] at H
                                            have c36b0 : decide (0 ≤ x10_2) = true := decide_eq_true c36
                                            clear c36
                                            by_cases c37 : x10_2 < (l1.length : Int)
                                            · rw [if_pos c37] at H
                                              have c37b0 : decide (x10_2 < (l1.length : Int)) = true := decide_eq_true c37
                                              clear c37
                                              by_cases c38 : (rd l1 x15_4) < (rd l1 x10_2)
                                              · rw [if_pos c38] at H
                                                have c38b0 : decide ((rd l1 x15_4) < (rd l1 x10_2)) = true := decide_eq_true c38
                                                clear c38
                                                by_cases c39 : x15_4 < (t247.length : Int)
                                                · rw [if_pos c39] at H
                                                  have c39b0 : decide (x15_4 < (t247.length : Int)) = true := decide_eq_true c39
                                                  clear c39
                                                  by_cases c40 : x10_2 < (t247.length : Int)
                                                  · rw [if_pos c40] at H
                                                    have c40b0 : decide (x10_2 < (t247.length : Int)) = true := decide_eq_true c40
                                                    clear c40
                                                    by_cases c41 : (rd t247 x15_4) > (rd t247 x10_2)
                                                    · rw [if_pos c41] at H
                                                      exact absurd H (by simp)
                                                    · rw [if_neg c41] at H
                                                      have c41b0 : decide ((rd t247 x10_2) < (rd t247 x15_4)) = false := decide_eq_false c41
                                                      clear c41
                                                      by_cases c42 : (rd l1 x15_4) > (rd l1 x10_2)
                                                      · rw [if_pos c42] at H
                                                        have c42b0 : decide ((rd l1 x10_2) < (rd l1 x15_4)) = true := decide_eq_true c42
                                                        clear c42
                                                        by_cases c43 : (rd t247 x15_4) < (rd t247 x10_2)
                                                        · rw [if_pos c43] at H
                                                          exact absurd H (by simp)
                                                        · rw [if_neg c43] at H
                                                          have c43b0 : decide ((rd t247 x15_4) < (rd t247 x10_2)) = false := decide_eq_false c43
                                                          clear c43
                                                          by_cases c44 : (rd l1 x15_4) = (rd l1 x10_2)
                                                          · rw [if_pos c44] at H
                                                            have c44b0 : ((rd l1 x15_4) == (rd l1 x10_2)) = true := beq_iff_eq.mpr c44
                                                            have c44b1 : ((rd l1 x15_4) != (rd l1 x10_2)) = false := bne_eq_false_iff_eq.mpr c44
                                                            clear c44
                                                            have H' := Aside0.mk H
                                                            clear H
                                                            have p265 : 0 ≤ (x15_4 : Int) := of_decide_eq_true (by first | (with_reducible assumption) | assumption)
                                                            have q265 : x15_4 < (l1.length : Int) := of_decide_eq_true (by first | (with_reducible assumption) | assumption)
                                                            obtain ⟨ad265, e265, hx265_0⟩ := Kd.at_int HR1.out x15_4 p265 q265
                                                            obtain rfl : ad255 = ad265 := (by injection e265)
                                                            replace hx265_0 := (HB.out.cell (World.block_lt_of_cell? w _ hx265_0)).trans hx265_0
                                                            replace p265 := eq_true p265
                                                            replace q265 := eq_true q265
                                                            have p266 : 0 ≤ (x10_2 : Int) := of_decide_eq_true (by first | (with_reducible assumption) | assumption)
                                                            have q266 : x10_2 < (l1.length : Int) := of_decide_eq_true (by first | (with_reducible assumption) | assumption)
                                                            obtain ⟨ad266, e266, hx266_0⟩ := Kd.at_int HR1.out x10_2 p266 q266
                                                            obtain rfl : ad255 = ad266 := (by injection e266)
                                                            replace hx266_0 := (HB.out.cell (World.block_lt_of_cell? w _ hx266_0)).trans hx266_0
                                                            replace p266 := eq_true p266
                                                            replace q266 := eq_true q266
                                                            have p267 : 0 ≤ (x15_4 : Int) := of_decide_eq_true (by first | (with_reducible assumption) | assumption)
                                                            have q267 : x15_4 < (t247.length : Int) := of_decide_eq_true (by first | (with_reducible assumption) | assumption)
                                                            obtain ⟨ad267, e267, hx267_0⟩ := Kd.at_int (Kd.R_reads' HO_5.out).2.2 x15_4 p267 q267
                                                            cases e267
                                                            replace p267 := eq_true p267
                                                            replace q267 := eq_true q267
                                                            have p268 : 0 ≤ (x10_2 : Int) := of_decide_eq_true (by first | (with_reducible assumption) | assumption)
                                                            have q268 : x10_2 < (t247.length : Int) := of_decide_eq_true (by first | (with_reducible assumption) | assumption)
                                                            obtain ⟨ad268, e268, hx268_0⟩ := Kd.at_int (Kd.R_reads' HO_5.out).2.2 x10_2 p268 q268
                                                            obtain rfl : ad267 = ad268 := (by injection e268)
                                                            replace p268 := eq_true p268
                                                            replace q268 := eq_true q268
                                                            have p269 : 0 ≤ (x15_4 : Int) := of_decide_eq_true (by first | (with_reducible assumption) | assumption)
                                                            have q269 : x15_4 < (l1.length : Int) := of_decide_eq_true (by first | (with_reducible assumption) | assumption)
                                                            obtain ⟨ad269, e269, hx269_0⟩ := Kd.at_int HR1.out x15_4 p269 q269
                                                            obtain rfl : ad255 = ad269 := (by injection e269)
                                                            replace hx269_0 := (HB.out.cell (World.block_lt_of_cell? w _ hx269_0)).trans hx269_0
                                                            replace p269 := eq_true p269
                                                            replace q269 := eq_true q269
                                                            have p270 : 0 ≤ (x10_2 : Int) := of_decide_eq_true (by first | (with_reducible assumption) | assumption)
                                                            have q270 : x10_2 < (l1.length : Int) := of_decide_eq_true (by first | (with_reducible assumption) | assumption)
                                                            obtain ⟨ad270, e270, hx270_0⟩ := Kd.at_int HR1.out x10_2 p270 q270
                                                            obtain rfl : ad255 = ad270 := (by injection e270)
                                                            replace hx270_0 := (HB.out.cell (World.block_lt_of_cell? w _ hx270_0)).trans hx270_0
                                                            replace p270 := eq_true p270
                                                            replace q270 := eq_true q270
                                                            have p271 : 0 ≤ (x15_4 : Int) := of_decide_eq_true (by first | (with_reducible assumption) | assumption)
                                                            have q271 : x15_4 < (t247.length : Int) := of_decide_eq_true (by first | (with_reducible assumption) | assumption)
                                                            obtain ⟨ad271, e271, hx271_0⟩ := Kd.at_int (Kd.R_reads' HO_5.out).2.2 x15_4 p271 q271
                                                            obtain rfl : ad267 = ad271 := (by injection e271)
                                                            replace p271 := eq_true p271
                                                            replace q271 := eq_true q271
                                                            have p272 : 0 ≤ (x10_2 : Int) := of_decide_eq_true (by first | (with_reducible assumption) | assumption)
                                                            have q272 : x10_2 < (t247.length : Int) := of_decide_eq_true (by first | (with_reducible assumption) | assumption)
                                                            obtain ⟨ad272, e272, hx272_0⟩ := Kd.at_int (Kd.R_reads' HO_5.out).2.2 x10_2 p272 q272
                                                            obtain rfl : ad267 = ad272 := (by injection e272)
                                                            replace p272 := eq_true p272
                                                            replace q272 := eq_true q272
                                                            have p273 : 0 ≤ (x15_4 : Int) := of_decide_eq_true (by first | (with_reducible assumption) | assumption)
                                                            have q273 : x15_4 < (l1.length : Int) := of_decide_eq_true (by first | (with_reducible assumption) | assumption)
                                                            obtain ⟨ad273, e273, hx273_0⟩ := Kd.at_int HR1.out x15_4 p273 q273
                                                            obtain rfl : ad255 = ad273 := (by injection e273)
                                                            replace hx273_0 := (HB.out.cell (World.block_lt_of_cell? w _ hx273_0)).trans hx273_0
                                                            replace p273 := eq_true p273
                                                            replace q273 := eq_true q273
                                                            have p274 : 0 ≤ (x10_2 : Int) := of_decide_eq_true (by first | (with_reducible assumption) | assumption)
                                                            have q274 : x10_2 < (l1.length : Int) := of_decide_eq_true (by first | (with_reducible assumption) | assumption)
                                                            obtain ⟨ad274, e274, hx274_0⟩ := Kd.at_int HR1.out x10_2 p274 q274
                                                            obtain rfl : ad255 = ad274 := (by injection e274)
                                                            replace hx274_0 := (HB.out.cell (World.block_lt_of_cell? w _ hx274_0)).trans hx274_0
                                                            replace p274 := eq_true p274
                                                            replace q274 := eq_true q274
                                                            have p275 : 0 ≤ (x15_4 : Int) := of_decide_eq_true (by first | (with_reducible assumption) | assumption)
                                                            have q275 : x15_4 < (t247.length : Int) := of_decide_eq_true (by first | (with_reducible assumption) | assumption)
                                                            obtain ⟨ad275, e275, hx275_0⟩ := Kd.at_int (Kd.R_reads' HO_5.out).2.2 x15_4 p275 q275
                                                            obtain rfl : ad267 = ad275 := (by injection e275)
                                                            replace p275 := eq_true p275
                                                            replace q275 := eq_true q275
                                                            have p276 : 0 ≤ (x10_2 : Int) := of_decide_eq_true (by first | (with_reducible assumption) | assumption)
                                                            have q276 : x10_2 < (t247.length : Int) := of_decide_eq_true (by first | (with_reducible assumption) | assumption)
                                                            obtain ⟨ad276, e276, hx276_0⟩ := Kd.at_int (Kd.R_reads' HO_5.out).2.2 x10_2 p276 q276
                                                            obtain rfl : ad267 = ad276 := (by injection e276)
                                                            replace p276 := eq_true p276
                                                            replace q276 := eq_true q276
                                                            as_aux_lemma =>
                                                            go_wp2
                                                            repeat (go_quiet (fail); try go_wp2)
                                                            go_roundg k4
                                                            case measure => have := HK1.out; have := HK2.out; have := HJ23.out; have := HK4.out; omega
                                                            case rel => exact ⟨(wrap64 (x15_4 + 1)), (by first | rfl | (simp [i64_w, i32_w, errW_none, errW_some]; done) | (simp; done) | (simp [*]; done)), H', ⟨by have := HK1.out; have := HK2.out; have := HJ23.out; have := HK4.out; omega⟩, ⟨by (with_reducible repeat (first | apply Kd.R_alloc | apply Kd.R_drewN | apply Kd.R_drew)); exact HO_5.out⟩, ⟨by repeat (first | (with_reducible first | exact HB.out | apply below_alloc | apply pw_below_drewN | apply below_drew1) | exact HB.out)⟩⟩
                                                          · rw [if_neg c44] at H
                                                            have c44b0 : ((rd l1 x15_4) == (rd l1 x10_2)) = false := beq_eq_false_iff_ne.mpr c44
                                                            have c44b1 : ((rd l1 x15_4) != (rd l1 x10_2)) = true := bne_iff_ne.mpr c44
                                                            have H' := Aside0.mk H
                                                            clear H
                                                            have p265 : 0 ≤ (x15_4 : Int) := of_decide_eq_true (by first | (with_reducible assumption) | assumption)
                                                            have q265 : x15_4 < (l1.length : Int) := of_decide_eq_true (by first | (with_reducible assumption) | assumption)
                                                            obtain ⟨ad265, e265, hx265_0⟩ := Kd.at_int HR1.out x15_4 p265 q265
                                                            obtain rfl : ad255 = ad265 := (by injection e265)
                                                            replace hx265_0 := (HB.out.cell (World.block_lt_of_cell? w _ hx265_0)).trans hx265_0
                                                            replace p265 := eq_true p265
                                                            replace q265 := eq_true q265
                                                            have p266 : 0 ≤ (x10_2 : Int) := of_decide_eq_true (by first | (with_reducible assumption) | assumption)
                                                            have q266 : x10_2 < (l1.length : Int) := of_decide_eq_true (by first | (with_reducible assumption) | assumption)
                                                            obtain ⟨ad266, e266, hx266_0⟩ := Kd.at_int HR1.out x10_2 p266 q266
                                                            obtain rfl : ad255 = ad266 := (by injection e266)
                                                            replace hx266_0 := (HB.out.cell (World.block_lt_of_cell? w _ hx266_0)).trans hx266_0
                                                            replace p266 := eq_true p266
                                                            replace q266 := eq_true q266
                                                            have p267 : 0 ≤ (x15_4 : Int) := of_decide_eq_true (by first | (with_reducible assumption) | assumption)
                                                            have q267 : x15_4 < (t247.length : Int) := of_decide_eq_true (by first | (with_reducible assumption) | assumption)
                                                            obtain ⟨ad267, e267, hx267_0⟩ := Kd.at_int (Kd.R_reads' HO_5.out).2.2 x15_4 p267 q267
                                                            cases e267
                                                            replace p267 := eq_true p267
                                                            replace q267 := eq_true q267
                                                            have p268 : 0 ≤ (x10_2 : Int) := of_decide_eq_true (by first | (with_reducible assumption) | assumption)
                                                            have q268 : x10_2 < (t247.length : Int) := of_decide_eq_true (by first | (with_reducible assumption) | assumption)
                                                            obtain ⟨ad268, e268, hx268_0⟩ := Kd.at_int (Kd.R_reads' HO_5.out).2.2 x10_2 p268 q268
                                                            obtain rfl : ad267 = ad268 := (by injection e268)
                                                            replace p268 := eq_true p268
                                                            replace q268 := eq_true q268
                                                            have p269 : 0 ≤ (x15_4 : Int) := of_decide_eq_true (by first | (with_reducible assumption) | assumption)
                                                            have q269 : x15_4 < (l1.length : Int) := of_decide_eq_true (by first | (with_reducible assumption) | assumption)
                                                            obtain ⟨ad269, e269, hx269_0⟩ := Kd.at_int HR1.out x15_4 p269 q269
                                                            obtain rfl : ad255 = ad269 := (by injection e269)
                                                            replace hx269_0 := (HB.out.cell (World.block_lt_of_cell? w _ hx269_0)).trans hx269_0
                                                            replace p269 := eq_true p269
                                                            replace q269 := eq_true q269
                                                            have p270 : 0 ≤ (x10_2 : Int) := of_decide_eq_true (by first | (with_reducible assumption) | assumption)
                                                            have q270 : x10_2 < (l1.length : Int) := of_decide_eq_true (by first | (with_reducible assumption) | assumption)
                                                            obtain ⟨ad270, e270, hx270_0⟩ := Kd.at_int HR1.out x10_2 p270 q270
                                                            obtain rfl : ad255 = ad270 := (by injection e270)
                                                            replace hx270_0 := (HB.out.cell (World.block_lt_of_cell? w _ hx270_0)).trans hx270_0
                                                            replace p270 := eq_true p270
                                                            replace q270 := eq_true q270
                                                            have p271 : 0 ≤ (x15_4 : Int) := of_decide_eq_true (by first | (with_reducible assumption) | assumption)
                                                            have q271 : x15_4 < (t247.length : Int) := of_decide_eq_true (by first | (with_reducible assumption) | assumption)
                                                            obtain ⟨ad271, e271, hx271_0⟩ := Kd.at_int (Kd.R_reads' HO_5.out).2.2 x15_4 p271 q271
                                                            obtain rfl : ad267 = ad271 := (by injection e271)
                                                            replace p271 := eq_true p271
                                                            replace q271 := eq_true q271
                                                            have p272 : 0 ≤ (x10_2 : Int) := of_decide_eq_true (by first | (with_reducible assumption) | assumption)
                                                            have q272 : x10_2 < (t247.length : Int) := of_decide_eq_true (by first | (with_reducible assumption) | assumption)
                                                            obtain ⟨ad272, e272, hx272_0⟩ := Kd.at_int (Kd.R_reads' HO_5.out).2.2 x10_2 p272 q272
                                                            obtain rfl : ad267 = ad272 := (by injection e272)
                                                            replace p272 := eq_true p272
                                                            replace q272 := eq_true q272
                                                            have p273 : 0 ≤ (x15_4 : Int) := of_decide_eq_true (by first | (with_reducible assumption) | assumption)
                                                            have q273 : x15_4 < (l1.length : Int) := of_decide_eq_true (by first | (with_reducible assumption) | assumption)
                                                            obtain ⟨ad273, e273, hx273_0⟩ := Kd.at_int HR1.out x15_4 p273 q273
                                                            obtain rfl : ad255 = ad273 := (by injection e273)
                                                            replace hx273_0 := (HB.out.cell (World.block_lt_of_cell? w _ hx273_0)).trans hx273_0
                                                            replace p273 := eq_true p273
                                                            replace q273 := eq_true q273
                                                            have p274 : 0 ≤ (x10_2 : Int) := of_decide_eq_true (by first | (with_reducible assumption) | assumption)
                                                            have q274 : x10_2 < (l1.length : Int) := of_decide_eq_true (by first | (with_reducible assumption) | assumption)
                                                            obtain ⟨ad274, e274, hx274_0⟩ := Kd.at_int HR1.out x10_2 p274 q274
                                                            obtain rfl : ad255 = ad274 := (by injection e274)
                                                            replace hx274_0 := (HB.out.cell (World.block_lt_of_cell? w _ hx274_0)).trans hx274_0
                                                            replace p274 := eq_true p274
                                                            replace q274 := eq_true q274
                                                            as_aux_lemma =>
                                                            go_wp2
                                                            repeat (go_quiet (fail); try go_wp2)
                                                            go_roundg k4
                                                            case measure => have := HK1.out; have := HK2.out; have := HJ23.out; have := HK4.out; omega
                                                            case rel => exact ⟨(wrap64 (x15_4 + 1)), (by first | rfl | (simp [i64_w, i32_w, errW_none, errW_some]; done) | (simp; done) | (simp [*]; done)), H', ⟨by have := HK1.out; have := HK2.out; have := HJ23.out; have := HK4.out; omega⟩, ⟨by (with_reducible repeat (first | apply Kd.R_alloc | apply Kd.R_drewN | apply Kd.R_drew)); exact HO_5.out⟩, ⟨by repeat (first | (with_reducible first | exact HB.out | apply below_alloc | apply pw_below_drewN | apply below_drew1) | exact HB.out)⟩⟩
                                                      · rw [if_neg c42] at H
                                                        have c42b0 : decide ((rd l1 x10_2) < (rd l1 x15_4)) = false := decide_eq_false c42
                                                        clear c42
                                                        by_cases c45 : (rd l1 x15_4) = (rd l1 x10_2)
                                                        · rw [if_pos c45] at H
                                                          have c45b0 : ((rd l1 x15_4) == (rd l1 x10_2)) = true := beq_iff_eq.mpr c45
                                                          have c45b1 : ((rd l1 x15_4) != (rd l1 x10_2)) = false := bne_eq_false_iff_eq.mpr c45
                                                          clear c45
                                                          by_cases c46 : (rd t247 x15_4) < (rd t247 x10_2)
                                                          · rw [if_pos c46] at H
                                                            exact absurd H (by simp)
                                                          · rw [if_neg c46] at H
                                                            have c46b0 : decide ((rd t247 x15_4) < (rd t247 x10_2)) = false := decide_eq_false c46
                                                            clear c46
                                                            have H' := Aside0.mk H
                                                            clear H
                                                            have p265 : 0 ≤ (x15_4 : Int) := of_decide_eq_true (by first | (with_reducible assumption) | assumption)
                                                            have q265 : x15_4 < (l1.length : Int) := of_decide_eq_true (by first | (with_reducible assumption) | assumption)
                                                            obtain ⟨ad265, e265, hx265_0⟩ := Kd.at_int HR1.out x15_4 p265 q265
                                                            obtain rfl : ad255 = ad265 := (by injection e265)
                                                            replace hx265_0 := (HB.out.cell (World.block_lt_of_cell? w _ hx265_0)).trans hx265_0
                                                            replace p265 := eq_true p265
                                                            replace q265 := eq_true q265
                                                            have p266 : 0 ≤ (x10_2 : Int) := of_decide_eq_true (by first | (with_reducible assumption) | assumption)
                                                            have q266 : x10_2 < (l1.length : Int) := of_decide_eq_true (by first | (with_reducible assumption) | assumption)
                                                            obtain ⟨ad266, e266, hx266_0⟩ := Kd.at_int HR1.out x10_2 p266 q266
                                                            obtain rfl : ad255 = ad266 := (by injection e266)
                                                            replace hx266_0 := (HB.out.cell (World.block_lt_of_cell? w _ hx266_0)).trans hx266_0
                                                            replace p266 := eq_true p266
                                                            replace q266 := eq_true q266
                                                            have p267 : 0 ≤ (x15_4 : Int) := of_decide_eq_true (by first | (with_reducible assumption) | assumption)
                                                            have q267 : x15_4 < (t247.length : Int) := of_decide_eq_true (by first | (with_reducible assumption) | assumption)
                                                            obtain ⟨ad267, e267, hx267_0⟩ := Kd.at_int (Kd.R_reads' HO_5.out).2.2 x15_4 p267 q267
                                                            cases e267
                                                            replace p267 := eq_true p267
                                                            replace q267 := eq_true q267
                                                            have p268 : 0 ≤ (x10_2 : Int) := of_decide_eq_true (by first | (with_reducible assumption) | assumption)
                                                            have q268 : x10_2 < (t247.length : Int) := of_decide_eq_true (by first | (with_reducible assumption) | assumption)
                                                            obtain ⟨ad268, e268, hx268_0⟩ := Kd.at_int (Kd.R_reads' HO_5.out).2.2 x10_2 p268 q268
                                                            obtain rfl : ad267 = ad268 := (by injection e268)
                                                            replace p268 := eq_true p268
                                                            replace q268 := eq_true q268
                                                            have p269 : 0 ≤ (x15_4 : Int) := of_decide_eq_true (by first | (with_reducible assumption) | assumption)
                                                            have q269 : x15_4 < (l1.length : Int) := of_decide_eq_true (by first | (with_reducible assumption) | assumption)
                                                            obtain ⟨ad269, e269, hx269_0⟩ := Kd.at_int HR1.out x15_4 p269 q269
                                                            obtain rfl : ad255 = ad269 := (by injection e269)
                                                            replace hx269_0 := (HB.out.cell (World.block_lt_of_cell? w _ hx269_0)).trans hx269_0
                                                            replace p269 := eq_true p269
                                                            replace q269 := eq_true q269
                                                            have p270 : 0 ≤ (x10_2 : Int) := of_decide_eq_true (by first | (with_reducible assumption) | assumption)
                                                            have q270 : x10_2 < (l1.length : Int) := of_decide_eq_true (by first | (with_reducible assumption) | assumption)
                                                            obtain ⟨ad270, e270, hx270_0⟩ := Kd.at_int HR1.out x10_2 p270 q270
                                                            obtain rfl : ad255 = ad270 := (by injection e270)
                                                            replace hx270_0 := (HB.out.cell (World.block_lt_of_cell? w _ hx270_0)).trans hx270_0
                                                            replace p270 := eq_true p270
                                                            replace q270 := eq_true q270
                                                            have p277 : 0 ≤ (x15_4 : Int) := of_decide_eq_true (by first | (with_reducible assumption) | assumption)
                                                            have q277 : x15_4 < (l1.length : Int) := of_decide_eq_true (by first | (with_reducible assumption) | assumption)
                                                            obtain ⟨ad277, e277, hx277_0⟩ := Kd.at_int HR1.out x15_4 p277 q277
                                                            obtain rfl : ad255 = ad277 := (by injection e277)
                                                            replace hx277_0 := (HB.out.cell (World.block_lt_of_cell? w _ hx277_0)).trans hx277_0
                                                            replace p277 := eq_true p277
                                                            replace q277 := eq_true q277
                                                            have p278 : 0 ≤ (x10_2 : Int) := of_decide_eq_true (by first | (with_reducible assumption) | assumption)
                                                            have q278 : x10_2 < (l1.length : Int) := of_decide_eq_true (by first | (with_reducible assumption) | assumption)
                                                            obtain ⟨ad278, e278, hx278_0⟩ := Kd.at_int HR1.out x10_2 p278 q278
                                                            obtain rfl : ad255 = ad278 := (by injection e278)
                                                            replace hx278_0 := (HB.out.cell (World.block_lt_of_cell? w _ hx278_0)).trans hx278_0
                                                            replace p278 := eq_true p278
                                                            replace q278 := eq_true q278
                                                            have p279 : 0 ≤ (x15_4 : Int) := of_decide_eq_true (by first | (with_reducible assumption) | assumption)
                                                            have q279 : x15_4 < (t247.length : Int) := of_decide_eq_true (by first | (with_reducible assumption) | assumption)
                                                            obtain ⟨ad279, e279, hx279_0⟩ := Kd.at_int (Kd.R_reads' HO_5.out).2.2 x15_4 p279 q279
                                                            obtain rfl : ad267 = ad279 := (by injection e279)
                                                            replace p279 := eq_true p279
                                                            replace q279 := eq_true q279
                                                            have p280 : 0 ≤ (x10_2 : Int) := of_decide_eq_true (by first | (with_reducible assumption) | assumption)
                                                            have q280 : x10_2 < (t247.length : Int) := of_decide_eq_true (by first | (with_reducible assumption) | assumption)
                                                            obtain ⟨ad280, e280, hx280_0⟩ := Kd.at_int (Kd.R_reads' HO_5.out).2.2 x10_2 p280 q280
                                                            obtain rfl : ad267 = ad280 := (by injection e280)
                                                            replace p280 := eq_true p280
                                                            replace q280 := eq_true q280
                                                            as_aux_lemma =>
                                                            go_wp2
                                                            repeat (go_quiet (fail); try go_wp2)
                                                            go_roundg k4
                                                            case measure => have := HK1.out; have := HK2.out; have := HJ23.out; have := HK4.out; omega
                                                            case rel => exact ⟨(wrap64 (x15_4 + 1)), (by first | rfl | (simp [i64_w, i32_w, errW_none, errW_some]; done) | (simp; done) | (simp [*]; done)), H', ⟨by have := HK1.out; have := HK2.out; have := HJ23.out; have := HK4.out; omega⟩, ⟨by (with_reducible repeat (first | apply Kd.R_alloc | apply Kd.R_drewN | apply Kd.R_drew)); exact HO_5.out⟩, ⟨by repeat (first | (with_reducible first | exact HB.out | apply below_alloc | apply pw_below_drewN | apply below_drew1) | exact HB.out)⟩⟩
                                                        · rw [if_neg c45] at H
                                                          have c45b0 : ((rd l1 x15_4) == (rd l1 x10_2)) = false := beq_eq_false_iff_ne.mpr c45
                                                          have c45b1 : ((rd l1 x15_4) != (rd l1 x10_2)) = true := bne_iff_ne.mpr c45
                                                          have H' := Aside0.mk H
                                                          clear H
                                                          have p265 : 0 ≤ (x15_4 : Int) := of_decide_eq_true (by first | (with_reducible assumption) | assumption)
                                                          have q265 : x15_4 < (l1.length : Int) := of_decide_eq_true (by first | (with_reducible assumption) | assumption)
                                                          obtain ⟨ad265, e265, hx265_0⟩ := Kd.at_int HR1.out x15_4 p265 q265
                                                          obtain rfl : ad255 = ad265 := (by injection e265)
                                                          replace hx265_0 := (HB.out.cell (World.block_lt_of_cell? w _ hx265_0)).trans hx265_0
                                                          replace p265 := eq_true p265
                                                          replace q265 := eq_true q265
                                                          have p266 : 0 ≤ (x10_2 : Int) := of_decide_eq_true (by first | (with_reducible assumption) | assumption)
                                                          have q266 : x10_2 < (l1.length : Int) := of_decide_eq_true (by first | (with_reducible assumption) | assumption)
                                                          obtain ⟨ad266, e266, hx266_0⟩ := Kd.at_int HR1.out x10_2 p266 q266
                                                          obtain rfl : ad255 = ad266 := (by injection e266)
                                                          replace hx266_0 := (HB.out.cell (World.block_lt_of_cell? w _ hx266_0)).trans hx266_0
                                                          replace p266 := eq_true p266
                                                          replace q266 := eq_true q266
                                                          have p267 : 0 ≤ (x15_4 : Int) := of_decide_eq_true (by first | (with_reducible assumption) | assumption)
                                                          have q267 : x15_4 < (t247.length : Int) := of_decide_eq_true (by first | (with_reducible assumption) | assumption)
                                                          obtain ⟨ad267, e267, hx267_0⟩ := Kd.at_int (Kd.R_reads' HO_5.out).2.2 x15_4 p267 q267
                                                          cases e267
                                                          replace p267 := eq_true p267
                                                          replace q267 := eq_true q267
                                                          have p268 : 0 ≤ (x10_2 : Int) := of_decide_eq_true (by first | (with_reducible assumption) | assumption)
                                                          have q268 : x10_2 < (t247.length : Int) := of_decide_eq_true (by first | (with_reducible assumption) | assumption)
                                                          obtain ⟨ad268, e268, hx268_0⟩ := Kd.at_int (Kd.R_reads' HO_5.out).2.2 x10_2 p268 q268
                                                          obtain rfl : ad267 = ad268 := (by injection e268)
                                                          replace p268 := eq_true p268
                                                          replace q268 := eq_true q268
                                                          have p269 : 0 ≤ (x15_4 : Int) := of_decide_eq_true (by first | (with_reducible assumption) | assumption)
                                                          have q269 : x15_4 < (l1.length : Int) := of_decide_eq_true (by first | (with_reducible assumption) | assumption)
                                                          obtain ⟨ad269, e269, hx269_0⟩ := Kd.at_int HR1.out x15_4 p269 q269
                                                          obtain rfl : ad255 = ad269 := (by injection e269)
                                                          replace hx269_0 := (HB.out.cell (World.block_lt_of_cell? w _ hx269_0)).trans hx269_0
                                                          replace p269 := eq_true p269
                                                          replace q269 := eq_true q269
                                                          have p270 : 0 ≤ (x10_2 : Int) := of_decide_eq_true (by first | (with_reducible assumption) | assumption)
                                                          have q270 : x10_2 < (l1.length : Int) := of_decide_eq_true (by first | (with_reducible assumption) | assumption)
                                                          obtain ⟨ad270, e270, hx270_0⟩ := Kd.at_int HR1.out x10_2 p270 q270
                                                          obtain rfl : ad255 = ad270 := (by injection e270)
                                                          replace hx270_0 := (HB.out.cell (World.block_lt_of_cell? w _ hx270_0)).trans hx270_0
                                                          replace p270 := eq_true p270
                                                          replace q270 := eq_true q270
                                                          have p277 : 0 ≤ (x15_4 : Int) := of_decide_eq_true (by first | (with_reducible assumption) | assumption)
                                                          have q277 : x15_4 < (l1.length : Int) := of_decide_eq_true (by first | (with_reducible assumption) | assumption)
                                                          obtain ⟨ad277, e277, hx277_0⟩ := Kd.at_int HR1.out x15_4 p277 q277
                                                          obtain rfl : ad255 = ad277 := (by injection e277)
                                                          replace hx277_0 := (HB.out.cell (World.block_lt_of_cell? w _ hx277_0)).trans hx277_0
                                                          replace p277 := eq_true p277
                                                          replace q277 := eq_true q277
                                                          have p278 : 0 ≤ (x10_2 : Int) := of_decide_eq_true (by first | (with_reducible assumption) | assumption)
                                                          have q278 : x10_2 < (l1.length : Int) := of_decide_eq_true (by first | (with_reducible assumption) | assumption)
                                                          obtain ⟨ad278, e278, hx278_0⟩ := Kd.at_int HR1.out x10_2 p278 q278
                                                          obtain rfl : ad255 = ad278 := (by injection e278)
                                                          replace hx278_0 := (HB.out.cell (World.block_lt_of_cell? w _ hx278_0)).trans hx278_0
                                                          replace p278 := eq_true p278
                                                          replace q278 := eq_true q278
                                                          as_aux_lemma =>
                                                          go_wp2
                                                          repeat (go_quiet (fail); try go_wp2)
                                                          go_roundg k4
                                                          case measure => have := HK1.out; have := HK2.out; have := HJ23.out; have := HK4.out; omega
                                                          case rel => exact ⟨(wrap64 (x15_4 + 1)), (by first | rfl | (simp [i64_w, i32_w, errW_none, errW_some]; done) | (simp; done) | (simp [*]; done)), H', ⟨by have := HK1.out; have := HK2.out; have := HJ23.out; have := HK4.out; omega⟩, ⟨by (with_reducible repeat (first | apply Kd.R_alloc | apply Kd.R_drewN | apply Kd.R_drew)); exact HO_5.out⟩, ⟨by repeat (first | (with_reducible first | exact HB.out | apply below_alloc | apply pw_below_drewN | apply below_drew1) | exact HB.out)⟩⟩
                                                  · rw [if_neg c40] at H
                                                    exact absurd H (by simp)
                                                · rw [if_neg c39] at H
                                                  exact absurd H (by simp)
                                              · rw [if_neg c38] at H
                                                have c38b0 : decide ((rd l1 x15_4) < (rd l1 x10_2)) = false := decide_eq_false c38
                                                clear c38
                                                by_cases c47 : (rd l1 x15_4) > (rd l1 x10_2)
                                                · rw [if_pos c47] at H
                                                  have c47b0 : decide ((rd l1 x10_2) < (rd l1 x15_4)) = true := decide_eq_true c47
                                                  clear c47
                                                  by_cases c48 : x15_4 < (t247.length : Int)
                                                  · rw [if_pos c48] at H
                                                    have c48b0 : decide (x15_4 < (t247.length : Int)) = true := decide_eq_true c48
                                                    clear c48
                                                    by_cases c49 : x10_2 < (t247.length : Int)
                                                    · rw [if_pos c49] at H
                                                      have c49b0 : decide (x10_2 < (t247.length : Int)) = true := decide_eq_true c49
                                                      clear c49
                                                      by_cases c50 : (rd t247 x15_4) < (rd t247 x10_2)
                                                      · rw [if_pos c50] at H
                                                        exact absurd H (by simp)
                                                      · rw [if_neg c50] at H
                                                        have c50b0 : decide ((rd t247 x15_4) < (rd t247 x10_2)) = false := decide_eq_false c50
                                                        clear c50
                                                        by_cases c51 : (rd l1 x15_4) = (rd l1 x10_2)
                                                        · rw [if_pos c51] at H
                                                          have c51b0 : ((rd l1 x15_4) == (rd l1 x10_2)) = true := beq_iff_eq.mpr c51
                                                          have c51b1 : ((rd l1 x15_4) != (rd l1 x10_2)) = false := bne_eq_false_iff_eq.mpr c51
                                                          clear c51
                                                          have H' := Aside0.mk H
                                                          clear H
                                                          have p265 : 0 ≤ (x15_4 : Int) := of_decide_eq_true (by first | (with_reducible assumption) | assumption)
                                                          have q265 : x15_4 < (l1.length : Int) := of_decide_eq_true (by first | (with_reducible assumption) | assumption)
                                                          obtain ⟨ad265, e265, hx265_0⟩ := Kd.at_int HR1.out x15_4 p265 q265
                                                          obtain rfl : ad255 = ad265 := (by injection e265)
                                                          replace hx265_0 := (HB.out.cell (World.block_lt_of_cell? w _ hx265_0)).trans hx265_0
                                                          replace p265 := eq_true p265
                                                          replace q265 := eq_true q265
                                                          have p266 : 0 ≤ (x10_2 : Int) := of_decide_eq_true (by first | (with_reducible assumption) | assumption)
                                                          have q266 : x10_2 < (l1.length : Int) := of_decide_eq_true (by first | (with_reducible assumption) | assumption)
                                                          obtain ⟨ad266, e266, hx266_0⟩ := Kd.at_int HR1.out x10_2 p266 q266
                                                          obtain rfl : ad255 = ad266 := (by injection e266)
                                                          replace hx266_0 := (HB.out.cell (World.block_lt_of_cell? w _ hx266_0)).trans hx266_0
                                                          replace p266 := eq_true p266
                                                          replace q266 := eq_true q266
                                                          have p281 : 0 ≤ (x15_4 : Int) := of_decide_eq_true (by first | (with_reducible assumption) | assumption)
                                                          have q281 : x15_4 < (l1.length : Int) := of_decide_eq_true (by first | (with_reducible assumption) | assumption)
                                                          obtain ⟨ad281, e281, hx281_0⟩ := Kd.at_int HR1.out x15_4 p281 q281
                                                          obtain rfl : ad255 = ad281 := (by injection e281)
                                                          replace hx281_0 := (HB.out.cell (World.block_lt_of_cell? w _ hx281_0)).trans hx281_0
                                                          replace p281 := eq_true p281
                                                          replace q281 := eq_true q281
                                                          have p282 : 0 ≤ (x10_2 : Int) := of_decide_eq_true (by first | (with_reducible assumption) | assumption)
                                                          have q282 : x10_2 < (l1.length : Int) := of_decide_eq_true (by first | (with_reducible assumption) | assumption)
                                                          obtain ⟨ad282, e282, hx282_0⟩ := Kd.at_int HR1.out x10_2 p282 q282
                                                          obtain rfl : ad255 = ad282 := (by injection e282)
                                                          replace hx282_0 := (HB.out.cell (World.block_lt_of_cell? w _ hx282_0)).trans hx282_0
                                                          replace p282 := eq_true p282
                                                          replace q282 := eq_true q282
                                                          have p283 : 0 ≤ (x15_4 : Int) := of_decide_eq_true (by first | (with_reducible assumption) | assumption)
                                                          have q283 : x15_4 < (t247.length : Int) := of_decide_eq_true (by first | (with_reducible assumption) | assumption)
                                                          obtain ⟨ad283, e283, hx283_0⟩ := Kd.at_int (Kd.R_reads' HO_5.out).2.2 x15_4 p283 q283
                                                          cases e283
                                                          replace p283 := eq_true p283
                                                          replace q283 := eq_true q283
                                                          have p284 : 0 ≤ (x10_2 : Int) := of_decide_eq_true (by first | (with_reducible assumption) | assumption)
                                                          have q284 : x10_2 < (t247.length : Int) := of_decide_eq_true (by first | (with_reducible assumption) | assumption)
                                                          obtain ⟨ad284, e284, hx284_0⟩ := Kd.at_int (Kd.R_reads' HO_5.out).2.2 x10_2 p284 q284
                                                          obtain rfl : ad283 = ad284 := (by injection e284)
                                                          replace p284 := eq_true p284
                                                          replace q284 := eq_true q284
                                                          have p285 : 0 ≤ (x15_4 : Int) := of_decide_eq_true (by first | (with_reducible assumption) | assumption)
                                                          have q285 : x15_4 < (l1.length : Int) := of_decide_eq_true (by first | (with_reducible assumption) | assumption)
                                                          obtain ⟨ad285, e285, hx285_0⟩ := Kd.at_int HR1.out x15_4 p285 q285
                                                          obtain rfl : ad255 = ad285 := (by injection e285)
                                                          replace hx285_0 := (HB.out.cell (World.block_lt_of_cell? w _ hx285_0)).trans hx285_0
                                                          replace p285 := eq_true p285
                                                          replace q285 := eq_true q285
                                                          have p286 : 0 ≤ (x10_2 : Int) := of_decide_eq_true (by first | (with_reducible assumption) | assumption)
                                                          have q286 : x10_2 < (l1.length : Int) := of_decide_eq_true (by first | (with_reducible assumption) | assumption)
                                                          obtain ⟨ad286, e286, hx286_0⟩ := Kd.at_int HR1.out x10_2 p286 q286
                                                          obtain rfl : ad255 = ad286 := (by injection e286)
                                                          replace hx286_0 := (HB.out.cell (World.block_lt_of_cell? w _ hx286_0)).trans hx286_0
                                                          replace p286 := eq_true p286
                                                          replace q286 := eq_true q286
                                                          have p287 : 0 ≤ (x15_4 : Int) := of_decide_eq_true (by first | (with_reducible assumption) | assumption)
                                                          have q287 : x15_4 < (t247.length : Int) := of_decide_eq_true (by first | (with_reducible assumption) | assumption)
                                                          obtain ⟨ad287, e287, hx287_0⟩ := Kd.at_int (Kd.R_reads' HO_5.out).2.2 x15_4 p287 q287
                                                          obtain rfl : ad283 = ad287 := (by injection e287)
                                                          replace p287 := eq_true p287
                                                          replace q287 := eq_true q287
                                                          have p288 : 0 ≤ (x10_2 : Int) := of_decide_eq_true (by first | (with_reducible assumption) | assumption)
                                                          have q288 : x10_2 < (t247.length : Int) := of_decide_eq_true (by first | (with_reducible assumption) | assumption)
                                                          obtain ⟨ad288, e288, hx288_0⟩ := Kd.at_int (Kd.R_reads' HO_5.out).2.2 x10_2 p288 q288
                                                          obtain rfl : ad283 = ad288 := (by injection e288)
                                                          replace p288 := eq_true p288
                                                          replace q288 := eq_true q288
                                                          as_aux_lemma =>
                                                          go_wp2
                                                          repeat (go_quiet (fail); try go_wp2)
                                                          go_roundg k4
                                                          case measure => have := HK1.out; have := HK2.out; have := HJ23.out; have := HK4.out; omega
                                                          case rel => exact ⟨(wrap64 (x15_4 + 1)), (by first | rfl | (simp [i64_w, i32_w, errW_none, errW_some]; done) | (simp; done) | (simp [*]; done)), H', ⟨by have := HK1.out; have := HK2.out; have := HJ23.out; have := HK4.out; omega⟩, ⟨by (with_reducible repeat (first | apply Kd.R_alloc | apply Kd.R_drewN | apply Kd.R_drew)); exact HO_5.out⟩, ⟨by repeat (first | (with_reducible first | exact HB.out | apply below_alloc | apply pw_below_drewN | apply below_drew1) | exact HB.out)⟩⟩
                                                        · rw [if_neg c51] at H
                                                          have c51b0 : ((rd l1 x15_4) == (rd l1 x10_2)) = false := beq_eq_false_iff_ne.mpr c51
                                                          have c51b1 : ((rd l1 x15_4) != (rd l1 x10_2)) = true := bne_iff_ne.mpr c51
                                                          have H' := Aside0.mk H
                                                          clear H
                                                          have p265 : 0 ≤ (x15_4 : Int) := of_decide_eq_true (by first | (with_reducible assumption) | assumption)
                                                          have q265 : x15_4 < (l1.length : Int) := of_decide_eq_true (by first | (with_reducible assumption) | assumption)
                                                          obtain ⟨ad265, e265, hx265_0⟩ := Kd.at_int HR1.out x15_4 p265 q265
                                                          obtain rfl : ad255 = ad265 := (by injection e265)
                                                          replace hx265_0 := (HB.out.cell (World.block_lt_of_cell? w _ hx265_0)).trans hx265_0
                                                          replace p265 := eq_true p265
                                                          replace q265 := eq_true q265
                                                          have p266 : 0 ≤ (x10_2 : Int) := of_decide_eq_true (by first | (with_reducible assumption) | assumption)
                                                          have q266 : x10_2 < (l1.length : Int) := of_decide_eq_true (by first | (with_reducible assumption) | assumption)
                                                          obtain ⟨ad266, e266, hx266_0⟩ := Kd.at_int HR1.out x10_2 p266 q266
                                                          obtain rfl : ad255 = ad266 := (by injection e266)
                                                          replace hx266_0 := (HB.out.cell (World.block_lt_of_cell? w _ hx266_0)).trans hx266_0
                                                          replace p266 := eq_true p266
                                                          replace q266 := eq_true q266
                                                          have p281 : 0 ≤ (x15_4 : Int) := of_decide_eq_true (by first | (with_reducible assumption) | assumption)
                                                          have q281 : x15_4 < (l1.length : Int) := of_decide_eq_true (by first | (with_reducible assumption) | assumption)
                                                          obtain ⟨ad281, e281, hx281_0⟩ := Kd.at_int HR1.out x15_4 p281 q281
                                                          obtain rfl : ad255 = ad281 := (by injection e281)
                                                          replace hx281_0 := (HB.out.cell (World.block_lt_of_cell? w _ hx281_0)).trans hx281_0
                                                          replace p281 := eq_true p281
                                                          replace q281 := eq_true q281
                                                          have p282 : 0 ≤ (x10_2 : Int) := of_decide_eq_true (by first | (with_reducible assumption) | assumption)
                                                          have q282 : x10_2 < (l1.length : Int) := of_decide_eq_true (by first | (with_reducible assumption) | assumption)
                                                          obtain ⟨ad282, e282, hx282_0⟩ := Kd.at_int HR1.out x10_2 p282 q282
                                                          obtain rfl : ad255 = ad282 := (by injection e282)
                                                          replace hx282_0 := (HB.out.cell (World.block_lt_of_cell? w _ hx282_0)).trans hx282_0
                                                          replace p282 := eq_true p282
                                                          replace q282 := eq_true q282
                                                          have p283 : 0 ≤ (x15_4 : Int) := of_decide_eq_true (by first | (with_reducible assumption) | assumption)
                                                          have q283 : x15_4 < (t247.length : Int) := of_decide_eq_true (by first | (with_reducible assumption) | assumption)
                                                          obtain ⟨ad283, e283, hx283_0⟩ := Kd.at_int (Kd.R_reads' HO_5.out).2.2 x15_4 p283 q283
                                                          cases e283
                                                          replace p283 := eq_true p283
                                                          replace q283 := eq_true q283
                                                          have p284 : 0 ≤ (x10_2 : Int) := of_decide_eq_true (by first | (with_reducible assumption) | assumption)
                                                          have q284 : x10_2 < (t247.length : Int) := of_decide_eq_true (by first | (with_reducible assumption) | assumption)
                                                          obtain ⟨ad284, e284, hx284_0⟩ := Kd.at_int (Kd.R_reads' HO_5.out).2.2 x10_2 p284 q284
                                                          obtain rfl : ad283 = ad284 := (by injection e284)
                                                          replace p284 := eq_true p284
                                                          replace q284 := eq_true q284
                                                          have p285 : 0 ≤ (x15_4 : Int) := of_decide_eq_true (by first | (with_reducible assumption) | assumption)
                                                          have q285 : x15_4 < (l1.length : Int) := of_decide_eq_true (by first | (with_reducible assumption) | assumption)
                                                          obtain ⟨ad285, e285, hx285_0⟩ := Kd.at_int HR1.out x15_4 p285 q285
                                                          obtain rfl : ad255 = ad285 := (by injection e285)
                                                          replace hx285_0 := (HB.out.cell (World.block_lt_of_cell? w _ hx285_0)).trans hx285_0
                                                          replace p285 := eq_true p285
                                                          replace q285 := eq_true q285
                                                          have p286 : 0 ≤ (x10_2 : Int) := of_decide_eq_true (by first | (with_reducible assumption) | assumption)
                                                          have q286 : x10_2 < (l1.length : Int) := of_decide_eq_true (by first | (with_reducible assumption) | assumption)
                                                          obtain ⟨ad286, e286, hx286_0⟩ := Kd.at_int HR1.out x10_2 p286 q286
                                                          obtain rfl : ad255 = ad286 := (by injection e286)
                                                          replace hx286_0 := (HB.out.cell (World.block_lt_of_cell? w _ hx286_0)).trans hx286_0
                                                          replace p286 := eq_true p286
                                                          replace q286 := eq_true q286
                                                          as_aux_lemma =>
                                                          go_wp2
                                                          repeat (go_quiet (fail); try go_wp2)
                                                          go_roundg k4
                                                          case measure => have := HK1.out; have := HK2.out; have := HJ23.out; have := HK4.out; omega
                                                          case rel => exact ⟨(wrap64 (x15_4 + 1)), (by first | rfl | (simp [i64_w, i32_w, errW_none, errW_some]; done) | (simp; done) | (simp [*]; done)), H', ⟨by have := HK1.out; have := HK2.out; have := HJ23.out; have := HK4.out; omega⟩, ⟨by (with_reducible repeat (first | apply Kd.R_alloc | apply Kd.R_drewN | apply Kd.R_drew)); exact HO_5.out⟩, ⟨by repeat (first | (with_reducible first | exact HB.out | apply below_alloc | apply pw_below_drewN | apply below_drew1) | exact HB.out)⟩⟩
                                                    · rw [if_neg c49] at H
                                                      exact absurd H (by simp)
                                                  · rw [if_neg c48] at H
                                                    exact absurd H (by simp)
                                                · rw [if_neg c47] at H
                                                  have c47b0 : decide ((rd l1 x10_2) < (rd l1 x15_4)) = false := decide_eq_false c47
                                                  clear c47
                                                  by_cases c52 : (rd l1 x15_4) = (rd l1 x10_2)
                                                  · rw [if_pos c52] at H
                                                    have c52b0 : ((rd l1 x15_4) == (rd l1 x10_2)) = true := beq_iff_eq.mpr c52
                                                    have c52b1 : ((rd l1 x15_4) != (rd l1 x10_2)) = false := bne_eq_false_iff_eq.mpr c52
                                                    clear c52
                                                    by_cases c53 : x15_4 < (t247.length : Int)
                                                    · rw [if_pos c53] at H
                                                      have c53b0 : decide (x15_4 < (t247.length : Int)) = true := decide_eq_true c53
                                                      clear c53
                                                      by_cases c54 : x10_2 < (t247.length : Int)
                                                      · rw [if_pos c54] at H
                                                        have c54b0 : decide (x10_2 < (t247.length : Int)) = true := decide_eq_true c54
                                                        clear c54
                                                        by_cases c55 : (rd t247 x15_4) < (rd t247 x10_2)
                                                        · rw [if_pos c55] at H
                                                          exact absurd H (by simp)
                                                        · rw [if_neg c55] at H
                                                          have c55b0 : decide ((rd t247 x15_4) < (rd t247 x10_2)) = false := decide_eq_false c55
                                                          clear c55
                                                          have H' := Aside0.mk H
                                                          clear H
                                                          have p265 : 0 ≤ (x15_4 : Int) := of_decide_eq_true (by first | (with_reducible assumption) | assumption)
                                                          have q265 : x15_4 < (l1.length : Int) := of_decide_eq_true (by first | (with_reducible assumption) | assumption)
                                                          obtain ⟨ad265, e265, hx265_0⟩ := Kd.at_int HR1.out x15_4 p265 q265
                                                          obtain rfl : ad255 = ad265 := (by injection e265)
                                                          replace hx265_0 := (HB.out.cell (World.block_lt_of_cell? w _ hx265_0)).trans hx265_0
                                                          replace p265 := eq_true p265
                                                          replace q265 := eq_true q265
                                                          have p266 : 0 ≤ (x10_2 : Int) := of_decide_eq_true (by first | (with_reducible assumption) | assumption)
                                                          have q266 : x10_2 < (l1.length : Int) := of_decide_eq_true (by first | (with_reducible assumption) | assumption)
                                                          obtain ⟨ad266, e266, hx266_0⟩ := Kd.at_int HR1.out x10_2 p266 q266
                                                          obtain rfl : ad255 = ad266 := (by injection e266)
                                                          replace hx266_0 := (HB.out.cell (World.block_lt_of_cell? w _ hx266_0)).trans hx266_0
                                                          replace p266 := eq_true p266
                                                          replace q266 := eq_true q266
                                                          have p281 : 0 ≤ (x15_4 : Int) := of_decide_eq_true (by first | (with_reducible assumption) | assumption)
                                                          have q281 : x15_4 < (l1.length : Int) := of_decide_eq_true (by first | (with_reducible assumption) | assumption)
                                                          obtain ⟨ad281, e281, hx281_0⟩ := Kd.at_int HR1.out x15_4 p281 q281
                                                          obtain rfl : ad255 = ad281 := (by injection e281)
                                                          replace hx281_0 := (HB.out.cell (World.block_lt_of_cell? w _ hx281_0)).trans hx281_0
                                                          replace p281 := eq_true p281
                                                          replace q281 := eq_true q281
                                                          have p282 : 0 ≤ (x10_2 : Int) := of_decide_eq_true (by first | (with_reducible assumption) | assumption)
                                                          have q282 : x10_2 < (l1.length : Int) := of_decide_eq_true (by first | (with_reducible assumption) | assumption)
                                                          obtain ⟨ad282, e282, hx282_0⟩ := Kd.at_int HR1.out x10_2 p282 q282
                                                          obtain rfl : ad255 = ad282 := (by injection e282)
                                                          replace hx282_0 := (HB.out.cell (World.block_lt_of_cell? w _ hx282_0)).trans hx282_0
                                                          replace p282 := eq_true p282
                                                          replace q282 := eq_true q282
                                                          have p289 : 0 ≤ (x15_4 : Int) := of_decide_eq_true (by first | (with_reducible assumption) | assumption)
                                                          have q289 : x15_4 < (l1.length : Int) := of_decide_eq_true (by first | (with_reducible assumption) | assumption)
                                                          obtain ⟨ad289, e289, hx289_0⟩ := Kd.at_int HR1.out x15_4 p289 q289
                                                          obtain rfl : ad255 = ad289 := (by injection e289)
                                                          replace hx289_0 := (HB.out.cell (World.block_lt_of_cell? w _ hx289_0)).trans hx289_0
                                                          replace p289 := eq_true p289
                                                          replace q289 := eq_true q289
                                                          have p290 : 0 ≤ (x10_2 : Int) := of_decide_eq_true (by first | (with_reducible assumption) | assumption)
                                                          have q290 : x10_2 < (l1.length : Int) := of_decide_eq_true (by first | (with_reducible assumption) | assumption)
                                                          obtain ⟨ad290, e290, hx290_0⟩ := Kd.at_int HR1.out x10_2 p290 q290
                                                          obtain rfl : ad255 = ad290 := (by injection e290)
                                                          replace hx290_0 := (HB.out.cell (World.block_lt_of_cell? w _ hx290_0)).trans hx290_0
                                                          replace p290 := eq_true p290
                                                          replace q290 := eq_true q290
                                                          have p291 : 0 ≤ (x15_4 : Int) := of_decide_eq_true (by first | (with_reducible assumption) | assumption)
                                                          have q291 : x15_4 < (t247.length : Int) := of_decide_eq_true (by first | (with_reducible assumption) | assumption)
                                                          obtain ⟨ad291, e291, hx291_0⟩ := Kd.at_int (Kd.R_reads' HO_5.out).2.2 x15_4 p291 q291
                                                          cases e291
                                                          replace p291 := eq_true p291
                                                          replace q291 := eq_true q291
                                                          have p292 : 0 ≤ (x10_2 : Int) := of_decide_eq_true (by first | (with_reducible assumption) | assumption)
                                                          have q292 : x10_2 < (t247.length : Int) := of_decide_eq_true (by first | (with_reducible assumption) | assumption)
                                                          obtain ⟨ad292, e292, hx292_0⟩ := Kd.at_int (Kd.R_reads' HO_5.out).2.2 x10_2 p292 q292
                                                          obtain rfl : ad291 = ad292 := (by injection e292)
                                                          replace p292 := eq_true p292
                                                          replace q292 := eq_true q292
                                                          as_aux_lemma =>
                                                          go_wp2
                                                          repeat (go_quiet (fail); try go_wp2)
                                                          go_roundg k4
                                                          case measure => have := HK1.out; have := HK2.out; have := HJ23.out; have := HK4.out; omega
                                                          case rel => exact ⟨(wrap64 (x15_4 + 1)), (by first | rfl | (simp [i64_w, i32_w, errW_none, errW_some]; done) | (simp; done) | (simp [*]; done)), H', ⟨by have := HK1.out; have := HK2.out; have := HJ23.out; have := HK4.out; omega⟩, ⟨by (with_reducible repeat (first | apply Kd.R_alloc | apply Kd.R_drewN | apply Kd.R_drew)); exact HO_5.out⟩, ⟨by repeat (first | (with_reducible first | exact HB.out | apply below_alloc | apply pw_below_drewN | apply below_drew1) | exact HB.out)⟩⟩
                                                      · rw [if_neg c54] at H
                                                        exact absurd H (by simp)
                                                    · rw [if_neg c53] at H
                                                      exact absurd H (by simp)
                                                  · rw [if_neg c52] at H
                                                    have c52b0 : ((rd l1 x15_4) == (rd l1 x10_2)) = false := beq_eq_false_iff_ne.mpr c52
                                                    have c52b1 : ((rd l1 x15_4) != (rd l1 x10_2)) = true := bne_iff_ne.mpr c52
                                                    have H' := Aside0.mk H
                                                    clear H
                                                    have p265 : 0 ≤ (x15_4 : Int) := of_decide_eq_true (by first | (with_reducible assumption) | assumption)
                                                    have q265 : x15_4 < (l1.length : Int) := of_decide_eq_true (by first | (with_reducible assumption) | assumption)
                                                    obtain ⟨ad265, e265, hx265_0⟩ := Kd.at_int HR1.out x15_4 p265 q265
                                                    obtain rfl : ad255 = ad265 := (by injection e265)
                                                    replace hx265_0 := (HB.out.cell (World.block_lt_of_cell? w _ hx265_0)).trans hx265_0
                                                    replace p265 := eq_true p265
                                                    replace q265 := eq_true q265
                                                    have p266 : 0 ≤ (x10_2 : Int) := of_decide_eq_true (by first | (with_reducible assumption) | assumption)
                                                    have q266 : x10_2 < (l1.length : Int) := of_decide_eq_true (by first | (with_reducible assumption) | assumption)
                                                    obtain ⟨ad266, e266, hx266_0⟩ := Kd.at_int HR1.out x10_2 p266 q266
                                                    obtain rfl : ad255 = ad266 := (by injection e266)
                                                    replace hx266_0 := (HB.out.cell (World.block_lt_of_cell? w _ hx266_0)).trans hx266_0
                                                    replace p266 := eq_true p266
                                                    replace q266 := eq_true q266
                                                    have p281 : 0 ≤ (x15_4 : Int) := of_decide_eq_true (by first | (with_reducible assumption) | assumption)
                                                    have q281 : x15_4 < (l1.length : Int) := of_decide_eq_true (by first | (with_reducible assumption) | assumption)
                                                    obtain ⟨ad281, e281, hx281_0⟩ := Kd.at_int HR1.out x15_4 p281 q281
                                                    obtain rfl : ad255 = ad281 := (by injection e281)
                                                    replace hx281_0 := (HB.out.cell (World.block_lt_of_cell? w _ hx281_0)).trans hx281_0
                                                    replace p281 := eq_true p281
                                                    replace q281 := eq_true q281
                                                    have p282 : 0 ≤ (x10_2 : Int) := of_decide_eq_true (by first | (with_reducible assumption) | assumption)
                                                    have q282 : x10_2 < (l1.length : Int) := of_decide_eq_true (by first | (with_reducible assumption) | assumption)
                                                    obtain ⟨ad282, e282, hx282_0⟩ := Kd.at_int HR1.out x10_2 p282 q282
                                                    obtain rfl : ad255 = ad282 := (by injection e282)
                                                    replace hx282_0 := (HB.out.cell (World.block_lt_of_cell? w _ hx282_0)).trans hx282_0
                                                    replace p282 := eq_true p282
                                                    replace q282 := eq_true q282
                                                    have p289 : 0 ≤ (x15_4 : Int) := of_decide_eq_true (by first | (with_reducible assumption) | assumption)
                                                    have q289 : x15_4 < (l1.length : Int) := of_decide_eq_true (by first | (with_reducible assumption) | assumption)
                                                    obtain ⟨ad289, e289, hx289_0⟩ := Kd.at_int HR1.out x15_4 p289 q289
                                                    obtain rfl : ad255 = ad289 := (by injection e289)
                                                    replace hx289_0 := (HB.out.cell (World.block_lt_of_cell? w _ hx289_0)).trans hx289_0
                                                    replace p289 := eq_true p289
                                                    replace q289 := eq_true q289
                                                    have p290 : 0 ≤ (x10_2 : Int) := of_decide_eq_true (by first | (with_reducible assumption) | assumption)
                                                    have q290 : x10_2 < (l1.length : Int) := of_decide_eq_true (by first | (with_reducible assumption) | assumption)
                                                    obtain ⟨ad290, e290, hx290_0⟩ := Kd.at_int HR1.out x10_2 p290 q290
                                                    obtain rfl : ad255 = ad290 := (by injection e290)
                                                    replace hx290_0 := (HB.out.cell (World.block_lt_of_cell? w _ hx290_0)).trans hx290_0
                                                    replace p290 := eq_true p290
                                                    replace q290 := eq_true q290
                                                    as_aux_lemma =>
                                                    go_wp2
                                                    repeat (go_quiet (fail); try go_wp2)
                                                    go_roundg k4
                                                    case measure => have := HK1.out; have := HK2.out; have := HJ23.out; have := HK4.out; omega
                                                    case rel => exact ⟨(wrap64 (x15_4 + 1)), (by first | rfl | (simp [i64_w, i32_w, errW_none, errW_some]; done) | (simp; done) | (simp [*]; done)), H', ⟨by have := HK1.out; have := HK2.out; have := HJ23.out; have := HK4.out; omega⟩, ⟨by (with_reducible repeat (first | apply Kd.R_alloc | apply Kd.R_drewN | apply Kd.R_drew)); exact HO_5.out⟩, ⟨by repeat (first | (with_reducible first | exact HB.out | apply below_alloc | apply pw_below_drewN | apply below_drew1) | exact HB.out)⟩⟩
                                            · rw [if_neg c37] at H
                                              exact absurd H (by simp)
                                          · rw [if_neg c36] at H
                                            exact absurd H (by simp)
                                        · rw [if_neg c35] at H
                                          exact absurd H (by simp)
                                      · rw [if_neg c34] at H
                                        exact absurd H (by simp)
                                    · rw [if_neg c33] at H
                                      have c33b0 : decide (x15_4 < x10_2) = false := decide_eq_false c33
                                      clear c33
                                      have H' := Aside0.mk H
                                      clear H
                                      as_aux_lemma =>
                                      go_wp2
                                      repeat (go_quiet (fail); try go_wp2)
                                      go_roundg k4
                                      case measure => have := HK1.out; have := HK2.out; have := HJ23.out; have := HK4.out; omega
                                      case rel => exact ⟨(wrap64 (x10_2 + 1)), (by first | rfl | (simp [i64_w, i32_w, errW_none, errW_some]; done) | (simp; done) | (simp [*]; done)), H', ⟨by have := HK1.out; have := HK2.out; have := HJ23.out; have := HK4.out; omega⟩, ⟨by (with_reducible repeat (first | apply Kd.R_alloc | apply Kd.R_drewN | apply Kd.R_drew)); exact HO_5.out⟩, ⟨by repeat (first | (with_reducible first | exact HB.out | apply below_alloc | apply pw_below_drewN | apply below_drew1) | exact HB.out)⟩⟩
                        · rw [if_neg c21] at H
                          exact absurd H (by simp)
                      · rw [if_neg c20] at H
                        exact absurd H (by simp)
                    · rw [if_neg c19] at H
                      have c19b0 : decide (x10_2 < (t247.length : Int)) = false := decide_eq_false c19
                      clear c19
                      by_cases c56 : x8_1 = a0
                      · rw [if_pos c56] at H
                        have c56b0 : (x8_1 == a0) = true := beq_iff_eq.mpr c56
                        have c56b1 : (x8_1 != a0) = false := bne_eq_false_iff_eq.mpr c56
                        clear c56
                        replace H := Option.bind_eq_some_iff.mp H
                        obtain ⟨t254, A570, H⟩ := H
                        replace H : (some t254) = some r := H
                        have A57 := Aside0.mk A570
                        clear A570
                        obtain rfl := Option.some.inj H
                        go_wp2_with (first | (go_at_call 8; (with_reducible refine (annuitylaw02_wakes.calls k2  t254 _ A57.out).mono ?_); rintro e w58 ⟨rfl, hb⟩; have n0_ := Aside0.mk (Kd.R_below (by (with_reducible repeat (first | apply Kd.R_alloc | apply Kd.R_drewN | apply Kd.R_drew)); exact HO_5.out) hb); have n1_ := Aside0.mk (below_step (by repeat (first | (with_reducible first | exact HB.out | apply below_alloc | apply pw_below_drewN | apply below_drew1) | exact HB.out)) hb); clear HO_5; clear HB; have HO_5 := n0_; have HB := n1_; clear n0_ n1_; (try clear hb); (try clear hb2); (try clear hk); (try clear hi)))
                        repeat (go_quiet (first | (go_at_call 8; (first | (with_reducible refine (annuitylaw02_wakes.calls k2  t254 _ A57.out).mono ?_) | (simp only [i64_w, i32_w]; with_reducible refine (annuitylaw02_wakes.calls k2  t254 _ A57.out).mono ?_)); rintro e w58 ⟨rfl, hb⟩; have n0_ := Aside0.mk (Kd.R_below (by (with_reducible repeat (first | apply Kd.R_alloc | apply Kd.R_drewN | apply Kd.R_drew)); exact HO_5.out) hb); have n1_ := Aside0.mk (below_step (by repeat (first | (with_reducible first | exact HB.out | apply below_alloc | apply pw_below_drewN | apply below_drew1) | exact HB.out)) hb); clear HO_5; clear HB; have HO_5 := n0_; have HB := n1_; clear n0_ n1_; (try clear hb); (try clear hb2); (try clear hk); (try clear hi))); try go_wp2_with (first | (go_at_call 8; (first | (with_reducible refine (annuitylaw02_wakes.calls k2  t254 _ A57.out).mono ?_) | (simp only [i64_w, i32_w]; with_reducible refine (annuitylaw02_wakes.calls k2  t254 _ A57.out).mono ?_)); rintro e w58 ⟨rfl, hb⟩; have n0_ := Aside0.mk (Kd.R_below (by (with_reducible repeat (first | apply Kd.R_alloc | apply Kd.R_drewN | apply Kd.R_drew)); exact HO_5.out) hb); have n1_ := Aside0.mk (below_step (by repeat (first | (with_reducible first | exact HB.out | apply below_alloc | apply pw_below_drewN | apply below_drew1) | exact HB.out)) hb); clear HO_5; clear HB; have HO_5 := n0_; have HB := n1_; clear n0_ n1_; (try clear hb); (try clear hb2); (try clear hk); (try clear hi))))
                        go_ret
                        exact ⟨by first | rfl | (simp [i64_w, i32_w, errW_none, errW_some]; done) | (simp [errW_none, errW_some] <;> rfl) | (simp [*, errW_none, errW_some] <;> rfl), by repeat (first | (with_reducible first | exact HB.out | apply below_alloc | apply pw_below_drewN | apply below_drew1) | exact HB.out)⟩
                      · rw [if_neg c56] at H
                        exact absurd H (by simp)
        · rw [if_neg c9] at H
          exact absurd H (by simp)
      · rw [if_neg c8] at H
        have c8b0 : (t248 == 0) = false := beq_eq_false_iff_ne.mpr c8
        have c8b1 : (t248 != 0) = true := bne_iff_ne.mpr c8
        by_cases c59 : (t247.length : Int) = 0
        · rw [if_pos c59] at H
          have c59b0 : ((t247.length : Int) == 0) = true := beq_iff_eq.mpr c59
          have c59b1 : ((t247.length : Int) != 0) = false := bne_eq_false_iff_eq.mpr c59
          clear c59
          replace H := Option.bind_eq_some_iff.mp H
          obtain ⟨t251, A600, H⟩ := H
          replace H : (some t251) = some r := H
          have A60 := Aside0.mk A600
          clear A600
          obtain rfl := Option.some.inj H
          go_enter Try.func5, Try.ntmps5
          go_wp2_with (first | ((with_reducible refine gate_dst (N := 22) rfl ?_); refine Kd.R_lit (Kd.int .i64) _ 2 ?hg (N := 22) ?hd (xs := ([] : List Int)) (inner := []) (ok := fun _ => True) (okp := fun _ => True) ?hr ?hp (fun _ hk => hk) trivial (Below.refl _ _) (Nat.le_refl _) (by simp) ?_; (case hd => rfl); (case hg => rfl); (case hr => first | (go_simp; done) | (go_simp; rfl)); (case hp => exact (Reps.none _ _)); intro v242 w61 ho62 hb hg_ hnew_; clear hg_ hnew_; (first | rw [← Ny241.out] at ho62 | (simp only [Int.reduceToNat] at ho62; rw [← Ny241.out] at ho62)); have n0_ := Aside0.mk (Kd.R_lower ho62 (below_size (by repeat (first | (with_reducible first | exact HB.out | apply below_alloc | apply pw_below_drewN | apply below_drew1) | exact HB.out)))); have n1_ := Aside0.mk (below_step (by repeat (first | (with_reducible first | exact HB.out | apply below_alloc | apply pw_below_drewN | apply below_drew1) | exact HB.out)) hb); clear HB; have HO243 := n0_; have HB := n1_; clear n0_ n1_; clear hb ho62) | ((with_reducible refine gate_builtin (b := .append) (xs := #[.tmp 22, .tmp 23]) rfl ?_); at_builtin; refine Kd.R_append_rows (Kd.int .i64) (w0 := w) w.heap.size rfl (.tmp 22) (.tmp 23) 22 2 (.int .i64 0) 8 rfl Try.underlying22 info2 rfl (by decide) (by omega) v242 y241 l1 _ _ _ (fun _ => True) (fun _ => False) rfl rfl ?aO ?aR (fun _ _ h => h) (fun _ h => h.elim) ?aF ?aB ?aS ?aL ?_; (case aR => repeat (first | exact (Kd.C_below HR1.out HB.out) | (with_reducible refine Kd.C_alloc ?_ _) | (with_reducible refine Kd.C_drewN ?_ _) | (with_reducible refine Kd.C_drew ?_))); (case aB => exact (by repeat (first | (with_reducible first | exact HB.out | apply below_alloc | apply pw_below_drewN | apply below_drew1) | exact HB.out))); (case aF => exact (fun _ _ => trivial)); (case aO => exact (by (with_reducible repeat (first | apply Kd.R_alloc | apply Kd.R_drewN | apply Kd.R_drew)); exact HO243.out)); (case aS => exact (below_size (by repeat (first | (with_reducible first | exact HB.out | apply below_alloc | apply pw_below_drewN | apply below_drew1) | exact HB.out)))); (case aL => have := LMc6.out; omega); intro v245 w63 ho hb hg hat; rw [← Ny244.out] at ho; have n0_ := Aside0.mk (hb); have n1_ := Aside0.mk (ho); clear HB; clear HO243; have HB := n0_; have HO246 := n1_; clear n0_ n1_; clear ho hb hg hat; obtain ⟨Ao64, co64, eo64⟩ := Kd.R_slice HO246.out; subst eo64) | (go_at_call 9; (with_reducible refine (share_Split.calls k a0 _ _ y244 t247 t248 _ ?side1 ?side2 A7.out).mono ?_); (case side1 => repeat (first | exact (Kd.R_reads' HO246.out).2.2 | (with_reducible refine Kd.C_alloc ?_ _) | (with_reducible refine Kd.C_drewN ?_ _) | (with_reducible refine Kd.C_drew ?_))); (case side2 => exact (Kd.R_reads' HO246.out).2.1); rintro e w65 ⟨v249, rfl, ho0, hb⟩; have n0_ := Aside0.mk (Kd.R_elder' (by (with_reducible repeat (first | apply Kd.R_alloc | apply Kd.R_drewN | apply Kd.R_drew)); exact HO246.out) (Kd.R_base ho0) hb); have n1_ := Aside0.mk (Kd.R_lower (Kd.R_new' ho0 (Kd.R_lt (by (with_reducible repeat (first | apply Kd.R_alloc | apply Kd.R_drewN | apply Kd.R_drew)); exact HO246.out))) (below_size (by repeat (first | (with_reducible first | exact HB.out | apply below_alloc | apply pw_below_drewN | apply below_drew1) | exact HB.out)))); have n2_ := Aside0.mk (below_step (by repeat (first | (with_reducible first | exact HB.out | apply below_alloc | apply pw_below_drewN | apply below_drew1) | exact HB.out)) hb); clear HO246; clear HB; have HO246 := n0_; have HO250 := n1_; have HB := n2_; clear n0_ n1_ n2_; (try clear hb); (try clear hb2); (try clear hk); (try clear hi); (try clear ho0); obtain ⟨Ao66, co66, eo66⟩ := Kd.R_slice HO250.out; subst eo66) | (go_at_call 8; (with_reducible refine (annuitylaw02_wakes.calls k  t251 _ A60.out).mono ?_); rintro e w67 ⟨rfl, hb⟩; have n0_ := Aside0.mk (Kd.R_below (by (with_reducible repeat (first | apply Kd.R_alloc | apply Kd.R_drewN | apply Kd.R_drew)); exact HO246.out) hb); have n1_ := Aside0.mk (Kd.R_below (by (with_reducible repeat (first | apply Kd.R_alloc | apply Kd.R_drewN | apply Kd.R_drew)); exact HO250.out) hb); have n2_ := Aside0.mk (below_step (by repeat (first | (with_reducible first | exact HB.out | apply below_alloc | apply pw_below_drewN | apply below_drew1) | exact HB.out)) hb); clear HO246; clear HO250; clear HB; have HO246 := n0_; have HO250 := n1_; have HB := n2_; clear n0_ n1_ n2_; (try clear hb); (try clear hb2); (try clear hk); (try clear hi)))
          try (go_quiet (fail); try go_wp2)
          go_ret
          exact ⟨by first | rfl | (simp [i64_w, i32_w, errW_none, errW_some]; done) | (simp [errW_none, errW_some] <;> rfl) | (simp [*, errW_none, errW_some] <;> rfl), by repeat (first | (with_reducible first | exact HB.out | apply below_alloc | apply pw_below_drewN | apply below_drew1) | exact HB.out)⟩
        · rw [if_neg c59] at H
          exact absurd H (by simp)
    · rw [if_neg c6] at H
      exact absurd H (by simp)

/-- THE ONE PURE STATEMENT of annuitylaw02_ShareFair: yours. -/
def annuitylaw02_ShareFair.Pure : Prop := ∀ (a0 : Int) (l1 : List Int), (Lit.int .i64 a0).wf = true → l1.length ≤ maxLen → l1.length * 8 ≤ 140737488351232 → (∀ x ∈ l1, (Lit.int .i64 x).wf = true) → ∃ k, annuitylaw02_ShareFair.f k a0 l1 = some true
theorem annuitylaw02_ShareFair.walk (P : annuitylaw02_ShareFair.Pure) (a0 : Int) (a1 : Option Addr) (len1 cap1 : Nat) (z1 : List Int) (w : World) (w0 : (Lit.int .i64 a0).wf = true) (w1 : (a1 = none ∧ len1 = 0 ∧ cap1 = 0 ∧ z1 = []) ∨ ∃ x, a1 = some x ∧ len1 ≤ cap1 ∧ cap1 ≤ maxLen ∧ z1.length = cap1 ∧ (∀ i, i < z1.length → w.cell? (x.add i) = some (.int .i64 (z1.getD i 0))) ∧ ∀ n ∈ z1, (Lit.int .i64 n).wf = true) (y1 : len1 * 8 ≤ 140737488351232) :
    Calls Try.prog 5 #[.int .i64 a0, .slice a1 len1 cap1] w fun e w' => e = .returned (.bool true) ∧ Below w.heap.size w w' := by
  obtain ⟨l1, rfl, hr1, hm1, hw1, hc1⟩ := ReadsInt.ofRowC w1
  obtain ⟨k, h⟩ := P a0 l1 w0 hm1 y1 hw1
  refine (annuitylaw02_ShareFair.calls k a0 _ _ l1 true w (Kd.C_of_reads (d := (0 : Int)) (h1 := fun _ => rfl) hr1) hc1 h).mono ?_
  rintro e w' ⟨rfl, hd⟩
  exact ⟨rfl, hd⟩

end Go.Proofs.Ytpbonoecjlafcaa.P
