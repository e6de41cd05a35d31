/- Functions of the program as plain Lean functions, and proofs that its calls come to just their answers, where they tell one (written by a program of this session). -/
import Derived.Test.YtakcepffodipfaaZaa
import Derived.Test.YtakcepffodipfaaPx0
import Derived.Test.YtakcepffodipfaaPx27
namespace Go.Proofs.Ytakcepffodipfaa.P
open Go.RowKit Go.Proofs.YtakcepffodipfaaW.PrintWords Go.Proofs.YtakcepffodipfaaW.PrintLast Go.Proofs.YtakcepffodipfaaW.PrintMore
attribute [local go_sem] max2_int min2_int max_two min_two max_three min_three max_four min_four   -- for this text's walks alone
set_option linter.unusedVariables false
set_option linter.unusedSimpArgs false

/-! ### annuitykeep_Loans: function 15 -/
def annuitykeep_Loans.l0 : Nat → List (S31) → List (S31) → Int → Option (Bool)
 | 0, _, _, _ => none
 | k + 1, x0, x1, x5 => if x5 < (x0.length : Int) then (if 0 ≤ x5 then (if x5 < (x1.length : Int) then ((annuitykeep_Loan.f ((rd_T31 x0 x5).f0) ((rd_T31 x0 x5).f1) ((rd_T31 x0 x5).f2) ((rd_T31 x0 x5).f3) ((rd_T31 x0 x5).f4) ((rd_T31 x0 x5).f5) ((rd_T31 x0 x5).f6) ((rd_T31 x0 x5).f7) ((rd_T31 x0 x5).f8) ((rd_T31 x0 x5).f9) ((rd_T31 x0 x5).f10) ((rd_T31 x0 x5).f11) ((rd_T31 x0 x5).f12) ((rd_T31 x1 x5).f0) ((rd_T31 x1 x5).f1) ((rd_T31 x1 x5).f2) ((rd_T31 x1 x5).f3) ((rd_T31 x1 x5).f4) ((rd_T31 x1 x5).f5) ((rd_T31 x1 x5).f6) ((rd_T31 x1 x5).f7) ((rd_T31 x1 x5).f8) ((rd_T31 x1 x5).f9) ((rd_T31 x1 x5).f10) ((rd_T31 x1 x5).f11) ((rd_T31 x1 x5).f12)).bind fun t356 => (if t356 = true then (annuitykeep_Loans.l0 k x0 x1 (wrap64 (x5 + 1))) else (some false))) else (none)) else (none)) else (some true)
def annuitykeep_Loans.f (k : Nat) (l0 : List (S31)) (l1 : List (S31)) : Option (Bool) := if (l0.length : Int) = (l1.length : Int) then (annuitykeep_Loans.l0 k l0 l1 0) else (some false)
def annuitykeep_Loans.T6 : Bool × List (List Nat × List Nat) := (true, [([], []), ([], []), ([0, 1], [0, 1]), ([2], [2]), ([], []), ([], []), ([4, 5], [4, 5]), ([6], [6]), ([3, 7], [3, 7]), ([8], [8])])
def annuitykeep_Loans.B6 : List Nat := [0, 0, 3, 7, 0, 0, 48, 112, 255, 511]
theorem annuitykeep_Loans.tab6 : rtab .any (opsOf Try.f15 6) = annuitykeep_Loans.T6 := by kernel_rfl
theorem annuitykeep_Loans.bits6 : waitsOk annuitykeep_Loans.T6.2 annuitykeep_Loans.B6 = true := by kernel_rfl
set_option maxHeartbeats 8000000 in
set_option maxRecDepth 100000 in
theorem annuitykeep_Loans.calls (k : Nat) (A0 : Option Addr) (c0 : Nat) (l0 : List (S31)) (A1 : Option Addr) (c1 : Nat) (l1 : List (S31)) (r : Bool) (w : World) (hr0 : Kd.C k31 w A0 l0.length l0) (hc0 : l0.length ≤ c0) (hr1 : Kd.C k31 w A1 l1.length l1) (hc1 : l1.length ≤ c1) (h : annuitykeep_Loans.f k l0 l1 = some r) :
  Calls Try.prog 15 #[.slice A0 l0.length c0, .slice A1 l1.length c1] w fun e w' => e = .returned (.bool r) ∧ Below w.heap.size w w' := by
 have hu31 := Try.underlying31
 have HR0 := Aside0.mk hr0
 have HC0 := Aside0.mk hc0
 clear hr0 hc0
 have HR1 := Aside0.mk hr1
 have HC1 := Aside0.mk hc1
 clear hr1 hc1
 have HB := Aside0.mk (Below.refl w.heap.size w)
 have H : (if (l0.length : Int) = (l1.length : Int) then (annuitykeep_Loans.l0 k l0 l1 0) else (some false)) = some r := h
 clear h
 by_cases c3 : (l0.length : Int) = (l1.length : Int)
 ·rw [if_pos c3] at H
  have c3b0 : ((l0.length : Int) == (l1.length : Int)) = true := beq_iff_eq.mpr c3
  have c3b1 : ((l0.length : Int) != (l1.length : Int)) = false := bne_eq_false_iff_eq.mpr c3
  have c3b2 : (l0.length == l1.length) = true := by first | simpa using c3 | (simp at c3 ⊢; omega)
  clear c3
  have H' := Aside0.mk H
  clear H
  go_enter Try.func15, Try.ntmps15
  go_wp2
  go_loopg [5] k (fun kq v5 w' => ∃ (x5_1 : Int), v5 = .int .i64 x5_1 ∧ Aside0 (annuitykeep_Loans.l0 kq l0 l1 x5_1 = some r) ∧ Aside0 (kq ≤ k) ∧ Aside0 (Below w.heap.size w w'))
  case atStart => exact ⟨(0), (by first | rfl | (simp; done) | (simp [*]; done)), H', ⟨Nat.le_refl _⟩, ⟨by exact h0q HB.out⟩⟩
  case round =>
   clear H'
   try clear c1
   try clear c3
   try clear c3b0 c3b1
   try clear c3b2
   obtain ⟨x5_1, rfl, HA, HK1, HB⟩ := hrel
   rcases gk with _ | k1
   ·exact absurd HA.out (by simp [annuitykeep_Loans.l0])
   have H := HA.out
   clear HA
   simp only [annuitykeep_Loans.l0] at H
   by_cases c4 : x5_1 < (l0.length : Int)
   ·rw [if_pos c4] at H
    have c4b0 : decide (x5_1 < (l0.length : Int)) = true := decide_eq_true c4
    clear c4
    by_cases c5 : 0 ≤ x5_1
    ·rw [if_pos c5] at H
     have c5b0 : decide (0 ≤ x5_1) = true := decide_eq_true c5
     clear c5
     by_cases c6 : x5_1 < (l1.length : Int)
     ·rw [if_pos c6] at H
      have c6b0 : decide (x5_1 < (l1.length : Int)) = true := decide_eq_true c6
      clear c6
      replace H := Option.bind_eq_some_iff.mp H
      obtain ⟨t356, A70, H⟩ := H
      replace H : (if t356 = true then (annuitykeep_Loans.l0 k1 l0 l1 (wrap64 (x5_1 + 1))) else (some false)) = some r := H
      have A7 := Aside0.mk A70
      clear A70
      by_cases c8 : t356 = true
      ·subst c8
       have H1 : (annuitykeep_Loans.l0 k1 l0 l1 (wrap64 (x5_1 + 1))) = some r := by rw [if_pos rfl] at H; exact H
       clear H
       have H := H1
       clear H1
       have H' := Aside0.mk H
       clear H
       try go_wp2
       have n0_ := Aside0.mk (below_drew1 HB.out)
       clear HB
       have HB := n0_
       clear n0_
       have p354 : 0 ≤ (x5_1 : Int) := yd
       have q354 : x5_1 < (l0.length : Int) := yd
       obtain ⟨ad354, e354, hx354_0, hx354_1, hx354_2, hx354_3, hx354_4, hx354_5, hx354_6, hx354_7, hx354_8, hx354_9, hx354_10, hx354_11, hx354_12⟩ := at_T31 HR0.out x5_1 p354 q354
       have hw354_12 := hx354_12
       have hw354_11 := hx354_11
       have hw354_10 := hx354_10
       have hw354_9 := hx354_9
       have hw354_8 := hx354_8
       have hw354_7 := hx354_7
       have hw354_6 := hx354_6
       have hw354_5 := hx354_5
       have hw354_4 := hx354_4
       have hw354_3 := hx354_3
       have hw354_2 := hx354_2
       have hw354_1 := hx354_1
       have hw354_0 := hx354_0
       cases e354
       replace hx354_0 := hxb HB.out hx354_0
       replace hx354_1 := hxb HB.out hx354_1
       replace hx354_2 := hxb HB.out hx354_2
       replace hx354_3 := hxb HB.out hx354_3
       replace hx354_4 := hxb HB.out hx354_4
       replace hx354_5 := hxb HB.out hx354_5
       replace hx354_6 := hxb HB.out hx354_6
       replace hx354_7 := hxb HB.out hx354_7
       replace hx354_8 := hxb HB.out hx354_8
       replace hx354_9 := hxb HB.out hx354_9
       replace hx354_10 := hxb HB.out hx354_10
       replace hx354_11 := hxb HB.out hx354_11
       replace hx354_12 := hxb HB.out hx354_12
       replace p354 := eq_true p354
       replace q354 := eq_true q354
       have p355 : 0 ≤ (x5_1 : Int) := yd
       have q355 : x5_1 < (l1.length : Int) := yd
       obtain ⟨ad355, e355, hx355_0, hx355_1, hx355_2, hx355_3, hx355_4, hx355_5, hx355_6, hx355_7, hx355_8, hx355_9, hx355_10, hx355_11, hx355_12⟩ := at_T31 HR1.out x5_1 p355 q355
       have hw355_12 := hx355_12
       have hw355_11 := hx355_11
       have hw355_10 := hx355_10
       have hw355_9 := hx355_9
       have hw355_8 := hx355_8
       have hw355_7 := hx355_7
       have hw355_6 := hx355_6
       have hw355_5 := hx355_5
       have hw355_4 := hx355_4
       have hw355_3 := hx355_3
       have hw355_2 := hx355_2
       have hw355_1 := hx355_1
       have hw355_0 := hx355_0
       cases e355
       replace hx355_0 := hxb HB.out hx355_0
       replace hx355_1 := hxb HB.out hx355_1
       replace hx355_2 := hxb HB.out hx355_2
       replace hx355_3 := hxb HB.out hx355_3
       replace hx355_4 := hxb HB.out hx355_4
       replace hx355_5 := hxb HB.out hx355_5
       replace hx355_6 := hxb HB.out hx355_6
       replace hx355_7 := hxb HB.out hx355_7
       replace hx355_8 := hxb HB.out hx355_8
       replace hx355_9 := hxb HB.out hx355_9
       replace hx355_10 := hxb HB.out hx355_10
       replace hx355_11 := hxb HB.out hx355_11
       replace hx355_12 := hxb HB.out hx355_12
       replace p355 := eq_true p355
       replace q355 := eq_true q355
       refine start_ (n := 10) (S := fun w' => w'.cell? (ad354.add ((x5_1).toNat * 13)) = some (.int .i64 ((rd_T31 l0 x5_1).f0)) ∧ w'.cell? ⟨(ad354.add ((x5_1).toNat * 13)).block, (ad354.add ((x5_1).toNat * 13)).off + 1, none⟩ = some (.int .i64 ((rd_T31 l0 x5_1).f1)) ∧ w'.cell? ⟨(ad354.add ((x5_1).toNat * 13)).block, (ad354.add ((x5_1).toNat * 13)).off + 2, none⟩ = some (.int .i64 ((rd_T31 l0 x5_1).f2)) ∧ w'.cell? ⟨(ad354.add ((x5_1).toNat * 13)).block, (ad354.add ((x5_1).toNat * 13)).off + 3, none⟩ = some (.int .i64 ((rd_T31 l0 x5_1).f3)) ∧ w'.cell? ⟨(ad354.add ((x5_1).toNat * 13)).block, (ad354.add ((x5_1).toNat * 13)).off + 4, none⟩ = some (.int .i64 ((rd_T31 l0 x5_1).f4)) ∧ w'.cell? ⟨(ad354.add ((x5_1).toNat * 13)).block, (ad354.add ((x5_1).toNat * 13)).off + 5, none⟩ = some (.int .i64 ((rd_T31 l0 x5_1).f5)) ∧ w'.cell? ⟨(ad354.add ((x5_1).toNat * 13)).block, (ad354.add ((x5_1).toNat * 13)).off + 6, none⟩ = some (.bool ((rd_T31 l0 x5_1).f6)) ∧ w'.cell? ⟨(ad354.add ((x5_1).toNat * 13)).block, (ad354.add ((x5_1).toNat * 13)).off + 7, none⟩ = some (.int .i64 ((rd_T31 l0 x5_1).f7)) ∧ w'.cell? ⟨(ad354.add ((x5_1).toNat * 13)).block, (ad354.add ((x5_1).toNat * 13)).off + 8, none⟩ = some (.int .i64 ((rd_T31 l0 x5_1).f8)) ∧ w'.cell? ⟨(ad354.add ((x5_1).toNat * 13)).block, (ad354.add ((x5_1).toNat * 13)).off + 9, none⟩ = some (.int .i64 ((rd_T31 l0 x5_1).f9)) ∧ w'.cell? ⟨(ad354.add ((x5_1).toNat * 13)).block, (ad354.add ((x5_1).toNat * 13)).off + 10, none⟩ = some (.int .i64 ((rd_T31 l0 x5_1).f10)) ∧ w'.cell? ⟨(ad354.add ((x5_1).toNat * 13)).block, (ad354.add ((x5_1).toNat * 13)).off + 11, none⟩ = some (.int .i64 ((rd_T31 l0 x5_1).f11)) ∧ w'.cell? ⟨(ad354.add ((x5_1).toNat * 13)).block, (ad354.add ((x5_1).toNat * 13)).off + 12, none⟩ = some (.int .i64 ((rd_T31 l0 x5_1).f12)) ∧ w'.cell? (ad355.add ((x5_1).toNat * 13)) = some (.int .i64 ((rd_T31 l1 x5_1).f0)) ∧ w'.cell? ⟨(ad355.add ((x5_1).toNat * 13)).block, (ad355.add ((x5_1).toNat * 13)).off + 1, none⟩ = some (.int .i64 ((rd_T31 l1 x5_1).f1)) ∧ w'.cell? ⟨(ad355.add ((x5_1).toNat * 13)).block, (ad355.add ((x5_1).toNat * 13)).off + 2, none⟩ = some (.int .i64 ((rd_T31 l1 x5_1).f2)) ∧ w'.cell? ⟨(ad355.add ((x5_1).toNat * 13)).block, (ad355.add ((x5_1).toNat * 13)).off + 3, none⟩ = some (.int .i64 ((rd_T31 l1 x5_1).f3)) ∧ w'.cell? ⟨(ad355.add ((x5_1).toNat * 13)).block, (ad355.add ((x5_1).toNat * 13)).off + 4, none⟩ = some (.int .i64 ((rd_T31 l1 x5_1).f4)) ∧ w'.cell? ⟨(ad355.add ((x5_1).toNat * 13)).block, (ad355.add ((x5_1).toNat * 13)).off + 5, none⟩ = some (.int .i64 ((rd_T31 l1 x5_1).f5)) ∧ w'.cell? ⟨(ad355.add ((x5_1).toNat * 13)).block, (ad355.add ((x5_1).toNat * 13)).off + 6, none⟩ = some (.bool ((rd_T31 l1 x5_1).f6)) ∧ w'.cell? ⟨(ad355.add ((x5_1).toNat * 13)).block, (ad355.add ((x5_1).toNat * 13)).off + 7, none⟩ = some (.int .i64 ((rd_T31 l1 x5_1).f7)) ∧ w'.cell? ⟨(ad355.add ((x5_1).toNat * 13)).block, (ad355.add ((x5_1).toNat * 13)).off + 8, none⟩ = some (.int .i64 ((rd_T31 l1 x5_1).f8)) ∧ w'.cell? ⟨(ad355.add ((x5_1).toNat * 13)).block, (ad355.add ((x5_1).toNat * 13)).off + 9, none⟩ = some (.int .i64 ((rd_T31 l1 x5_1).f9)) ∧ w'.cell? ⟨(ad355.add ((x5_1).toNat * 13)).block, (ad355.add ((x5_1).toNat * 13)).off + 10, none⟩ = some (.int .i64 ((rd_T31 l1 x5_1).f10)) ∧ w'.cell? ⟨(ad355.add ((x5_1).toNat * 13)).block, (ad355.add ((x5_1).toNat * 13)).off + 11, none⟩ = some (.int .i64 ((rd_T31 l1 x5_1).f11)) ∧ w'.cell? ⟨(ad355.add ((x5_1).toNat * 13)).block, (ad355.add ((x5_1).toNat * 13)).off + 12, none⟩ = some (.int .i64 ((rd_T31 l1 x5_1).f12))) (ds := []) #[false, false, false, false, false, false, false, false, false, false] (by kernel_rfl) rfl rfl ⟨(hxb HB.out hw354_0), (hxb HB.out hw354_1), (hxb HB.out hw354_2), (hxb HB.out hw354_3), (hxb HB.out hw354_4), (hxb HB.out hw354_5), (hxb HB.out hw354_6), (hxb HB.out hw354_7), (hxb HB.out hw354_8), (hxb HB.out hw354_9), (hxb HB.out hw354_10), (hxb HB.out hw354_11), (hxb HB.out hw354_12), (hxb HB.out hw355_0), (hxb HB.out hw355_1), (hxb HB.out hw355_2), (hxb HB.out hw355_3), (hxb HB.out hw355_4), (hxb HB.out hw355_5), (hxb HB.out hw355_6), (hxb HB.out hw355_7), (hxb HB.out hw355_8), (hxb HB.out hw355_9), (hxb HB.out hw355_10), (hxb HB.out hw355_11), (hxb HB.out hw355_12)⟩ (fun hHeld => ?_); refine with_tabW annuitykeep_Loans.tab6 annuitykeep_Loans.bits6 (fun HT_ HW_ => ?_)
       generalize wr.drew = w9 at HB hx354_0 hx354_1 hx354_10 hx354_11 hx354_12 hx354_2 hx354_3 hx354_4 hx354_5 hx354_6 hx354_7 hx354_8 hx354_9 hx355_0 hx355_1 hx355_10 hx355_11 hx355_12 hx355_2 hx355_3 hx355_4 hx355_5 hx355_6 hx355_7 hx355_8 hx355_9 hHeld ⊢
       refine pure_ (i := 0) (N := some 17) (v := ?_) (a' := ?_) #[true, false, false, false, false, false, false, false, false, false] rfl rfl (any_of HT_.out (by kernel_rfl)) (fun _ _ _ h => h) (Or.inl ⟨by rfl, ?_⟩) ?_ ?_
       rotate_left
       ·intro w'
        go_simp
        with_reducible rfl
       rotate_left
       ·simp only [Act.put, List.setIfInBounds_toArray, List.set_cons_zero, List.set_cons_succ, i64_w, i32_w]
        rfl
       refine pure_ (i := 1) (N := some 18) (v := ?_) (a' := ?_) #[true, true, false, false, false, false, false, false, false, false] rfl rfl (any_of HT_.out (by kernel_rfl)) (fun _ _ _ h => h) (Or.inl ⟨by rfl, ?_⟩) ?_ ?_
       rotate_left
       ·intro w'
        go_simp
        with_reducible rfl
       rotate_left
       ·simp only [Act.put, List.setIfInBounds_toArray, List.set_cons_zero, List.set_cons_succ, i64_w, i32_w]
        rfl
       refine pure_ (i := 2) (N := some 19) (v := ?_) (a' := ?_) #[true, true, true, false, false, false, false, false, false, false] rfl rfl (any_of HT_.out (by kernel_rfl)) (fun _ _ _ h => h) (Or.inl ⟨by rfl, ?_⟩) ?_ ?_
       rotate_left
       ·intro w'
        go_simp
        with_reducible rfl
       rotate_left
       ·simp only [Act.put, List.setIfInBounds_toArray, List.set_cons_zero, List.set_cons_succ, i64_w, i32_w]
        rfl
       refine pure_ (i := 4) (N := some 21) (v := ?_) (a' := ?_) #[true, true, true, false, true, false, false, false, false, false] rfl rfl (any_of HT_.out (by kernel_rfl)) (fun _ _ _ h => h) (Or.inl ⟨by rfl, ?_⟩) ?_ ?_
       rotate_left
       ·intro w'
        go_simp
        with_reducible rfl
       rotate_left
       ·simp only [Act.put, List.setIfInBounds_toArray, List.set_cons_zero, List.set_cons_succ, i64_w, i32_w]
        rfl
       refine pure_ (i := 5) (N := some 22) (v := ?_) (a' := ?_) #[true, true, true, false, true, true, false, false, false, false] rfl rfl (any_of HT_.out (by kernel_rfl)) (fun _ _ _ h => h) (Or.inl ⟨by rfl, ?_⟩) ?_ ?_
       rotate_left
       ·intro w'
        go_simp
        with_reducible rfl
       rotate_left
       ·simp only [Act.put, List.setIfInBounds_toArray, List.set_cons_zero, List.set_cons_succ, i64_w, i32_w]
        rfl
       refine pure_ (i := 6) (N := some 23) (v := ?_) (a' := ?_) #[true, true, true, false, true, true, true, false, false, false] rfl rfl (any_of HT_.out (by kernel_rfl)) (fun _ _ _ h => h) (Or.inl ⟨by rfl, ?_⟩) ?_ ?_
       rotate_left
       ·intro w'
        go_simp
        with_reducible rfl
       rotate_left
       ·simp only [Act.put, List.setIfInBounds_toArray, List.set_cons_zero, List.set_cons_succ, i64_w, i32_w]
        rfl
       refine take_ (i := 3) (N := some 20) (v := ?_) (a' := ?_) #[true, true, true, true, true, true, true, false, false, false] rfl rfl (take_ofW HT_.out HW_.out (by kernel_rfl)) (fun _ _ _ h => h) (Or.inl ⟨by rfl, ?_⟩) hHeld ?_ ?_
       rotate_left
       ·rintro w' ⟨s0, s1, s2, s3, s4, s5, s6, s7, s8, s9, s10, s11, s12, s13, s14, s15, s16, s17, s18, s19, s20, s21, s22, s23, s24, s25⟩
        go_simp
        with_reducible rfl
       rotate_left
       ·simp only [Act.put, List.setIfInBounds_toArray, List.set_cons_zero, List.set_cons_succ, i64_w, i32_w]
        rfl
       refine take_ (i := 7) (N := some 24) (v := ?_) (a' := ?_) #[true, true, true, true, true, true, true, true, false, false] rfl rfl (take_ofW HT_.out HW_.out (by kernel_rfl)) (fun _ _ _ h => h) (Or.inl ⟨by rfl, ?_⟩) hHeld ?_ ?_
       rotate_left
       ·rintro w' ⟨s0, s1, s2, s3, s4, s5, s6, s7, s8, s9, s10, s11, s12, s13, s14, s15, s16, s17, s18, s19, s20, s21, s22, s23, s24, s25⟩
        go_simp
        with_reducible rfl
       rotate_left
       ·simp only [Act.put, List.setIfInBounds_toArray, List.set_cons_zero, List.set_cons_succ, i64_w, i32_w]
        rfl
       refine one_ (i := 8) (N := some 25) #[true, true, true, true, true, true, true, true, true, false] rfl rfl (one_of HT_.out (by kernel_rfl)) (by decide) (fun K hK => ?_)
       refine goes_ Try.func14 (by kernel_rfl) rfl #[.agg #[.int .i64 ((rd_T31 l0 x5_1).f0), .int .i64 ((rd_T31 l0 x5_1).f1), .int .i64 ((rd_T31 l0 x5_1).f2), .int .i64 ((rd_T31 l0 x5_1).f3), .int .i64 ((rd_T31 l0 x5_1).f4), .int .i64 ((rd_T31 l0 x5_1).f5), .bool ((rd_T31 l0 x5_1).f6), .int .i64 ((rd_T31 l0 x5_1).f7), .int .i64 ((rd_T31 l0 x5_1).f8), .int .i64 ((rd_T31 l0 x5_1).f9), .int .i64 ((rd_T31 l0 x5_1).f10), .int .i64 ((rd_T31 l0 x5_1).f11), .int .i64 ((rd_T31 l0 x5_1).f12)], .agg #[.int .i64 ((rd_T31 l1 x5_1).f0), .int .i64 ((rd_T31 l1 x5_1).f1), .int .i64 ((rd_T31 l1 x5_1).f2), .int .i64 ((rd_T31 l1 x5_1).f3), .int .i64 ((rd_T31 l1 x5_1).f4), .int .i64 ((rd_T31 l1 x5_1).f5), .bool ((rd_T31 l1 x5_1).f6), .int .i64 ((rd_T31 l1 x5_1).f7), .int .i64 ((rd_T31 l1 x5_1).f8), .int .i64 ((rd_T31 l1 x5_1).f9), .int .i64 ((rd_T31 l1 x5_1).f10), .int .i64 ((rd_T31 l1 x5_1).f11), .int .i64 ((rd_T31 l1 x5_1).f12)]] (by rfl) rfl rfl (by (try simp only [List.map_toArray, List.map_cons, List.map_nil]); first | done | rfl | (simp only [List.length_drop, List.length_take]; rfl)) ?_
       with_reducible refine (annuitykeep_Loan.calls ((rd_T31 l0 x5_1).f0) ((rd_T31 l0 x5_1).f1) ((rd_T31 l0 x5_1).f2) ((rd_T31 l0 x5_1).f3) ((rd_T31 l0 x5_1).f4) ((rd_T31 l0 x5_1).f5) ((rd_T31 l0 x5_1).f6) ((rd_T31 l0 x5_1).f7) ((rd_T31 l0 x5_1).f8) ((rd_T31 l0 x5_1).f9) ((rd_T31 l0 x5_1).f10) ((rd_T31 l0 x5_1).f11) ((rd_T31 l0 x5_1).f12) ((rd_T31 l1 x5_1).f0) ((rd_T31 l1 x5_1).f1) ((rd_T31 l1 x5_1).f2) ((rd_T31 l1 x5_1).f3) ((rd_T31 l1 x5_1).f4) ((rd_T31 l1 x5_1).f5) ((rd_T31 l1 x5_1).f6) ((rd_T31 l1 x5_1).f7) ((rd_T31 l1 x5_1).f8) ((rd_T31 l1 x5_1).f9) ((rd_T31 l1 x5_1).f10) ((rd_T31 l1 x5_1).f11) ((rd_T31 l1 x5_1).f12) true _ A7.out).mono ?_
       rintro e w10 ⟨rfl, hb⟩
       refine ⟨_, rfl, ?_⟩
       have n0_ := Aside0.mk (below_step (by exact h0q HB.out) hb)
       clear HB
       have HB := n0_
       clear n0_
       (try clear hb)
       (try clear hb2)
       (try clear hk)
       (try clear hi)
       refine hK.out _ _ ⟨(hxb HB.out hw354_0), (hxb HB.out hw354_1), (hxb HB.out hw354_2), (hxb HB.out hw354_3), (hxb HB.out hw354_4), (hxb HB.out hw354_5), (hxb HB.out hw354_6), (hxb HB.out hw354_7), (hxb HB.out hw354_8), (hxb HB.out hw354_9), (hxb HB.out hw354_10), (hxb HB.out hw354_11), (hxb HB.out hw354_12), (hxb HB.out hw355_0), (hxb HB.out hw355_1), (hxb HB.out hw355_2), (hxb HB.out hw355_3), (hxb HB.out hw355_4), (hxb HB.out hw355_5), (hxb HB.out hw355_6), (hxb HB.out hw355_7), (hxb HB.out hw355_8), (hxb HB.out hw355_9), (hxb HB.out hw355_10), (hxb HB.out hw355_11), (hxb HB.out hw355_12)⟩ (fun hHeld => ?_)
       clear hK K
       refine norm_ (a' := ?_) ?_ ?_
       rotate_left
       ·show Act.put _ (some 25) _ = _
        simp only [Act.put, List.setIfInBounds_toArray, List.set_cons_zero, List.set_cons_succ, i64_w, i32_w]
        rfl
       refine pure_ (i := 9) (N := some 26) (v := ?_) (a' := ?_) #[true, true, true, true, true, true, true, true, true, true] rfl rfl (any_of HT_.out (by kernel_rfl)) (fun _ _ _ h => h) (Or.inl ⟨by rfl, ?_⟩) ?_ ?_
       rotate_left
       ·intro w'
        go_simp
        with_reducible rfl
       rotate_left
       ·simp only [Act.put, List.setIfInBounds_toArray, List.set_cons_zero, List.set_cons_succ, i64_w, i32_w]
        rfl
       refine done_ (done_of HT_.out (by kernel_rfl)) ?_
       try go_wp2
       go_roundg k1
       case measure => have := HK1.out; omega
       case rel => exact ⟨(wrap64 (x5_1 + 1)), (by first | rfl | (simp; done) | (simp [*]; done)), H', ⟨by have := HK1.out; omega⟩, ⟨by exact h0q HB.out⟩⟩
      ·replace c8 := Bool.eq_false_iff.mpr c8
       subst c8
       have H1 : (some false) = some r := by rw [if_neg (show ¬ (false = true) by decide)] at H; exact H
       clear H
       have H := H1
       clear H1
       obtain rfl := Option.some.inj H
       try go_wp2
       have n0_ := Aside0.mk (below_drew1 HB.out)
       clear HB
       have HB := n0_
       clear n0_
       have p354 : 0 ≤ (x5_1 : Int) := yd
       have q354 : x5_1 < (l0.length : Int) := yd
       obtain ⟨ad354, e354, hx354_0, hx354_1, hx354_2, hx354_3, hx354_4, hx354_5, hx354_6, hx354_7, hx354_8, hx354_9, hx354_10, hx354_11, hx354_12⟩ := at_T31 HR0.out x5_1 p354 q354
       have hw354_12 := hx354_12
       have hw354_11 := hx354_11
       have hw354_10 := hx354_10
       have hw354_9 := hx354_9
       have hw354_8 := hx354_8
       have hw354_7 := hx354_7
       have hw354_6 := hx354_6
       have hw354_5 := hx354_5
       have hw354_4 := hx354_4
       have hw354_3 := hx354_3
       have hw354_2 := hx354_2
       have hw354_1 := hx354_1
       have hw354_0 := hx354_0
       cases e354
       replace hx354_0 := hxb HB.out hx354_0
       replace hx354_1 := hxb HB.out hx354_1
       replace hx354_2 := hxb HB.out hx354_2
       replace hx354_3 := hxb HB.out hx354_3
       replace hx354_4 := hxb HB.out hx354_4
       replace hx354_5 := hxb HB.out hx354_5
       replace hx354_6 := hxb HB.out hx354_6
       replace hx354_7 := hxb HB.out hx354_7
       replace hx354_8 := hxb HB.out hx354_8
       replace hx354_9 := hxb HB.out hx354_9
       replace hx354_10 := hxb HB.out hx354_10
       replace hx354_11 := hxb HB.out hx354_11
       replace hx354_12 := hxb HB.out hx354_12
       replace p354 := eq_true p354
       replace q354 := eq_true q354
       have p355 : 0 ≤ (x5_1 : Int) := yd
       have q355 : x5_1 < (l1.length : Int) := yd
       obtain ⟨ad355, e355, hx355_0, hx355_1, hx355_2, hx355_3, hx355_4, hx355_5, hx355_6, hx355_7, hx355_8, hx355_9, hx355_10, hx355_11, hx355_12⟩ := at_T31 HR1.out x5_1 p355 q355
       have hw355_12 := hx355_12
       have hw355_11 := hx355_11
       have hw355_10 := hx355_10
       have hw355_9 := hx355_9
       have hw355_8 := hx355_8
       have hw355_7 := hx355_7
       have hw355_6 := hx355_6
       have hw355_5 := hx355_5
       have hw355_4 := hx355_4
       have hw355_3 := hx355_3
       have hw355_2 := hx355_2
       have hw355_1 := hx355_1
       have hw355_0 := hx355_0
       cases e355
       replace hx355_0 := hxb HB.out hx355_0
       replace hx355_1 := hxb HB.out hx355_1
       replace hx355_2 := hxb HB.out hx355_2
       replace hx355_3 := hxb HB.out hx355_3
       replace hx355_4 := hxb HB.out hx355_4
       replace hx355_5 := hxb HB.out hx355_5
       replace hx355_6 := hxb HB.out hx355_6
       replace hx355_7 := hxb HB.out hx355_7
       replace hx355_8 := hxb HB.out hx355_8
       replace hx355_9 := hxb HB.out hx355_9
       replace hx355_10 := hxb HB.out hx355_10
       replace hx355_11 := hxb HB.out hx355_11
       replace hx355_12 := hxb HB.out hx355_12
       replace p355 := eq_true p355
       replace q355 := eq_true q355
       refine start_ (n := 10) (S := fun w' => w'.cell? (ad354.add ((x5_1).toNat * 13)) = some (.int .i64 ((rd_T31 l0 x5_1).f0)) ∧ w'.cell? ⟨(ad354.add ((x5_1).toNat * 13)).block, (ad354.add ((x5_1).toNat * 13)).off + 1, none⟩ = some (.int .i64 ((rd_T31 l0 x5_1).f1)) ∧ w'.cell? ⟨(ad354.add ((x5_1).toNat * 13)).block, (ad354.add ((x5_1).toNat * 13)).off + 2, none⟩ = some (.int .i64 ((rd_T31 l0 x5_1).f2)) ∧ w'.cell? ⟨(ad354.add ((x5_1).toNat * 13)).block, (ad354.add ((x5_1).toNat * 13)).off + 3, none⟩ = some (.int .i64 ((rd_T31 l0 x5_1).f3)) ∧ w'.cell? ⟨(ad354.add ((x5_1).toNat * 13)).block, (ad354.add ((x5_1).toNat * 13)).off + 4, none⟩ = some (.int .i64 ((rd_T31 l0 x5_1).f4)) ∧ w'.cell? ⟨(ad354.add ((x5_1).toNat * 13)).block, (ad354.add ((x5_1).toNat * 13)).off + 5, none⟩ = some (.int .i64 ((rd_T31 l0 x5_1).f5)) ∧ w'.cell? ⟨(ad354.add ((x5_1).toNat * 13)).block, (ad354.add ((x5_1).toNat * 13)).off + 6, none⟩ = some (.bool ((rd_T31 l0 x5_1).f6)) ∧ w'.cell? ⟨(ad354.add ((x5_1).toNat * 13)).block, (ad354.add ((x5_1).toNat * 13)).off + 7, none⟩ = some (.int .i64 ((rd_T31 l0 x5_1).f7)) ∧ w'.cell? ⟨(ad354.add ((x5_1).toNat * 13)).block, (ad354.add ((x5_1).toNat * 13)).off + 8, none⟩ = some (.int .i64 ((rd_T31 l0 x5_1).f8)) ∧ w'.cell? ⟨(ad354.add ((x5_1).toNat * 13)).block, (ad354.add ((x5_1).toNat * 13)).off + 9, none⟩ = some (.int .i64 ((rd_T31 l0 x5_1).f9)) ∧ w'.cell? ⟨(ad354.add ((x5_1).toNat * 13)).block, (ad354.add ((x5_1).toNat * 13)).off + 10, none⟩ = some (.int .i64 ((rd_T31 l0 x5_1).f10)) ∧ w'.cell? ⟨(ad354.add ((x5_1).toNat * 13)).block, (ad354.add ((x5_1).toNat * 13)).off + 11, none⟩ = some (.int .i64 ((rd_T31 l0 x5_1).f11)) ∧ w'.cell? ⟨(ad354.add ((x5_1).toNat * 13)).block, (ad354.add ((x5_1).toNat * 13)).off + 12, none⟩ = some (.int .i64 ((rd_T31 l0 x5_1).f12)) ∧ w'.cell? (ad355.add ((x5_1).toNat * 13)) = some (.int .i64 ((rd_T31 l1 x5_1).f0)) ∧ w'.cell? ⟨(ad355.add ((x5_1).toNat * 13)).block, (ad355.add ((x5_1).toNat * 13)).off + 1, none⟩ = some (.int .i64 ((rd_T31 l1 x5_1).f1)) ∧ w'.cell? ⟨(ad355.add ((x5_1).toNat * 13)).block, (ad355.add ((x5_1).toNat * 13)).off + 2, none⟩ = some (.int .i64 ((rd_T31 l1 x5_1).f2)) ∧ w'.cell? ⟨(ad355.add ((x5_1).toNat * 13)).block, (ad355.add ((x5_1).toNat * 13)).off + 3, none⟩ = some (.int .i64 ((rd_T31 l1 x5_1).f3)) ∧ w'.cell? ⟨(ad355.add ((x5_1).toNat * 13)).block, (ad355.add ((x5_1).toNat * 13)).off + 4, none⟩ = some (.int .i64 ((rd_T31 l1 x5_1).f4)) ∧ w'.cell? ⟨(ad355.add ((x5_1).toNat * 13)).block, (ad355.add ((x5_1).toNat * 13)).off + 5, none⟩ = some (.int .i64 ((rd_T31 l1 x5_1).f5)) ∧ w'.cell? ⟨(ad355.add ((x5_1).toNat * 13)).block, (ad355.add ((x5_1).toNat * 13)).off + 6, none⟩ = some (.bool ((rd_T31 l1 x5_1).f6)) ∧ w'.cell? ⟨(ad355.add ((x5_1).toNat * 13)).block, (ad355.add ((x5_1).toNat * 13)).off + 7, none⟩ = some (.int .i64 ((rd_T31 l1 x5_1).f7)) ∧ w'.cell? ⟨(ad355.add ((x5_1).toNat * 13)).block, (ad355.add ((x5_1).toNat * 13)).off + 8, none⟩ = some (.int .i64 ((rd_T31 l1 x5_1).f8)) ∧ w'.cell? ⟨(ad355.add ((x5_1).toNat * 13)).block, (ad355.add ((x5_1).toNat * 13)).off + 9, none⟩ = some (.int .i64 ((rd_T31 l1 x5_1).f9)) ∧ w'.cell? ⟨(ad355.add ((x5_1).toNat * 13)).block, (ad355.add ((x5_1).toNat * 13)).off + 10, none⟩ = some (.int .i64 ((rd_T31 l1 x5_1).f10)) ∧ w'.cell? ⟨(ad355.add ((x5_1).toNat * 13)).block, (ad355.add ((x5_1).toNat * 13)).off + 11, none⟩ = some (.int .i64 ((rd_T31 l1 x5_1).f11)) ∧ w'.cell? ⟨(ad355.add ((x5_1).toNat * 13)).block, (ad355.add ((x5_1).toNat * 13)).off + 12, none⟩ = some (.int .i64 ((rd_T31 l1 x5_1).f12))) (ds := []) #[false, false, false, false, false, false, false, false, false, false] (by kernel_rfl) rfl rfl ⟨(hxb HB.out hw354_0), (hxb HB.out hw354_1), (hxb HB.out hw354_2), (hxb HB.out hw354_3), (hxb HB.out hw354_4), (hxb HB.out hw354_5), (hxb HB.out hw354_6), (hxb HB.out hw354_7), (hxb HB.out hw354_8), (hxb HB.out hw354_9), (hxb HB.out hw354_10), (hxb HB.out hw354_11), (hxb HB.out hw354_12), (hxb HB.out hw355_0), (hxb HB.out hw355_1), (hxb HB.out hw355_2), (hxb HB.out hw355_3), (hxb HB.out hw355_4), (hxb HB.out hw355_5), (hxb HB.out hw355_6), (hxb HB.out hw355_7), (hxb HB.out hw355_8), (hxb HB.out hw355_9), (hxb HB.out hw355_10), (hxb HB.out hw355_11), (hxb HB.out hw355_12)⟩ (fun hHeld => ?_); refine with_tabW annuitykeep_Loans.tab6 annuitykeep_Loans.bits6 (fun HT_ HW_ => ?_)
       generalize wr.drew = w11 at HB hx354_0 hx354_1 hx354_10 hx354_11 hx354_12 hx354_2 hx354_3 hx354_4 hx354_5 hx354_6 hx354_7 hx354_8 hx354_9 hx355_0 hx355_1 hx355_10 hx355_11 hx355_12 hx355_2 hx355_3 hx355_4 hx355_5 hx355_6 hx355_7 hx355_8 hx355_9 hHeld ⊢
       refine pure_ (i := 0) (N := some 17) (v := ?_) (a' := ?_) #[true, false, false, false, false, false, false, false, false, false] rfl rfl (any_of HT_.out (by kernel_rfl)) (fun _ _ _ h => h) (Or.inl ⟨by rfl, ?_⟩) ?_ ?_
       rotate_left
       ·intro w'
        go_simp
        with_reducible rfl
       rotate_left
       ·simp only [Act.put, List.setIfInBounds_toArray, List.set_cons_zero, List.set_cons_succ, i64_w, i32_w]
        rfl
       refine pure_ (i := 1) (N := some 18) (v := ?_) (a' := ?_) #[true, true, false, false, false, false, false, false, false, false] rfl rfl (any_of HT_.out (by kernel_rfl)) (fun _ _ _ h => h) (Or.inl ⟨by rfl, ?_⟩) ?_ ?_
       rotate_left
       ·intro w'
        go_simp
        with_reducible rfl
       rotate_left
       ·simp only [Act.put, List.setIfInBounds_toArray, List.set_cons_zero, List.set_cons_succ, i64_w, i32_w]
        rfl
       refine pure_ (i := 2) (N := some 19) (v := ?_) (a' := ?_) #[true, true, true, false, false, false, false, false, false, false] rfl rfl (any_of HT_.out (by kernel_rfl)) (fun _ _ _ h => h) (Or.inl ⟨by rfl, ?_⟩) ?_ ?_
       rotate_left
       ·intro w'
        go_simp
        with_reducible rfl
       rotate_left
       ·simp only [Act.put, List.setIfInBounds_toArray, List.set_cons_zero, List.set_cons_succ, i64_w, i32_w]
        rfl
       refine pure_ (i := 4) (N := some 21) (v := ?_) (a' := ?_) #[true, true, true, false, true, false, false, false, false, false] rfl rfl (any_of HT_.out (by kernel_rfl)) (fun _ _ _ h => h) (Or.inl ⟨by rfl, ?_⟩) ?_ ?_
       rotate_left
       ·intro w'
        go_simp
        with_reducible rfl
       rotate_left
       ·simp only [Act.put, List.setIfInBounds_toArray, List.set_cons_zero, List.set_cons_succ, i64_w, i32_w]
        rfl
       refine pure_ (i := 5) (N := some 22) (v := ?_) (a' := ?_) #[true, true, true, false, true, true, false, false, false, false] rfl rfl (any_of HT_.out (by kernel_rfl)) (fun _ _ _ h => h) (Or.inl ⟨by rfl, ?_⟩) ?_ ?_
       rotate_left
       ·intro w'
        go_simp
        with_reducible rfl
       rotate_left
       ·simp only [Act.put, List.setIfInBounds_toArray, List.set_cons_zero, List.set_cons_succ, i64_w, i32_w]
        rfl
       refine pure_ (i := 6) (N := some 23) (v := ?_) (a' := ?_) #[true, true, true, false, true, true, true, false, false, false] rfl rfl (any_of HT_.out (by kernel_rfl)) (fun _ _ _ h => h) (Or.inl ⟨by rfl, ?_⟩) ?_ ?_
       rotate_left
       ·intro w'
        go_simp
        with_reducible rfl
       rotate_left
       ·simp only [Act.put, List.setIfInBounds_toArray, List.set_cons_zero, List.set_cons_succ, i64_w, i32_w]
        rfl
       refine take_ (i := 3) (N := some 20) (v := ?_) (a' := ?_) #[true, true, true, true, true, true, true, false, false, false] rfl rfl (take_ofW HT_.out HW_.out (by kernel_rfl)) (fun _ _ _ h => h) (Or.inl ⟨by rfl, ?_⟩) hHeld ?_ ?_
       rotate_left
       ·rintro w' ⟨s0, s1, s2, s3, s4, s5, s6, s7, s8, s9, s10, s11, s12, s13, s14, s15, s16, s17, s18, s19, s20, s21, s22, s23, s24, s25⟩
        go_simp
        with_reducible rfl
       rotate_left
       ·simp only [Act.put, List.setIfInBounds_toArray, List.set_cons_zero, List.set_cons_succ, i64_w, i32_w]
        rfl
       refine take_ (i := 7) (N := some 24) (v := ?_) (a' := ?_) #[true, true, true, true, true, true, true, true, false, false] rfl rfl (take_ofW HT_.out HW_.out (by kernel_rfl)) (fun _ _ _ h => h) (Or.inl ⟨by rfl, ?_⟩) hHeld ?_ ?_
       rotate_left
       ·rintro w' ⟨s0, s1, s2, s3, s4, s5, s6, s7, s8, s9, s10, s11, s12, s13, s14, s15, s16, s17, s18, s19, s20, s21, s22, s23, s24, s25⟩
        go_simp
        with_reducible rfl
       rotate_left
       ·simp only [Act.put, List.setIfInBounds_toArray, List.set_cons_zero, List.set_cons_succ, i64_w, i32_w]
        rfl
       refine one_ (i := 8) (N := some 25) #[true, true, true, true, true, true, true, true, true, false] rfl rfl (one_of HT_.out (by kernel_rfl)) (by decide) (fun K hK => ?_)
       refine goes_ Try.func14 (by kernel_rfl) rfl #[.agg #[.int .i64 ((rd_T31 l0 x5_1).f0), .int .i64 ((rd_T31 l0 x5_1).f1), .int .i64 ((rd_T31 l0 x5_1).f2), .int .i64 ((rd_T31 l0 x5_1).f3), .int .i64 ((rd_T31 l0 x5_1).f4), .int .i64 ((rd_T31 l0 x5_1).f5), .bool ((rd_T31 l0 x5_1).f6), .int .i64 ((rd_T31 l0 x5_1).f7), .int .i64 ((rd_T31 l0 x5_1).f8), .int .i64 ((rd_T31 l0 x5_1).f9), .int .i64 ((rd_T31 l0 x5_1).f10), .int .i64 ((rd_T31 l0 x5_1).f11), .int .i64 ((rd_T31 l0 x5_1).f12)], .agg #[.int .i64 ((rd_T31 l1 x5_1).f0), .int .i64 ((rd_T31 l1 x5_1).f1), .int .i64 ((rd_T31 l1 x5_1).f2), .int .i64 ((rd_T31 l1 x5_1).f3), .int .i64 ((rd_T31 l1 x5_1).f4), .int .i64 ((rd_T31 l1 x5_1).f5), .bool ((rd_T31 l1 x5_1).f6), .int .i64 ((rd_T31 l1 x5_1).f7), .int .i64 ((rd_T31 l1 x5_1).f8), .int .i64 ((rd_T31 l1 x5_1).f9), .int .i64 ((rd_T31 l1 x5_1).f10), .int .i64 ((rd_T31 l1 x5_1).f11), .int .i64 ((rd_T31 l1 x5_1).f12)]] (by rfl) rfl rfl (by (try simp only [List.map_toArray, List.map_cons, List.map_nil]); first | done | rfl | (simp only [List.length_drop, List.length_take]; rfl)) ?_
       with_reducible refine (annuitykeep_Loan.calls ((rd_T31 l0 x5_1).f0) ((rd_T31 l0 x5_1).f1) ((rd_T31 l0 x5_1).f2) ((rd_T31 l0 x5_1).f3) ((rd_T31 l0 x5_1).f4) ((rd_T31 l0 x5_1).f5) ((rd_T31 l0 x5_1).f6) ((rd_T31 l0 x5_1).f7) ((rd_T31 l0 x5_1).f8) ((rd_T31 l0 x5_1).f9) ((rd_T31 l0 x5_1).f10) ((rd_T31 l0 x5_1).f11) ((rd_T31 l0 x5_1).f12) ((rd_T31 l1 x5_1).f0) ((rd_T31 l1 x5_1).f1) ((rd_T31 l1 x5_1).f2) ((rd_T31 l1 x5_1).f3) ((rd_T31 l1 x5_1).f4) ((rd_T31 l1 x5_1).f5) ((rd_T31 l1 x5_1).f6) ((rd_T31 l1 x5_1).f7) ((rd_T31 l1 x5_1).f8) ((rd_T31 l1 x5_1).f9) ((rd_T31 l1 x5_1).f10) ((rd_T31 l1 x5_1).f11) ((rd_T31 l1 x5_1).f12) false _ A7.out).mono ?_
       rintro e w12 ⟨rfl, hb⟩
       refine ⟨_, rfl, ?_⟩
       have n0_ := Aside0.mk (below_step (by exact h0q HB.out) hb)
       clear HB
       have HB := n0_
       clear n0_
       (try clear hb)
       (try clear hb2)
       (try clear hk)
       (try clear hi)
       refine hK.out _ _ ⟨(hxb HB.out hw354_0), (hxb HB.out hw354_1), (hxb HB.out hw354_2), (hxb HB.out hw354_3), (hxb HB.out hw354_4), (hxb HB.out hw354_5), (hxb HB.out hw354_6), (hxb HB.out hw354_7), (hxb HB.out hw354_8), (hxb HB.out hw354_9), (hxb HB.out hw354_10), (hxb HB.out hw354_11), (hxb HB.out hw354_12), (hxb HB.out hw355_0), (hxb HB.out hw355_1), (hxb HB.out hw355_2), (hxb HB.out hw355_3), (hxb HB.out hw355_4), (hxb HB.out hw355_5), (hxb HB.out hw355_6), (hxb HB.out hw355_7), (hxb HB.out hw355_8), (hxb HB.out hw355_9), (hxb HB.out hw355_10), (hxb HB.out hw355_11), (hxb HB.out hw355_12)⟩ (fun hHeld => ?_)
       clear hK K
       refine norm_ (a' := ?_) ?_ ?_
       rotate_left
       ·show Act.put _ (some 25) _ = _
        simp only [Act.put, List.setIfInBounds_toArray, List.set_cons_zero, List.set_cons_succ, i64_w, i32_w]
        rfl
       refine pure_ (i := 9) (N := some 26) (v := ?_) (a' := ?_) #[true, true, true, true, true, true, true, true, true, true] rfl rfl (any_of HT_.out (by kernel_rfl)) (fun _ _ _ h => h) (Or.inl ⟨by rfl, ?_⟩) ?_ ?_
       rotate_left
       ·intro w'
        go_simp
        with_reducible rfl
       rotate_left
       ·simp only [Act.put, List.setIfInBounds_toArray, List.set_cons_zero, List.set_cons_succ, i64_w, i32_w]
        rfl
       refine done_ (done_of HT_.out (by kernel_rfl)) ?_
       try go_wp2
       go_ret
       exact ⟨by first | rfl | (simp [errW_none, errW_some] <;> rfl) | (simp [*, errW_none, errW_some] <;> rfl), by exact h0q HB.out⟩
     ·rw [if_neg c6] at H
      exact absurd H (by simp)
    ·rw [if_neg c5] at H
     exact absurd H (by simp)
   ·rw [if_neg c4] at H
    have c4b0 : decide (x5_1 < (l0.length : Int)) = false := decide_eq_false c4
    clear c4
    obtain rfl := Option.some.inj H
    go_wp2
    go_ret
    exact ⟨by first | rfl | (simp [errW_none, errW_some] <;> rfl) | (simp [*, errW_none, errW_some] <;> rfl), by exact h0q HB.out⟩
 ·rw [if_neg c3] at H
  have c3b0 : ((l0.length : Int) == (l1.length : Int)) = false := beq_eq_false_iff_ne.mpr c3
  have c3b1 : ((l0.length : Int) != (l1.length : Int)) = true := bne_iff_ne.mpr c3
  have c3b2 : (l0.length == l1.length) = false := by first | simpa using c3 | (simp at c3 ⊢; omega)
  obtain rfl := Option.some.inj H
  go_enter Try.func15, Try.ntmps15
  go_wp2
  go_ret
  exact ⟨by first | rfl | (simp [errW_none, errW_some] <;> rfl) | (simp [*, errW_none, errW_some] <;> rfl), by exact h0q HB.out⟩

end Go.Proofs.Ytakcepffodipfaa.P
