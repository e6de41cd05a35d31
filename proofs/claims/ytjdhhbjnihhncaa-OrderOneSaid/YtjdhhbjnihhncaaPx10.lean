/- Functions of the program as plain Lean functions, and proofs that its calls come to just their answers, where they tell one (written by a program of this session). -/
import Derived.Test.YtjdhhbjnihhncaaZaa
import Derived.Test.YtjdhhbjnihhncaaPx0
import Derived.Test.YtjdhhbjnihhncaaPx9
namespace Go.Proofs.Ytjdhhbjnihhncaa.P
open Go.RowKit Go.Proofs.YtjdhhbjnihhncaaW.PrintWords Go.Proofs.YtjdhhbjnihhncaaW.PrintLast Go.Proofs.YtjdhhbjnihhncaaW.PrintMore
attribute [local go_sem] run_store_float max2_int min2_int max_two min_two max_three min_three max_four min_four   -- for this text's walks alone
set_option linter.unusedVariables false
set_option linter.unusedSimpArgs false

/-! ### annuitykeep_Events: function 11 -/
def annuitykeep_Events.l0 : Nat → List (S26) → List (S26) → Int → Option (Bool)
 | 0, _, _, _ => none
 | k + 1, x0, x1, x5 => if x5 < (x0.length : Int) then (if 0 ≤ x5 then (if x5 < (x1.length : Int) then ((annuitykeep_Event.f k ((rd_T26 x0 x5).f0) ((rd_T26 x0 x5).f1) ((rd_T26 x0 x5).f2) ((rd_T26 x0 x5).f3) ((rd_T26 x0 x5).f4) ((rd_T26 x0 x5).f5) ((rd_T26 x0 x5).f6) ((rd_T26 x0 x5).f7) ((rd_T26 x0 x5).f8) ((rd_T26 x0 x5).f9) ((rd_T26 x0 x5).f10) ((rd_T26 x1 x5).f0) ((rd_T26 x1 x5).f1) ((rd_T26 x1 x5).f2) ((rd_T26 x1 x5).f3) ((rd_T26 x1 x5).f4) ((rd_T26 x1 x5).f5) ((rd_T26 x1 x5).f6) ((rd_T26 x1 x5).f7) ((rd_T26 x1 x5).f8) ((rd_T26 x1 x5).f9) ((rd_T26 x1 x5).f10)).bind fun t220 => (if t220 = true then (annuitykeep_Events.l0 k x0 x1 (wrap64 (x5 + 1))) else (some false))) else (none)) else (none)) else (some true)
def annuitykeep_Events.f (k : Nat) (l0 : List (S26)) (l1 : List (S26)) : Option (Bool) := if (l0.length : Int) = (l1.length : Int) then (annuitykeep_Events.l0 k l0 l1 0) else (some false)
def annuitykeep_Events.T6 : Bool × List (List Nat × List Nat) := (true, [([], []), ([], []), ([0, 1], [0, 1]), ([2], [2]), ([], []), ([], []), ([4, 5], [4, 5]), ([6], [6]), ([3, 7], [3, 7]), ([8], [8])])
def annuitykeep_Events.B6 : List Nat := [0, 0, 3, 7, 0, 0, 48, 112, 255, 511]
theorem annuitykeep_Events.tab6 : rtab .any (opsOf Try.f11 6) = annuitykeep_Events.T6 := by kernel_rfl
theorem annuitykeep_Events.bits6 : waitsOk annuitykeep_Events.T6.2 annuitykeep_Events.B6 = true := by kernel_rfl
set_option maxHeartbeats 8000000 in
set_option maxRecDepth 100000 in
theorem annuitykeep_Events.calls (k : Nat) (A0 : Option Addr) (c0 : Nat) (l0 : List (S26)) (A1 : Option Addr) (c1 : Nat) (l1 : List (S26)) (r : Bool) (w : World) (hr0 : Kd.C k26 w A0 l0.length l0) (hc0 : l0.length ≤ c0) (hr1 : Kd.C k26 w A1 l1.length l1) (hc1 : l1.length ≤ c1) (h : annuitykeep_Events.f k l0 l1 = some r) :
  Calls Try.prog 11 #[.slice A0 l0.length c0, .slice A1 l1.length c1] w fun e w' => e = .returned (.bool r) ∧ Below w.heap.size w w' := by
 have hu26 := Try.underlying26
 have HR0 := Aside0.mk hr0
 have HC0 := Aside0.mk hc0
 clear hr0 hc0
 have HR1 := Aside0.mk hr1
 have HC1 := Aside0.mk hc1
 clear hr1 hc1
 have HB := Aside0.mk (Below.refl w.heap.size w)
 have H : (if (l0.length : Int) = (l1.length : Int) then (annuitykeep_Events.l0 k l0 l1 0) else (some false)) = some r := h
 clear h
 by_cases c3 : (l0.length : Int) = (l1.length : Int)
 case neg =>
  rw [if_neg c3] at H
  have c3b0 : ((l0.length : Int) == (l1.length : Int)) = false := beq_eq_false_iff_ne.mpr c3
  have c3b1 : ((l0.length : Int) != (l1.length : Int)) = true := bne_iff_ne.mpr c3
  have c3b2 : (l0.length == l1.length) = false := by first | simpa using c3 | (simp at c3 ⊢; omega)
  obtain rfl := Option.some.inj H
  go_enter Try.func11, Try.ntmps11
  go_wp2
  go_ret
  exact ⟨by first | rfl | (simp [errW_none, errW_some] <;> rfl) | (simp [*, errW_none, errW_some] <;> rfl), by exact h0q HB.out⟩

 rw [if_pos c3] at H
 have c3b0 : ((l0.length : Int) == (l1.length : Int)) = true := beq_iff_eq.mpr c3
 have c3b1 : ((l0.length : Int) != (l1.length : Int)) = false := bne_eq_false_iff_eq.mpr c3
 have c3b2 : (l0.length == l1.length) = true := by first | simpa using c3 | (simp at c3 ⊢; omega)
 clear c3
 have H' := Aside0.mk H
 clear H
 go_enter Try.func11, Try.ntmps11
 go_wp2
 go_loopg [5] k (fun kq v5 w' => ∃ (x5_1 : Int), v5 = .int .i64 x5_1 ∧ Aside0 (annuitykeep_Events.l0 kq l0 l1 x5_1 = some r) ∧ Aside0 (kq ≤ k) ∧ Aside0 (Below w.heap.size w w'))
 case atStart => exact ⟨(0), (by first | rfl | (simp; done) | (simp [*]; done)), H', ⟨Nat.le_refl _⟩, ⟨by exact h0q HB.out⟩⟩
 case round =>
  clear H'
  try clear c1
  try clear c3
  try clear c3b0 c3b1
  try clear c3b2
  obtain ⟨x5_1, rfl, HA, HK1, HB⟩ := hrel
  rcases gk with _ | k1
  ·exact absurd HA.out (by simp [annuitykeep_Events.l0])
  have H := HA.out
  clear HA
  simp only [annuitykeep_Events.l0] at H
  by_cases c4 : x5_1 < (l0.length : Int)
  case neg =>
   rw [if_neg c4] at H
   have c4b0 : decide (x5_1 < (l0.length : Int)) = false := decide_eq_false c4
   clear c4
   obtain rfl := Option.some.inj H
   go_wp2
   go_ret
   exact ⟨by first | rfl | (simp [errW_none, errW_some] <;> rfl) | (simp [*, errW_none, errW_some] <;> rfl), by exact h0q HB.out⟩
  rw [if_pos c4] at H
  have c4b0 : decide (x5_1 < (l0.length : Int)) = true := decide_eq_true c4
  clear c4
  by_cases c5 : 0 ≤ x5_1
  case neg =>
   rw [if_neg c5] at H
   exact absurd H (by simp)
  rw [if_pos c5] at H
  have c5b0 : decide (0 ≤ x5_1) = true := decide_eq_true c5
  clear c5
  by_cases c6 : x5_1 < (l1.length : Int)
  case neg =>
   rw [if_neg c6] at H
   exact absurd H (by simp)
  rw [if_pos c6] at H
  have c6b0 : decide (x5_1 < (l1.length : Int)) = true := decide_eq_true c6
  clear c6
  replace H := Option.bind_eq_some_iff.mp H
  obtain ⟨t220, A70, H⟩ := H
  replace H : (if t220 = true then (annuitykeep_Events.l0 k1 l0 l1 (wrap64 (x5_1 + 1))) else (some false)) = some r := H
  have A7 := Aside0.mk A70
  clear A70
  by_cases c8 : t220 = true
  case neg =>
   replace c8 := Bool.eq_false_iff.mpr c8
   subst c8
   have H1 : (some false) = some r := by rw [if_neg (show ¬ (false = true) by decide)] at H; exact H
   clear H
   have H := H1
   clear H1
   obtain rfl := Option.some.inj H
   try go_wp2
   have n0_ := Aside0.mk (below_drew1 HB.out)
   clear HB
   have HB := n0_
   clear n0_
   have p218 : 0 ≤ (x5_1 : Int) := yd
   have q218 : x5_1 < (l0.length : Int) := yd
   obtain ⟨ad218, e218, hx218_0, hx218_1, hx218_2, hx218_3, hx218_4, hx218_5, hx218_6, hx218_7, hx218_8, hx218_9, hx218_10⟩ := at_T26 HR0.out x5_1 p218 q218
   have hw218_10 := hx218_10
   have hw218_9 := hx218_9
   have hw218_8 := hx218_8
   have hw218_7 := hx218_7
   have hw218_6 := hx218_6
   have hw218_5 := hx218_5
   have hw218_4 := hx218_4
   have hw218_3 := hx218_3
   have hw218_2 := hx218_2
   have hw218_1 := hx218_1
   have hw218_0 := hx218_0
   cases e218
   replace hx218_0 := hxb HB.out hx218_0
   replace hx218_1 := hxb HB.out hx218_1
   replace hx218_2 := hxb HB.out hx218_2
   replace hx218_3 := hxb HB.out hx218_3
   replace hx218_4 := hxb HB.out hx218_4
   replace hx218_5 := hxb HB.out hx218_5
   replace hx218_6 := hxb HB.out hx218_6
   replace hx218_7 := hxb HB.out hx218_7
   replace hx218_8 := hxb HB.out hx218_8
   replace hx218_9 := hxb HB.out hx218_9
   replace hx218_10 := hxb HB.out hx218_10
   replace p218 := eq_true p218
   replace q218 := eq_true q218
   have p219 : 0 ≤ (x5_1 : Int) := yd
   have q219 : x5_1 < (l1.length : Int) := yd
   obtain ⟨ad219, e219, hx219_0, hx219_1, hx219_2, hx219_3, hx219_4, hx219_5, hx219_6, hx219_7, hx219_8, hx219_9, hx219_10⟩ := at_T26 HR1.out x5_1 p219 q219
   have hw219_10 := hx219_10
   have hw219_9 := hx219_9
   have hw219_8 := hx219_8
   have hw219_7 := hx219_7
   have hw219_6 := hx219_6
   have hw219_5 := hx219_5
   have hw219_4 := hx219_4
   have hw219_3 := hx219_3
   have hw219_2 := hx219_2
   have hw219_1 := hx219_1
   have hw219_0 := hx219_0
   cases e219
   replace hx219_0 := hxb HB.out hx219_0
   replace hx219_1 := hxb HB.out hx219_1
   replace hx219_2 := hxb HB.out hx219_2
   replace hx219_3 := hxb HB.out hx219_3
   replace hx219_4 := hxb HB.out hx219_4
   replace hx219_5 := hxb HB.out hx219_5
   replace hx219_6 := hxb HB.out hx219_6
   replace hx219_7 := hxb HB.out hx219_7
   replace hx219_8 := hxb HB.out hx219_8
   replace hx219_9 := hxb HB.out hx219_9
   replace hx219_10 := hxb HB.out hx219_10
   replace p219 := eq_true p219
   replace q219 := eq_true q219
   refine start_ (n := 10) (S := fun w' => w'.cell? (ad218.add ((x5_1).toNat * 11)) = some (.int .i64 ((rd_T26 l0 x5_1).f0)) ∧ w'.cell? ⟨(ad218.add ((x5_1).toNat * 11)).block, (ad218.add ((x5_1).toNat * 11)).off + 1, none⟩ = some (.int .i64 ((rd_T26 l0 x5_1).f1)) ∧ w'.cell? ⟨(ad218.add ((x5_1).toNat * 11)).block, (ad218.add ((x5_1).toNat * 11)).off + 2, none⟩ = some (.int .u32 ((rd_T26 l0 x5_1).f2)) ∧ w'.cell? ⟨(ad218.add ((x5_1).toNat * 11)).block, (ad218.add ((x5_1).toNat * 11)).off + 3, none⟩ = some (.int .i64 ((rd_T26 l0 x5_1).f3)) ∧ w'.cell? ⟨(ad218.add ((x5_1).toNat * 11)).block, (ad218.add ((x5_1).toNat * 11)).off + 4, none⟩ = some (.int .i64 ((rd_T26 l0 x5_1).f4)) ∧ w'.cell? ⟨(ad218.add ((x5_1).toNat * 11)).block, (ad218.add ((x5_1).toNat * 11)).off + 5, none⟩ = some (.float .f64 ((rd_T26 l0 x5_1).f5)) ∧ w'.cell? ⟨(ad218.add ((x5_1).toNat * 11)).block, (ad218.add ((x5_1).toNat * 11)).off + 6, none⟩ = some (.float .f64 ((rd_T26 l0 x5_1).f6)) ∧ w'.cell? ⟨(ad218.add ((x5_1).toNat * 11)).block, (ad218.add ((x5_1).toNat * 11)).off + 7, none⟩ = some (.bool ((rd_T26 l0 x5_1).f7)) ∧ w'.cell? ⟨(ad218.add ((x5_1).toNat * 11)).block, (ad218.add ((x5_1).toNat * 11)).off + 8, none⟩ = some (.int .i64 ((rd_T26 l0 x5_1).f8)) ∧ w'.cell? ⟨(ad218.add ((x5_1).toNat * 11)).block, (ad218.add ((x5_1).toNat * 11)).off + 9, none⟩ = some (.int .i64 ((rd_T26 l0 x5_1).f9)) ∧ w'.cell? ⟨(ad218.add ((x5_1).toNat * 11)).block, (ad218.add ((x5_1).toNat * 11)).off + 10, none⟩ = some (.int .i64 ((rd_T26 l0 x5_1).f10)) ∧ w'.cell? (ad219.add ((x5_1).toNat * 11)) = some (.int .i64 ((rd_T26 l1 x5_1).f0)) ∧ w'.cell? ⟨(ad219.add ((x5_1).toNat * 11)).block, (ad219.add ((x5_1).toNat * 11)).off + 1, none⟩ = some (.int .i64 ((rd_T26 l1 x5_1).f1)) ∧ w'.cell? ⟨(ad219.add ((x5_1).toNat * 11)).block, (ad219.add ((x5_1).toNat * 11)).off + 2, none⟩ = some (.int .u32 ((rd_T26 l1 x5_1).f2)) ∧ w'.cell? ⟨(ad219.add ((x5_1).toNat * 11)).block, (ad219.add ((x5_1).toNat * 11)).off + 3, none⟩ = some (.int .i64 ((rd_T26 l1 x5_1).f3)) ∧ w'.cell? ⟨(ad219.add ((x5_1).toNat * 11)).block, (ad219.add ((x5_1).toNat * 11)).off + 4, none⟩ = some (.int .i64 ((rd_T26 l1 x5_1).f4)) ∧ w'.cell? ⟨(ad219.add ((x5_1).toNat * 11)).block, (ad219.add ((x5_1).toNat * 11)).off + 5, none⟩ = some (.float .f64 ((rd_T26 l1 x5_1).f5)) ∧ w'.cell? ⟨(ad219.add ((x5_1).toNat * 11)).block, (ad219.add ((x5_1).toNat * 11)).off + 6, none⟩ = some (.float .f64 ((rd_T26 l1 x5_1).f6)) ∧ w'.cell? ⟨(ad219.add ((x5_1).toNat * 11)).block, (ad219.add ((x5_1).toNat * 11)).off + 7, none⟩ = some (.bool ((rd_T26 l1 x5_1).f7)) ∧ w'.cell? ⟨(ad219.add ((x5_1).toNat * 11)).block, (ad219.add ((x5_1).toNat * 11)).off + 8, none⟩ = some (.int .i64 ((rd_T26 l1 x5_1).f8)) ∧ w'.cell? ⟨(ad219.add ((x5_1).toNat * 11)).block, (ad219.add ((x5_1).toNat * 11)).off + 9, none⟩ = some (.int .i64 ((rd_T26 l1 x5_1).f9)) ∧ w'.cell? ⟨(ad219.add ((x5_1).toNat * 11)).block, (ad219.add ((x5_1).toNat * 11)).off + 10, none⟩ = some (.int .i64 ((rd_T26 l1 x5_1).f10))) (ds := []) #[false, false, false, false, false, false, false, false, false, false] (by kernel_rfl) rfl rfl ⟨(hxb HB.out hw218_0), (hxb HB.out hw218_1), (hxb HB.out hw218_2), (hxb HB.out hw218_3), (hxb HB.out hw218_4), (hxb HB.out hw218_5), (hxb HB.out hw218_6), (hxb HB.out hw218_7), (hxb HB.out hw218_8), (hxb HB.out hw218_9), (hxb HB.out hw218_10), (hxb HB.out hw219_0), (hxb HB.out hw219_1), (hxb HB.out hw219_2), (hxb HB.out hw219_3), (hxb HB.out hw219_4), (hxb HB.out hw219_5), (hxb HB.out hw219_6), (hxb HB.out hw219_7), (hxb HB.out hw219_8), (hxb HB.out hw219_9), (hxb HB.out hw219_10)⟩ (fun hHeld => ?_); refine with_tabW annuitykeep_Events.tab6 annuitykeep_Events.bits6 (fun HT_ HW_ => ?_)
   generalize wr.drew = w11 at HB hx218_0 hx218_1 hx218_10 hx218_2 hx218_3 hx218_4 hx218_5 hx218_6 hx218_7 hx218_8 hx218_9 hx219_0 hx219_1 hx219_10 hx219_2 hx219_3 hx219_4 hx219_5 hx219_6 hx219_7 hx219_8 hx219_9 hHeld ⊢
   refine pure_ (i := 0) (N := some 17) (v := ?_) (a' := ?_) #[true, false, false, false, false, false, false, false, false, false] rfl rfl (any_of HT_.out (by kernel_rfl)) (fun _ _ _ h => h) (Or.inl ⟨by rfl, ?_⟩) ?_ ?_
   rotate_left
   ·intro w'
    go_simp
    with_reducible rfl
   rotate_left
   ·simp only [Act.put, List.setIfInBounds_toArray, List.set_cons_zero, List.set_cons_succ, i64_w, i32_w]
    rfl
   refine pure_ (i := 1) (N := some 18) (v := ?_) (a' := ?_) #[true, true, false, false, false, false, false, false, false, false] rfl rfl (any_of HT_.out (by kernel_rfl)) (fun _ _ _ h => h) (Or.inl ⟨by rfl, ?_⟩) ?_ ?_
   rotate_left
   ·intro w'
    go_simp
    with_reducible rfl
   rotate_left
   ·simp only [Act.put, List.setIfInBounds_toArray, List.set_cons_zero, List.set_cons_succ, i64_w, i32_w]
    rfl
   refine pure_ (i := 2) (N := some 19) (v := ?_) (a' := ?_) #[true, true, true, false, false, false, false, false, false, false] rfl rfl (any_of HT_.out (by kernel_rfl)) (fun _ _ _ h => h) (Or.inl ⟨by rfl, ?_⟩) ?_ ?_
   rotate_left
   ·intro w'
    go_simp
    with_reducible rfl
   rotate_left
   ·simp only [Act.put, List.setIfInBounds_toArray, List.set_cons_zero, List.set_cons_succ, i64_w, i32_w]
    rfl
   refine pure_ (i := 4) (N := some 21) (v := ?_) (a' := ?_) #[true, true, true, false, true, false, false, false, false, false] rfl rfl (any_of HT_.out (by kernel_rfl)) (fun _ _ _ h => h) (Or.inl ⟨by rfl, ?_⟩) ?_ ?_
   rotate_left
   ·intro w'
    go_simp
    with_reducible rfl
   rotate_left
   ·simp only [Act.put, List.setIfInBounds_toArray, List.set_cons_zero, List.set_cons_succ, i64_w, i32_w]
    rfl
   refine pure_ (i := 5) (N := some 22) (v := ?_) (a' := ?_) #[true, true, true, false, true, true, false, false, false, false] rfl rfl (any_of HT_.out (by kernel_rfl)) (fun _ _ _ h => h) (Or.inl ⟨by rfl, ?_⟩) ?_ ?_
   rotate_left
   ·intro w'
    go_simp
    with_reducible rfl
   rotate_left
   ·simp only [Act.put, List.setIfInBounds_toArray, List.set_cons_zero, List.set_cons_succ, i64_w, i32_w]
    rfl
   refine pure_ (i := 6) (N := some 23) (v := ?_) (a' := ?_) #[true, true, true, false, true, true, true, false, false, false] rfl rfl (any_of HT_.out (by kernel_rfl)) (fun _ _ _ h => h) (Or.inl ⟨by rfl, ?_⟩) ?_ ?_
   rotate_left
   ·intro w'
    go_simp
    with_reducible rfl
   rotate_left
   ·simp only [Act.put, List.setIfInBounds_toArray, List.set_cons_zero, List.set_cons_succ, i64_w, i32_w]
    rfl
   refine take_ (i := 3) (N := some 20) (v := ?_) (a' := ?_) #[true, true, true, true, true, true, true, false, false, false] rfl rfl (take_ofW HT_.out HW_.out (by kernel_rfl)) (fun _ _ _ h => h) (Or.inl ⟨by rfl, ?_⟩) hHeld ?_ ?_
   rotate_left
   ·rintro w' ⟨s0, s1, s2, s3, s4, s5, s6, s7, s8, s9, s10, s11, s12, s13, s14, s15, s16, s17, s18, s19, s20, s21⟩
    go_simp
    with_reducible rfl
   rotate_left
   ·simp only [Act.put, List.setIfInBounds_toArray, List.set_cons_zero, List.set_cons_succ, i64_w, i32_w]
    rfl
   refine take_ (i := 7) (N := some 24) (v := ?_) (a' := ?_) #[true, true, true, true, true, true, true, true, false, false] rfl rfl (take_ofW HT_.out HW_.out (by kernel_rfl)) (fun _ _ _ h => h) (Or.inl ⟨by rfl, ?_⟩) hHeld ?_ ?_
   rotate_left
   ·rintro w' ⟨s0, s1, s2, s3, s4, s5, s6, s7, s8, s9, s10, s11, s12, s13, s14, s15, s16, s17, s18, s19, s20, s21⟩
    go_simp
    with_reducible rfl
   rotate_left
   ·simp only [Act.put, List.setIfInBounds_toArray, List.set_cons_zero, List.set_cons_succ, i64_w, i32_w]
    rfl
   refine one_ (i := 8) (N := some 25) #[true, true, true, true, true, true, true, true, true, false] rfl rfl (one_of HT_.out (by kernel_rfl)) (by decide) (fun K hK => ?_)
   refine goes_ Try.func21 (by kernel_rfl) rfl #[.agg #[.int .i64 ((rd_T26 l0 x5_1).f0), .int .i64 ((rd_T26 l0 x5_1).f1), .int .u32 ((rd_T26 l0 x5_1).f2), .int .i64 ((rd_T26 l0 x5_1).f3), .int .i64 ((rd_T26 l0 x5_1).f4), .float .f64 ((rd_T26 l0 x5_1).f5), .float .f64 ((rd_T26 l0 x5_1).f6), .bool ((rd_T26 l0 x5_1).f7), .int .i64 ((rd_T26 l0 x5_1).f8), .int .i64 ((rd_T26 l0 x5_1).f9), .int .i64 ((rd_T26 l0 x5_1).f10)], .agg #[.int .i64 ((rd_T26 l1 x5_1).f0), .int .i64 ((rd_T26 l1 x5_1).f1), .int .u32 ((rd_T26 l1 x5_1).f2), .int .i64 ((rd_T26 l1 x5_1).f3), .int .i64 ((rd_T26 l1 x5_1).f4), .float .f64 ((rd_T26 l1 x5_1).f5), .float .f64 ((rd_T26 l1 x5_1).f6), .bool ((rd_T26 l1 x5_1).f7), .int .i64 ((rd_T26 l1 x5_1).f8), .int .i64 ((rd_T26 l1 x5_1).f9), .int .i64 ((rd_T26 l1 x5_1).f10)]] (by rfl) rfl rfl (by (try simp only [List.map_toArray, List.map_cons, List.map_nil]); first | done | rfl | (simp only [List.length_drop, List.length_take]; rfl)) ?_
   with_reducible refine (annuitykeep_Event.calls k1 ((rd_T26 l0 x5_1).f0) ((rd_T26 l0 x5_1).f1) ((rd_T26 l0 x5_1).f2) ((rd_T26 l0 x5_1).f3) ((rd_T26 l0 x5_1).f4) ((rd_T26 l0 x5_1).f5) ((rd_T26 l0 x5_1).f6) ((rd_T26 l0 x5_1).f7) ((rd_T26 l0 x5_1).f8) ((rd_T26 l0 x5_1).f9) ((rd_T26 l0 x5_1).f10) ((rd_T26 l1 x5_1).f0) ((rd_T26 l1 x5_1).f1) ((rd_T26 l1 x5_1).f2) ((rd_T26 l1 x5_1).f3) ((rd_T26 l1 x5_1).f4) ((rd_T26 l1 x5_1).f5) ((rd_T26 l1 x5_1).f6) ((rd_T26 l1 x5_1).f7) ((rd_T26 l1 x5_1).f8) ((rd_T26 l1 x5_1).f9) ((rd_T26 l1 x5_1).f10) false _ A7.out).mono ?_
   rintro e w12 ⟨rfl, hb⟩
   refine ⟨_, rfl, ?_⟩
   have n0_ := Aside0.mk (below_step (by exact h0q HB.out) hb)
   clear HB
   have HB := n0_
   clear n0_
   (try clear hb)
   (try clear hb2)
   (try clear hk)
   (try clear hi)
   refine hK.out _ _ ⟨(hxb HB.out hw218_0), (hxb HB.out hw218_1), (hxb HB.out hw218_2), (hxb HB.out hw218_3), (hxb HB.out hw218_4), (hxb HB.out hw218_5), (hxb HB.out hw218_6), (hxb HB.out hw218_7), (hxb HB.out hw218_8), (hxb HB.out hw218_9), (hxb HB.out hw218_10), (hxb HB.out hw219_0), (hxb HB.out hw219_1), (hxb HB.out hw219_2), (hxb HB.out hw219_3), (hxb HB.out hw219_4), (hxb HB.out hw219_5), (hxb HB.out hw219_6), (hxb HB.out hw219_7), (hxb HB.out hw219_8), (hxb HB.out hw219_9), (hxb HB.out hw219_10)⟩ (fun hHeld => ?_)
   clear hK K
   refine norm_ (a' := ?_) ?_ ?_
   rotate_left
   ·show Act.put _ (some 25) _ = _
    simp only [Act.put, List.setIfInBounds_toArray, List.set_cons_zero, List.set_cons_succ, i64_w, i32_w]
    rfl
   refine pure_ (i := 9) (N := some 26) (v := ?_) (a' := ?_) #[true, true, true, true, true, true, true, true, true, true] rfl rfl (any_of HT_.out (by kernel_rfl)) (fun _ _ _ h => h) (Or.inl ⟨by rfl, ?_⟩) ?_ ?_
   rotate_left
   ·intro w'
    go_simp
    with_reducible rfl
   rotate_left
   ·simp only [Act.put, List.setIfInBounds_toArray, List.set_cons_zero, List.set_cons_succ, i64_w, i32_w]
    rfl
   refine done_ (done_of HT_.out (by kernel_rfl)) ?_
   try go_wp2
   go_ret
   exact ⟨by first | rfl | (simp [errW_none, errW_some] <;> rfl) | (simp [*, errW_none, errW_some] <;> rfl), by exact h0q HB.out⟩
  subst c8
  have H1 : (annuitykeep_Events.l0 k1 l0 l1 (wrap64 (x5_1 + 1))) = some r := by rw [if_pos rfl] at H; exact H
  clear H
  have H := H1
  clear H1
  have H' := Aside0.mk H
  clear H
  try go_wp2
  have n0_ := Aside0.mk (below_drew1 HB.out)
  clear HB
  have HB := n0_
  clear n0_
  have p218 : 0 ≤ (x5_1 : Int) := yd
  have q218 : x5_1 < (l0.length : Int) := yd
  obtain ⟨ad218, e218, hx218_0, hx218_1, hx218_2, hx218_3, hx218_4, hx218_5, hx218_6, hx218_7, hx218_8, hx218_9, hx218_10⟩ := at_T26 HR0.out x5_1 p218 q218
  have hw218_10 := hx218_10
  have hw218_9 := hx218_9
  have hw218_8 := hx218_8
  have hw218_7 := hx218_7
  have hw218_6 := hx218_6
  have hw218_5 := hx218_5
  have hw218_4 := hx218_4
  have hw218_3 := hx218_3
  have hw218_2 := hx218_2
  have hw218_1 := hx218_1
  have hw218_0 := hx218_0
  cases e218
  replace hx218_0 := hxb HB.out hx218_0
  replace hx218_1 := hxb HB.out hx218_1
  replace hx218_2 := hxb HB.out hx218_2
  replace hx218_3 := hxb HB.out hx218_3
  replace hx218_4 := hxb HB.out hx218_4
  replace hx218_5 := hxb HB.out hx218_5
  replace hx218_6 := hxb HB.out hx218_6
  replace hx218_7 := hxb HB.out hx218_7
  replace hx218_8 := hxb HB.out hx218_8
  replace hx218_9 := hxb HB.out hx218_9
  replace hx218_10 := hxb HB.out hx218_10
  replace p218 := eq_true p218
  replace q218 := eq_true q218
  have p219 : 0 ≤ (x5_1 : Int) := yd
  have q219 : x5_1 < (l1.length : Int) := yd
  obtain ⟨ad219, e219, hx219_0, hx219_1, hx219_2, hx219_3, hx219_4, hx219_5, hx219_6, hx219_7, hx219_8, hx219_9, hx219_10⟩ := at_T26 HR1.out x5_1 p219 q219
  have hw219_10 := hx219_10
  have hw219_9 := hx219_9
  have hw219_8 := hx219_8
  have hw219_7 := hx219_7
  have hw219_6 := hx219_6
  have hw219_5 := hx219_5
  have hw219_4 := hx219_4
  have hw219_3 := hx219_3
  have hw219_2 := hx219_2
  have hw219_1 := hx219_1
  have hw219_0 := hx219_0
  cases e219
  replace hx219_0 := hxb HB.out hx219_0
  replace hx219_1 := hxb HB.out hx219_1
  replace hx219_2 := hxb HB.out hx219_2
  replace hx219_3 := hxb HB.out hx219_3
  replace hx219_4 := hxb HB.out hx219_4
  replace hx219_5 := hxb HB.out hx219_5
  replace hx219_6 := hxb HB.out hx219_6
  replace hx219_7 := hxb HB.out hx219_7
  replace hx219_8 := hxb HB.out hx219_8
  replace hx219_9 := hxb HB.out hx219_9
  replace hx219_10 := hxb HB.out hx219_10
  replace p219 := eq_true p219
  replace q219 := eq_true q219
  refine start_ (n := 10) (S := fun w' => w'.cell? (ad218.add ((x5_1).toNat * 11)) = some (.int .i64 ((rd_T26 l0 x5_1).f0)) ∧ w'.cell? ⟨(ad218.add ((x5_1).toNat * 11)).block, (ad218.add ((x5_1).toNat * 11)).off + 1, none⟩ = some (.int .i64 ((rd_T26 l0 x5_1).f1)) ∧ w'.cell? ⟨(ad218.add ((x5_1).toNat * 11)).block, (ad218.add ((x5_1).toNat * 11)).off + 2, none⟩ = some (.int .u32 ((rd_T26 l0 x5_1).f2)) ∧ w'.cell? ⟨(ad218.add ((x5_1).toNat * 11)).block, (ad218.add ((x5_1).toNat * 11)).off + 3, none⟩ = some (.int .i64 ((rd_T26 l0 x5_1).f3)) ∧ w'.cell? ⟨(ad218.add ((x5_1).toNat * 11)).block, (ad218.add ((x5_1).toNat * 11)).off + 4, none⟩ = some (.int .i64 ((rd_T26 l0 x5_1).f4)) ∧ w'.cell? ⟨(ad218.add ((x5_1).toNat * 11)).block, (ad218.add ((x5_1).toNat * 11)).off + 5, none⟩ = some (.float .f64 ((rd_T26 l0 x5_1).f5)) ∧ w'.cell? ⟨(ad218.add ((x5_1).toNat * 11)).block, (ad218.add ((x5_1).toNat * 11)).off + 6, none⟩ = some (.float .f64 ((rd_T26 l0 x5_1).f6)) ∧ w'.cell? ⟨(ad218.add ((x5_1).toNat * 11)).block, (ad218.add ((x5_1).toNat * 11)).off + 7, none⟩ = some (.bool ((rd_T26 l0 x5_1).f7)) ∧ w'.cell? ⟨(ad218.add ((x5_1).toNat * 11)).block, (ad218.add ((x5_1).toNat * 11)).off + 8, none⟩ = some (.int .i64 ((rd_T26 l0 x5_1).f8)) ∧ w'.cell? ⟨(ad218.add ((x5_1).toNat * 11)).block, (ad218.add ((x5_1).toNat * 11)).off + 9, none⟩ = some (.int .i64 ((rd_T26 l0 x5_1).f9)) ∧ w'.cell? ⟨(ad218.add ((x5_1).toNat * 11)).block, (ad218.add ((x5_1).toNat * 11)).off + 10, none⟩ = some (.int .i64 ((rd_T26 l0 x5_1).f10)) ∧ w'.cell? (ad219.add ((x5_1).toNat * 11)) = some (.int .i64 ((rd_T26 l1 x5_1).f0)) ∧ w'.cell? ⟨(ad219.add ((x5_1).toNat * 11)).block, (ad219.add ((x5_1).toNat * 11)).off + 1, none⟩ = some (.int .i64 ((rd_T26 l1 x5_1).f1)) ∧ w'.cell? ⟨(ad219.add ((x5_1).toNat * 11)).block, (ad219.add ((x5_1).toNat * 11)).off + 2, none⟩ = some (.int .u32 ((rd_T26 l1 x5_1).f2)) ∧ w'.cell? ⟨(ad219.add ((x5_1).toNat * 11)).block, (ad219.add ((x5_1).toNat * 11)).off + 3, none⟩ = some (.int .i64 ((rd_T26 l1 x5_1).f3)) ∧ w'.cell? ⟨(ad219.add ((x5_1).toNat * 11)).block, (ad219.add ((x5_1).toNat * 11)).off + 4, none⟩ = some (.int .i64 ((rd_T26 l1 x5_1).f4)) ∧ w'.cell? ⟨(ad219.add ((x5_1).toNat * 11)).block, (ad219.add ((x5_1).toNat * 11)).off + 5, none⟩ = some (.float .f64 ((rd_T26 l1 x5_1).f5)) ∧ w'.cell? ⟨(ad219.add ((x5_1).toNat * 11)).block, (ad219.add ((x5_1).toNat * 11)).off + 6, none⟩ = some (.float .f64 ((rd_T26 l1 x5_1).f6)) ∧ w'.cell? ⟨(ad219.add ((x5_1).toNat * 11)).block, (ad219.add ((x5_1).toNat * 11)).off + 7, none⟩ = some (.bool ((rd_T26 l1 x5_1).f7)) ∧ w'.cell? ⟨(ad219.add ((x5_1).toNat * 11)).block, (ad219.add ((x5_1).toNat * 11)).off + 8, none⟩ = some (.int .i64 ((rd_T26 l1 x5_1).f8)) ∧ w'.cell? ⟨(ad219.add ((x5_1).toNat * 11)).block, (ad219.add ((x5_1).toNat * 11)).off + 9, none⟩ = some (.int .i64 ((rd_T26 l1 x5_1).f9)) ∧ w'.cell? ⟨(ad219.add ((x5_1).toNat * 11)).block, (ad219.add ((x5_1).toNat * 11)).off + 10, none⟩ = some (.int .i64 ((rd_T26 l1 x5_1).f10))) (ds := []) #[false, false, false, false, false, false, false, false, false, false] (by kernel_rfl) rfl rfl ⟨(hxb HB.out hw218_0), (hxb HB.out hw218_1), (hxb HB.out hw218_2), (hxb HB.out hw218_3), (hxb HB.out hw218_4), (hxb HB.out hw218_5), (hxb HB.out hw218_6), (hxb HB.out hw218_7), (hxb HB.out hw218_8), (hxb HB.out hw218_9), (hxb HB.out hw218_10), (hxb HB.out hw219_0), (hxb HB.out hw219_1), (hxb HB.out hw219_2), (hxb HB.out hw219_3), (hxb HB.out hw219_4), (hxb HB.out hw219_5), (hxb HB.out hw219_6), (hxb HB.out hw219_7), (hxb HB.out hw219_8), (hxb HB.out hw219_9), (hxb HB.out hw219_10)⟩ (fun hHeld => ?_); refine with_tabW annuitykeep_Events.tab6 annuitykeep_Events.bits6 (fun HT_ HW_ => ?_)
  generalize wr.drew = w9 at HB hx218_0 hx218_1 hx218_10 hx218_2 hx218_3 hx218_4 hx218_5 hx218_6 hx218_7 hx218_8 hx218_9 hx219_0 hx219_1 hx219_10 hx219_2 hx219_3 hx219_4 hx219_5 hx219_6 hx219_7 hx219_8 hx219_9 hHeld ⊢
  refine pure_ (i := 0) (N := some 17) (v := ?_) (a' := ?_) #[true, false, false, false, false, false, false, false, false, false] rfl rfl (any_of HT_.out (by kernel_rfl)) (fun _ _ _ h => h) (Or.inl ⟨by rfl, ?_⟩) ?_ ?_
  rotate_left
  ·intro w'
   go_simp
   with_reducible rfl
  rotate_left
  ·simp only [Act.put, List.setIfInBounds_toArray, List.set_cons_zero, List.set_cons_succ, i64_w, i32_w]
   rfl
  refine pure_ (i := 1) (N := some 18) (v := ?_) (a' := ?_) #[true, true, false, false, false, false, false, false, false, false] rfl rfl (any_of HT_.out (by kernel_rfl)) (fun _ _ _ h => h) (Or.inl ⟨by rfl, ?_⟩) ?_ ?_
  rotate_left
  ·intro w'
   go_simp
   with_reducible rfl
  rotate_left
  ·simp only [Act.put, List.setIfInBounds_toArray, List.set_cons_zero, List.set_cons_succ, i64_w, i32_w]
   rfl
  refine pure_ (i := 2) (N := some 19) (v := ?_) (a' := ?_) #[true, true, true, false, false, false, false, false, false, false] rfl rfl (any_of HT_.out (by kernel_rfl)) (fun _ _ _ h => h) (Or.inl ⟨by rfl, ?_⟩) ?_ ?_
  rotate_left
  ·intro w'
   go_simp
   with_reducible rfl
  rotate_left
  ·simp only [Act.put, List.setIfInBounds_toArray, List.set_cons_zero, List.set_cons_succ, i64_w, i32_w]
   rfl
  refine pure_ (i := 4) (N := some 21) (v := ?_) (a' := ?_) #[true, true, true, false, true, false, false, false, false, false] rfl rfl (any_of HT_.out (by kernel_rfl)) (fun _ _ _ h => h) (Or.inl ⟨by rfl, ?_⟩) ?_ ?_
  rotate_left
  ·intro w'
   go_simp
   with_reducible rfl
  rotate_left
  ·simp only [Act.put, List.setIfInBounds_toArray, List.set_cons_zero, List.set_cons_succ, i64_w, i32_w]
   rfl
  refine pure_ (i := 5) (N := some 22) (v := ?_) (a' := ?_) #[true, true, true, false, true, true, false, false, false, false] rfl rfl (any_of HT_.out (by kernel_rfl)) (fun _ _ _ h => h) (Or.inl ⟨by rfl, ?_⟩) ?_ ?_
  rotate_left
  ·intro w'
   go_simp
   with_reducible rfl
  rotate_left
  ·simp only [Act.put, List.setIfInBounds_toArray, List.set_cons_zero, List.set_cons_succ, i64_w, i32_w]
   rfl
  refine pure_ (i := 6) (N := some 23) (v := ?_) (a' := ?_) #[true, true, true, false, true, true, true, false, false, false] rfl rfl (any_of HT_.out (by kernel_rfl)) (fun _ _ _ h => h) (Or.inl ⟨by rfl, ?_⟩) ?_ ?_
  rotate_left
  ·intro w'
   go_simp
   with_reducible rfl
  rotate_left
  ·simp only [Act.put, List.setIfInBounds_toArray, List.set_cons_zero, List.set_cons_succ, i64_w, i32_w]
   rfl
  refine take_ (i := 3) (N := some 20) (v := ?_) (a' := ?_) #[true, true, true, true, true, true, true, false, false, false] rfl rfl (take_ofW HT_.out HW_.out (by kernel_rfl)) (fun _ _ _ h => h) (Or.inl ⟨by rfl, ?_⟩) hHeld ?_ ?_
  rotate_left
  ·rintro w' ⟨s0, s1, s2, s3, s4, s5, s6, s7, s8, s9, s10, s11, s12, s13, s14, s15, s16, s17, s18, s19, s20, s21⟩
   go_simp
   with_reducible rfl
  rotate_left
  ·simp only [Act.put, List.setIfInBounds_toArray, List.set_cons_zero, List.set_cons_succ, i64_w, i32_w]
   rfl
  refine take_ (i := 7) (N := some 24) (v := ?_) (a' := ?_) #[true, true, true, true, true, true, true, true, false, false] rfl rfl (take_ofW HT_.out HW_.out (by kernel_rfl)) (fun _ _ _ h => h) (Or.inl ⟨by rfl, ?_⟩) hHeld ?_ ?_
  rotate_left
  ·rintro w' ⟨s0, s1, s2, s3, s4, s5, s6, s7, s8, s9, s10, s11, s12, s13, s14, s15, s16, s17, s18, s19, s20, s21⟩
   go_simp
   with_reducible rfl
  rotate_left
  ·simp only [Act.put, List.setIfInBounds_toArray, List.set_cons_zero, List.set_cons_succ, i64_w, i32_w]
   rfl
  refine one_ (i := 8) (N := some 25) #[true, true, true, true, true, true, true, true, true, false] rfl rfl (one_of HT_.out (by kernel_rfl)) (by decide) (fun K hK => ?_)
  refine goes_ Try.func21 (by kernel_rfl) rfl #[.agg #[.int .i64 ((rd_T26 l0 x5_1).f0), .int .i64 ((rd_T26 l0 x5_1).f1), .int .u32 ((rd_T26 l0 x5_1).f2), .int .i64 ((rd_T26 l0 x5_1).f3), .int .i64 ((rd_T26 l0 x5_1).f4), .float .f64 ((rd_T26 l0 x5_1).f5), .float .f64 ((rd_T26 l0 x5_1).f6), .bool ((rd_T26 l0 x5_1).f7), .int .i64 ((rd_T26 l0 x5_1).f8), .int .i64 ((rd_T26 l0 x5_1).f9), .int .i64 ((rd_T26 l0 x5_1).f10)], .agg #[.int .i64 ((rd_T26 l1 x5_1).f0), .int .i64 ((rd_T26 l1 x5_1).f1), .int .u32 ((rd_T26 l1 x5_1).f2), .int .i64 ((rd_T26 l1 x5_1).f3), .int .i64 ((rd_T26 l1 x5_1).f4), .float .f64 ((rd_T26 l1 x5_1).f5), .float .f64 ((rd_T26 l1 x5_1).f6), .bool ((rd_T26 l1 x5_1).f7), .int .i64 ((rd_T26 l1 x5_1).f8), .int .i64 ((rd_T26 l1 x5_1).f9), .int .i64 ((rd_T26 l1 x5_1).f10)]] (by rfl) rfl rfl (by (try simp only [List.map_toArray, List.map_cons, List.map_nil]); first | done | rfl | (simp only [List.length_drop, List.length_take]; rfl)) ?_
  with_reducible refine (annuitykeep_Event.calls k1 ((rd_T26 l0 x5_1).f0) ((rd_T26 l0 x5_1).f1) ((rd_T26 l0 x5_1).f2) ((rd_T26 l0 x5_1).f3) ((rd_T26 l0 x5_1).f4) ((rd_T26 l0 x5_1).f5) ((rd_T26 l0 x5_1).f6) ((rd_T26 l0 x5_1).f7) ((rd_T26 l0 x5_1).f8) ((rd_T26 l0 x5_1).f9) ((rd_T26 l0 x5_1).f10) ((rd_T26 l1 x5_1).f0) ((rd_T26 l1 x5_1).f1) ((rd_T26 l1 x5_1).f2) ((rd_T26 l1 x5_1).f3) ((rd_T26 l1 x5_1).f4) ((rd_T26 l1 x5_1).f5) ((rd_T26 l1 x5_1).f6) ((rd_T26 l1 x5_1).f7) ((rd_T26 l1 x5_1).f8) ((rd_T26 l1 x5_1).f9) ((rd_T26 l1 x5_1).f10) true _ A7.out).mono ?_
  rintro e w10 ⟨rfl, hb⟩
  refine ⟨_, rfl, ?_⟩
  have n0_ := Aside0.mk (below_step (by exact h0q HB.out) hb)
  clear HB
  have HB := n0_
  clear n0_
  (try clear hb)
  (try clear hb2)
  (try clear hk)
  (try clear hi)
  refine hK.out _ _ ⟨(hxb HB.out hw218_0), (hxb HB.out hw218_1), (hxb HB.out hw218_2), (hxb HB.out hw218_3), (hxb HB.out hw218_4), (hxb HB.out hw218_5), (hxb HB.out hw218_6), (hxb HB.out hw218_7), (hxb HB.out hw218_8), (hxb HB.out hw218_9), (hxb HB.out hw218_10), (hxb HB.out hw219_0), (hxb HB.out hw219_1), (hxb HB.out hw219_2), (hxb HB.out hw219_3), (hxb HB.out hw219_4), (hxb HB.out hw219_5), (hxb HB.out hw219_6), (hxb HB.out hw219_7), (hxb HB.out hw219_8), (hxb HB.out hw219_9), (hxb HB.out hw219_10)⟩ (fun hHeld => ?_)
  clear hK K
  refine norm_ (a' := ?_) ?_ ?_
  rotate_left
  ·show Act.put _ (some 25) _ = _
   simp only [Act.put, List.setIfInBounds_toArray, List.set_cons_zero, List.set_cons_succ, i64_w, i32_w]
   rfl
  refine pure_ (i := 9) (N := some 26) (v := ?_) (a' := ?_) #[true, true, true, true, true, true, true, true, true, true] rfl rfl (any_of HT_.out (by kernel_rfl)) (fun _ _ _ h => h) (Or.inl ⟨by rfl, ?_⟩) ?_ ?_
  rotate_left
  ·intro w'
   go_simp
   with_reducible rfl
  rotate_left
  ·simp only [Act.put, List.setIfInBounds_toArray, List.set_cons_zero, List.set_cons_succ, i64_w, i32_w]
   rfl
  refine done_ (done_of HT_.out (by kernel_rfl)) ?_
  try go_wp2
  go_roundg k1
  case measure => have := HK1.out; omega
  case rel => exact ⟨(wrap64 (x5_1 + 1)), (by first | rfl | (simp; done) | (simp [*]; done)), H', ⟨by have := HK1.out; omega⟩, ⟨by exact h0q HB.out⟩⟩
end Go.Proofs.Ytjdhhbjnihhncaa.P
