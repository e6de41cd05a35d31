/- Functions of the program as plain Lean functions, and proofs that its calls come to just their answers, where they tell one (written by a program of this session). -/
import Derived.Test.YtakcepffodipfaaZaa
import Derived.Test.YtakcepffodipfaaPx0
import Derived.Test.YtakcepffodipfaaPx16
namespace Go.Proofs.Ytakcepffodipfaa.P
open Go.RowKit Go.Proofs.YtakcepffodipfaaW.PrintWords Go.Proofs.YtakcepffodipfaaW.PrintLast Go.Proofs.YtakcepffodipfaaW.PrintMore
attribute [local go_sem] max2_int min2_int max_two min_two max_three min_three max_four min_four   -- for this text's walks alone
set_option linter.unusedVariables false
set_option linter.unusedSimpArgs false

/-! ### annuityref21_up: function 21 -/
def annuityref21_up.l0 : Nat → List Int → List Int → Int → Int → Int → Int → Option (Int)
 | 0, _, _, _, _, _, _ => none
 | k + 1, x0, x1, x2, x7, x8, x9 => if x9 < (x0.length : Int) then (if 0 ≤ x9 then (if x9 < (x1.length : Int) then ((annuityref01_Mul.f (IntKind.u64.wrap (rd x0 x9)) (IntKind.u64.wrap (rd x1 x9))).bind fun bt262 => ((annuityref01_Div.f k bt262.1 bt262.2 (IntKind.u64.wrap (x2))).bind fun bt265 => (if (wrap64 (x8 + (wrap64 (bt265.2.1)))) ≥ x2 then (annuityref21_up.l0 k x0 x1 x2 (wrap64 ((wrap64 (x7 + (wrap64 (bt265.1)))) + 1)) (wrap64 ((wrap64 (x8 + (wrap64 (bt265.2.1)))) - x2)) (wrap64 (x9 + 1))) else (annuityref21_up.l0 k x0 x1 x2 (wrap64 (x7 + (wrap64 (bt265.1)))) (wrap64 (x8 + (wrap64 (bt265.2.1)))) (wrap64 (x9 + 1)))))) else (none)) else (none)) else (if x8 > 0 then (some (wrap64 (x7 + 1))) else (some x7))
def annuityref21_up.f (k : Nat) (l0 : List Int) (l1 : List Int) (a2 : Int) : Option (Int) := annuityref21_up.l0 k l0 l1 a2 0 0 0
def annuityref21_up.T5 : Bool × List (List Nat × List Nat) := (true, [([], []), ([], []), ([0, 1], [0, 1]), ([2], [2]), ([3], [3]), ([], []), ([], []), ([5, 6], [5, 6]), ([7], [7]), ([8], [8]), ([4, 9], [4, 9]), ([], []), ([11, 10, 10, 0, 1, 2, 3, 4, 5, 6, 7, 8, 9, 10, 11], [10, 11])])
def annuityref21_up.B5 : List Nat := [0, 0, 3, 7, 15, 0, 0, 96, 224, 480, 1023, 0, 4095]
theorem annuityref21_up.tab5 : rtab .any (opsOf Try.f21 5) = annuityref21_up.T5 := by kernel_rfl
theorem annuityref21_up.bits5 : waitsOk annuityref21_up.T5.2 annuityref21_up.B5 = true := by kernel_rfl
set_option maxHeartbeats 8000000 in
set_option maxRecDepth 100000 in
theorem annuityref21_up.calls (k : Nat) (A0 : Option Addr) (c0 : Nat) (l0 : List Int) (A1 : Option Addr) (c1 : Nat) (l1 : List Int) (a2 : Int) (r : Int) (w : World) (hr0 : Kd.C (Kd.int .i64) w A0 l0.length l0) (hc0 : l0.length ≤ c0) (hr1 : Kd.C (Kd.int .i64) w A1 l1.length l1) (hc1 : l1.length ≤ c1) (h : annuityref21_up.f k l0 l1 a2 = some r) :
  Calls Try.prog 21 #[.slice A0 l0.length c0, .slice A1 l1.length c1, .int .i64 a2] w fun e w' => e = .returned (.int .i64 r) ∧ Below w.heap.size w w' := by
 have hu67 := Try.underlying67
 have hu70 := Try.underlying70
 have HR0 := Aside0.mk hr0
 have HC0 := Aside0.mk hc0
 clear hr0 hc0
 have HR1 := Aside0.mk hr1
 have HC1 := Aside0.mk hc1
 clear hr1 hc1
 have HB := Aside0.mk (Below.refl w.heap.size w)
 have H : (annuityref21_up.l0 k l0 l1 a2 0 0 0) = some r := h
 clear h
 have H' := Aside0.mk H
 clear H
 go_enter Try.func21, Try.ntmps21
 go_wp2
 go_loopg [7, 8, 9] k (fun kq v7 v8 v9 w' => ∃ (x7_1 : Int) (x8_1 : Int) (x9_1 : Int), v7 = .int .i64 x7_1 ∧ v8 = .int .i64 x8_1 ∧ v9 = .int .i64 x9_1 ∧ Aside0 (annuityref21_up.l0 kq l0 l1 a2 x7_1 x8_1 x9_1 = some r) ∧ Aside0 (kq ≤ k) ∧ Aside0 (Below w.heap.size w w'))
 case atStart => exact ⟨(0), (0), (0), (by first | rfl | (simp; done) | (simp [*]; done)), (by first | rfl | (simp; done) | (simp [*]; done)), (by first | rfl | (simp; done) | (simp [*]; done)), H', ⟨Nat.le_refl _⟩, ⟨by exact h0q HB.out⟩⟩
 case round =>
  clear H'
  try clear c1
  obtain ⟨x7_1, x8_1, x9_1, rfl, rfl, rfl, HA, HK1, HB⟩ := hrel
  rcases gk with _ | k1
  ·exact absurd HA.out (by simp [annuityref21_up.l0])
  have H := HA.out
  clear HA
  simp only [annuityref21_up.l0] at H
  by_cases c4 : x9_1 < (l0.length : Int)
  ·rw [if_pos c4] at H
   have c4b0 : decide (x9_1 < (l0.length : Int)) = true := decide_eq_true c4
   clear c4
   by_cases c5 : 0 ≤ x9_1
   ·rw [if_pos c5] at H
    have c5b0 : decide (0 ≤ x9_1) = true := decide_eq_true c5
    clear c5
    by_cases c6 : x9_1 < (l1.length : Int)
    ·rw [if_pos c6] at H
     have c6b0 : decide (x9_1 < (l1.length : Int)) = true := decide_eq_true c6
     clear c6
     replace H := Option.bind_eq_some_iff.mp H
     obtain ⟨⟨t262, t263⟩, A70, H⟩ := H
     replace H : ((annuityref01_Div.f k1 t262 t263 (IntKind.u64.wrap (a2))).bind fun bt265 => (if (wrap64 (x8_1 + (wrap64 (bt265.2.1)))) ≥ a2 then (annuityref21_up.l0 k1 l0 l1 a2 (wrap64 ((wrap64 (x7_1 + (wrap64 (bt265.1)))) + 1)) (wrap64 ((wrap64 (x8_1 + (wrap64 (bt265.2.1)))) - a2)) (wrap64 (x9_1 + 1))) else (annuityref21_up.l0 k1 l0 l1 a2 (wrap64 (x7_1 + (wrap64 (bt265.1)))) (wrap64 (x8_1 + (wrap64 (bt265.2.1)))) (wrap64 (x9_1 + 1))))) = some r := H
     have A7 := Aside0.mk A70
     clear A70
     replace H := Option.bind_eq_some_iff.mp H
     obtain ⟨⟨t265, t266, t267⟩, A80, H⟩ := H
     replace H : (if (wrap64 (x8_1 + (wrap64 (t266)))) ≥ a2 then (annuityref21_up.l0 k1 l0 l1 a2 (wrap64 ((wrap64 (x7_1 + (wrap64 (t265)))) + 1)) (wrap64 ((wrap64 (x8_1 + (wrap64 (t266)))) - a2)) (wrap64 (x9_1 + 1))) else (annuityref21_up.l0 k1 l0 l1 a2 (wrap64 (x7_1 + (wrap64 (t265)))) (wrap64 (x8_1 + (wrap64 (t266)))) (wrap64 (x9_1 + 1)))) = some r := H
     have A8 := Aside0.mk A80
     clear A80
     by_cases c9 : (wrap64 (x8_1 + (wrap64 (t266)))) ≥ a2
     ·rw [if_pos c9] at H
      have c9b0 : decide (a2 ≤ (wrap64 (x8_1 + (wrap64 (t266))))) = true := decide_eq_true c9
      clear c9
      have H' := Aside0.mk H
      clear H
      try go_wp2
      have n0_ := Aside0.mk (below_drew1 HB.out)
      clear HB
      have HB := n0_
      clear n0_
      have p260 : 0 ≤ (x9_1 : Int) := yd
      have q260 : x9_1 < (l0.length : Int) := yd
      obtain ⟨ad260, e260, hx260_0⟩ := Kd.at_int HR0.out x9_1 p260 q260
      have hw260_0 := hx260_0
      cases e260
      replace hx260_0 := hxb HB.out hx260_0
      replace p260 := eq_true p260
      replace q260 := eq_true q260
      have p261 : 0 ≤ (x9_1 : Int) := yd
      have q261 : x9_1 < (l1.length : Int) := yd
      obtain ⟨ad261, e261, hx261_0⟩ := Kd.at_int HR1.out x9_1 p261 q261
      have hw261_0 := hx261_0
      cases e261
      replace hx261_0 := hxb HB.out hx261_0
      replace p261 := eq_true p261
      replace q261 := eq_true q261
      refine start_ (n := 13) (S := fun w' => w'.cell? (ad260.add (x9_1).toNat) = some (.int .i64 (rd l0 x9_1)) ∧ w'.cell? (ad261.add (x9_1).toNat) = some (.int .i64 (rd l1 x9_1))) (ds := []) #[false, false, false, false, false, false, false, false, false, false, false, false, false] (by kernel_rfl) rfl rfl ⟨(hxb HB.out hw260_0), (hxb HB.out hw261_0)⟩ (fun hHeld => ?_); refine with_tabW annuityref21_up.tab5 annuityref21_up.bits5 (fun HT_ HW_ => ?_)
      generalize wr.drew = w10 at HB hx260_0 hx261_0 hHeld ⊢
      refine pure_ (i := 0) (N := some 18) (v := ?_) (a' := ?_) #[true, false, false, false, false, false, false, false, false, false, false, false, false] rfl rfl (any_of HT_.out (by kernel_rfl)) (fun _ _ _ h => h) (Or.inl ⟨by rfl, ?_⟩) ?_ ?_
      rotate_left
      ·intro w'
       go_simp
       with_reducible rfl
      rotate_left
      ·simp only [Act.put, List.setIfInBounds_toArray, List.set_cons_zero, List.set_cons_succ, i64_w, i32_w]
       rfl
      refine pure_ (i := 1) (N := some 19) (v := ?_) (a' := ?_) #[true, true, false, false, false, false, false, false, false, false, false, false, false] rfl rfl (any_of HT_.out (by kernel_rfl)) (fun _ _ _ h => h) (Or.inl ⟨by rfl, ?_⟩) ?_ ?_
      rotate_left
      ·intro w'
       go_simp
       with_reducible rfl
      rotate_left
      ·simp only [Act.put, List.setIfInBounds_toArray, List.set_cons_zero, List.set_cons_succ, i64_w, i32_w]
       rfl
      refine pure_ (i := 2) (N := some 20) (v := ?_) (a' := ?_) #[true, true, true, false, false, false, false, false, false, false, false, false, false] rfl rfl (any_of HT_.out (by kernel_rfl)) (fun _ _ _ h => h) (Or.inl ⟨by rfl, ?_⟩) ?_ ?_
      rotate_left
      ·intro w'
       go_simp
       with_reducible rfl
      rotate_left
      ·simp only [Act.put, List.setIfInBounds_toArray, List.set_cons_zero, List.set_cons_succ, i64_w, i32_w]
       rfl
      refine pure_ (i := 5) (N := some 23) (v := ?_) (a' := ?_) #[true, true, true, false, false, true, false, false, false, false, false, false, false] rfl rfl (any_of HT_.out (by kernel_rfl)) (fun _ _ _ h => h) (Or.inl ⟨by rfl, ?_⟩) ?_ ?_
      rotate_left
      ·intro w'
       go_simp
       with_reducible rfl
      rotate_left
      ·simp only [Act.put, List.setIfInBounds_toArray, List.set_cons_zero, List.set_cons_succ, i64_w, i32_w]
       rfl
      refine pure_ (i := 6) (N := some 24) (v := ?_) (a' := ?_) #[true, true, true, false, false, true, true, false, false, false, false, false, false] rfl rfl (any_of HT_.out (by kernel_rfl)) (fun _ _ _ h => h) (Or.inl ⟨by rfl, ?_⟩) ?_ ?_
      rotate_left
      ·intro w'
       go_simp
       with_reducible rfl
      rotate_left
      ·simp only [Act.put, List.setIfInBounds_toArray, List.set_cons_zero, List.set_cons_succ, i64_w, i32_w]
       rfl
      refine pure_ (i := 7) (N := some 25) (v := ?_) (a' := ?_) #[true, true, true, false, false, true, true, true, false, false, false, false, false] rfl rfl (any_of HT_.out (by kernel_rfl)) (fun _ _ _ h => h) (Or.inl ⟨by rfl, ?_⟩) ?_ ?_
      rotate_left
      ·intro w'
       go_simp
       with_reducible rfl
      rotate_left
      ·simp only [Act.put, List.setIfInBounds_toArray, List.set_cons_zero, List.set_cons_succ, i64_w, i32_w]
       rfl
      refine take_ (i := 3) (N := some 21) (v := ?_) (a' := ?_) #[true, true, true, true, false, true, true, true, false, false, false, false, false] rfl rfl (take_ofW HT_.out HW_.out (by kernel_rfl)) (fun _ _ _ h => h) (Or.inl ⟨by rfl, ?_⟩) hHeld ?_ ?_
      rotate_left
      ·rintro w' ⟨s0, s1⟩
       go_simp
       with_reducible rfl
      rotate_left
      ·simp only [Act.put, List.setIfInBounds_toArray, List.set_cons_zero, List.set_cons_succ, i64_w, i32_w]
       rfl
      refine pure_ (i := 4) (N := some 22) (v := ?_) (a' := ?_) #[true, true, true, true, true, true, true, true, false, false, false, false, false] rfl rfl (any_of HT_.out (by kernel_rfl)) (fun _ _ _ h => h) (Or.inl ⟨by rfl, ?_⟩) ?_ ?_
      rotate_left
      ·intro w'
       go_simp
       with_reducible rfl
      rotate_left
      ·simp only [Act.put, List.setIfInBounds_toArray, List.set_cons_zero, List.set_cons_succ, i64_w, i32_w]
       rfl
      refine take_ (i := 8) (N := some 26) (v := ?_) (a' := ?_) #[true, true, true, true, true, true, true, true, true, false, false, false, false] rfl rfl (take_ofW HT_.out HW_.out (by kernel_rfl)) (fun _ _ _ h => h) (Or.inl ⟨by rfl, ?_⟩) hHeld ?_ ?_
      rotate_left
      ·rintro w' ⟨s0, s1⟩
       go_simp
       with_reducible rfl
      rotate_left
      ·simp only [Act.put, List.setIfInBounds_toArray, List.set_cons_zero, List.set_cons_succ, i64_w, i32_w]
       rfl
      refine pure_ (i := 9) (N := some 27) (v := ?_) (a' := ?_) #[true, true, true, true, true, true, true, true, true, true, false, false, false] rfl rfl (any_of HT_.out (by kernel_rfl)) (fun _ _ _ h => h) (Or.inl ⟨by rfl, ?_⟩) ?_ ?_
      rotate_left
      ·intro w'
       go_simp
       with_reducible rfl
      rotate_left
      ·simp only [Act.put, List.setIfInBounds_toArray, List.set_cons_zero, List.set_cons_succ, i64_w, i32_w]
       rfl
      refine join_ (σ := Nat) 1 #[true, true, true, true, true, true, true, true, true, true, true, true, false] (fun s_ => [(28, .agg #[.int .u64 t262, .int .u64 t263]), (10, .pointer (some ⟨s_, 0, none⟩))]) (fun s_ w' => (w'.cell? (ad260.add (x9_1).toNat) = some (.int .i64 (rd l0 x9_1)) ∧ w'.cell? (ad261.add (x9_1).toNat) = some (.int .i64 (rd l1 x9_1))) ∧ (w'.heap[s_]? = some (.cells #[.int .u64 0, .int .u64 0] 67 (0, 0))) ∧ (w.heap.size ≤ s_) ∧ (w.heap.size ≤ s_) ∧ (Below w.heap.size w w')) ?_ ?_
      rotate_left
      ·intro hCont
       refine two_ (i := 10) (j := 11) (Ni := some 28) (Nj := some 10) #[true, true, true, true, true, true, true, true, true, true, true, false, false] #[true, true, true, true, true, true, true, true, true, true, false, true, false] rfl rfl rfl rfl (two_of HT_.out (by kernel_rfl)) (by decide) (by decide) (fun K hK => ?_) (fun K hK => ?_)
       ·skip
        refine goes_ Try.func35 (by kernel_rfl) rfl #[.int .u64 (IntKind.u64.wrap (rd l0 x9_1)), .int .u64 (IntKind.u64.wrap (rd l1 x9_1))] (by rfl) rfl rfl (by (try simp only [List.map_toArray, List.map_cons, List.map_nil]); first | done | rfl | (simp only [List.length_drop, List.length_take]; rfl)) ?_
        with_reducible refine (annuityref01_Mul.calls (IntKind.u64.wrap (rd l0 x9_1)) (IntKind.u64.wrap (rd l1 x9_1)) t262 t263 _ A7.out).mono ?_
        rintro e w11 ⟨rfl, hb⟩
        refine ⟨_, rfl, ?_⟩
        have n0_ := Aside0.mk (below_step (by exact h0q HB.out) hb)
        clear HB
        have HB := n0_
        clear n0_
        (try clear hb)
        (try clear hb2)
        (try clear hk)
        (try clear hi)
        refine hK.out _ _ ⟨(hxb HB.out hw260_0), (hxb HB.out hw261_0)⟩ (fun hHeld => ?_)
        clear hK K
        refine norm_ (a' := ?_) ?_ ?_
        rotate_left
        ·show Act.put _ (some 28) _ = _
         simp only [Act.put, List.setIfInBounds_toArray, List.set_cons_zero, List.set_cons_succ, i64_w, i32_w]
         rfl
        refine one_ (i := 11) (N := some 10) #[true, true, true, true, true, true, true, true, true, true, true, true, false] rfl rfl (one_of HT_.out (by kernel_rfl)) (by decide) (fun K hK => ?_)
        refine box_step ?hg (N := 10) ?hd (cs := #[.int .u64 0, .int .u64 0]) (t := 67) ?hr ?_; (case hd => rfl); (case hg => rfl); (case hr => first | (go_simp; done) | (go_simp; rfl))
        intro gb264 hg w12 hbox hb
        have n0_ := Aside0.mk (below_step (by exact h0q HB.out) hb)
        have n1_ := Aside0.mk (hbox)
        have n2_ := Aside0.mk ((by rw [hg]; exact (below_size (by exact h0q HB.out)) : w.heap.size ≤ gb264))
        have n3_ := Aside0.mk ((by rw [hg]; exact (below_size (by exact h0q HB.out)) : w.heap.size ≤ gb264))
        clear HB
        have HB := n0_
        have BK264 := n1_
        have GW264 := n2_
        have GE264 := n3_
        clear n0_ n1_ n2_ n3_
        clear hb hbox hg
        refine hK.out _ _ ⟨(hxb HB.out hw260_0), (hxb HB.out hw261_0)⟩ (fun hHeld => ?_)
        clear hK K
        refine norm_ (a' := ?_) ?_ ?_
        rotate_left
        ·show Act.put _ (some 10) _ = _
         simp only [Act.put, List.setIfInBounds_toArray, List.set_cons_zero, List.set_cons_succ, i64_w, i32_w]
         rfl
        exact norm_ (by simp only [putAll, Act.put, List.setIfInBounds_toArray, List.set_cons_zero, List.set_cons_succ]) (hCont (gb264) _ ⟨hHeld, (Up.up BK264.out), GW264.out, GE264.out, (by exact h1q HB.out GE264.out)⟩)
       ·skip
        refine box_step ?hg (N := 10) ?hd (cs := #[.int .u64 0, .int .u64 0]) (t := 67) ?hr ?_; (case hd => rfl); (case hg => rfl); (case hr => first | (go_simp; done) | (go_simp; rfl))
        intro gb264 hg w11 hbox hb
        have n0_ := Aside0.mk (below_step (by exact h0q HB.out) hb)
        have n1_ := Aside0.mk (hbox)
        have n2_ := Aside0.mk ((by rw [hg]; exact (below_size (by exact h0q HB.out)) : w.heap.size ≤ gb264))
        have n3_ := Aside0.mk ((by rw [hg]; exact (below_size (by exact h0q HB.out)) : w.heap.size ≤ gb264))
        clear HB
        have HB := n0_
        have BK264 := n1_
        have GW264 := n2_
        have GE264 := n3_
        clear n0_ n1_ n2_ n3_
        clear hb hbox hg
        refine hK.out _ _ ⟨(hxb HB.out hw260_0), (hxb HB.out hw261_0)⟩ (fun hHeld => ?_)
        clear hK K
        refine norm_ (a' := ?_) ?_ ?_
        rotate_left
        ·show Act.put _ (some 10) _ = _
         simp only [Act.put, List.setIfInBounds_toArray, List.set_cons_zero, List.set_cons_succ, i64_w, i32_w]
         rfl
        refine one_ (i := 10) (N := some 28) #[true, true, true, true, true, true, true, true, true, true, true, true, false] rfl rfl (one_of HT_.out (by kernel_rfl)) (by decide) (fun K hK => ?_)
        refine goes_ Try.func35 (by kernel_rfl) rfl #[.int .u64 (IntKind.u64.wrap (rd l0 x9_1)), .int .u64 (IntKind.u64.wrap (rd l1 x9_1))] (by rfl) rfl rfl (by (try simp only [List.map_toArray, List.map_cons, List.map_nil]); first | done | rfl | (simp only [List.length_drop, List.length_take]; rfl)) ?_
        with_reducible refine (annuityref01_Mul.calls (IntKind.u64.wrap (rd l0 x9_1)) (IntKind.u64.wrap (rd l1 x9_1)) t262 t263 _ A7.out).mono ?_
        rintro e w12 ⟨rfl, hb⟩
        refine ⟨_, rfl, ?_⟩
        have n0_ := Aside0.mk (blk_below (g := gb264) (Up.up BK264.out) hb)
        have n1_ := Aside0.mk (below_step (by exact h1q HB.out GE264.out) hb)
        clear BK264
        clear HB
        have BK264 := n0_
        have HB := n1_
        clear n0_ n1_
        (try clear hb)
        (try clear hb2)
        (try clear hk)
        (try clear hi)
        refine hK.out _ _ ⟨(hxb HB.out hw260_0), (hxb HB.out hw261_0)⟩ (fun hHeld => ?_)
        clear hK K
        refine norm_ (a' := ?_) ?_ ?_
        rotate_left
        ·show Act.put _ (some 28) _ = _
         simp only [Act.put, List.setIfInBounds_toArray, List.set_cons_zero, List.set_cons_succ, i64_w, i32_w]
         rfl
        exact norm_ (by simp only [putAll, Act.put, List.setIfInBounds_toArray, List.set_cons_zero, List.set_cons_succ]) (hCont (gb264) _ ⟨hHeld, (Up.up BK264.out), GW264.out, GE264.out, (by exact h1q HB.out GE264.out)⟩)
      rintro gb264 w13 ⟨hS_, h0_, h1_, h2_, h3_⟩
      have n0_ : Aside0 (w13.heap[gb264]? = some (.cells #[.int .u64 0, .int .u64 0] 67 (0, 0))) := ⟨h0_⟩
      have n1_ : Aside0 (w.heap.size ≤ gb264) := ⟨h1_⟩
      have n2_ : Aside0 (w.heap.size ≤ gb264) := ⟨h2_⟩
      have n3_ : Aside0 (Below w.heap.size w w13) := ⟨h3_⟩
      clear HB
      clear h0_ h1_ h2_ h3_
      have BK264 := n0_
      have GW264 := n1_
      have GE264 := n2_
      have HB := n3_
      clear n0_ n1_ n2_ n3_
      have hHeld : w13.cell? (ad260.add (x9_1).toNat) = some (.int .i64 (rd l0 x9_1)) ∧ w13.cell? (ad261.add (x9_1).toNat) = some (.int .i64 (rd l1 x9_1)) := hS_
      refine norm_ (a' := ?_) ?_ ?_
      rotate_left
      ·simp only [putAll, Act.put, List.setIfInBounds_toArray, List.set_cons_zero, List.set_cons_succ]
       rfl
      refine one_ (i := 12) (N := none) #[true, true, true, true, true, true, true, true, true, true, true, true, true] rfl rfl (one_of HT_.out (by kernel_rfl)) (by decide) (fun K hK => ?_)
      have hs14 : w13.cell? ⟨gb264, 0, none⟩ = some (.int .u64 0) := (blk_cell BK264.out 0).trans rfl
      have hfs14 := blk_frozen BK264.out 0
      have hs15 : w13.cell? ⟨gb264, 1, none⟩ = some (.int .u64 0) := (blk_cell BK264.out 1).trans rfl
      have hfs15 := blk_frozen BK264.out 1
      refine skip_ (w1 := ?_) (by rfl) rfl ?_ ?_
      rotate_left
      ·go_simp
       rfl
      refine hK.out _ _ ⟨((cell_far (p := ⟨gb264, _, none⟩) (by first | exact Nat.ne_of_lt (Nat.lt_of_lt_of_le (by have := World.block_lt_of_cell? _ _ hw260_0; first | rwa [add_block] at this | exact this) GW264.out) | (rw [add_block]; exact Nat.ne_of_lt (Nat.lt_of_lt_of_le (by have := World.block_lt_of_cell? _ _ hw260_0; first | rwa [add_block] at this | exact this) GW264.out)) | (show (Addr.add _ _).block ≠ _; rw [add_block]; exact Nat.ne_of_lt (Nat.lt_of_lt_of_le (by have := World.block_lt_of_cell? _ _ hw260_0; first | rwa [add_block] at this | exact this) GW264.out)) | (dsimp only; exact Nat.ne_of_lt (Nat.lt_of_lt_of_le (by have := World.block_lt_of_cell? _ _ hw260_0; first | rwa [add_block] at this | exact this) GW264.out))) _).trans (((cell_far (p := ⟨gb264, _, none⟩) (by first | exact Nat.ne_of_lt (Nat.lt_of_lt_of_le (by have := World.block_lt_of_cell? _ _ hw260_0; first | rwa [add_block] at this | exact this) GW264.out) | (rw [add_block]; exact Nat.ne_of_lt (Nat.lt_of_lt_of_le (by have := World.block_lt_of_cell? _ _ hw260_0; first | rwa [add_block] at this | exact this) GW264.out)) | (show (Addr.add _ _).block ≠ _; rw [add_block]; exact Nat.ne_of_lt (Nat.lt_of_lt_of_le (by have := World.block_lt_of_cell? _ _ hw260_0; first | rwa [add_block] at this | exact this) GW264.out)) | (dsimp only; exact Nat.ne_of_lt (Nat.lt_of_lt_of_le (by have := World.block_lt_of_cell? _ _ hw260_0; first | rwa [add_block] at this | exact this) GW264.out))) _).trans (hHeld.1)))), ((cell_far (p := ⟨gb264, _, none⟩) (by first | exact Nat.ne_of_lt (Nat.lt_of_lt_of_le (by have := World.block_lt_of_cell? _ _ hw261_0; first | rwa [add_block] at this | exact this) GW264.out) | (rw [add_block]; exact Nat.ne_of_lt (Nat.lt_of_lt_of_le (by have := World.block_lt_of_cell? _ _ hw261_0; first | rwa [add_block] at this | exact this) GW264.out)) | (show (Addr.add _ _).block ≠ _; rw [add_block]; exact Nat.ne_of_lt (Nat.lt_of_lt_of_le (by have := World.block_lt_of_cell? _ _ hw261_0; first | rwa [add_block] at this | exact this) GW264.out)) | (dsimp only; exact Nat.ne_of_lt (Nat.lt_of_lt_of_le (by have := World.block_lt_of_cell? _ _ hw261_0; first | rwa [add_block] at this | exact this) GW264.out))) _).trans (((cell_far (p := ⟨gb264, _, none⟩) (by first | exact Nat.ne_of_lt (Nat.lt_of_lt_of_le (by have := World.block_lt_of_cell? _ _ hw261_0; first | rwa [add_block] at this | exact this) GW264.out) | (rw [add_block]; exact Nat.ne_of_lt (Nat.lt_of_lt_of_le (by have := World.block_lt_of_cell? _ _ hw261_0; first | rwa [add_block] at this | exact this) GW264.out)) | (show (Addr.add _ _).block ≠ _; rw [add_block]; exact Nat.ne_of_lt (Nat.lt_of_lt_of_le (by have := World.block_lt_of_cell? _ _ hw261_0; first | rwa [add_block] at this | exact this) GW264.out)) | (dsimp only; exact Nat.ne_of_lt (Nat.lt_of_lt_of_le (by have := World.block_lt_of_cell? _ _ hw261_0; first | rwa [add_block] at this | exact this) GW264.out))) _).trans (hHeld.2))))⟩ (fun hHeld => ?_)
      clear hK K
      refine done_ (done_of HT_.out (by kernel_rfl)) ?_
      have hcz16_0 : w13.cell? ⟨gb264, 0, none⟩ = some (.int .u64 0) := (blk_cell BK264.out 0).trans rfl
      have hcz16_1 : w13.cell? ⟨gb264, 1, none⟩ = some (.int .u64 0) := (blk_cell BK264.out 1).trans rfl
      have hfz16_0 := blk_frozen BK264.out 0
      have hfz16_1 := blk_frozen BK264.out 1
      try go_wp2_with (first | ((with_reducible refine gate_callee (f := 36) rfl ?_); refine goesL_ (some 35) rfl rfl Try.func36 (by kernel_rfl) rfl #[.int .u64 t262, .int .u64 t263, .int .u64 (IntKind.u64.wrap (a2))] rfl (by (try simp only [List.map_toArray, List.map_cons, List.map_nil]); first | done | rfl | (simp only [List.length_drop, List.length_take]; rfl)) ?_; (with_reducible refine (annuityref01_Div.calls k1 t262 t263 (IntKind.u64.wrap (a2)) t265 t266 t267 _ A8.out).mono ?_); rintro e w17 ⟨rfl, hb⟩; refine ⟨_, rfl, ?_⟩; have n0_ := Aside0.mk (blk_below (g := gb264) (o := .cells #[.int .u64 t262, .int .u64 t263] 67 (0, 0)) (by (with_reducible repeat (first | refine blk_drewN ?_ _ | refine blk_drew ?_ | refine blk_alloc ?_ _)); refine blk_put (cs := #[.int .u64 t262, .int .u64 0]) ?_ 1 _ rfl; (with_reducible repeat (first | refine blk_drewN ?_ _ | refine blk_drew ?_ | refine blk_alloc ?_ _)); refine blk_put (cs := #[.int .u64 0, .int .u64 0]) ?_ 0 _ rfl; (with_reducible repeat (first | refine blk_drewN ?_ _ | refine blk_drew ?_ | refine blk_alloc ?_ _)); exact BK264.out) hb); have n1_ := Aside0.mk (below_step (by exact h1q HB.out GE264.out) hb); clear BK264; clear HB; have BK264 := n0_; have HB := n1_; clear n0_ n1_; (try clear hb); (try clear hb2); (try clear hk); (try clear hi)) | ((with_reducible refine gate_dst (N := 11) rfl ?_); refine box_event ?hg (N := 11) ?hd (cs := #[.int .u64 0, .int .u64 0, .bool false]) (t := 70) ?hr ?_; (case hd => rfl); (case hg => rfl); (case hr => first | (go_simp; done) | (go_simp; rfl)); intro gb268 hg w18 hbox hb; have n0_ := Aside0.mk (blk_below (g := gb264) (Up.up BK264.out) hb); have n1_ := Aside0.mk (below_step (by exact h1q HB.out GE264.out) hb); have n2_ := Aside0.mk (hbox); have n3_ := Aside0.mk ((by rw [hg]; exact (below_size (by exact h1q HB.out GE264.out)) : w.heap.size ≤ gb268)); have n4_ := Aside0.mk ((by rw [hg]; exact (below_size (by exact h1q HB.out GE264.out)) : w.heap.size ≤ gb268)); have n5_ := Aside0.mk ((by rw [hg]; exact Nat.ne_of_lt (blk_lt (g := gb264) (Up.up BK264.out)) : gb264 ≠ gb268)); have n6_ := Aside0.mk ((by rw [hg]; exact Nat.ne_of_gt (blk_lt (g := gb264) (Up.up BK264.out)) : gb268 ≠ gb264)); clear BK264; clear HB; have BK264 := n0_; have HB := n1_; have BK268 := n2_; have GW268 := n3_; have GE268 := n4_; have NB264_268 := n5_; have NB268_264 := n6_; clear n0_ n1_ n2_ n3_ n4_ n5_ n6_; clear hb hbox hg; have hnb19 := NB268_264.out; have hnc19 := NB264_268.out; have hcz20_0 : w18.cell? ⟨gb268, 0, none⟩ = some (.int .u64 0) := (blk_cell BK268.out 0).trans rfl; have hcz20_1 : w18.cell? ⟨gb268, 1, none⟩ = some (.int .u64 0) := (blk_cell BK268.out 1).trans rfl; have hcz20_2 : w18.cell? ⟨gb268, 2, none⟩ = some (.bool false) := (blk_cell BK268.out 2).trans rfl; have hfz20_0 := blk_frozen BK268.out 0; have hfz20_1 := blk_frozen BK268.out 1; have hfz20_2 := blk_frozen BK268.out 2))
      go_roundg k1
      case measure => have := HK1.out; omega
      case rel => exact ⟨(wrap64 ((wrap64 (x7_1 + (wrap64 (t265)))) + 1)), (wrap64 ((wrap64 (x8_1 + (wrap64 (t266)))) - a2)), (wrap64 (x9_1 + 1)), (by first | rfl | (simp; done) | (simp [*]; done)), (by first | rfl | (simp; done) | (simp [*]; done)), (by first | rfl | (simp; done) | (simp [*]; done)), H', ⟨by have := HK1.out; omega⟩, ⟨by exact h2q HB.out GE264.out GE268.out⟩⟩
     ·rw [if_neg c9] at H
      have c9b0 : decide (a2 ≤ (wrap64 (x8_1 + (wrap64 (t266))))) = false := decide_eq_false c9
      clear c9
      have H' := Aside0.mk H
      clear H
      try go_wp2
      have n0_ := Aside0.mk (below_drew1 HB.out)
      clear HB
      have HB := n0_
      clear n0_
      have p260 : 0 ≤ (x9_1 : Int) := yd
      have q260 : x9_1 < (l0.length : Int) := yd
      obtain ⟨ad260, e260, hx260_0⟩ := Kd.at_int HR0.out x9_1 p260 q260
      have hw260_0 := hx260_0
      cases e260
      replace hx260_0 := hxb HB.out hx260_0
      replace p260 := eq_true p260
      replace q260 := eq_true q260
      have p261 : 0 ≤ (x9_1 : Int) := yd
      have q261 : x9_1 < (l1.length : Int) := yd
      obtain ⟨ad261, e261, hx261_0⟩ := Kd.at_int HR1.out x9_1 p261 q261
      have hw261_0 := hx261_0
      cases e261
      replace hx261_0 := hxb HB.out hx261_0
      replace p261 := eq_true p261
      replace q261 := eq_true q261
      refine start_ (n := 13) (S := fun w' => w'.cell? (ad260.add (x9_1).toNat) = some (.int .i64 (rd l0 x9_1)) ∧ w'.cell? (ad261.add (x9_1).toNat) = some (.int .i64 (rd l1 x9_1))) (ds := []) #[false, false, false, false, false, false, false, false, false, false, false, false, false] (by kernel_rfl) rfl rfl ⟨(hxb HB.out hw260_0), (hxb HB.out hw261_0)⟩ (fun hHeld => ?_); refine with_tabW annuityref21_up.tab5 annuityref21_up.bits5 (fun HT_ HW_ => ?_)
      generalize wr.drew = w21 at HB hx260_0 hx261_0 hHeld ⊢
      refine pure_ (i := 0) (N := some 18) (v := ?_) (a' := ?_) #[true, false, false, false, false, false, false, false, false, false, false, false, false] rfl rfl (any_of HT_.out (by kernel_rfl)) (fun _ _ _ h => h) (Or.inl ⟨by rfl, ?_⟩) ?_ ?_
      rotate_left
      ·intro w'
       go_simp
       with_reducible rfl
      rotate_left
      ·simp only [Act.put, List.setIfInBounds_toArray, List.set_cons_zero, List.set_cons_succ, i64_w, i32_w]
       rfl
      refine pure_ (i := 1) (N := some 19) (v := ?_) (a' := ?_) #[true, true, false, false, false, false, false, false, false, false, false, false, false] rfl rfl (any_of HT_.out (by kernel_rfl)) (fun _ _ _ h => h) (Or.inl ⟨by rfl, ?_⟩) ?_ ?_
      rotate_left
      ·intro w'
       go_simp
       with_reducible rfl
      rotate_left
      ·simp only [Act.put, List.setIfInBounds_toArray, List.set_cons_zero, List.set_cons_succ, i64_w, i32_w]
       rfl
      refine pure_ (i := 2) (N := some 20) (v := ?_) (a' := ?_) #[true, true, true, false, false, false, false, false, false, false, false, false, false] rfl rfl (any_of HT_.out (by kernel_rfl)) (fun _ _ _ h => h) (Or.inl ⟨by rfl, ?_⟩) ?_ ?_
      rotate_left
      ·intro w'
       go_simp
       with_reducible rfl
      rotate_left
      ·simp only [Act.put, List.setIfInBounds_toArray, List.set_cons_zero, List.set_cons_succ, i64_w, i32_w]
       rfl
      refine pure_ (i := 5) (N := some 23) (v := ?_) (a' := ?_) #[true, true, true, false, false, true, false, false, false, false, false, false, false] rfl rfl (any_of HT_.out (by kernel_rfl)) (fun _ _ _ h => h) (Or.inl ⟨by rfl, ?_⟩) ?_ ?_
      rotate_left
      ·intro w'
       go_simp
       with_reducible rfl
      rotate_left
      ·simp only [Act.put, List.setIfInBounds_toArray, List.set_cons_zero, List.set_cons_succ, i64_w, i32_w]
       rfl
      refine pure_ (i := 6) (N := some 24) (v := ?_) (a' := ?_) #[true, true, true, false, false, true, true, false, false, false, false, false, false] rfl rfl (any_of HT_.out (by kernel_rfl)) (fun _ _ _ h => h) (Or.inl ⟨by rfl, ?_⟩) ?_ ?_
      rotate_left
      ·intro w'
       go_simp
       with_reducible rfl
      rotate_left
      ·simp only [Act.put, List.setIfInBounds_toArray, List.set_cons_zero, List.set_cons_succ, i64_w, i32_w]
       rfl
      refine pure_ (i := 7) (N := some 25) (v := ?_) (a' := ?_) #[true, true, true, false, false, true, true, true, false, false, false, false, false] rfl rfl (any_of HT_.out (by kernel_rfl)) (fun _ _ _ h => h) (Or.inl ⟨by rfl, ?_⟩) ?_ ?_
      rotate_left
      ·intro w'
       go_simp
       with_reducible rfl
      rotate_left
      ·simp only [Act.put, List.setIfInBounds_toArray, List.set_cons_zero, List.set_cons_succ, i64_w, i32_w]
       rfl
      refine take_ (i := 3) (N := some 21) (v := ?_) (a' := ?_) #[true, true, true, true, false, true, true, true, false, false, false, false, false] rfl rfl (take_ofW HT_.out HW_.out (by kernel_rfl)) (fun _ _ _ h => h) (Or.inl ⟨by rfl, ?_⟩) hHeld ?_ ?_
      rotate_left
      ·rintro w' ⟨s0, s1⟩
       go_simp
       with_reducible rfl
      rotate_left
      ·simp only [Act.put, List.setIfInBounds_toArray, List.set_cons_zero, List.set_cons_succ, i64_w, i32_w]
       rfl
      refine pure_ (i := 4) (N := some 22) (v := ?_) (a' := ?_) #[true, true, true, true, true, true, true, true, false, false, false, false, false] rfl rfl (any_of HT_.out (by kernel_rfl)) (fun _ _ _ h => h) (Or.inl ⟨by rfl, ?_⟩) ?_ ?_
      rotate_left
      ·intro w'
       go_simp
       with_reducible rfl
      rotate_left
      ·simp only [Act.put, List.setIfInBounds_toArray, List.set_cons_zero, List.set_cons_succ, i64_w, i32_w]
       rfl
      refine take_ (i := 8) (N := some 26) (v := ?_) (a' := ?_) #[true, true, true, true, true, true, true, true, true, false, false, false, false] rfl rfl (take_ofW HT_.out HW_.out (by kernel_rfl)) (fun _ _ _ h => h) (Or.inl ⟨by rfl, ?_⟩) hHeld ?_ ?_
      rotate_left
      ·rintro w' ⟨s0, s1⟩
       go_simp
       with_reducible rfl
      rotate_left
      ·simp only [Act.put, List.setIfInBounds_toArray, List.set_cons_zero, List.set_cons_succ, i64_w, i32_w]
       rfl
      refine pure_ (i := 9) (N := some 27) (v := ?_) (a' := ?_) #[true, true, true, true, true, true, true, true, true, true, false, false, false] rfl rfl (any_of HT_.out (by kernel_rfl)) (fun _ _ _ h => h) (Or.inl ⟨by rfl, ?_⟩) ?_ ?_
      rotate_left
      ·intro w'
       go_simp
       with_reducible rfl
      rotate_left
      ·simp only [Act.put, List.setIfInBounds_toArray, List.set_cons_zero, List.set_cons_succ, i64_w, i32_w]
       rfl
      refine join_ (σ := Nat) 1 #[true, true, true, true, true, true, true, true, true, true, true, true, false] (fun s_ => [(28, .agg #[.int .u64 t262, .int .u64 t263]), (10, .pointer (some ⟨s_, 0, none⟩))]) (fun s_ w' => (w'.cell? (ad260.add (x9_1).toNat) = some (.int .i64 (rd l0 x9_1)) ∧ w'.cell? (ad261.add (x9_1).toNat) = some (.int .i64 (rd l1 x9_1))) ∧ (w'.heap[s_]? = some (.cells #[.int .u64 0, .int .u64 0] 67 (0, 0))) ∧ (w.heap.size ≤ s_) ∧ (w.heap.size ≤ s_) ∧ (Below w.heap.size w w')) ?_ ?_
      rotate_left
      ·intro hCont
       refine two_ (i := 10) (j := 11) (Ni := some 28) (Nj := some 10) #[true, true, true, true, true, true, true, true, true, true, true, false, false] #[true, true, true, true, true, true, true, true, true, true, false, true, false] rfl rfl rfl rfl (two_of HT_.out (by kernel_rfl)) (by decide) (by decide) (fun K hK => ?_) (fun K hK => ?_)
       ·skip
        refine goes_ Try.func35 (by kernel_rfl) rfl #[.int .u64 (IntKind.u64.wrap (rd l0 x9_1)), .int .u64 (IntKind.u64.wrap (rd l1 x9_1))] (by rfl) rfl rfl (by (try simp only [List.map_toArray, List.map_cons, List.map_nil]); first | done | rfl | (simp only [List.length_drop, List.length_take]; rfl)) ?_
        with_reducible refine (annuityref01_Mul.calls (IntKind.u64.wrap (rd l0 x9_1)) (IntKind.u64.wrap (rd l1 x9_1)) t262 t263 _ A7.out).mono ?_
        rintro e w22 ⟨rfl, hb⟩
        refine ⟨_, rfl, ?_⟩
        have n0_ := Aside0.mk (below_step (by exact h0q HB.out) hb)
        clear HB
        have HB := n0_
        clear n0_
        (try clear hb)
        (try clear hb2)
        (try clear hk)
        (try clear hi)
        refine hK.out _ _ ⟨(hxb HB.out hw260_0), (hxb HB.out hw261_0)⟩ (fun hHeld => ?_)
        clear hK K
        refine norm_ (a' := ?_) ?_ ?_
        rotate_left
        ·show Act.put _ (some 28) _ = _
         simp only [Act.put, List.setIfInBounds_toArray, List.set_cons_zero, List.set_cons_succ, i64_w, i32_w]
         rfl
        refine one_ (i := 11) (N := some 10) #[true, true, true, true, true, true, true, true, true, true, true, true, false] rfl rfl (one_of HT_.out (by kernel_rfl)) (by decide) (fun K hK => ?_)
        refine box_step ?hg (N := 10) ?hd (cs := #[.int .u64 0, .int .u64 0]) (t := 67) ?hr ?_; (case hd => rfl); (case hg => rfl); (case hr => first | (go_simp; done) | (go_simp; rfl))
        intro gb264 hg w23 hbox hb
        have n0_ := Aside0.mk (below_step (by exact h0q HB.out) hb)
        have n1_ := Aside0.mk (hbox)
        have n2_ := Aside0.mk ((by rw [hg]; exact (below_size (by exact h0q HB.out)) : w.heap.size ≤ gb264))
        have n3_ := Aside0.mk ((by rw [hg]; exact (below_size (by exact h0q HB.out)) : w.heap.size ≤ gb264))
        clear HB
        have HB := n0_
        have BK264 := n1_
        have GW264 := n2_
        have GE264 := n3_
        clear n0_ n1_ n2_ n3_
        clear hb hbox hg
        refine hK.out _ _ ⟨(hxb HB.out hw260_0), (hxb HB.out hw261_0)⟩ (fun hHeld => ?_)
        clear hK K
        refine norm_ (a' := ?_) ?_ ?_
        rotate_left
        ·show Act.put _ (some 10) _ = _
         simp only [Act.put, List.setIfInBounds_toArray, List.set_cons_zero, List.set_cons_succ, i64_w, i32_w]
         rfl
        exact norm_ (by simp only [putAll, Act.put, List.setIfInBounds_toArray, List.set_cons_zero, List.set_cons_succ]) (hCont (gb264) _ ⟨hHeld, (Up.up BK264.out), GW264.out, GE264.out, (by exact h1q HB.out GE264.out)⟩)
       ·skip
        refine box_step ?hg (N := 10) ?hd (cs := #[.int .u64 0, .int .u64 0]) (t := 67) ?hr ?_; (case hd => rfl); (case hg => rfl); (case hr => first | (go_simp; done) | (go_simp; rfl))
        intro gb264 hg w22 hbox hb
        have n0_ := Aside0.mk (below_step (by exact h0q HB.out) hb)
        have n1_ := Aside0.mk (hbox)
        have n2_ := Aside0.mk ((by rw [hg]; exact (below_size (by exact h0q HB.out)) : w.heap.size ≤ gb264))
        have n3_ := Aside0.mk ((by rw [hg]; exact (below_size (by exact h0q HB.out)) : w.heap.size ≤ gb264))
        clear HB
        have HB := n0_
        have BK264 := n1_
        have GW264 := n2_
        have GE264 := n3_
        clear n0_ n1_ n2_ n3_
        clear hb hbox hg
        refine hK.out _ _ ⟨(hxb HB.out hw260_0), (hxb HB.out hw261_0)⟩ (fun hHeld => ?_)
        clear hK K
        refine norm_ (a' := ?_) ?_ ?_
        rotate_left
        ·show Act.put _ (some 10) _ = _
         simp only [Act.put, List.setIfInBounds_toArray, List.set_cons_zero, List.set_cons_succ, i64_w, i32_w]
         rfl
        refine one_ (i := 10) (N := some 28) #[true, true, true, true, true, true, true, true, true, true, true, true, false] rfl rfl (one_of HT_.out (by kernel_rfl)) (by decide) (fun K hK => ?_)
        refine goes_ Try.func35 (by kernel_rfl) rfl #[.int .u64 (IntKind.u64.wrap (rd l0 x9_1)), .int .u64 (IntKind.u64.wrap (rd l1 x9_1))] (by rfl) rfl rfl (by (try simp only [List.map_toArray, List.map_cons, List.map_nil]); first | done | rfl | (simp only [List.length_drop, List.length_take]; rfl)) ?_
        with_reducible refine (annuityref01_Mul.calls (IntKind.u64.wrap (rd l0 x9_1)) (IntKind.u64.wrap (rd l1 x9_1)) t262 t263 _ A7.out).mono ?_
        rintro e w23 ⟨rfl, hb⟩
        refine ⟨_, rfl, ?_⟩
        have n0_ := Aside0.mk (blk_below (g := gb264) (Up.up BK264.out) hb)
        have n1_ := Aside0.mk (below_step (by exact h1q HB.out GE264.out) hb)
        clear BK264
        clear HB
        have BK264 := n0_
        have HB := n1_
        clear n0_ n1_
        (try clear hb)
        (try clear hb2)
        (try clear hk)
        (try clear hi)
        refine hK.out _ _ ⟨(hxb HB.out hw260_0), (hxb HB.out hw261_0)⟩ (fun hHeld => ?_)
        clear hK K
        refine norm_ (a' := ?_) ?_ ?_
        rotate_left
        ·show Act.put _ (some 28) _ = _
         simp only [Act.put, List.setIfInBounds_toArray, List.set_cons_zero, List.set_cons_succ, i64_w, i32_w]
         rfl
        exact norm_ (by simp only [putAll, Act.put, List.setIfInBounds_toArray, List.set_cons_zero, List.set_cons_succ]) (hCont (gb264) _ ⟨hHeld, (Up.up BK264.out), GW264.out, GE264.out, (by exact h1q HB.out GE264.out)⟩)
      rintro gb264 w24 ⟨hS_, h0_, h1_, h2_, h3_⟩
      have n0_ : Aside0 (w24.heap[gb264]? = some (.cells #[.int .u64 0, .int .u64 0] 67 (0, 0))) := ⟨h0_⟩
      have n1_ : Aside0 (w.heap.size ≤ gb264) := ⟨h1_⟩
      have n2_ : Aside0 (w.heap.size ≤ gb264) := ⟨h2_⟩
      have n3_ : Aside0 (Below w.heap.size w w24) := ⟨h3_⟩
      clear HB
      clear h0_ h1_ h2_ h3_
      have BK264 := n0_
      have GW264 := n1_
      have GE264 := n2_
      have HB := n3_
      clear n0_ n1_ n2_ n3_
      have hHeld : w24.cell? (ad260.add (x9_1).toNat) = some (.int .i64 (rd l0 x9_1)) ∧ w24.cell? (ad261.add (x9_1).toNat) = some (.int .i64 (rd l1 x9_1)) := hS_
      refine norm_ (a' := ?_) ?_ ?_
      rotate_left
      ·simp only [putAll, Act.put, List.setIfInBounds_toArray, List.set_cons_zero, List.set_cons_succ]
       rfl
      refine one_ (i := 12) (N := none) #[true, true, true, true, true, true, true, true, true, true, true, true, true] rfl rfl (one_of HT_.out (by kernel_rfl)) (by decide) (fun K hK => ?_)
      have hs25 : w24.cell? ⟨gb264, 0, none⟩ = some (.int .u64 0) := (blk_cell BK264.out 0).trans rfl
      have hfs25 := blk_frozen BK264.out 0
      have hs26 : w24.cell? ⟨gb264, 1, none⟩ = some (.int .u64 0) := (blk_cell BK264.out 1).trans rfl
      have hfs26 := blk_frozen BK264.out 1
      refine skip_ (w1 := ?_) (by rfl) rfl ?_ ?_
      rotate_left
      ·go_simp
       rfl
      refine hK.out _ _ ⟨((cell_far (p := ⟨gb264, _, none⟩) (by first | exact Nat.ne_of_lt (Nat.lt_of_lt_of_le (by have := World.block_lt_of_cell? _ _ hw260_0; first | rwa [add_block] at this | exact this) GW264.out) | (rw [add_block]; exact Nat.ne_of_lt (Nat.lt_of_lt_of_le (by have := World.block_lt_of_cell? _ _ hw260_0; first | rwa [add_block] at this | exact this) GW264.out)) | (show (Addr.add _ _).block ≠ _; rw [add_block]; exact Nat.ne_of_lt (Nat.lt_of_lt_of_le (by have := World.block_lt_of_cell? _ _ hw260_0; first | rwa [add_block] at this | exact this) GW264.out)) | (dsimp only; exact Nat.ne_of_lt (Nat.lt_of_lt_of_le (by have := World.block_lt_of_cell? _ _ hw260_0; first | rwa [add_block] at this | exact this) GW264.out))) _).trans (((cell_far (p := ⟨gb264, _, none⟩) (by first | exact Nat.ne_of_lt (Nat.lt_of_lt_of_le (by have := World.block_lt_of_cell? _ _ hw260_0; first | rwa [add_block] at this | exact this) GW264.out) | (rw [add_block]; exact Nat.ne_of_lt (Nat.lt_of_lt_of_le (by have := World.block_lt_of_cell? _ _ hw260_0; first | rwa [add_block] at this | exact this) GW264.out)) | (show (Addr.add _ _).block ≠ _; rw [add_block]; exact Nat.ne_of_lt (Nat.lt_of_lt_of_le (by have := World.block_lt_of_cell? _ _ hw260_0; first | rwa [add_block] at this | exact this) GW264.out)) | (dsimp only; exact Nat.ne_of_lt (Nat.lt_of_lt_of_le (by have := World.block_lt_of_cell? _ _ hw260_0; first | rwa [add_block] at this | exact this) GW264.out))) _).trans (hHeld.1)))), ((cell_far (p := ⟨gb264, _, none⟩) (by first | exact Nat.ne_of_lt (Nat.lt_of_lt_of_le (by have := World.block_lt_of_cell? _ _ hw261_0; first | rwa [add_block] at this | exact this) GW264.out) | (rw [add_block]; exact Nat.ne_of_lt (Nat.lt_of_lt_of_le (by have := World.block_lt_of_cell? _ _ hw261_0; first | rwa [add_block] at this | exact this) GW264.out)) | (show (Addr.add _ _).block ≠ _; rw [add_block]; exact Nat.ne_of_lt (Nat.lt_of_lt_of_le (by have := World.block_lt_of_cell? _ _ hw261_0; first | rwa [add_block] at this | exact this) GW264.out)) | (dsimp only; exact Nat.ne_of_lt (Nat.lt_of_lt_of_le (by have := World.block_lt_of_cell? _ _ hw261_0; first | rwa [add_block] at this | exact this) GW264.out))) _).trans (((cell_far (p := ⟨gb264, _, none⟩) (by first | exact Nat.ne_of_lt (Nat.lt_of_lt_of_le (by have := World.block_lt_of_cell? _ _ hw261_0; first | rwa [add_block] at this | exact this) GW264.out) | (rw [add_block]; exact Nat.ne_of_lt (Nat.lt_of_lt_of_le (by have := World.block_lt_of_cell? _ _ hw261_0; first | rwa [add_block] at this | exact this) GW264.out)) | (show (Addr.add _ _).block ≠ _; rw [add_block]; exact Nat.ne_of_lt (Nat.lt_of_lt_of_le (by have := World.block_lt_of_cell? _ _ hw261_0; first | rwa [add_block] at this | exact this) GW264.out)) | (dsimp only; exact Nat.ne_of_lt (Nat.lt_of_lt_of_le (by have := World.block_lt_of_cell? _ _ hw261_0; first | rwa [add_block] at this | exact this) GW264.out))) _).trans (hHeld.2))))⟩ (fun hHeld => ?_)
      clear hK K
      refine done_ (done_of HT_.out (by kernel_rfl)) ?_
      have hcz27_0 : w24.cell? ⟨gb264, 0, none⟩ = some (.int .u64 0) := (blk_cell BK264.out 0).trans rfl
      have hcz27_1 : w24.cell? ⟨gb264, 1, none⟩ = some (.int .u64 0) := (blk_cell BK264.out 1).trans rfl
      have hfz27_0 := blk_frozen BK264.out 0
      have hfz27_1 := blk_frozen BK264.out 1
      try go_wp2_with (first | ((with_reducible refine gate_callee (f := 36) rfl ?_); refine goesL_ (some 35) rfl rfl Try.func36 (by kernel_rfl) rfl #[.int .u64 t262, .int .u64 t263, .int .u64 (IntKind.u64.wrap (a2))] rfl (by (try simp only [List.map_toArray, List.map_cons, List.map_nil]); first | done | rfl | (simp only [List.length_drop, List.length_take]; rfl)) ?_; (with_reducible refine (annuityref01_Div.calls k1 t262 t263 (IntKind.u64.wrap (a2)) t265 t266 t267 _ A8.out).mono ?_); rintro e w28 ⟨rfl, hb⟩; refine ⟨_, rfl, ?_⟩; have n0_ := Aside0.mk (blk_below (g := gb264) (o := .cells #[.int .u64 t262, .int .u64 t263] 67 (0, 0)) (by (with_reducible repeat (first | refine blk_drewN ?_ _ | refine blk_drew ?_ | refine blk_alloc ?_ _)); refine blk_put (cs := #[.int .u64 t262, .int .u64 0]) ?_ 1 _ rfl; (with_reducible repeat (first | refine blk_drewN ?_ _ | refine blk_drew ?_ | refine blk_alloc ?_ _)); refine blk_put (cs := #[.int .u64 0, .int .u64 0]) ?_ 0 _ rfl; (with_reducible repeat (first | refine blk_drewN ?_ _ | refine blk_drew ?_ | refine blk_alloc ?_ _)); exact BK264.out) hb); have n1_ := Aside0.mk (below_step (by exact h1q HB.out GE264.out) hb); clear BK264; clear HB; have BK264 := n0_; have HB := n1_; clear n0_ n1_; (try clear hb); (try clear hb2); (try clear hk); (try clear hi)) | ((with_reducible refine gate_dst (N := 11) rfl ?_); refine box_event ?hg (N := 11) ?hd (cs := #[.int .u64 0, .int .u64 0, .bool false]) (t := 70) ?hr ?_; (case hd => rfl); (case hg => rfl); (case hr => first | (go_simp; done) | (go_simp; rfl)); intro gb268 hg w29 hbox hb; have n0_ := Aside0.mk (blk_below (g := gb264) (Up.up BK264.out) hb); have n1_ := Aside0.mk (below_step (by exact h1q HB.out GE264.out) hb); have n2_ := Aside0.mk (hbox); have n3_ := Aside0.mk ((by rw [hg]; exact (below_size (by exact h1q HB.out GE264.out)) : w.heap.size ≤ gb268)); have n4_ := Aside0.mk ((by rw [hg]; exact (below_size (by exact h1q HB.out GE264.out)) : w.heap.size ≤ gb268)); have n5_ := Aside0.mk ((by rw [hg]; exact Nat.ne_of_lt (blk_lt (g := gb264) (Up.up BK264.out)) : gb264 ≠ gb268)); have n6_ := Aside0.mk ((by rw [hg]; exact Nat.ne_of_gt (blk_lt (g := gb264) (Up.up BK264.out)) : gb268 ≠ gb264)); clear BK264; clear HB; have BK264 := n0_; have HB := n1_; have BK268 := n2_; have GW268 := n3_; have GE268 := n4_; have NB264_268 := n5_; have NB268_264 := n6_; clear n0_ n1_ n2_ n3_ n4_ n5_ n6_; clear hb hbox hg; have hnb30 := NB268_264.out; have hnc30 := NB264_268.out; have hcz31_0 : w29.cell? ⟨gb268, 0, none⟩ = some (.int .u64 0) := (blk_cell BK268.out 0).trans rfl; have hcz31_1 : w29.cell? ⟨gb268, 1, none⟩ = some (.int .u64 0) := (blk_cell BK268.out 1).trans rfl; have hcz31_2 : w29.cell? ⟨gb268, 2, none⟩ = some (.bool false) := (blk_cell BK268.out 2).trans rfl; have hfz31_0 := blk_frozen BK268.out 0; have hfz31_1 := blk_frozen BK268.out 1; have hfz31_2 := blk_frozen BK268.out 2))
      go_roundg k1
      case measure => have := HK1.out; omega
      case rel => exact ⟨(wrap64 (x7_1 + (wrap64 (t265)))), (wrap64 (x8_1 + (wrap64 (t266)))), (wrap64 (x9_1 + 1)), (by first | rfl | (simp; done) | (simp [*]; done)), (by first | rfl | (simp; done) | (simp [*]; done)), (by first | rfl | (simp; done) | (simp [*]; done)), H', ⟨by have := HK1.out; omega⟩, ⟨by exact h2q HB.out GE264.out GE268.out⟩⟩
    ·rw [if_neg c6] at H
     exact absurd H (by simp)
   ·rw [if_neg c5] at H
    exact absurd H (by simp)
  ·rw [if_neg c4] at H
   have c4b0 : decide (x9_1 < (l0.length : Int)) = false := decide_eq_false c4
   clear c4
   by_cases c32 : x8_1 > 0
   ·rw [if_pos c32] at H
    have c32b0 : decide (0 < x8_1) = true := decide_eq_true c32
    clear c32
    obtain rfl := Option.some.inj H
    go_wp2
    go_ret
    exact ⟨by first | rfl | (simp [errW_none, errW_some] <;> rfl) | (simp [*, errW_none, errW_some] <;> rfl), by exact h0q HB.out⟩
   ·rw [if_neg c32] at H
    have c32b0 : decide (0 < x8_1) = false := decide_eq_false c32
    clear c32
    obtain rfl := Option.some.inj H
    go_wp2
    go_ret
    exact ⟨by first | rfl | (simp [errW_none, errW_some] <;> rfl) | (simp [*, errW_none, errW_some] <;> rfl), by exact h0q HB.out⟩

end Go.Proofs.Ytakcepffodipfaa.P
