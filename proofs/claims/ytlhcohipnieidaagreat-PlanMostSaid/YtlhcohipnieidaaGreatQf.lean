/- Several texts as one (written by a program): what the walks and the plain laws come to, one behind the other. -/
import Derived.Test.YtlhcohipnieidaaGreatQa
import Derived.Test.YtlhcohipnieidaaGreatQe
namespace Go.Proofs.YtlhcohipnieidaaGreat.P
open Go.RowKit W.PrintWords W.PrintLast W.PrintMore
attribute [local go_sem] qXg qXd qXq qXr qY2 qY1 qXe qXf
set_option linter.unusedVariables false
set_option linter.unusedSimpArgs false
def qZp.f (k : Nat) (a0_0 : Int) (l0_1 : List (S48)) (a0_2 : Int) (a0_3 : Int) (a0_4 : Int) (a0_5 : Int) (l0_6 : List (S54)) (a0_7 : Int) (a0_8 : Int) (a0_9 : Int) (a0_10 : Int) (a0_11 : Int) (a0_12 : Int) (a1 : Int) : Option (Int) := if a0_2 = 0 then (some 1) else (if a0_2 = 4 then ((qQw.f k a0_3 12).bind fun bt371 => (if bt371.2 = 0 then (if a1 < bt371.1 then (some 4) else (some 1)) else (some 1))) else (some a0_2))
set_option maxHeartbeats 8000000 in
set_option maxRecDepth 100000 in
theorem qZp.calls (k : Nat) (a0_0 : Int) (A0_1 : Option Addr) (c0_1 : Nat) (l0_1 : List (S48)) (a0_2 : Int) (a0_3 : Int) (a0_4 : Int) (a0_5 : Int) (A0_6 : Option Addr) (c0_6 : Nat) (l0_6 : List (S54)) (a0_7 : Int) (a0_8 : Int) (a0_9 : Int) (a0_10 : Int) (a0_11 : Int) (a0_12 : Int) (a1 : Int) (r : Int) (w : World) (hr0_1 : Kd.C k48 w A0_1 l0_1.length l0_1) (hc0_1 : l0_1.length ≤ c0_1) (hr0_6 : Kd.C k54 w A0_6 l0_6.length l0_6) (hc0_6 : l0_6.length ≤ c0_6) (h : qZp.f k a0_0 l0_1 a0_2 a0_3 a0_4 a0_5 l0_6 a0_7 a0_8 a0_9 a0_10 a0_11 a0_12 a1 = some r) :
  Calls Tryz.prog 15 #[.agg #[.int .i64 a0_0, .slice A0_1 l0_1.length c0_1, .int .i64 a0_2, .int .i64 a0_3, .int .i64 a0_4, .int .i64 a0_5, .slice A0_6 l0_6.length c0_6, .int .i64 a0_7, .int .i64 a0_8, .int .i64 a0_9, .int .i64 a0_10, .int .i64 a0_11, .int .i64 a0_12], .int .i64 a1] w fun e w' => e = .returned (.int .i64 r) ∧ Below w.heap.size w w' := by
 have hu28 := Tryz.underlying28
 have HR0_1 := am hr0_1
 have HC0_1 := am hc0_1
 clear hr0_1 hc0_1
 have HR0_6 := am hr0_6
 have HC0_6 := am hc0_6
 clear hr0_6 hc0_6
 have HB := am (Below.refl w.heap.size w)
 have H : (if a0_2 = 0 then (some 1) else (if a0_2 = 4 then ((qQw.f k a0_3 12).bind fun bt371 => (if bt371.2 = 0 then (if a1 < bt371.1 then (some 4) else (some 1)) else (some 1))) else (some a0_2))) = some r := h
 clear h
 by_cases c3 : a0_2 = 0
 ·rw [if_pos c3] at H
  have c3b0 : (a0_2 == 0) = true := beq_iff_eq.mpr c3
  have c3b1 : (a0_2 != 0) = false := bne_eq_false_iff_eq.mpr c3
  clear c3
  obtain rfl := Option.some.inj H
  go_enter Tryz.func15, Tryz.ntmps15
  go_wp2_with (first | ((with_reducible refine qQ0 (N := 2) rfl ?_); refine qQs ?hg (N := 2) ?hd (cs := #[.int .i64 a0_0, .slice A0_1 l0_1.length c0_1, .int .i64 a0_2, .int .i64 a0_3, .int .i64 a0_4, .int .i64 a0_5, .slice A0_6 l0_6.length c0_6, .int .i64 a0_7, .int .i64 a0_8, .int .i64 a0_9, .int .i64 a0_10, .int .i64 a0_11, .int .i64 a0_12]) (t := 28) ?hr ?_; (case hd => rfl); (case hg => rfl); (case hr => first | (go_simp; done) | (go_simp; rfl)); intro gb370 hg w4 hbox hb; have n0_ := am (qQb (by exact h0q HB.out) hb); have n1_ := am (hbox); have n2_ := am ((by rw [hg]; exact (qQd (by exact h0q HB.out)) : w.heap.size ≤ gb370)); have n3_ := am ((by rw [hg]; exact (qQd (by exact h0q HB.out)) : w.heap.size ≤ gb370)); clear HB; have HB := n0_; have BK370 := n1_; have GW370 := n2_; have GE370 := n3_; clear n0_ n1_ n2_ n3_; clear hb hbox hg; have hz5 := lc13 BK370.out))
  go_ret
  exact ⟨er, by exact h1q HB.out GE370.out⟩
 ·rw [if_neg c3] at H
  have c3b0 : (a0_2 == 0) = false := beq_eq_false_iff_ne.mpr c3
  have c3b1 : (a0_2 != 0) = true := bne_iff_ne.mpr c3
  by_cases c6 : a0_2 = 4
  ·rw [if_pos c6] at H
   have c6b0 : (a0_2 == 4) = true := beq_iff_eq.mpr c6
   have c6b1 : (a0_2 != 4) = false := bne_eq_false_iff_eq.mpr c6
   clear c6
   replace H := Option.bind_eq_some_iff.mp H
   obtain ⟨⟨t371, t372⟩, A70, H⟩ := H
   replace H : (if t372 = 0 then (if a1 < t371 then (some 4) else (some 1)) else (some 1)) = some r := H
   have A7 := am A70
   clear A70
   by_cases c8 : t372 = 0
   ·rw [if_pos c8] at H
    have c8b0 : (t372 == 0) = true := beq_iff_eq.mpr c8
    have c8b1 : (t372 != 0) = false := bne_eq_false_iff_eq.mpr c8
    clear c8
    by_cases c9 : a1 < t371
    ·rw [if_pos c9] at H
     have c9b0 : decide (a1 < t371) = true := decide_eq_true c9
     clear c9
     obtain rfl := Option.some.inj H
     go_enter Tryz.func15, Tryz.ntmps15
     go_wp2_with (first | ((with_reducible refine qQ0 (N := 2) rfl ?_); refine qQs ?hg (N := 2) ?hd (cs := #[.int .i64 a0_0, .slice A0_1 l0_1.length c0_1, .int .i64 a0_2, .int .i64 a0_3, .int .i64 a0_4, .int .i64 a0_5, .slice A0_6 l0_6.length c0_6, .int .i64 a0_7, .int .i64 a0_8, .int .i64 a0_9, .int .i64 a0_10, .int .i64 a0_11, .int .i64 a0_12]) (t := 28) ?hr ?_; (case hd => rfl); (case hg => rfl); (case hr => first | (go_simp; done) | (go_simp; rfl)); intro gb370 hg w10 hbox hb; have n0_ := am (qQb (by exact h0q HB.out) hb); have n1_ := am (hbox); have n2_ := am ((by rw [hg]; exact (qQd (by exact h0q HB.out)) : w.heap.size ≤ gb370)); have n3_ := am ((by rw [hg]; exact (qQd (by exact h0q HB.out)) : w.heap.size ≤ gb370)); clear HB; have HB := n0_; have BK370 := n1_; have GW370 := n2_; have GE370 := n3_; clear n0_ n1_ n2_ n3_; clear hb hbox hg; have hz11 := lc13 BK370.out) | ((with_reducible refine qQh (f := 41) rfl ?_); refine goesL_ (some 16) rfl rfl Tryz.func41 (by kernel_rfl) rfl #[.int .i64 a0_3, .int .i64 12] rfl ml ?_; (with_reducible refine (qQw.calls k a0_3 12 t371 t372 _ A7.out).mono ?_); rintro e w12 ⟨rfl, hb⟩; refine ⟨_, rfl, ?_⟩; have n0_ := am (qQg (g := gb370) (Up.up BK370.out) hb); have n1_ := am (qQb (by exact h1q HB.out GE370.out) hb); clear BK370; clear HB; have BK370 := n0_; have HB := n1_; clear n0_ n1_; (try clear hb); (try clear hb2); (try clear hk); (try clear hi)))
     go_ret
     exact ⟨er, by exact h1q HB.out GE370.out⟩
    ·rw [if_neg c9] at H
     have c9b0 : decide (a1 < t371) = false := decide_eq_false c9
     clear c9
     obtain rfl := Option.some.inj H
     go_enter Tryz.func15, Tryz.ntmps15
     go_wp2_with (first | ((with_reducible refine qQ0 (N := 2) rfl ?_); refine qQs ?hg (N := 2) ?hd (cs := #[.int .i64 a0_0, .slice A0_1 l0_1.length c0_1, .int .i64 a0_2, .int .i64 a0_3, .int .i64 a0_4, .int .i64 a0_5, .slice A0_6 l0_6.length c0_6, .int .i64 a0_7, .int .i64 a0_8, .int .i64 a0_9, .int .i64 a0_10, .int .i64 a0_11, .int .i64 a0_12]) (t := 28) ?hr ?_; (case hd => rfl); (case hg => rfl); (case hr => first | (go_simp; done) | (go_simp; rfl)); intro gb370 hg w13 hbox hb; have n0_ := am (qQb (by exact h0q HB.out) hb); have n1_ := am (hbox); have n2_ := am ((by rw [hg]; exact (qQd (by exact h0q HB.out)) : w.heap.size ≤ gb370)); have n3_ := am ((by rw [hg]; exact (qQd (by exact h0q HB.out)) : w.heap.size ≤ gb370)); clear HB; have HB := n0_; have BK370 := n1_; have GW370 := n2_; have GE370 := n3_; clear n0_ n1_ n2_ n3_; clear hb hbox hg; have hz14 := lc13 BK370.out) | ((with_reducible refine qQh (f := 41) rfl ?_); refine goesL_ (some 16) rfl rfl Tryz.func41 (by kernel_rfl) rfl #[.int .i64 a0_3, .int .i64 12] rfl ml ?_; (with_reducible refine (qQw.calls k a0_3 12 t371 t372 _ A7.out).mono ?_); rintro e w15 ⟨rfl, hb⟩; refine ⟨_, rfl, ?_⟩; have n0_ := am (qQg (g := gb370) (Up.up BK370.out) hb); have n1_ := am (qQb (by exact h1q HB.out GE370.out) hb); clear BK370; clear HB; have BK370 := n0_; have HB := n1_; clear n0_ n1_; (try clear hb); (try clear hb2); (try clear hk); (try clear hi)))
     go_ret
     exact ⟨er, by exact h1q HB.out GE370.out⟩
   ·rw [if_neg c8] at H
    have c8b0 : (t372 == 0) = false := beq_eq_false_iff_ne.mpr c8
    have c8b1 : (t372 != 0) = true := bne_iff_ne.mpr c8
    obtain rfl := Option.some.inj H
    go_enter Tryz.func15, Tryz.ntmps15
    go_wp2_with (first | ((with_reducible refine qQ0 (N := 2) rfl ?_); refine qQs ?hg (N := 2) ?hd (cs := #[.int .i64 a0_0, .slice A0_1 l0_1.length c0_1, .int .i64 a0_2, .int .i64 a0_3, .int .i64 a0_4, .int .i64 a0_5, .slice A0_6 l0_6.length c0_6, .int .i64 a0_7, .int .i64 a0_8, .int .i64 a0_9, .int .i64 a0_10, .int .i64 a0_11, .int .i64 a0_12]) (t := 28) ?hr ?_; (case hd => rfl); (case hg => rfl); (case hr => first | (go_simp; done) | (go_simp; rfl)); intro gb370 hg w16 hbox hb; have n0_ := am (qQb (by exact h0q HB.out) hb); have n1_ := am (hbox); have n2_ := am ((by rw [hg]; exact (qQd (by exact h0q HB.out)) : w.heap.size ≤ gb370)); have n3_ := am ((by rw [hg]; exact (qQd (by exact h0q HB.out)) : w.heap.size ≤ gb370)); clear HB; have HB := n0_; have BK370 := n1_; have GW370 := n2_; have GE370 := n3_; clear n0_ n1_ n2_ n3_; clear hb hbox hg; have hz17 := lc13 BK370.out) | ((with_reducible refine qQh (f := 41) rfl ?_); refine goesL_ (some 16) rfl rfl Tryz.func41 (by kernel_rfl) rfl #[.int .i64 a0_3, .int .i64 12] rfl ml ?_; (with_reducible refine (qQw.calls k a0_3 12 t371 t372 _ A7.out).mono ?_); rintro e w18 ⟨rfl, hb⟩; refine ⟨_, rfl, ?_⟩; have n0_ := am (qQg (g := gb370) (Up.up BK370.out) hb); have n1_ := am (qQb (by exact h1q HB.out GE370.out) hb); clear BK370; clear HB; have BK370 := n0_; have HB := n1_; clear n0_ n1_; (try clear hb); (try clear hb2); (try clear hk); (try clear hi)))
    go_ret
    exact ⟨er, by exact h1q HB.out GE370.out⟩
  ·rw [if_neg c6] at H
   have c6b0 : (a0_2 == 4) = false := beq_eq_false_iff_ne.mpr c6
   have c6b1 : (a0_2 != 4) = true := bne_iff_ne.mpr c6
   obtain rfl := Option.some.inj H
   go_enter Tryz.func15, Tryz.ntmps15
   go_wp2_with (first | ((with_reducible refine qQ0 (N := 2) rfl ?_); refine qQs ?hg (N := 2) ?hd (cs := #[.int .i64 a0_0, .slice A0_1 l0_1.length c0_1, .int .i64 a0_2, .int .i64 a0_3, .int .i64 a0_4, .int .i64 a0_5, .slice A0_6 l0_6.length c0_6, .int .i64 a0_7, .int .i64 a0_8, .int .i64 a0_9, .int .i64 a0_10, .int .i64 a0_11, .int .i64 a0_12]) (t := 28) ?hr ?_; (case hd => rfl); (case hg => rfl); (case hr => first | (go_simp; done) | (go_simp; rfl)); intro gb370 hg w19 hbox hb; have n0_ := am (qQb (by exact h0q HB.out) hb); have n1_ := am (hbox); have n2_ := am ((by rw [hg]; exact (qQd (by exact h0q HB.out)) : w.heap.size ≤ gb370)); have n3_ := am ((by rw [hg]; exact (qQd (by exact h0q HB.out)) : w.heap.size ≤ gb370)); clear HB; have HB := n0_; have BK370 := n1_; have GW370 := n2_; have GE370 := n3_; clear n0_ n1_ n2_ n3_; clear hb hbox hg; have hz20 := lc13 BK370.out))
   go_ret
   exact ⟨er, by exact h1q HB.out GE370.out⟩
def qZb.l0 : Nat → List Int → Int → Option (Bool)
 | 0, _, _ => none
 | k + 1, x0, x3 => if x3 < (x0.length : Int) then (if 0 ≤ x3 then (if (rd x0 x3) < 0 then (some false) else (if (rd x0 x3) > 1000000000 then (some false) else (if x3 > 0 then (if 0 ≤ (wrap64 (x3 - 1)) then (if (wrap64 (x3 - 1)) < (x0.length : Int) then (if (rd x0 x3) < (rd x0 (wrap64 (x3 - 1))) then (some false) else (qZb.l0 k x0 (wrap64 (x3 + 1)))) else (none)) else (none)) else (qZb.l0 k x0 (wrap64 (x3 + 1)))))) else (none)) else (if (x0.length : Int) ≥ 1 then (some (decide ((x0.length : Int) ≤ 30))) else (some false))
def qZb.f (k : Nat) (l0 : List Int) : Option (Bool) := qZb.l0 k l0 0
set_option maxHeartbeats 8000000 in
set_option maxRecDepth 100000 in
theorem qZb.calls (k : Nat) (A0 : Option Addr) (c0 : Nat) (l0 : List Int) (r : Bool) (w : World) (hr0 : Kd.C (Kd.int .i64) w A0 l0.length l0) (hc0 : l0.length ≤ c0) (h : qZb.f k l0 = some r) :
  Calls Tryz.prog 31 #[.slice A0 l0.length c0] w fun e w' => e = .returned (.bool r) ∧ Drawn0 w w' := by
 have HR0 := am hr0
 have HC0 := am hc0
 clear hr0 hc0
 have H : (qZb.l0 k l0 0) = some r := h
 clear h
 have H' := am H
 clear H
 go_enter Tryz.func31, Tryz.ntmps31
 go_wp2
 repeat (go_quiet (fail); try go_wp2)
 go_loopg [3] k (fun kq v3 w' => ∃ (x3_1 : Int), v3 = .int .i64 x3_1 ∧ Aside0 (qZb.l0 kq l0 x3_1 = some r) ∧ Aside0 (kq ≤ k) ∧ Drawn0 w w')
 case atStart => exact ⟨(0), (by first | rfl | (simp [i64_w, i32_w, qQq, qQr]; done) | (simp; done) | (simp [*]; done)), H', ⟨Nat.le_refl _⟩, by repeat (first | exact Drawn0.refl _ | apply Drawn0.step)⟩
 case round =>
  clear H'
  obtain ⟨x3_1, rfl, HA, HK1, ⟨m1, rfl⟩⟩ := hrel
  rcases gk with _ | k1
  ·exact absurd HA.out (by simp [qZb.l0])
  have H := HA.out
  clear HA
  simp only [qZb.l0] at H
  by_cases c2 : x3_1 < (l0.length : Int)
  ·rw [if_pos c2] at H
   have c2b0 : decide (x3_1 < (l0.length : Int)) = true := decide_eq_true c2
   clear c2
   by_cases c3 : 0 ≤ x3_1
   ·rw [if_pos c3] at H
    have c3b0 : decide (0 ≤ x3_1) = true := decide_eq_true c3
    clear c3
    by_cases c4 : (rd l0 x3_1) < 0
    ·rw [if_pos c4] at H
     have c4b0 : decide ((rd l0 x3_1) < 0) = true := decide_eq_true c4
     clear c4
     obtain rfl := Option.some.inj H
     have p373 : 0 ≤ (x3_1 : Int) := yd
     have q373 : x3_1 < (l0.length : Int) := yd
     obtain ⟨ad373, e373, hx373_0⟩ := Kd.qZx HR0.out x3_1 p373 q373
     cases e373
     replace p373 := eq_true p373
     replace q373 := eq_true q373
     go_wp2
     repeat (go_quiet (fail); try go_wp2)
     go_ret
     exact ⟨by first | rfl | (simp [i64_w, i32_w, qQq, qQr]; done) | (simp; done) | (simp [*]; done), by repeat (first | exact Drawn0.refl _ | apply Drawn0.step)⟩
    ·rw [if_neg c4] at H
     have c4b0 : decide ((rd l0 x3_1) < 0) = false := decide_eq_false c4
     clear c4
     by_cases c5 : (rd l0 x3_1) > 1000000000
     ·rw [if_pos c5] at H
      have c5b0 : decide (1000000000 < (rd l0 x3_1)) = true := decide_eq_true c5
      clear c5
      obtain rfl := Option.some.inj H
      have p373 : 0 ≤ (x3_1 : Int) := yd
      have q373 : x3_1 < (l0.length : Int) := yd
      obtain ⟨ad373, e373, hx373_0⟩ := Kd.qZx HR0.out x3_1 p373 q373
      cases e373
      replace p373 := eq_true p373
      replace q373 := eq_true q373
      have p374 : 0 ≤ (x3_1 : Int) := yd
      have q374 : x3_1 < (l0.length : Int) := yd
      obtain ⟨ad374, e374, hx374_0⟩ := Kd.qZx HR0.out x3_1 p374 q374
      obtain rfl : ad373 = ad374 := (by injection e374)
      replace p374 := eq_true p374
      replace q374 := eq_true q374
      go_wp2
      repeat (go_quiet (fail); try go_wp2)
      go_ret
      exact ⟨by first | rfl | (simp [i64_w, i32_w, qQq, qQr]; done) | (simp; done) | (simp [*]; done), by repeat (first | exact Drawn0.refl _ | apply Drawn0.step)⟩
     ·rw [if_neg c5] at H
      have c5b0 : decide (1000000000 < (rd l0 x3_1)) = false := decide_eq_false c5
      clear c5
      by_cases c6 : x3_1 > 0
      ·rw [if_pos c6] at H
       have c6b0 : decide (0 < x3_1) = true := decide_eq_true c6
       clear c6
       obtain ⟨ji7, hji7⟩ : ∃ j_ : Int, (wrap64 (x3_1 - 1)) = j_ := ⟨_, rfl⟩
       replace H : (if 0 ≤ (ji7) then (if (ji7) < (l0.length : Int) then (if (rd l0 x3_1) < (rd l0 (ji7)) then (some false) else (qZb.l0 k1 l0 (wrap64 (x3_1 + 1)))) else (none)) else (none)) = some r := by first | (rw [hji7] at H; exact H) | (simp only [hji7] at H ⊢; exact H)
       have hji7w : (IntKind.i64.wrap (x3_1 - 1)) = ji7 := (i64_w _).trans hji7
       by_cases c8 : 0 ≤ (ji7)
       ·rw [if_pos c8] at H
        have c8b0 : decide (0 ≤ (ji7)) = true := decide_eq_true c8
        clear c8
        by_cases c9 : (ji7) < (l0.length : Int)
        ·rw [if_pos c9] at H
         have c9b0 : decide ((ji7) < (l0.length : Int)) = true := decide_eq_true c9
         clear c9
         by_cases c10 : (rd l0 x3_1) < (rd l0 (ji7))
         ·rw [if_pos c10] at H
          have c10b0 : decide ((rd l0 x3_1) < (rd l0 (ji7))) = true := decide_eq_true c10
          clear c10
          obtain rfl := Option.some.inj H
          have p373 : 0 ≤ (x3_1 : Int) := yd
          have q373 : x3_1 < (l0.length : Int) := yd
          obtain ⟨ad373, e373, hx373_0⟩ := Kd.qZx HR0.out x3_1 p373 q373
          cases e373
          replace p373 := eq_true p373
          replace q373 := eq_true q373
          have p374 : 0 ≤ (x3_1 : Int) := yd
          have q374 : x3_1 < (l0.length : Int) := yd
          obtain ⟨ad374, e374, hx374_0⟩ := Kd.qZx HR0.out x3_1 p374 q374
          obtain rfl : ad373 = ad374 := (by injection e374)
          replace p374 := eq_true p374
          replace q374 := eq_true q374
          have p375 : 0 ≤ (x3_1 : Int) := yd
          have q375 : x3_1 < (l0.length : Int) := yd
          obtain ⟨ad375, e375, hx375_0⟩ := Kd.qZx HR0.out x3_1 p375 q375
          obtain rfl : ad373 = ad375 := (by injection e375)
          replace p375 := eq_true p375
          replace q375 := eq_true q375
          have p376 : 0 ≤ ((ji7) : Int) := yd
          have q376 : (ji7) < (l0.length : Int) := yd
          obtain ⟨ad376, e376, hx376_0⟩ := Kd.qZx HR0.out (ji7) p376 q376
          obtain rfl : ad373 = ad376 := (by injection e376)
          replace p376 := eq_true p376
          replace q376 := eq_true q376
          go_wp2
          repeat (go_quiet (fail); try go_wp2)
          go_ret
          exact ⟨by first | rfl | (simp [i64_w, i32_w, qQq, qQr]; done) | (simp; done) | (simp only [← hji7] <;> (first | rfl | simp)) | (simp [*]; done), by repeat (first | exact Drawn0.refl _ | apply Drawn0.step)⟩
         ·rw [if_neg c10] at H
          have c10b0 : decide ((rd l0 x3_1) < (rd l0 (ji7))) = false := decide_eq_false c10
          clear c10
          have H' := am H
          clear H
          have p373 : 0 ≤ (x3_1 : Int) := yd
          have q373 : x3_1 < (l0.length : Int) := yd
          obtain ⟨ad373, e373, hx373_0⟩ := Kd.qZx HR0.out x3_1 p373 q373
          cases e373
          replace p373 := eq_true p373
          replace q373 := eq_true q373
          have p374 : 0 ≤ (x3_1 : Int) := yd
          have q374 : x3_1 < (l0.length : Int) := yd
          obtain ⟨ad374, e374, hx374_0⟩ := Kd.qZx HR0.out x3_1 p374 q374
          obtain rfl : ad373 = ad374 := (by injection e374)
          replace p374 := eq_true p374
          replace q374 := eq_true q374
          have p375 : 0 ≤ (x3_1 : Int) := yd
          have q375 : x3_1 < (l0.length : Int) := yd
          obtain ⟨ad375, e375, hx375_0⟩ := Kd.qZx HR0.out x3_1 p375 q375
          obtain rfl : ad373 = ad375 := (by injection e375)
          replace p375 := eq_true p375
          replace q375 := eq_true q375
          have p376 : 0 ≤ ((ji7) : Int) := yd
          have q376 : (ji7) < (l0.length : Int) := yd
          obtain ⟨ad376, e376, hx376_0⟩ := Kd.qZx HR0.out (ji7) p376 q376
          obtain rfl : ad373 = ad376 := (by injection e376)
          replace p376 := eq_true p376
          replace q376 := eq_true q376
          go_wp2
          repeat (go_quiet (fail); try go_wp2)
          go_roundg k1
          case measure => have := HK1.out; omega
          case rel => exact ⟨(wrap64 (x3_1 + 1)), (by first | rfl | (simp [i64_w, i32_w, qQq, qQr]; done) | (simp; done) | (simp [*]; done)), H', ⟨by have := HK1.out; omega⟩, by repeat (first | exact Drawn0.refl _ | apply Drawn0.step)⟩
        ·rw [if_neg c9] at H
         exact absurd H (by simp)
       ·rw [if_neg c8] at H
        exact absurd H (by simp)
      ·rw [if_neg c6] at H
       have c6b0 : decide (0 < x3_1) = false := decide_eq_false c6
       clear c6
       have H' := am H
       clear H
       have p373 : 0 ≤ (x3_1 : Int) := yd
       have q373 : x3_1 < (l0.length : Int) := yd
       obtain ⟨ad373, e373, hx373_0⟩ := Kd.qZx HR0.out x3_1 p373 q373
       cases e373
       replace p373 := eq_true p373
       replace q373 := eq_true q373
       have p374 : 0 ≤ (x3_1 : Int) := yd
       have q374 : x3_1 < (l0.length : Int) := yd
       obtain ⟨ad374, e374, hx374_0⟩ := Kd.qZx HR0.out x3_1 p374 q374
       obtain rfl : ad373 = ad374 := (by injection e374)
       replace p374 := eq_true p374
       replace q374 := eq_true q374
       go_wp2
       repeat (go_quiet (fail); try go_wp2)
       go_roundg k1
       case measure => have := HK1.out; omega
       case rel => exact ⟨(wrap64 (x3_1 + 1)), (by first | rfl | (simp [i64_w, i32_w, qQq, qQr]; done) | (simp; done) | (simp [*]; done)), H', ⟨by have := HK1.out; omega⟩, by repeat (first | exact Drawn0.refl _ | apply Drawn0.step)⟩
   ·rw [if_neg c3] at H
    exact absurd H (by simp)
  ·rw [if_neg c2] at H
   have c2b0 : decide (x3_1 < (l0.length : Int)) = false := decide_eq_false c2
   clear c2
   by_cases c11 : (l0.length : Int) ≥ 1
   ·rw [if_pos c11] at H
    have c11b0 : decide (1 ≤ (l0.length : Int)) = true := decide_eq_true c11
    have c11b1 : decide (1 ≤ l0.length) = true := decide_eq_true (by omega)
    clear c11
    obtain rfl := Option.some.inj H
    go_wp2
    repeat (go_quiet (fail); try go_wp2)
    go_ret
    exact ⟨by first | rfl | (simp [i64_w, i32_w, qQq, qQr]; done) | (simp; done) | (simp [*]; done), by repeat (first | exact Drawn0.refl _ | apply Drawn0.step)⟩
   ·rw [if_neg c11] at H
    have c11b0 : decide (1 ≤ (l0.length : Int)) = false := decide_eq_false c11
    have c11b1 : decide (1 ≤ l0.length) = false := decide_eq_false (by omega)
    clear c11
    obtain rfl := Option.some.inj H
    go_wp2
    repeat (go_quiet (fail); try go_wp2)
    go_ret
    exact ⟨by first | rfl | (simp [i64_w, i32_w, qQq, qQr]; done) | (simp; done) | (simp [*]; done), by repeat (first | exact Drawn0.refl _ | apply Drawn0.step)⟩
def qQ3.f (a0 : Int) : Option (Bool) := if a0 ≥ (-10000000000000) then (some (decide (a0 ≤ 10000000000000))) else (some false)
set_option maxHeartbeats 8000000 in
set_option maxRecDepth 100000 in
theorem qQ3.calls (a0 : Int) (r : Bool) (w : World) (h : qQ3.f a0 = some r) :
  Calls Tryz.prog 59 #[.int .i64 a0] w fun e w' => e = .returned (.bool r) ∧ Drawn0 w w' := by
 have H : (if a0 ≥ (-10000000000000) then (some (decide (a0 ≤ 10000000000000))) else (some false)) = some r := h
 clear h
 by_cases c2 : a0 ≥ (-10000000000000)
 ·rw [if_pos c2] at H
  have c2b0 : decide ((-10000000000000) ≤ a0) = true := decide_eq_true c2
  clear c2
  obtain rfl := Option.some.inj H
  go_enter Tryz.func59, Tryz.ntmps59
  go_wp2
  go_ret
  exact ⟨by first | rfl | (simp; done) | (simp [*]; done), by repeat (first | exact Drawn0.refl _ | apply Drawn0.step)⟩
 ·rw [if_neg c2] at H
  have c2b0 : decide ((-10000000000000) ≤ a0) = false := decide_eq_false c2
  clear c2
  obtain rfl := Option.some.inj H
  go_enter Tryz.func59, Tryz.ntmps59
  go_wp2
  go_ret
  exact ⟨by first | rfl | (simp; done) | (simp [*]; done), by repeat (first | exact Drawn0.refl _ | apply Drawn0.step)⟩
def qQe.f (a0 : Int) : Option (Bool) := if a0 ≥ 0 then ((qQ3.f a0).bind fun t377 => (some t377)) else (some false)
set_option maxHeartbeats 8000000 in
set_option maxRecDepth 100000 in
theorem qQe.calls (a0 : Int) (r : Bool) (w : World) (h : qQe.f a0 = some r) :
  Calls Tryz.prog 52 #[.int .i64 a0] w fun e w' => e = .returned (.bool r) ∧ Drawn0 w w' := by
 have H : (if a0 ≥ 0 then ((qQ3.f a0).bind fun t377 => (some t377)) else (some false)) = some r := h
 clear h
 by_cases c2 : a0 ≥ 0
 ·rw [if_pos c2] at H
  have c2b0 : decide (0 ≤ a0) = true := decide_eq_true c2
  clear c2
  replace H := Option.bind_eq_some_iff.mp H
  obtain ⟨t377, A30, H⟩ := H
  replace H : (some t377) = some r := H
  have A3 := am A30
  clear A30
  obtain rfl := Option.some.inj H
  go_enter Tryz.func52, Tryz.ntmps52
  go_wp2_with (first | (go_at_call 59; (with_reducible refine (qQ3.calls a0 t377 _ A3.out).mono ?_); rintro e w' ⟨rfl, ⟨nd, rfl⟩⟩))
  go_ret
  exact ⟨by first | rfl | (simp; done) | (simp [*]; done), by repeat (first | exact Drawn0.refl _ | apply Drawn0.step)⟩
 ·rw [if_neg c2] at H
  have c2b0 : decide (0 ≤ a0) = false := decide_eq_false c2
  clear c2
  obtain rfl := Option.some.inj H
  go_enter Tryz.func52, Tryz.ntmps52
  go_wp2
  go_ret
  exact ⟨by first | rfl | (simp; done) | (simp [*]; done), by repeat (first | exact Drawn0.refl _ | apply Drawn0.step)⟩
def qQk.f (a0 : Int) : Option (Bool) := if a0 ≥ 0 then (some (decide (a0 ≤ 1000000000000000000))) else (some false)
set_option maxHeartbeats 8000000 in
set_option maxRecDepth 100000 in
theorem qQk.calls (a0 : Int) (r : Bool) (w : World) (h : qQk.f a0 = some r) :
  Calls Tryz.prog 53 #[.int .i64 a0] w fun e w' => e = .returned (.bool r) ∧ Drawn0 w w' := by
 have H : (if a0 ≥ 0 then (some (decide (a0 ≤ 1000000000000000000))) else (some false)) = some r := h
 clear h
 by_cases c2 : a0 ≥ 0
 ·rw [if_pos c2] at H
  have c2b0 : decide (0 ≤ a0) = true := decide_eq_true c2
  clear c2
  obtain rfl := Option.some.inj H
  go_enter Tryz.func53, Tryz.ntmps53
  go_wp2
  go_ret
  exact ⟨by first | rfl | (simp; done) | (simp [*]; done), by repeat (first | exact Drawn0.refl _ | apply Drawn0.step)⟩
 ·rw [if_neg c2] at H
  have c2b0 : decide (0 ≤ a0) = false := decide_eq_false c2
  clear c2
  obtain rfl := Option.some.inj H
  go_enter Tryz.func53, Tryz.ntmps53
  go_wp2
  go_ret
  exact ⟨by first | rfl | (simp; done) | (simp [*]; done), by repeat (first | exact Drawn0.refl _ | apply Drawn0.step)⟩
def qYe.f (a0_0 : Int) (a0_1 : Int) (a0_2 : Int) (a0_3 : Int) (a0_4 : Int) (a0_5 : Int) (a0_6 : Bool) (a0_7 : Int) (a0_8 : Int) (a0_9 : Int) (a0_10 : Int) (a0_11 : Int) (a0_12 : Int) : Option (Bool) := if a0_0 < 1 then (some false) else (if a0_0 > 1000 then (some false) else ((qQe.f a0_1).bind fun t379 => (if t379 = true then ((qQe.f a0_4).bind fun t380 => (if t380 = true then ((qQk.f a0_2).bind fun t381 => (if t381 = true then ((qQk.f a0_3).bind fun t382 => (if t382 = true then (if a0_5 < 0 then (some false) else (if a0_5 > 1000000 then (some false) else (if a0_7 < 1 then (some false) else (if a0_7 > 5 then (some false) else (if a0_8 < 0 then (some false) else (if a0_8 > 4 then (some false) else (if a0_9 < (-1) then (some false) else (if a0_9 > 87658 then (some false) else ((qQe.f a0_10).bind fun t383 => (if t383 = true then ((qQe.f a0_11).bind fun t384 => (if t384 = true then (if a0_12 < 0 then (some false) else (if a0_8 = 0 then (some true) else (if a0_1 = 0 then (if a0_2 = 0 then (some (a0_4 == 0)) else (some false)) else (some false)))) else (some false))) else (some false))))))))))) else (some false))) else (some false))) else (some false))) else (some false))))
set_option maxHeartbeats 8000000 in
set_option maxRecDepth 100000 in
theorem qYe.calls (a0_0 : Int) (a0_1 : Int) (a0_2 : Int) (a0_3 : Int) (a0_4 : Int) (a0_5 : Int) (a0_6 : Bool) (a0_7 : Int) (a0_8 : Int) (a0_9 : Int) (a0_10 : Int) (a0_11 : Int) (a0_12 : Int) (r : Bool) (w : World) (h : qYe.f a0_0 a0_1 a0_2 a0_3 a0_4 a0_5 a0_6 a0_7 a0_8 a0_9 a0_10 a0_11 a0_12 = some r) :
  Calls Tryz.prog 33 #[.agg #[.int .i64 a0_0, .int .i64 a0_1, .int .i64 a0_2, .int .i64 a0_3, .int .i64 a0_4, .int .i64 a0_5, .bool a0_6, .int .i64 a0_7, .int .i64 a0_8, .int .i64 a0_9, .int .i64 a0_10, .int .i64 a0_11, .int .i64 a0_12]] w fun e w' => e = .returned (.bool r) ∧ Below w.heap.size w w' := by
 have hu48 := Tryz.underlying48
 have HB := am (Below.refl w.heap.size w)
 have H : (if a0_0 < 1 then (some false) else (if a0_0 > 1000 then (some false) else ((qQe.f a0_1).bind fun t379 => (if t379 = true then ((qQe.f a0_4).bind fun t380 => (if t380 = true then ((qQk.f a0_2).bind fun t381 => (if t381 = true then ((qQk.f a0_3).bind fun t382 => (if t382 = true then (if a0_5 < 0 then (some false) else (if a0_5 > 1000000 then (some false) else (if a0_7 < 1 then (some false) else (if a0_7 > 5 then (some false) else (if a0_8 < 0 then (some false) else (if a0_8 > 4 then (some false) else (if a0_9 < (-1) then (some false) else (if a0_9 > 87658 then (some false) else ((qQe.f a0_10).bind fun t383 => (if t383 = true then ((qQe.f a0_11).bind fun t384 => (if t384 = true then (if a0_12 < 0 then (some false) else (if a0_8 = 0 then (some true) else (if a0_1 = 0 then (if a0_2 = 0 then (some (a0_4 == 0)) else (some false)) else (some false)))) else (some false))) else (some false))))))))))) else (some false))) else (some false))) else (some false))) else (some false))))) = some r := h
 clear h
 by_cases c2 : a0_0 < 1
 ·rw [if_pos c2] at H
  have c2b0 : decide (a0_0 < 1) = true := decide_eq_true c2
  clear c2
  obtain rfl := Option.some.inj H
  go_enter Tryz.func33, Tryz.ntmps33
  go_wp2_with (first | ((with_reducible refine qQ0 (N := 1) rfl ?_); refine qQs ?hg (N := 1) ?hd (cs := #[.int .i64 a0_0, .int .i64 a0_1, .int .i64 a0_2, .int .i64 a0_3, .int .i64 a0_4, .int .i64 a0_5, .bool a0_6, .int .i64 a0_7, .int .i64 a0_8, .int .i64 a0_9, .int .i64 a0_10, .int .i64 a0_11, .int .i64 a0_12]) (t := 48) ?hr ?_; (case hd => rfl); (case hg => rfl); (case hr => first | (go_simp; done) | (go_simp; rfl)); intro gb378 hg w3 hbox hb; have n0_ := am (qQb (by exact h0q HB.out) hb); have n1_ := am (hbox); have n2_ := am ((by rw [hg]; exact (qQd (by exact h0q HB.out)) : w.heap.size ≤ gb378)); have n3_ := am ((by rw [hg]; exact (qQd (by exact h0q HB.out)) : w.heap.size ≤ gb378)); clear HB; have HB := n0_; have BK378 := n1_; have GW378 := n2_; have GE378 := n3_; clear n0_ n1_ n2_ n3_; clear hb hbox hg; have hz4 := lc13 BK378.out))
  go_ret
  exact ⟨er, by exact h1q HB.out GE378.out⟩
 ·rw [if_neg c2] at H
  have c2b0 : decide (a0_0 < 1) = false := decide_eq_false c2
  clear c2
  by_cases c5 : a0_0 > 1000
  ·rw [if_pos c5] at H
   have c5b0 : decide (1000 < a0_0) = true := decide_eq_true c5
   clear c5
   obtain rfl := Option.some.inj H
   go_enter Tryz.func33, Tryz.ntmps33
   go_wp2_with (first | ((with_reducible refine qQ0 (N := 1) rfl ?_); refine qQs ?hg (N := 1) ?hd (cs := #[.int .i64 a0_0, .int .i64 a0_1, .int .i64 a0_2, .int .i64 a0_3, .int .i64 a0_4, .int .i64 a0_5, .bool a0_6, .int .i64 a0_7, .int .i64 a0_8, .int .i64 a0_9, .int .i64 a0_10, .int .i64 a0_11, .int .i64 a0_12]) (t := 48) ?hr ?_; (case hd => rfl); (case hg => rfl); (case hr => first | (go_simp; done) | (go_simp; rfl)); intro gb378 hg w6 hbox hb; have n0_ := am (qQb (by exact h0q HB.out) hb); have n1_ := am (hbox); have n2_ := am ((by rw [hg]; exact (qQd (by exact h0q HB.out)) : w.heap.size ≤ gb378)); have n3_ := am ((by rw [hg]; exact (qQd (by exact h0q HB.out)) : w.heap.size ≤ gb378)); clear HB; have HB := n0_; have BK378 := n1_; have GW378 := n2_; have GE378 := n3_; clear n0_ n1_ n2_ n3_; clear hb hbox hg; have hz7 := lc13 BK378.out))
   go_ret
   exact ⟨er, by exact h1q HB.out GE378.out⟩
  ·rw [if_neg c5] at H
   have c5b0 : decide (1000 < a0_0) = false := decide_eq_false c5
   clear c5
   replace H := Option.bind_eq_some_iff.mp H
   obtain ⟨t379, A80, H⟩ := H
   replace H : (if t379 = true then ((qQe.f a0_4).bind fun t380 => (if t380 = true then ((qQk.f a0_2).bind fun t381 => (if t381 = true then ((qQk.f a0_3).bind fun t382 => (if t382 = true then (if a0_5 < 0 then (some false) else (if a0_5 > 1000000 then (some false) else (if a0_7 < 1 then (some false) else (if a0_7 > 5 then (some false) else (if a0_8 < 0 then (some false) else (if a0_8 > 4 then (some false) else (if a0_9 < (-1) then (some false) else (if a0_9 > 87658 then (some false) else ((qQe.f a0_10).bind fun t383 => (if t383 = true then ((qQe.f a0_11).bind fun t384 => (if t384 = true then (if a0_12 < 0 then (some false) else (if a0_8 = 0 then (some true) else (if a0_1 = 0 then (if a0_2 = 0 then (some (a0_4 == 0)) else (some false)) else (some false)))) else (some false))) else (some false))))))))))) else (some false))) else (some false))) else (some false))) else (some false)) = some r := H
   have A8 := am A80
   clear A80
   by_cases c9 : t379 = true
   ·subst c9
    have H1 : ((qQe.f a0_4).bind fun t380 => (if t380 = true then ((qQk.f a0_2).bind fun t381 => (if t381 = true then ((qQk.f a0_3).bind fun t382 => (if t382 = true then (if a0_5 < 0 then (some false) else (if a0_5 > 1000000 then (some false) else (if a0_7 < 1 then (some false) else (if a0_7 > 5 then (some false) else (if a0_8 < 0 then (some false) else (if a0_8 > 4 then (some false) else (if a0_9 < (-1) then (some false) else (if a0_9 > 87658 then (some false) else ((qQe.f a0_10).bind fun t383 => (if t383 = true then ((qQe.f a0_11).bind fun t384 => (if t384 = true then (if a0_12 < 0 then (some false) else (if a0_8 = 0 then (some true) else (if a0_1 = 0 then (if a0_2 = 0 then (some (a0_4 == 0)) else (some false)) else (some false)))) else (some false))) else (some false))))))))))) else (some false))) else (some false))) else (some false))) = some r := by rw [if_pos rfl] at H; exact H
    clear H
    have H := H1
    clear H1
    replace H := Option.bind_eq_some_iff.mp H
    obtain ⟨t380, A100, H⟩ := H
    replace H : (if t380 = true then ((qQk.f a0_2).bind fun t381 => (if t381 = true then ((qQk.f a0_3).bind fun t382 => (if t382 = true then (if a0_5 < 0 then (some false) else (if a0_5 > 1000000 then (some false) else (if a0_7 < 1 then (some false) else (if a0_7 > 5 then (some false) else (if a0_8 < 0 then (some false) else (if a0_8 > 4 then (some false) else (if a0_9 < (-1) then (some false) else (if a0_9 > 87658 then (some false) else ((qQe.f a0_10).bind fun t383 => (if t383 = true then ((qQe.f a0_11).bind fun t384 => (if t384 = true then (if a0_12 < 0 then (some false) else (if a0_8 = 0 then (some true) else (if a0_1 = 0 then (if a0_2 = 0 then (some (a0_4 == 0)) else (some false)) else (some false)))) else (some false))) else (some false))))))))))) else (some false))) else (some false))) else (some false)) = some r := H
    have A10 := am A100
    clear A100
    by_cases c11 : t380 = true
    ·subst c11
     have H1 : ((qQk.f a0_2).bind fun t381 => (if t381 = true then ((qQk.f a0_3).bind fun t382 => (if t382 = true then (if a0_5 < 0 then (some false) else (if a0_5 > 1000000 then (some false) else (if a0_7 < 1 then (some false) else (if a0_7 > 5 then (some false) else (if a0_8 < 0 then (some false) else (if a0_8 > 4 then (some false) else (if a0_9 < (-1) then (some false) else (if a0_9 > 87658 then (some false) else ((qQe.f a0_10).bind fun t383 => (if t383 = true then ((qQe.f a0_11).bind fun t384 => (if t384 = true then (if a0_12 < 0 then (some false) else (if a0_8 = 0 then (some true) else (if a0_1 = 0 then (if a0_2 = 0 then (some (a0_4 == 0)) else (some false)) else (some false)))) else (some false))) else (some false))))))))))) else (some false))) else (some false))) = some r := by rw [if_pos rfl] at H; exact H
     clear H
     have H := H1
     clear H1
     replace H := Option.bind_eq_some_iff.mp H
     obtain ⟨t381, A120, H⟩ := H
     replace H : (if t381 = true then ((qQk.f a0_3).bind fun t382 => (if t382 = true then (if a0_5 < 0 then (some false) else (if a0_5 > 1000000 then (some false) else (if a0_7 < 1 then (some false) else (if a0_7 > 5 then (some false) else (if a0_8 < 0 then (some false) else (if a0_8 > 4 then (some false) else (if a0_9 < (-1) then (some false) else (if a0_9 > 87658 then (some false) else ((qQe.f a0_10).bind fun t383 => (if t383 = true then ((qQe.f a0_11).bind fun t384 => (if t384 = true then (if a0_12 < 0 then (some false) else (if a0_8 = 0 then (some true) else (if a0_1 = 0 then (if a0_2 = 0 then (some (a0_4 == 0)) else (some false)) else (some false)))) else (some false))) else (some false))))))))))) else (some false))) else (some false)) = some r := H
     have A12 := am A120
     clear A120
     by_cases c13 : t381 = true
     ·subst c13
      have H1 : ((qQk.f a0_3).bind fun t382 => (if t382 = true then (if a0_5 < 0 then (some false) else (if a0_5 > 1000000 then (some false) else (if a0_7 < 1 then (some false) else (if a0_7 > 5 then (some false) else (if a0_8 < 0 then (some false) else (if a0_8 > 4 then (some false) else (if a0_9 < (-1) then (some false) else (if a0_9 > 87658 then (some false) else ((qQe.f a0_10).bind fun t383 => (if t383 = true then ((qQe.f a0_11).bind fun t384 => (if t384 = true then (if a0_12 < 0 then (some false) else (if a0_8 = 0 then (some true) else (if a0_1 = 0 then (if a0_2 = 0 then (some (a0_4 == 0)) else (some false)) else (some false)))) else (some false))) else (some false))))))))))) else (some false))) = some r := by rw [if_pos rfl] at H; exact H
      clear H
      have H := H1
      clear H1
      replace H := Option.bind_eq_some_iff.mp H
      obtain ⟨t382, A140, H⟩ := H
      replace H : (if t382 = true then (if a0_5 < 0 then (some false) else (if a0_5 > 1000000 then (some false) else (if a0_7 < 1 then (some false) else (if a0_7 > 5 then (some false) else (if a0_8 < 0 then (some false) else (if a0_8 > 4 then (some false) else (if a0_9 < (-1) then (some false) else (if a0_9 > 87658 then (some false) else ((qQe.f a0_10).bind fun t383 => (if t383 = true then ((qQe.f a0_11).bind fun t384 => (if t384 = true then (if a0_12 < 0 then (some false) else (if a0_8 = 0 then (some true) else (if a0_1 = 0 then (if a0_2 = 0 then (some (a0_4 == 0)) else (some false)) else (some false)))) else (some false))) else (some false))))))))))) else (some false)) = some r := H
      have A14 := am A140
      clear A140
      by_cases c15 : t382 = true
      ·subst c15
       have H1 : (if a0_5 < 0 then (some false) else (if a0_5 > 1000000 then (some false) else (if a0_7 < 1 then (some false) else (if a0_7 > 5 then (some false) else (if a0_8 < 0 then (some false) else (if a0_8 > 4 then (some false) else (if a0_9 < (-1) then (some false) else (if a0_9 > 87658 then (some false) else ((qQe.f a0_10).bind fun t383 => (if t383 = true then ((qQe.f a0_11).bind fun t384 => (if t384 = true then (if a0_12 < 0 then (some false) else (if a0_8 = 0 then (some true) else (if a0_1 = 0 then (if a0_2 = 0 then (some (a0_4 == 0)) else (some false)) else (some false)))) else (some false))) else (some false))))))))))) = some r := by rw [if_pos rfl] at H; exact H
       clear H
       have H := H1
       clear H1
       by_cases c16 : a0_5 < 0
       ·rw [if_pos c16] at H
        have c16b0 : decide (a0_5 < 0) = true := decide_eq_true c16
        clear c16
        obtain rfl := Option.some.inj H
        go_enter Tryz.func33, Tryz.ntmps33
        go_wp2_with (first | ((with_reducible refine qQ0 (N := 1) rfl ?_); refine qQs ?hg (N := 1) ?hd (cs := #[.int .i64 a0_0, .int .i64 a0_1, .int .i64 a0_2, .int .i64 a0_3, .int .i64 a0_4, .int .i64 a0_5, .bool a0_6, .int .i64 a0_7, .int .i64 a0_8, .int .i64 a0_9, .int .i64 a0_10, .int .i64 a0_11, .int .i64 a0_12]) (t := 48) ?hr ?_; (case hd => rfl); (case hg => rfl); (case hr => first | (go_simp; done) | (go_simp; rfl)); intro gb378 hg w17 hbox hb; have n0_ := am (qQb (by exact h0q HB.out) hb); have n1_ := am (hbox); have n2_ := am ((by rw [hg]; exact (qQd (by exact h0q HB.out)) : w.heap.size ≤ gb378)); have n3_ := am ((by rw [hg]; exact (qQd (by exact h0q HB.out)) : w.heap.size ≤ gb378)); clear HB; have HB := n0_; have BK378 := n1_; have GW378 := n2_; have GE378 := n3_; clear n0_ n1_ n2_ n3_; clear hb hbox hg; have hz18 := lc13 BK378.out) | (go_at_call 52; (with_reducible refine (qQe.calls a0_1 true _ A8.out).mono ?_); rintro e w' ⟨rfl, ⟨nd, rfl⟩⟩) | (go_at_call 52; (with_reducible refine (qQe.calls a0_4 true _ A10.out).mono ?_); rintro e w' ⟨rfl, ⟨nd, rfl⟩⟩) | (go_at_call 53; (with_reducible refine (qQk.calls a0_2 true _ A12.out).mono ?_); rintro e w' ⟨rfl, ⟨nd, rfl⟩⟩) | (go_at_call 53; (with_reducible refine (qQk.calls a0_3 true _ A14.out).mono ?_); rintro e w' ⟨rfl, ⟨nd, rfl⟩⟩))
        go_ret
        exact ⟨er, by exact h1q HB.out GE378.out⟩
       ·rw [if_neg c16] at H
        have c16b0 : decide (a0_5 < 0) = false := decide_eq_false c16
        clear c16
        by_cases c19 : a0_5 > 1000000
        ·rw [if_pos c19] at H
         have c19b0 : decide (1000000 < a0_5) = true := decide_eq_true c19
         clear c19
         obtain rfl := Option.some.inj H
         go_enter Tryz.func33, Tryz.ntmps33
         go_wp2_with (first | ((with_reducible refine qQ0 (N := 1) rfl ?_); refine qQs ?hg (N := 1) ?hd (cs := #[.int .i64 a0_0, .int .i64 a0_1, .int .i64 a0_2, .int .i64 a0_3, .int .i64 a0_4, .int .i64 a0_5, .bool a0_6, .int .i64 a0_7, .int .i64 a0_8, .int .i64 a0_9, .int .i64 a0_10, .int .i64 a0_11, .int .i64 a0_12]) (t := 48) ?hr ?_; (case hd => rfl); (case hg => rfl); (case hr => first | (go_simp; done) | (go_simp; rfl)); intro gb378 hg w20 hbox hb; have n0_ := am (qQb (by exact h0q HB.out) hb); have n1_ := am (hbox); have n2_ := am ((by rw [hg]; exact (qQd (by exact h0q HB.out)) : w.heap.size ≤ gb378)); have n3_ := am ((by rw [hg]; exact (qQd (by exact h0q HB.out)) : w.heap.size ≤ gb378)); clear HB; have HB := n0_; have BK378 := n1_; have GW378 := n2_; have GE378 := n3_; clear n0_ n1_ n2_ n3_; clear hb hbox hg; have hz21 := lc13 BK378.out) | (go_at_call 52; (with_reducible refine (qQe.calls a0_1 true _ A8.out).mono ?_); rintro e w' ⟨rfl, ⟨nd, rfl⟩⟩) | (go_at_call 52; (with_reducible refine (qQe.calls a0_4 true _ A10.out).mono ?_); rintro e w' ⟨rfl, ⟨nd, rfl⟩⟩) | (go_at_call 53; (with_reducible refine (qQk.calls a0_2 true _ A12.out).mono ?_); rintro e w' ⟨rfl, ⟨nd, rfl⟩⟩) | (go_at_call 53; (with_reducible refine (qQk.calls a0_3 true _ A14.out).mono ?_); rintro e w' ⟨rfl, ⟨nd, rfl⟩⟩))
         go_ret
         exact ⟨er, by exact h1q HB.out GE378.out⟩
        ·rw [if_neg c19] at H
         have c19b0 : decide (1000000 < a0_5) = false := decide_eq_false c19
         clear c19
         by_cases c22 : a0_7 < 1
         ·rw [if_pos c22] at H
          have c22b0 : decide (a0_7 < 1) = true := decide_eq_true c22
          clear c22
          obtain rfl := Option.some.inj H
          go_enter Tryz.func33, Tryz.ntmps33
          go_wp2_with (first | ((with_reducible refine qQ0 (N := 1) rfl ?_); refine qQs ?hg (N := 1) ?hd (cs := #[.int .i64 a0_0, .int .i64 a0_1, .int .i64 a0_2, .int .i64 a0_3, .int .i64 a0_4, .int .i64 a0_5, .bool a0_6, .int .i64 a0_7, .int .i64 a0_8, .int .i64 a0_9, .int .i64 a0_10, .int .i64 a0_11, .int .i64 a0_12]) (t := 48) ?hr ?_; (case hd => rfl); (case hg => rfl); (case hr => first | (go_simp; done) | (go_simp; rfl)); intro gb378 hg w23 hbox hb; have n0_ := am (qQb (by exact h0q HB.out) hb); have n1_ := am (hbox); have n2_ := am ((by rw [hg]; exact (qQd (by exact h0q HB.out)) : w.heap.size ≤ gb378)); have n3_ := am ((by rw [hg]; exact (qQd (by exact h0q HB.out)) : w.heap.size ≤ gb378)); clear HB; have HB := n0_; have BK378 := n1_; have GW378 := n2_; have GE378 := n3_; clear n0_ n1_ n2_ n3_; clear hb hbox hg; have hz24 := lc13 BK378.out) | (go_at_call 52; (with_reducible refine (qQe.calls a0_1 true _ A8.out).mono ?_); rintro e w' ⟨rfl, ⟨nd, rfl⟩⟩) | (go_at_call 52; (with_reducible refine (qQe.calls a0_4 true _ A10.out).mono ?_); rintro e w' ⟨rfl, ⟨nd, rfl⟩⟩) | (go_at_call 53; (with_reducible refine (qQk.calls a0_2 true _ A12.out).mono ?_); rintro e w' ⟨rfl, ⟨nd, rfl⟩⟩) | (go_at_call 53; (with_reducible refine (qQk.calls a0_3 true _ A14.out).mono ?_); rintro e w' ⟨rfl, ⟨nd, rfl⟩⟩))
          go_ret
          exact ⟨er, by exact h1q HB.out GE378.out⟩
         ·rw [if_neg c22] at H
          have c22b0 : decide (a0_7 < 1) = false := decide_eq_false c22
          clear c22
          by_cases c25 : a0_7 > 5
          ·rw [if_pos c25] at H
           have c25b0 : decide (5 < a0_7) = true := decide_eq_true c25
           clear c25
           obtain rfl := Option.some.inj H
           go_enter Tryz.func33, Tryz.ntmps33
           go_wp2_with (first | ((with_reducible refine qQ0 (N := 1) rfl ?_); refine qQs ?hg (N := 1) ?hd (cs := #[.int .i64 a0_0, .int .i64 a0_1, .int .i64 a0_2, .int .i64 a0_3, .int .i64 a0_4, .int .i64 a0_5, .bool a0_6, .int .i64 a0_7, .int .i64 a0_8, .int .i64 a0_9, .int .i64 a0_10, .int .i64 a0_11, .int .i64 a0_12]) (t := 48) ?hr ?_; (case hd => rfl); (case hg => rfl); (case hr => first | (go_simp; done) | (go_simp; rfl)); intro gb378 hg w26 hbox hb; have n0_ := am (qQb (by exact h0q HB.out) hb); have n1_ := am (hbox); have n2_ := am ((by rw [hg]; exact (qQd (by exact h0q HB.out)) : w.heap.size ≤ gb378)); have n3_ := am ((by rw [hg]; exact (qQd (by exact h0q HB.out)) : w.heap.size ≤ gb378)); clear HB; have HB := n0_; have BK378 := n1_; have GW378 := n2_; have GE378 := n3_; clear n0_ n1_ n2_ n3_; clear hb hbox hg; have hz27 := lc13 BK378.out) | (go_at_call 52; (with_reducible refine (qQe.calls a0_1 true _ A8.out).mono ?_); rintro e w' ⟨rfl, ⟨nd, rfl⟩⟩) | (go_at_call 52; (with_reducible refine (qQe.calls a0_4 true _ A10.out).mono ?_); rintro e w' ⟨rfl, ⟨nd, rfl⟩⟩) | (go_at_call 53; (with_reducible refine (qQk.calls a0_2 true _ A12.out).mono ?_); rintro e w' ⟨rfl, ⟨nd, rfl⟩⟩) | (go_at_call 53; (with_reducible refine (qQk.calls a0_3 true _ A14.out).mono ?_); rintro e w' ⟨rfl, ⟨nd, rfl⟩⟩))
           go_ret
           exact ⟨er, by exact h1q HB.out GE378.out⟩
          ·rw [if_neg c25] at H
           have c25b0 : decide (5 < a0_7) = false := decide_eq_false c25
           clear c25
           by_cases c28 : a0_8 < 0
           ·rw [if_pos c28] at H
            have c28b0 : decide (a0_8 < 0) = true := decide_eq_true c28
            clear c28
            obtain rfl := Option.some.inj H
            go_enter Tryz.func33, Tryz.ntmps33
            go_wp2_with (first | ((with_reducible refine qQ0 (N := 1) rfl ?_); refine qQs ?hg (N := 1) ?hd (cs := #[.int .i64 a0_0, .int .i64 a0_1, .int .i64 a0_2, .int .i64 a0_3, .int .i64 a0_4, .int .i64 a0_5, .bool a0_6, .int .i64 a0_7, .int .i64 a0_8, .int .i64 a0_9, .int .i64 a0_10, .int .i64 a0_11, .int .i64 a0_12]) (t := 48) ?hr ?_; (case hd => rfl); (case hg => rfl); (case hr => first | (go_simp; done) | (go_simp; rfl)); intro gb378 hg w29 hbox hb; have n0_ := am (qQb (by exact h0q HB.out) hb); have n1_ := am (hbox); have n2_ := am ((by rw [hg]; exact (qQd (by exact h0q HB.out)) : w.heap.size ≤ gb378)); have n3_ := am ((by rw [hg]; exact (qQd (by exact h0q HB.out)) : w.heap.size ≤ gb378)); clear HB; have HB := n0_; have BK378 := n1_; have GW378 := n2_; have GE378 := n3_; clear n0_ n1_ n2_ n3_; clear hb hbox hg; have hz30 := lc13 BK378.out) | (go_at_call 52; (with_reducible refine (qQe.calls a0_1 true _ A8.out).mono ?_); rintro e w' ⟨rfl, ⟨nd, rfl⟩⟩) | (go_at_call 52; (with_reducible refine (qQe.calls a0_4 true _ A10.out).mono ?_); rintro e w' ⟨rfl, ⟨nd, rfl⟩⟩) | (go_at_call 53; (with_reducible refine (qQk.calls a0_2 true _ A12.out).mono ?_); rintro e w' ⟨rfl, ⟨nd, rfl⟩⟩) | (go_at_call 53; (with_reducible refine (qQk.calls a0_3 true _ A14.out).mono ?_); rintro e w' ⟨rfl, ⟨nd, rfl⟩⟩))
            go_ret
            exact ⟨er, by exact h1q HB.out GE378.out⟩
           ·rw [if_neg c28] at H
            have c28b0 : decide (a0_8 < 0) = false := decide_eq_false c28
            clear c28
            by_cases c31 : a0_8 > 4
            ·rw [if_pos c31] at H
             have c31b0 : decide (4 < a0_8) = true := decide_eq_true c31
             clear c31
             obtain rfl := Option.some.inj H
             go_enter Tryz.func33, Tryz.ntmps33
             go_wp2_with (first | ((with_reducible refine qQ0 (N := 1) rfl ?_); refine qQs ?hg (N := 1) ?hd (cs := #[.int .i64 a0_0, .int .i64 a0_1, .int .i64 a0_2, .int .i64 a0_3, .int .i64 a0_4, .int .i64 a0_5, .bool a0_6, .int .i64 a0_7, .int .i64 a0_8, .int .i64 a0_9, .int .i64 a0_10, .int .i64 a0_11, .int .i64 a0_12]) (t := 48) ?hr ?_; (case hd => rfl); (case hg => rfl); (case hr => first | (go_simp; done) | (go_simp; rfl)); intro gb378 hg w32 hbox hb; have n0_ := am (qQb (by exact h0q HB.out) hb); have n1_ := am (hbox); have n2_ := am ((by rw [hg]; exact (qQd (by exact h0q HB.out)) : w.heap.size ≤ gb378)); have n3_ := am ((by rw [hg]; exact (qQd (by exact h0q HB.out)) : w.heap.size ≤ gb378)); clear HB; have HB := n0_; have BK378 := n1_; have GW378 := n2_; have GE378 := n3_; clear n0_ n1_ n2_ n3_; clear hb hbox hg; have hz33 := lc13 BK378.out) | (go_at_call 52; (with_reducible refine (qQe.calls a0_1 true _ A8.out).mono ?_); rintro e w' ⟨rfl, ⟨nd, rfl⟩⟩) | (go_at_call 52; (with_reducible refine (qQe.calls a0_4 true _ A10.out).mono ?_); rintro e w' ⟨rfl, ⟨nd, rfl⟩⟩) | (go_at_call 53; (with_reducible refine (qQk.calls a0_2 true _ A12.out).mono ?_); rintro e w' ⟨rfl, ⟨nd, rfl⟩⟩) | (go_at_call 53; (with_reducible refine (qQk.calls a0_3 true _ A14.out).mono ?_); rintro e w' ⟨rfl, ⟨nd, rfl⟩⟩))
             go_ret
             exact ⟨er, by exact h1q HB.out GE378.out⟩
            ·rw [if_neg c31] at H
             have c31b0 : decide (4 < a0_8) = false := decide_eq_false c31
             clear c31
             by_cases c34 : a0_9 < (-1)
             ·rw [if_pos c34] at H
              have c34b0 : decide (a0_9 < (-1)) = true := decide_eq_true c34
              clear c34
              obtain rfl := Option.some.inj H
              go_enter Tryz.func33, Tryz.ntmps33
              go_wp2_with (first | ((with_reducible refine qQ0 (N := 1) rfl ?_); refine qQs ?hg (N := 1) ?hd (cs := #[.int .i64 a0_0, .int .i64 a0_1, .int .i64 a0_2, .int .i64 a0_3, .int .i64 a0_4, .int .i64 a0_5, .bool a0_6, .int .i64 a0_7, .int .i64 a0_8, .int .i64 a0_9, .int .i64 a0_10, .int .i64 a0_11, .int .i64 a0_12]) (t := 48) ?hr ?_; (case hd => rfl); (case hg => rfl); (case hr => first | (go_simp; done) | (go_simp; rfl)); intro gb378 hg w35 hbox hb; have n0_ := am (qQb (by exact h0q HB.out) hb); have n1_ := am (hbox); have n2_ := am ((by rw [hg]; exact (qQd (by exact h0q HB.out)) : w.heap.size ≤ gb378)); have n3_ := am ((by rw [hg]; exact (qQd (by exact h0q HB.out)) : w.heap.size ≤ gb378)); clear HB; have HB := n0_; have BK378 := n1_; have GW378 := n2_; have GE378 := n3_; clear n0_ n1_ n2_ n3_; clear hb hbox hg; have hz36 := lc13 BK378.out) | (go_at_call 52; (with_reducible refine (qQe.calls a0_1 true _ A8.out).mono ?_); rintro e w' ⟨rfl, ⟨nd, rfl⟩⟩) | (go_at_call 52; (with_reducible refine (qQe.calls a0_4 true _ A10.out).mono ?_); rintro e w' ⟨rfl, ⟨nd, rfl⟩⟩) | (go_at_call 53; (with_reducible refine (qQk.calls a0_2 true _ A12.out).mono ?_); rintro e w' ⟨rfl, ⟨nd, rfl⟩⟩) | (go_at_call 53; (with_reducible refine (qQk.calls a0_3 true _ A14.out).mono ?_); rintro e w' ⟨rfl, ⟨nd, rfl⟩⟩))
              go_ret
              exact ⟨er, by exact h1q HB.out GE378.out⟩
             ·rw [if_neg c34] at H
              have c34b0 : decide (a0_9 < (-1)) = false := decide_eq_false c34
              clear c34
              by_cases c37 : a0_9 > 87658
              ·rw [if_pos c37] at H
               have c37b0 : decide (87658 < a0_9) = true := decide_eq_true c37
               clear c37
               obtain rfl := Option.some.inj H
               go_enter Tryz.func33, Tryz.ntmps33
               go_wp2_with (first | ((with_reducible refine qQ0 (N := 1) rfl ?_); refine qQs ?hg (N := 1) ?hd (cs := #[.int .i64 a0_0, .int .i64 a0_1, .int .i64 a0_2, .int .i64 a0_3, .int .i64 a0_4, .int .i64 a0_5, .bool a0_6, .int .i64 a0_7, .int .i64 a0_8, .int .i64 a0_9, .int .i64 a0_10, .int .i64 a0_11, .int .i64 a0_12]) (t := 48) ?hr ?_; (case hd => rfl); (case hg => rfl); (case hr => first | (go_simp; done) | (go_simp; rfl)); intro gb378 hg w38 hbox hb; have n0_ := am (qQb (by exact h0q HB.out) hb); have n1_ := am (hbox); have n2_ := am ((by rw [hg]; exact (qQd (by exact h0q HB.out)) : w.heap.size ≤ gb378)); have n3_ := am ((by rw [hg]; exact (qQd (by exact h0q HB.out)) : w.heap.size ≤ gb378)); clear HB; have HB := n0_; have BK378 := n1_; have GW378 := n2_; have GE378 := n3_; clear n0_ n1_ n2_ n3_; clear hb hbox hg; have hz39 := lc13 BK378.out) | (go_at_call 52; (with_reducible refine (qQe.calls a0_1 true _ A8.out).mono ?_); rintro e w' ⟨rfl, ⟨nd, rfl⟩⟩) | (go_at_call 52; (with_reducible refine (qQe.calls a0_4 true _ A10.out).mono ?_); rintro e w' ⟨rfl, ⟨nd, rfl⟩⟩) | (go_at_call 53; (with_reducible refine (qQk.calls a0_2 true _ A12.out).mono ?_); rintro e w' ⟨rfl, ⟨nd, rfl⟩⟩) | (go_at_call 53; (with_reducible refine (qQk.calls a0_3 true _ A14.out).mono ?_); rintro e w' ⟨rfl, ⟨nd, rfl⟩⟩))
               go_ret
               exact ⟨er, by exact h1q HB.out GE378.out⟩
              ·rw [if_neg c37] at H
               have c37b0 : decide (87658 < a0_9) = false := decide_eq_false c37
               clear c37
               replace H := Option.bind_eq_some_iff.mp H
               obtain ⟨t383, A400, H⟩ := H
               replace H : (if t383 = true then ((qQe.f a0_11).bind fun t384 => (if t384 = true then (if a0_12 < 0 then (some false) else (if a0_8 = 0 then (some true) else (if a0_1 = 0 then (if a0_2 = 0 then (some (a0_4 == 0)) else (some false)) else (some false)))) else (some false))) else (some false)) = some r := H
               have A40 := am A400
               clear A400
               by_cases c41 : t383 = true
               ·subst c41
                have H1 : ((qQe.f a0_11).bind fun t384 => (if t384 = true then (if a0_12 < 0 then (some false) else (if a0_8 = 0 then (some true) else (if a0_1 = 0 then (if a0_2 = 0 then (some (a0_4 == 0)) else (some false)) else (some false)))) else (some false))) = some r := by rw [if_pos rfl] at H; exact H
                clear H
                have H := H1
                clear H1
                replace H := Option.bind_eq_some_iff.mp H
                obtain ⟨t384, A420, H⟩ := H
                replace H : (if t384 = true then (if a0_12 < 0 then (some false) else (if a0_8 = 0 then (some true) else (if a0_1 = 0 then (if a0_2 = 0 then (some (a0_4 == 0)) else (some false)) else (some false)))) else (some false)) = some r := H
                have A42 := am A420
                clear A420
                by_cases c43 : t384 = true
                ·subst c43
                 have H1 : (if a0_12 < 0 then (some false) else (if a0_8 = 0 then (some true) else (if a0_1 = 0 then (if a0_2 = 0 then (some (a0_4 == 0)) else (some false)) else (some false)))) = some r := by rw [if_pos rfl] at H; exact H
                 clear H
                 have H := H1
                 clear H1
                 by_cases c44 : a0_12 < 0
                 ·rw [if_pos c44] at H
                  have c44b0 : decide (a0_12 < 0) = true := decide_eq_true c44
                  clear c44
                  obtain rfl := Option.some.inj H
                  go_enter Tryz.func33, Tryz.ntmps33
                  go_wp2_with (first | ((with_reducible refine qQ0 (N := 1) rfl ?_); refine qQs ?hg (N := 1) ?hd (cs := #[.int .i64 a0_0, .int .i64 a0_1, .int .i64 a0_2, .int .i64 a0_3, .int .i64 a0_4, .int .i64 a0_5, .bool a0_6, .int .i64 a0_7, .int .i64 a0_8, .int .i64 a0_9, .int .i64 a0_10, .int .i64 a0_11, .int .i64 a0_12]) (t := 48) ?hr ?_; (case hd => rfl); (case hg => rfl); (case hr => first | (go_simp; done) | (go_simp; rfl)); intro gb378 hg w45 hbox hb; have n0_ := am (qQb (by exact h0q HB.out) hb); have n1_ := am (hbox); have n2_ := am ((by rw [hg]; exact (qQd (by exact h0q HB.out)) : w.heap.size ≤ gb378)); have n3_ := am ((by rw [hg]; exact (qQd (by exact h0q HB.out)) : w.heap.size ≤ gb378)); clear HB; have HB := n0_; have BK378 := n1_; have GW378 := n2_; have GE378 := n3_; clear n0_ n1_ n2_ n3_; clear hb hbox hg; have hz46 := lc13 BK378.out) | (go_at_call 52; (with_reducible refine (qQe.calls a0_1 true _ A8.out).mono ?_); rintro e w' ⟨rfl, ⟨nd, rfl⟩⟩) | (go_at_call 52; (with_reducible refine (qQe.calls a0_4 true _ A10.out).mono ?_); rintro e w' ⟨rfl, ⟨nd, rfl⟩⟩) | (go_at_call 53; (with_reducible refine (qQk.calls a0_2 true _ A12.out).mono ?_); rintro e w' ⟨rfl, ⟨nd, rfl⟩⟩) | (go_at_call 53; (with_reducible refine (qQk.calls a0_3 true _ A14.out).mono ?_); rintro e w' ⟨rfl, ⟨nd, rfl⟩⟩) | (go_at_call 52; (with_reducible refine (qQe.calls a0_10 true _ A40.out).mono ?_); rintro e w' ⟨rfl, ⟨nd, rfl⟩⟩) | (go_at_call 52; (with_reducible refine (qQe.calls a0_11 true _ A42.out).mono ?_); rintro e w' ⟨rfl, ⟨nd, rfl⟩⟩))
                  go_ret
                  exact ⟨er, by exact h1q HB.out GE378.out⟩
                 ·rw [if_neg c44] at H
                  have c44b0 : decide (a0_12 < 0) = false := decide_eq_false c44
                  clear c44
                  by_cases c47 : a0_8 = 0
                  ·rw [if_pos c47] at H
                   have c47b0 : (a0_8 == 0) = true := beq_iff_eq.mpr c47
                   have c47b1 : (a0_8 != 0) = false := bne_eq_false_iff_eq.mpr c47
                   clear c47
                   obtain rfl := Option.some.inj H
                   go_enter Tryz.func33, Tryz.ntmps33
                   go_wp2_with (first | ((with_reducible refine qQ0 (N := 1) rfl ?_); refine qQs ?hg (N := 1) ?hd (cs := #[.int .i64 a0_0, .int .i64 a0_1, .int .i64 a0_2, .int .i64 a0_3, .int .i64 a0_4, .int .i64 a0_5, .bool a0_6, .int .i64 a0_7, .int .i64 a0_8, .int .i64 a0_9, .int .i64 a0_10, .int .i64 a0_11, .int .i64 a0_12]) (t := 48) ?hr ?_; (case hd => rfl); (case hg => rfl); (case hr => first | (go_simp; done) | (go_simp; rfl)); intro gb378 hg w48 hbox hb; have n0_ := am (qQb (by exact h0q HB.out) hb); have n1_ := am (hbox); have n2_ := am ((by rw [hg]; exact (qQd (by exact h0q HB.out)) : w.heap.size ≤ gb378)); have n3_ := am ((by rw [hg]; exact (qQd (by exact h0q HB.out)) : w.heap.size ≤ gb378)); clear HB; have HB := n0_; have BK378 := n1_; have GW378 := n2_; have GE378 := n3_; clear n0_ n1_ n2_ n3_; clear hb hbox hg; have hz49 := lc13 BK378.out) | (go_at_call 52; (with_reducible refine (qQe.calls a0_1 true _ A8.out).mono ?_); rintro e w' ⟨rfl, ⟨nd, rfl⟩⟩) | (go_at_call 52; (with_reducible refine (qQe.calls a0_4 true _ A10.out).mono ?_); rintro e w' ⟨rfl, ⟨nd, rfl⟩⟩) | (go_at_call 53; (with_reducible refine (qQk.calls a0_2 true _ A12.out).mono ?_); rintro e w' ⟨rfl, ⟨nd, rfl⟩⟩) | (go_at_call 53; (with_reducible refine (qQk.calls a0_3 true _ A14.out).mono ?_); rintro e w' ⟨rfl, ⟨nd, rfl⟩⟩) | (go_at_call 52; (with_reducible refine (qQe.calls a0_10 true _ A40.out).mono ?_); rintro e w' ⟨rfl, ⟨nd, rfl⟩⟩) | (go_at_call 52; (with_reducible refine (qQe.calls a0_11 true _ A42.out).mono ?_); rintro e w' ⟨rfl, ⟨nd, rfl⟩⟩))
                   go_ret
                   exact ⟨er, by exact h1q HB.out GE378.out⟩
                  ·rw [if_neg c47] at H
                   have c47b0 : (a0_8 == 0) = false := beq_eq_false_iff_ne.mpr c47
                   have c47b1 : (a0_8 != 0) = true := bne_iff_ne.mpr c47
                   by_cases c50 : a0_1 = 0
                   ·rw [if_pos c50] at H
                    have c50b0 : (a0_1 == 0) = true := beq_iff_eq.mpr c50
                    have c50b1 : (a0_1 != 0) = false := bne_eq_false_iff_eq.mpr c50
                    clear c50
                    by_cases c51 : a0_2 = 0
                    ·rw [if_pos c51] at H
                     have c51b0 : (a0_2 == 0) = true := beq_iff_eq.mpr c51
                     have c51b1 : (a0_2 != 0) = false := bne_eq_false_iff_eq.mpr c51
                     clear c51
                     obtain rfl := Option.some.inj H
                     go_enter Tryz.func33, Tryz.ntmps33
                     go_wp2_with (first | ((with_reducible refine qQ0 (N := 1) rfl ?_); refine qQs ?hg (N := 1) ?hd (cs := #[.int .i64 a0_0, .int .i64 a0_1, .int .i64 a0_2, .int .i64 a0_3, .int .i64 a0_4, .int .i64 a0_5, .bool a0_6, .int .i64 a0_7, .int .i64 a0_8, .int .i64 a0_9, .int .i64 a0_10, .int .i64 a0_11, .int .i64 a0_12]) (t := 48) ?hr ?_; (case hd => rfl); (case hg => rfl); (case hr => first | (go_simp; done) | (go_simp; rfl)); intro gb378 hg w52 hbox hb; have n0_ := am (qQb (by exact h0q HB.out) hb); have n1_ := am (hbox); have n2_ := am ((by rw [hg]; exact (qQd (by exact h0q HB.out)) : w.heap.size ≤ gb378)); have n3_ := am ((by rw [hg]; exact (qQd (by exact h0q HB.out)) : w.heap.size ≤ gb378)); clear HB; have HB := n0_; have BK378 := n1_; have GW378 := n2_; have GE378 := n3_; clear n0_ n1_ n2_ n3_; clear hb hbox hg; have hz53 := lc13 BK378.out) | (go_at_call 52; (with_reducible refine (qQe.calls a0_1 true _ A8.out).mono ?_); rintro e w' ⟨rfl, ⟨nd, rfl⟩⟩) | (go_at_call 52; (with_reducible refine (qQe.calls a0_4 true _ A10.out).mono ?_); rintro e w' ⟨rfl, ⟨nd, rfl⟩⟩) | (go_at_call 53; (with_reducible refine (qQk.calls a0_2 true _ A12.out).mono ?_); rintro e w' ⟨rfl, ⟨nd, rfl⟩⟩) | (go_at_call 53; (with_reducible refine (qQk.calls a0_3 true _ A14.out).mono ?_); rintro e w' ⟨rfl, ⟨nd, rfl⟩⟩) | (go_at_call 52; (with_reducible refine (qQe.calls a0_10 true _ A40.out).mono ?_); rintro e w' ⟨rfl, ⟨nd, rfl⟩⟩) | (go_at_call 52; (with_reducible refine (qQe.calls a0_11 true _ A42.out).mono ?_); rintro e w' ⟨rfl, ⟨nd, rfl⟩⟩))
                     go_ret
                     exact ⟨er, by exact h1q HB.out GE378.out⟩
                    ·rw [if_neg c51] at H
                     have c51b0 : (a0_2 == 0) = false := beq_eq_false_iff_ne.mpr c51
                     have c51b1 : (a0_2 != 0) = true := bne_iff_ne.mpr c51
                     obtain rfl := Option.some.inj H
                     go_enter Tryz.func33, Tryz.ntmps33
                     go_wp2_with (first | ((with_reducible refine qQ0 (N := 1) rfl ?_); refine qQs ?hg (N := 1) ?hd (cs := #[.int .i64 a0_0, .int .i64 a0_1, .int .i64 a0_2, .int .i64 a0_3, .int .i64 a0_4, .int .i64 a0_5, .bool a0_6, .int .i64 a0_7, .int .i64 a0_8, .int .i64 a0_9, .int .i64 a0_10, .int .i64 a0_11, .int .i64 a0_12]) (t := 48) ?hr ?_; (case hd => rfl); (case hg => rfl); (case hr => first | (go_simp; done) | (go_simp; rfl)); intro gb378 hg w54 hbox hb; have n0_ := am (qQb (by exact h0q HB.out) hb); have n1_ := am (hbox); have n2_ := am ((by rw [hg]; exact (qQd (by exact h0q HB.out)) : w.heap.size ≤ gb378)); have n3_ := am ((by rw [hg]; exact (qQd (by exact h0q HB.out)) : w.heap.size ≤ gb378)); clear HB; have HB := n0_; have BK378 := n1_; have GW378 := n2_; have GE378 := n3_; clear n0_ n1_ n2_ n3_; clear hb hbox hg; have hz55 := lc13 BK378.out) | (go_at_call 52; (with_reducible refine (qQe.calls a0_1 true _ A8.out).mono ?_); rintro e w' ⟨rfl, ⟨nd, rfl⟩⟩) | (go_at_call 52; (with_reducible refine (qQe.calls a0_4 true _ A10.out).mono ?_); rintro e w' ⟨rfl, ⟨nd, rfl⟩⟩) | (go_at_call 53; (with_reducible refine (qQk.calls a0_2 true _ A12.out).mono ?_); rintro e w' ⟨rfl, ⟨nd, rfl⟩⟩) | (go_at_call 53; (with_reducible refine (qQk.calls a0_3 true _ A14.out).mono ?_); rintro e w' ⟨rfl, ⟨nd, rfl⟩⟩) | (go_at_call 52; (with_reducible refine (qQe.calls a0_10 true _ A40.out).mono ?_); rintro e w' ⟨rfl, ⟨nd, rfl⟩⟩) | (go_at_call 52; (with_reducible refine (qQe.calls a0_11 true _ A42.out).mono ?_); rintro e w' ⟨rfl, ⟨nd, rfl⟩⟩))
                     go_ret
                     exact ⟨er, by exact h1q HB.out GE378.out⟩
                   ·rw [if_neg c50] at H
                    have c50b0 : (a0_1 == 0) = false := beq_eq_false_iff_ne.mpr c50
                    have c50b1 : (a0_1 != 0) = true := bne_iff_ne.mpr c50
                    obtain rfl := Option.some.inj H
                    go_enter Tryz.func33, Tryz.ntmps33
                    go_wp2_with (first | ((with_reducible refine qQ0 (N := 1) rfl ?_); refine qQs ?hg (N := 1) ?hd (cs := #[.int .i64 a0_0, .int .i64 a0_1, .int .i64 a0_2, .int .i64 a0_3, .int .i64 a0_4, .int .i64 a0_5, .bool a0_6, .int .i64 a0_7, .int .i64 a0_8, .int .i64 a0_9, .int .i64 a0_10, .int .i64 a0_11, .int .i64 a0_12]) (t := 48) ?hr ?_; (case hd => rfl); (case hg => rfl); (case hr => first | (go_simp; done) | (go_simp; rfl)); intro gb378 hg w56 hbox hb; have n0_ := am (qQb (by exact h0q HB.out) hb); have n1_ := am (hbox); have n2_ := am ((by rw [hg]; exact (qQd (by exact h0q HB.out)) : w.heap.size ≤ gb378)); have n3_ := am ((by rw [hg]; exact (qQd (by exact h0q HB.out)) : w.heap.size ≤ gb378)); clear HB; have HB := n0_; have BK378 := n1_; have GW378 := n2_; have GE378 := n3_; clear n0_ n1_ n2_ n3_; clear hb hbox hg; have hz57 := lc13 BK378.out) | (go_at_call 52; (with_reducible refine (qQe.calls a0_1 true _ A8.out).mono ?_); rintro e w' ⟨rfl, ⟨nd, rfl⟩⟩) | (go_at_call 52; (with_reducible refine (qQe.calls a0_4 true _ A10.out).mono ?_); rintro e w' ⟨rfl, ⟨nd, rfl⟩⟩) | (go_at_call 53; (with_reducible refine (qQk.calls a0_2 true _ A12.out).mono ?_); rintro e w' ⟨rfl, ⟨nd, rfl⟩⟩) | (go_at_call 53; (with_reducible refine (qQk.calls a0_3 true _ A14.out).mono ?_); rintro e w' ⟨rfl, ⟨nd, rfl⟩⟩) | (go_at_call 52; (with_reducible refine (qQe.calls a0_10 true _ A40.out).mono ?_); rintro e w' ⟨rfl, ⟨nd, rfl⟩⟩) | (go_at_call 52; (with_reducible refine (qQe.calls a0_11 true _ A42.out).mono ?_); rintro e w' ⟨rfl, ⟨nd, rfl⟩⟩))
                    go_ret
                    exact ⟨er, by exact h1q HB.out GE378.out⟩
                ·replace c43 := Bool.eq_false_iff.mpr c43
                 subst c43
                 have H1 : (some false) = some r := by rw [if_neg (show ¬ (false = true) by decide)] at H; exact H
                 clear H
                 have H := H1
                 clear H1
                 obtain rfl := Option.some.inj H
                 go_enter Tryz.func33, Tryz.ntmps33
                 go_wp2_with (first | ((with_reducible refine qQ0 (N := 1) rfl ?_); refine qQs ?hg (N := 1) ?hd (cs := #[.int .i64 a0_0, .int .i64 a0_1, .int .i64 a0_2, .int .i64 a0_3, .int .i64 a0_4, .int .i64 a0_5, .bool a0_6, .int .i64 a0_7, .int .i64 a0_8, .int .i64 a0_9, .int .i64 a0_10, .int .i64 a0_11, .int .i64 a0_12]) (t := 48) ?hr ?_; (case hd => rfl); (case hg => rfl); (case hr => first | (go_simp; done) | (go_simp; rfl)); intro gb378 hg w58 hbox hb; have n0_ := am (qQb (by exact h0q HB.out) hb); have n1_ := am (hbox); have n2_ := am ((by rw [hg]; exact (qQd (by exact h0q HB.out)) : w.heap.size ≤ gb378)); have n3_ := am ((by rw [hg]; exact (qQd (by exact h0q HB.out)) : w.heap.size ≤ gb378)); clear HB; have HB := n0_; have BK378 := n1_; have GW378 := n2_; have GE378 := n3_; clear n0_ n1_ n2_ n3_; clear hb hbox hg; have hz59 := lc13 BK378.out) | (go_at_call 52; (with_reducible refine (qQe.calls a0_1 true _ A8.out).mono ?_); rintro e w' ⟨rfl, ⟨nd, rfl⟩⟩) | (go_at_call 52; (with_reducible refine (qQe.calls a0_4 true _ A10.out).mono ?_); rintro e w' ⟨rfl, ⟨nd, rfl⟩⟩) | (go_at_call 53; (with_reducible refine (qQk.calls a0_2 true _ A12.out).mono ?_); rintro e w' ⟨rfl, ⟨nd, rfl⟩⟩) | (go_at_call 53; (with_reducible refine (qQk.calls a0_3 true _ A14.out).mono ?_); rintro e w' ⟨rfl, ⟨nd, rfl⟩⟩) | (go_at_call 52; (with_reducible refine (qQe.calls a0_10 true _ A40.out).mono ?_); rintro e w' ⟨rfl, ⟨nd, rfl⟩⟩) | (go_at_call 52; (with_reducible refine (qQe.calls a0_11 false _ A42.out).mono ?_); rintro e w' ⟨rfl, ⟨nd, rfl⟩⟩))
                 go_ret
                 exact ⟨er, by exact h1q HB.out GE378.out⟩
               ·replace c41 := Bool.eq_false_iff.mpr c41
                subst c41
                have H1 : (some false) = some r := by rw [if_neg (show ¬ (false = true) by decide)] at H; exact H
                clear H
                have H := H1
                clear H1
                obtain rfl := Option.some.inj H
                go_enter Tryz.func33, Tryz.ntmps33
                go_wp2_with (first | ((with_reducible refine qQ0 (N := 1) rfl ?_); refine qQs ?hg (N := 1) ?hd (cs := #[.int .i64 a0_0, .int .i64 a0_1, .int .i64 a0_2, .int .i64 a0_3, .int .i64 a0_4, .int .i64 a0_5, .bool a0_6, .int .i64 a0_7, .int .i64 a0_8, .int .i64 a0_9, .int .i64 a0_10, .int .i64 a0_11, .int .i64 a0_12]) (t := 48) ?hr ?_; (case hd => rfl); (case hg => rfl); (case hr => first | (go_simp; done) | (go_simp; rfl)); intro gb378 hg w60 hbox hb; have n0_ := am (qQb (by exact h0q HB.out) hb); have n1_ := am (hbox); have n2_ := am ((by rw [hg]; exact (qQd (by exact h0q HB.out)) : w.heap.size ≤ gb378)); have n3_ := am ((by rw [hg]; exact (qQd (by exact h0q HB.out)) : w.heap.size ≤ gb378)); clear HB; have HB := n0_; have BK378 := n1_; have GW378 := n2_; have GE378 := n3_; clear n0_ n1_ n2_ n3_; clear hb hbox hg; have hz61 := lc13 BK378.out) | (go_at_call 52; (with_reducible refine (qQe.calls a0_1 true _ A8.out).mono ?_); rintro e w' ⟨rfl, ⟨nd, rfl⟩⟩) | (go_at_call 52; (with_reducible refine (qQe.calls a0_4 true _ A10.out).mono ?_); rintro e w' ⟨rfl, ⟨nd, rfl⟩⟩) | (go_at_call 53; (with_reducible refine (qQk.calls a0_2 true _ A12.out).mono ?_); rintro e w' ⟨rfl, ⟨nd, rfl⟩⟩) | (go_at_call 53; (with_reducible refine (qQk.calls a0_3 true _ A14.out).mono ?_); rintro e w' ⟨rfl, ⟨nd, rfl⟩⟩) | (go_at_call 52; (with_reducible refine (qQe.calls a0_10 false _ A40.out).mono ?_); rintro e w' ⟨rfl, ⟨nd, rfl⟩⟩))
                go_ret
                exact ⟨er, by exact h1q HB.out GE378.out⟩
      ·replace c15 := Bool.eq_false_iff.mpr c15
       subst c15
       have H1 : (some false) = some r := by rw [if_neg (show ¬ (false = true) by decide)] at H; exact H
       clear H
       have H := H1
       clear H1
       obtain rfl := Option.some.inj H
       go_enter Tryz.func33, Tryz.ntmps33
       go_wp2_with (first | ((with_reducible refine qQ0 (N := 1) rfl ?_); refine qQs ?hg (N := 1) ?hd (cs := #[.int .i64 a0_0, .int .i64 a0_1, .int .i64 a0_2, .int .i64 a0_3, .int .i64 a0_4, .int .i64 a0_5, .bool a0_6, .int .i64 a0_7, .int .i64 a0_8, .int .i64 a0_9, .int .i64 a0_10, .int .i64 a0_11, .int .i64 a0_12]) (t := 48) ?hr ?_; (case hd => rfl); (case hg => rfl); (case hr => first | (go_simp; done) | (go_simp; rfl)); intro gb378 hg w62 hbox hb; have n0_ := am (qQb (by exact h0q HB.out) hb); have n1_ := am (hbox); have n2_ := am ((by rw [hg]; exact (qQd (by exact h0q HB.out)) : w.heap.size ≤ gb378)); have n3_ := am ((by rw [hg]; exact (qQd (by exact h0q HB.out)) : w.heap.size ≤ gb378)); clear HB; have HB := n0_; have BK378 := n1_; have GW378 := n2_; have GE378 := n3_; clear n0_ n1_ n2_ n3_; clear hb hbox hg; have hz63 := lc13 BK378.out) | (go_at_call 52; (with_reducible refine (qQe.calls a0_1 true _ A8.out).mono ?_); rintro e w' ⟨rfl, ⟨nd, rfl⟩⟩) | (go_at_call 52; (with_reducible refine (qQe.calls a0_4 true _ A10.out).mono ?_); rintro e w' ⟨rfl, ⟨nd, rfl⟩⟩) | (go_at_call 53; (with_reducible refine (qQk.calls a0_2 true _ A12.out).mono ?_); rintro e w' ⟨rfl, ⟨nd, rfl⟩⟩) | (go_at_call 53; (with_reducible refine (qQk.calls a0_3 false _ A14.out).mono ?_); rintro e w' ⟨rfl, ⟨nd, rfl⟩⟩))
       go_ret
       exact ⟨er, by exact h1q HB.out GE378.out⟩
     ·replace c13 := Bool.eq_false_iff.mpr c13
      subst c13
      have H1 : (some false) = some r := by rw [if_neg (show ¬ (false = true) by decide)] at H; exact H
      clear H
      have H := H1
      clear H1
      obtain rfl := Option.some.inj H
      go_enter Tryz.func33, Tryz.ntmps33
      go_wp2_with (first | ((with_reducible refine qQ0 (N := 1) rfl ?_); refine qQs ?hg (N := 1) ?hd (cs := #[.int .i64 a0_0, .int .i64 a0_1, .int .i64 a0_2, .int .i64 a0_3, .int .i64 a0_4, .int .i64 a0_5, .bool a0_6, .int .i64 a0_7, .int .i64 a0_8, .int .i64 a0_9, .int .i64 a0_10, .int .i64 a0_11, .int .i64 a0_12]) (t := 48) ?hr ?_; (case hd => rfl); (case hg => rfl); (case hr => first | (go_simp; done) | (go_simp; rfl)); intro gb378 hg w64 hbox hb; have n0_ := am (qQb (by exact h0q HB.out) hb); have n1_ := am (hbox); have n2_ := am ((by rw [hg]; exact (qQd (by exact h0q HB.out)) : w.heap.size ≤ gb378)); have n3_ := am ((by rw [hg]; exact (qQd (by exact h0q HB.out)) : w.heap.size ≤ gb378)); clear HB; have HB := n0_; have BK378 := n1_; have GW378 := n2_; have GE378 := n3_; clear n0_ n1_ n2_ n3_; clear hb hbox hg; have hz65 := lc13 BK378.out) | (go_at_call 52; (with_reducible refine (qQe.calls a0_1 true _ A8.out).mono ?_); rintro e w' ⟨rfl, ⟨nd, rfl⟩⟩) | (go_at_call 52; (with_reducible refine (qQe.calls a0_4 true _ A10.out).mono ?_); rintro e w' ⟨rfl, ⟨nd, rfl⟩⟩) | (go_at_call 53; (with_reducible refine (qQk.calls a0_2 false _ A12.out).mono ?_); rintro e w' ⟨rfl, ⟨nd, rfl⟩⟩))
      go_ret
      exact ⟨er, by exact h1q HB.out GE378.out⟩
    ·replace c11 := Bool.eq_false_iff.mpr c11
     subst c11
     have H1 : (some false) = some r := by rw [if_neg (show ¬ (false = true) by decide)] at H; exact H
     clear H
     have H := H1
     clear H1
     obtain rfl := Option.some.inj H
     go_enter Tryz.func33, Tryz.ntmps33
     go_wp2_with (first | ((with_reducible refine qQ0 (N := 1) rfl ?_); refine qQs ?hg (N := 1) ?hd (cs := #[.int .i64 a0_0, .int .i64 a0_1, .int .i64 a0_2, .int .i64 a0_3, .int .i64 a0_4, .int .i64 a0_5, .bool a0_6, .int .i64 a0_7, .int .i64 a0_8, .int .i64 a0_9, .int .i64 a0_10, .int .i64 a0_11, .int .i64 a0_12]) (t := 48) ?hr ?_; (case hd => rfl); (case hg => rfl); (case hr => first | (go_simp; done) | (go_simp; rfl)); intro gb378 hg w66 hbox hb; have n0_ := am (qQb (by exact h0q HB.out) hb); have n1_ := am (hbox); have n2_ := am ((by rw [hg]; exact (qQd (by exact h0q HB.out)) : w.heap.size ≤ gb378)); have n3_ := am ((by rw [hg]; exact (qQd (by exact h0q HB.out)) : w.heap.size ≤ gb378)); clear HB; have HB := n0_; have BK378 := n1_; have GW378 := n2_; have GE378 := n3_; clear n0_ n1_ n2_ n3_; clear hb hbox hg; have hz67 := lc13 BK378.out) | (go_at_call 52; (with_reducible refine (qQe.calls a0_1 true _ A8.out).mono ?_); rintro e w' ⟨rfl, ⟨nd, rfl⟩⟩) | (go_at_call 52; (with_reducible refine (qQe.calls a0_4 false _ A10.out).mono ?_); rintro e w' ⟨rfl, ⟨nd, rfl⟩⟩))
     go_ret
     exact ⟨er, by exact h1q HB.out GE378.out⟩
   ·replace c9 := Bool.eq_false_iff.mpr c9
    subst c9
    have H1 : (some false) = some r := by rw [if_neg (show ¬ (false = true) by decide)] at H; exact H
    clear H
    have H := H1
    clear H1
    obtain rfl := Option.some.inj H
    go_enter Tryz.func33, Tryz.ntmps33
    go_wp2_with (first | ((with_reducible refine qQ0 (N := 1) rfl ?_); refine qQs ?hg (N := 1) ?hd (cs := #[.int .i64 a0_0, .int .i64 a0_1, .int .i64 a0_2, .int .i64 a0_3, .int .i64 a0_4, .int .i64 a0_5, .bool a0_6, .int .i64 a0_7, .int .i64 a0_8, .int .i64 a0_9, .int .i64 a0_10, .int .i64 a0_11, .int .i64 a0_12]) (t := 48) ?hr ?_; (case hd => rfl); (case hg => rfl); (case hr => first | (go_simp; done) | (go_simp; rfl)); intro gb378 hg w68 hbox hb; have n0_ := am (qQb (by exact h0q HB.out) hb); have n1_ := am (hbox); have n2_ := am ((by rw [hg]; exact (qQd (by exact h0q HB.out)) : w.heap.size ≤ gb378)); have n3_ := am ((by rw [hg]; exact (qQd (by exact h0q HB.out)) : w.heap.size ≤ gb378)); clear HB; have HB := n0_; have BK378 := n1_; have GW378 := n2_; have GE378 := n3_; clear n0_ n1_ n2_ n3_; clear hb hbox hg; have hz69 := lc13 BK378.out) | (go_at_call 52; (with_reducible refine (qQe.calls a0_1 false _ A8.out).mono ?_); rintro e w' ⟨rfl, ⟨nd, rfl⟩⟩))
    go_ret
    exact ⟨er, by exact h1q HB.out GE378.out⟩
def qZh.f (a0 : Int) (a1 : Int) : Option (Int × Int) := (qQ3.f a0).bind fun t385 => (if t385 = true then ((qQ3.f a1).bind fun t386 => (if t386 = true then ((qQ3.f (wrap64 (a0 + a1))).bind fun t387 => (if t387 = true then (some (wrap64 (a0 + a1), 0)) else (some (0, 14)))) else (some (0, 14)))) else (some (0, 14)))
set_option maxHeartbeats 8000000 in
set_option maxRecDepth 100000 in
theorem qZh.calls (a0 : Int) (a1 : Int) (r1 : Int) (r2 : Int) (w : World) (h : qZh.f a0 a1 = some (r1, r2)) :
  Calls Tryz.prog 39 #[.int .i64 a0, .int .i64 a1] w fun e w' => e = .returned (.tuple #[.int .i64 r1, .int .i64 r2]) ∧ Drawn0 w w' := by
 have H : ((qQ3.f a0).bind fun t385 => (if t385 = true then ((qQ3.f a1).bind fun t386 => (if t386 = true then ((qQ3.f (wrap64 (a0 + a1))).bind fun t387 => (if t387 = true then (some (wrap64 (a0 + a1), 0)) else (some (0, 14)))) else (some (0, 14)))) else (some (0, 14)))) = some (r1, r2) := h
 clear h
 replace H := Option.bind_eq_some_iff.mp H
 obtain ⟨t385, A30, H⟩ := H
 replace H : (if t385 = true then ((qQ3.f a1).bind fun t386 => (if t386 = true then ((qQ3.f (wrap64 (a0 + a1))).bind fun t387 => (if t387 = true then (some (wrap64 (a0 + a1), 0)) else (some (0, 14)))) else (some (0, 14)))) else (some (0, 14))) = some (r1, r2) := H
 have A3 := am A30
 clear A30
 by_cases c4 : t385 = true
 ·subst c4
  have H1 : ((qQ3.f a1).bind fun t386 => (if t386 = true then ((qQ3.f (wrap64 (a0 + a1))).bind fun t387 => (if t387 = true then (some (wrap64 (a0 + a1), 0)) else (some (0, 14)))) else (some (0, 14)))) = some (r1, r2) := by rw [if_pos rfl] at H; exact H
  clear H
  have H := H1
  clear H1
  replace H := Option.bind_eq_some_iff.mp H
  obtain ⟨t386, A50, H⟩ := H
  replace H : (if t386 = true then ((qQ3.f (wrap64 (a0 + a1))).bind fun t387 => (if t387 = true then (some (wrap64 (a0 + a1), 0)) else (some (0, 14)))) else (some (0, 14))) = some (r1, r2) := H
  have A5 := am A50
  clear A50
  by_cases c6 : t386 = true
  ·subst c6
   have H1 : ((qQ3.f (wrap64 (a0 + a1))).bind fun t387 => (if t387 = true then (some (wrap64 (a0 + a1), 0)) else (some (0, 14)))) = some (r1, r2) := by rw [if_pos rfl] at H; exact H
   clear H
   have H := H1
   clear H1
   replace H := Option.bind_eq_some_iff.mp H
   obtain ⟨t387, A70, H⟩ := H
   replace H : (if t387 = true then (some (wrap64 (a0 + a1), 0)) else (some (0, 14))) = some (r1, r2) := H
   have A7 := am A70
   clear A70
   by_cases c8 : t387 = true
   ·subst c8
    have H1 : (some (wrap64 (a0 + a1), 0)) = some (r1, r2) := by rw [if_pos rfl] at H; exact H
    clear H
    have H := H1
    clear H1
    simp only [Option.some.injEq, Prod.mk.injEq] at H
    obtain ⟨rfl, rfl⟩ := H
    go_enter Tryz.func39, Tryz.ntmps39
    go_wp2_with (first | ((with_reducible refine qQh (f := 59) rfl ?_); refine goesL_ (some 7) rfl rfl Tryz.func59 (by kernel_rfl) rfl #[.int .i64 a0] rfl ml ?_; (with_reducible refine (qQ3.calls a0 true _ A3.out).mono ?_); rintro e w' ⟨rfl, ⟨nd, rfl⟩⟩; refine ⟨_, rfl, ?_⟩) | (go_at_call 59; (with_reducible refine (qQ3.calls a1 true _ A5.out).mono ?_); rintro e w' ⟨rfl, ⟨nd, rfl⟩⟩) | (go_at_call 59; (with_reducible refine (qQ3.calls (wrap64 (a0 + a1)) true _ A7.out).mono ?_); rintro e w' ⟨rfl, ⟨nd, rfl⟩⟩))
    go_ret2
    exact ⟨by first | rfl | (simp; done) | (simp [*]; done), by repeat (first | exact Drawn0.refl _ | apply Drawn0.step)⟩
   ·replace c8 := Bool.eq_false_iff.mpr c8
    subst c8
    have H1 : (some (0, 14)) = some (r1, r2) := by rw [if_neg (show ¬ (false = true) by decide)] at H; exact H
    clear H
    have H := H1
    clear H1
    simp only [Option.some.injEq, Prod.mk.injEq] at H
    obtain ⟨rfl, rfl⟩ := H
    go_enter Tryz.func39, Tryz.ntmps39
    go_wp2_with (first | ((with_reducible refine qQh (f := 59) rfl ?_); refine goesL_ (some 7) rfl rfl Tryz.func59 (by kernel_rfl) rfl #[.int .i64 a0] rfl ml ?_; (with_reducible refine (qQ3.calls a0 true _ A3.out).mono ?_); rintro e w' ⟨rfl, ⟨nd, rfl⟩⟩; refine ⟨_, rfl, ?_⟩) | (go_at_call 59; (with_reducible refine (qQ3.calls a1 true _ A5.out).mono ?_); rintro e w' ⟨rfl, ⟨nd, rfl⟩⟩) | (go_at_call 59; (with_reducible refine (qQ3.calls (wrap64 (a0 + a1)) false _ A7.out).mono ?_); rintro e w' ⟨rfl, ⟨nd, rfl⟩⟩))
    go_ret2
    exact ⟨by first | rfl | (simp; done) | (simp [*]; done), by repeat (first | exact Drawn0.refl _ | apply Drawn0.step)⟩
  ·replace c6 := Bool.eq_false_iff.mpr c6
   subst c6
   have H1 : (some (0, 14)) = some (r1, r2) := by rw [if_neg (show ¬ (false = true) by decide)] at H; exact H
   clear H
   have H := H1
   clear H1
   simp only [Option.some.injEq, Prod.mk.injEq] at H
   obtain ⟨rfl, rfl⟩ := H
   go_enter Tryz.func39, Tryz.ntmps39
   go_wp2_with (first | ((with_reducible refine qQh (f := 59) rfl ?_); refine goesL_ (some 7) rfl rfl Tryz.func59 (by kernel_rfl) rfl #[.int .i64 a0] rfl ml ?_; (with_reducible refine (qQ3.calls a0 true _ A3.out).mono ?_); rintro e w' ⟨rfl, ⟨nd, rfl⟩⟩; refine ⟨_, rfl, ?_⟩) | (go_at_call 59; (with_reducible refine (qQ3.calls a1 false _ A5.out).mono ?_); rintro e w' ⟨rfl, ⟨nd, rfl⟩⟩))
   go_ret2
   exact ⟨by first | rfl | (simp; done) | (simp [*]; done), by repeat (first | exact Drawn0.refl _ | apply Drawn0.step)⟩
 ·replace c4 := Bool.eq_false_iff.mpr c4
  subst c4
  have H1 : (some (0, 14)) = some (r1, r2) := by rw [if_neg (show ¬ (false = true) by decide)] at H; exact H
  clear H
  have H := H1
  clear H1
  simp only [Option.some.injEq, Prod.mk.injEq] at H
  obtain ⟨rfl, rfl⟩ := H
  go_enter Tryz.func39, Tryz.ntmps39
  go_wp2_with (first | ((with_reducible refine qQh (f := 59) rfl ?_); refine goesL_ (some 7) rfl rfl Tryz.func59 (by kernel_rfl) rfl #[.int .i64 a0] rfl ml ?_; (with_reducible refine (qQ3.calls a0 false _ A3.out).mono ?_); rintro e w' ⟨rfl, ⟨nd, rfl⟩⟩; refine ⟨_, rfl, ?_⟩))
  go_ret2
  exact ⟨by first | rfl | (simp; done) | (simp [*]; done), by repeat (first | exact Drawn0.refl _ | apply Drawn0.step)⟩
def qZy.f (a0 : Int) : Option (Int) := if a0 < 0 then (some 0) else (some (wrap64 (Int.tdiv a0 1000000)))
set_option maxHeartbeats 8000000 in
set_option maxRecDepth 100000 in
theorem qZy.calls (a0 : Int) (r : Int) (w : World) (h : qZy.f a0 = some r) :
  Calls Tryz.prog 40 #[.int .i64 a0] w fun e w' => e = .returned (.int .i64 r) ∧ Drawn0 w w' := by
 have H : (if a0 < 0 then (some 0) else (some (wrap64 (Int.tdiv a0 1000000)))) = some r := h
 clear h
 by_cases c2 : a0 < 0
 ·rw [if_pos c2] at H
  have c2b0 : decide (a0 < 0) = true := decide_eq_true c2
  clear c2
  obtain rfl := Option.some.inj H
  go_enter Tryz.func40, Tryz.ntmps40
  go_wp2
  go_ret
  exact ⟨by first | rfl | (simp; done) | (simp [*]; done), by repeat (first | exact Drawn0.refl _ | apply Drawn0.step)⟩
 ·rw [if_neg c2] at H
  have c2b0 : decide (a0 < 0) = false := decide_eq_false c2
  clear c2
  obtain rfl := Option.some.inj H
  go_enter Tryz.func40, Tryz.ntmps40
  go_wp2
  go_ret
  exact ⟨by first | rfl | (simp; done) | (simp [*]; done), by repeat (first | exact Drawn0.refl _ | apply Drawn0.step)⟩
def qZk.f (a0_0 : Int) (a0_1 : Int) (a0_2 : Int) (a0_3 : Int) (a0_4 : Int) (a0_5 : Int) (a0_6 : Bool) (a0_7 : Int) (a0_8 : Int) (a0_9 : Int) (a0_10 : Int) (a0_11 : Int) (a0_12 : Int) : Option (Int × Int) := (qYe.f a0_0 a0_1 a0_2 a0_3 a0_4 a0_5 a0_6 a0_7 a0_8 a0_9 a0_10 a0_11 a0_12).bind fun t389 => (if t389 = true then ((qZh.f a0_1 a0_4).bind fun bt390 => (if bt390.2 = 0 then ((qZy.f a0_2).bind fun t392 => ((qZh.f bt390.1 t392).bind fun bt393 => (some (bt393.1, bt393.2)))) else (some (0, bt390.2)))) else (some (0, 1)))
set_option maxHeartbeats 8000000 in
set_option maxRecDepth 100000 in
theorem qZk.calls (a0_0 : Int) (a0_1 : Int) (a0_2 : Int) (a0_3 : Int) (a0_4 : Int) (a0_5 : Int) (a0_6 : Bool) (a0_7 : Int) (a0_8 : Int) (a0_9 : Int) (a0_10 : Int) (a0_11 : Int) (a0_12 : Int) (r1 : Int) (r2 : Int) (w : World) (h : qZk.f a0_0 a0_1 a0_2 a0_3 a0_4 a0_5 a0_6 a0_7 a0_8 a0_9 a0_10 a0_11 a0_12 = some (r1, r2)) :
  Calls Tryz.prog 14 #[.agg #[.int .i64 a0_0, .int .i64 a0_1, .int .i64 a0_2, .int .i64 a0_3, .int .i64 a0_4, .int .i64 a0_5, .bool a0_6, .int .i64 a0_7, .int .i64 a0_8, .int .i64 a0_9, .int .i64 a0_10, .int .i64 a0_11, .int .i64 a0_12]] w fun e w' => e = .returned (.tuple #[.int .i64 r1, .int .i64 r2]) ∧ Below w.heap.size w w' := by
 have hu48 := Tryz.underlying48
 have HB := am (Below.refl w.heap.size w)
 have H : ((qYe.f a0_0 a0_1 a0_2 a0_3 a0_4 a0_5 a0_6 a0_7 a0_8 a0_9 a0_10 a0_11 a0_12).bind fun t389 => (if t389 = true then ((qZh.f a0_1 a0_4).bind fun bt390 => (if bt390.2 = 0 then ((qZy.f a0_2).bind fun t392 => ((qZh.f bt390.1 t392).bind fun bt393 => (some (bt393.1, bt393.2)))) else (some (0, bt390.2)))) else (some (0, 1)))) = some (r1, r2) := h
 clear h
 replace H := Option.bind_eq_some_iff.mp H
 obtain ⟨t389, A20, H⟩ := H
 replace H : (if t389 = true then ((qZh.f a0_1 a0_4).bind fun bt390 => (if bt390.2 = 0 then ((qZy.f a0_2).bind fun t392 => ((qZh.f bt390.1 t392).bind fun bt393 => (some (bt393.1, bt393.2)))) else (some (0, bt390.2)))) else (some (0, 1))) = some (r1, r2) := H
 have A2 := am A20
 clear A20
 by_cases c3 : t389 = true
 ·subst c3
  have H1 : ((qZh.f a0_1 a0_4).bind fun bt390 => (if bt390.2 = 0 then ((qZy.f a0_2).bind fun t392 => ((qZh.f bt390.1 t392).bind fun bt393 => (some (bt393.1, bt393.2)))) else (some (0, bt390.2)))) = some (r1, r2) := by rw [if_pos rfl] at H; exact H
  clear H
  have H := H1
  clear H1
  replace H := Option.bind_eq_some_iff.mp H
  obtain ⟨⟨t390, t391⟩, A40, H⟩ := H
  replace H : (if t391 = 0 then ((qZy.f a0_2).bind fun t392 => ((qZh.f t390 t392).bind fun bt393 => (some (bt393.1, bt393.2)))) else (some (0, t391))) = some (r1, r2) := H
  have A4 := am A40
  clear A40
  by_cases c5 : t391 = 0
  ·rw [if_pos c5] at H
   have c5b0 : (t391 == 0) = true := beq_iff_eq.mpr c5
   have c5b1 : (t391 != 0) = false := bne_eq_false_iff_eq.mpr c5
   clear c5
   replace H := Option.bind_eq_some_iff.mp H
   obtain ⟨t392, A60, H⟩ := H
   replace H : ((qZh.f t390 t392).bind fun bt393 => (some (bt393.1, bt393.2))) = some (r1, r2) := H
   have A6 := am A60
   clear A60
   replace H := Option.bind_eq_some_iff.mp H
   obtain ⟨⟨t393, t394⟩, A70, H⟩ := H
   replace H : (some (t393, t394)) = some (r1, r2) := H
   have A7 := am A70
   clear A70
   simp only [Option.some.injEq, Prod.mk.injEq] at H
   obtain ⟨rfl, rfl⟩ := H
   go_enter Tryz.func14, Tryz.ntmps14
   go_wp2_with (first | ((with_reducible refine qQ0 (N := 1) rfl ?_); refine qQs ?hg (N := 1) ?hd (cs := #[.int .i64 a0_0, .int .i64 a0_1, .int .i64 a0_2, .int .i64 a0_3, .int .i64 a0_4, .int .i64 a0_5, .bool a0_6, .int .i64 a0_7, .int .i64 a0_8, .int .i64 a0_9, .int .i64 a0_10, .int .i64 a0_11, .int .i64 a0_12]) (t := 48) ?hr ?_; (case hd => rfl); (case hg => rfl); (case hr => first | (go_simp; done) | (go_simp; rfl)); intro gb388 hg w8 hbox hb; have n0_ := am (qQb (by exact h0q HB.out) hb); have n1_ := am (hbox); have n2_ := am ((by rw [hg]; exact (qQd (by exact h0q HB.out)) : w.heap.size ≤ gb388)); have n3_ := am ((by rw [hg]; exact (qQd (by exact h0q HB.out)) : w.heap.size ≤ gb388)); clear HB; have HB := n0_; have BK388 := n1_; have GW388 := n2_; have GE388 := n3_; clear n0_ n1_ n2_ n3_; clear hb hbox hg; have hz9 := lc13 BK388.out) | ((with_reducible refine qQh (f := 33) rfl ?_); refine goesL_ (some 7) rfl rfl Tryz.func33 (by kernel_rfl) rfl #[.agg #[.int .i64 a0_0, .int .i64 a0_1, .int .i64 a0_2, .int .i64 a0_3, .int .i64 a0_4, .int .i64 a0_5, .bool a0_6, .int .i64 a0_7, .int .i64 a0_8, .int .i64 a0_9, .int .i64 a0_10, .int .i64 a0_11, .int .i64 a0_12]] rfl ml ?_; (with_reducible refine (qYe.calls a0_0 a0_1 a0_2 a0_3 a0_4 a0_5 a0_6 a0_7 a0_8 a0_9 a0_10 a0_11 a0_12 true _ A2.out).mono ?_); rintro e w10 ⟨rfl, hb⟩; refine ⟨_, rfl, ?_⟩; have n0_ := am (qQg (g := gb388) (Up.up BK388.out) hb); have n1_ := am (qQb (by exact h1q HB.out GE388.out) hb); clear BK388; clear HB; have BK388 := n0_; have HB := n1_; clear n0_ n1_; (try clear hb); (try clear hb2); (try clear hk); (try clear hi); have hz11 := lc13 BK388.out) | ((with_reducible refine qQh (f := 39) rfl ?_); refine goesL_ (some 14) rfl rfl Tryz.func39 (by kernel_rfl) rfl #[.int .i64 a0_1, .int .i64 a0_4] rfl ml ?_; (with_reducible refine (qZh.calls a0_1 a0_4 t390 t391 _ A4.out).mono ?_); rintro e w' ⟨rfl, ⟨nd, rfl⟩⟩; refine ⟨_, rfl, ?_⟩) | ((with_reducible refine qQh (f := 40) rfl ?_); refine goesL_ (some 23) rfl rfl Tryz.func40 (by kernel_rfl) rfl #[.int .i64 a0_2] rfl ml ?_; (with_reducible refine (qZy.calls a0_2 t392 _ A6.out).mono ?_); rintro e w' ⟨rfl, ⟨nd, rfl⟩⟩; refine ⟨_, rfl, ?_⟩) | ((with_reducible refine qQh (f := 39) rfl ?_); refine goesL_ (some 24) rfl rfl Tryz.func39 (by kernel_rfl) rfl #[.int .i64 t390, .int .i64 t392] rfl ml ?_; (with_reducible refine (qZh.calls t390 t392 t393 t394 _ A7.out).mono ?_); rintro e w' ⟨rfl, ⟨nd, rfl⟩⟩; refine ⟨_, rfl, ?_⟩))
   go_ret2
   exact ⟨er, by exact h1q HB.out GE388.out⟩
  ·rw [if_neg c5] at H
   have c5b0 : (t391 == 0) = false := beq_eq_false_iff_ne.mpr c5
   have c5b1 : (t391 != 0) = true := bne_iff_ne.mpr c5
   simp only [Option.some.injEq, Prod.mk.injEq] at H
   obtain ⟨rfl, rfl⟩ := H
   go_enter Tryz.func14, Tryz.ntmps14
   go_wp2_with (first | ((with_reducible refine qQ0 (N := 1) rfl ?_); refine qQs ?hg (N := 1) ?hd (cs := #[.int .i64 a0_0, .int .i64 a0_1, .int .i64 a0_2, .int .i64 a0_3, .int .i64 a0_4, .int .i64 a0_5, .bool a0_6, .int .i64 a0_7, .int .i64 a0_8, .int .i64 a0_9, .int .i64 a0_10, .int .i64 a0_11, .int .i64 a0_12]) (t := 48) ?hr ?_; (case hd => rfl); (case hg => rfl); (case hr => first | (go_simp; done) | (go_simp; rfl)); intro gb388 hg w12 hbox hb; have n0_ := am (qQb (by exact h0q HB.out) hb); have n1_ := am (hbox); have n2_ := am ((by rw [hg]; exact (qQd (by exact h0q HB.out)) : w.heap.size ≤ gb388)); have n3_ := am ((by rw [hg]; exact (qQd (by exact h0q HB.out)) : w.heap.size ≤ gb388)); clear HB; have HB := n0_; have BK388 := n1_; have GW388 := n2_; have GE388 := n3_; clear n0_ n1_ n2_ n3_; clear hb hbox hg; have hz13 := lc13 BK388.out) | ((with_reducible refine qQh (f := 33) rfl ?_); refine goesL_ (some 7) rfl rfl Tryz.func33 (by kernel_rfl) rfl #[.agg #[.int .i64 a0_0, .int .i64 a0_1, .int .i64 a0_2, .int .i64 a0_3, .int .i64 a0_4, .int .i64 a0_5, .bool a0_6, .int .i64 a0_7, .int .i64 a0_8, .int .i64 a0_9, .int .i64 a0_10, .int .i64 a0_11, .int .i64 a0_12]] rfl ml ?_; (with_reducible refine (qYe.calls a0_0 a0_1 a0_2 a0_3 a0_4 a0_5 a0_6 a0_7 a0_8 a0_9 a0_10 a0_11 a0_12 true _ A2.out).mono ?_); rintro e w14 ⟨rfl, hb⟩; refine ⟨_, rfl, ?_⟩; have n0_ := am (qQg (g := gb388) (Up.up BK388.out) hb); have n1_ := am (qQb (by exact h1q HB.out GE388.out) hb); clear BK388; clear HB; have BK388 := n0_; have HB := n1_; clear n0_ n1_; (try clear hb); (try clear hb2); (try clear hk); (try clear hi); have hz15 := lc13 BK388.out) | ((with_reducible refine qQh (f := 39) rfl ?_); refine goesL_ (some 14) rfl rfl Tryz.func39 (by kernel_rfl) rfl #[.int .i64 a0_1, .int .i64 a0_4] rfl ml ?_; (with_reducible refine (qZh.calls a0_1 a0_4 t390 t391 _ A4.out).mono ?_); rintro e w' ⟨rfl, ⟨nd, rfl⟩⟩; refine ⟨_, rfl, ?_⟩))
   go_ret2
   exact ⟨er, by exact h1q HB.out GE388.out⟩
 ·replace c3 := Bool.eq_false_iff.mpr c3
  subst c3
  have H1 : (some (0, 1)) = some (r1, r2) := by rw [if_neg (show ¬ (false = true) by decide)] at H; exact H
  clear H
  have H := H1
  clear H1
  simp only [Option.some.injEq, Prod.mk.injEq] at H
  obtain ⟨rfl, rfl⟩ := H
  go_enter Tryz.func14, Tryz.ntmps14
  go_wp2_with (first | ((with_reducible refine qQ0 (N := 1) rfl ?_); refine qQs ?hg (N := 1) ?hd (cs := #[.int .i64 a0_0, .int .i64 a0_1, .int .i64 a0_2, .int .i64 a0_3, .int .i64 a0_4, .int .i64 a0_5, .bool a0_6, .int .i64 a0_7, .int .i64 a0_8, .int .i64 a0_9, .int .i64 a0_10, .int .i64 a0_11, .int .i64 a0_12]) (t := 48) ?hr ?_; (case hd => rfl); (case hg => rfl); (case hr => first | (go_simp; done) | (go_simp; rfl)); intro gb388 hg w16 hbox hb; have n0_ := am (qQb (by exact h0q HB.out) hb); have n1_ := am (hbox); have n2_ := am ((by rw [hg]; exact (qQd (by exact h0q HB.out)) : w.heap.size ≤ gb388)); have n3_ := am ((by rw [hg]; exact (qQd (by exact h0q HB.out)) : w.heap.size ≤ gb388)); clear HB; have HB := n0_; have BK388 := n1_; have GW388 := n2_; have GE388 := n3_; clear n0_ n1_ n2_ n3_; clear hb hbox hg; have hz17 := lc13 BK388.out) | ((with_reducible refine qQh (f := 33) rfl ?_); refine goesL_ (some 7) rfl rfl Tryz.func33 (by kernel_rfl) rfl #[.agg #[.int .i64 a0_0, .int .i64 a0_1, .int .i64 a0_2, .int .i64 a0_3, .int .i64 a0_4, .int .i64 a0_5, .bool a0_6, .int .i64 a0_7, .int .i64 a0_8, .int .i64 a0_9, .int .i64 a0_10, .int .i64 a0_11, .int .i64 a0_12]] rfl ml ?_; (with_reducible refine (qYe.calls a0_0 a0_1 a0_2 a0_3 a0_4 a0_5 a0_6 a0_7 a0_8 a0_9 a0_10 a0_11 a0_12 false _ A2.out).mono ?_); rintro e w18 ⟨rfl, hb⟩; refine ⟨_, rfl, ?_⟩; have n0_ := am (qQg (g := gb388) (Up.up BK388.out) hb); have n1_ := am (qQb (by exact h1q HB.out GE388.out) hb); clear BK388; clear HB; have BK388 := n0_; have HB := n1_; clear n0_ n1_; (try clear hb); (try clear hb2); (try clear hk); (try clear hi)))
  go_ret2
  exact ⟨er, by exact h1q HB.out GE388.out⟩
def qYv.f (a0 : Int) (a1 : Int) : Option (Int × Int) := some (IntKind.u64.wrap ((IntKind.u64.wrap ((IntKind.u64.wrap ((a0 / 4294967296) * (a1 / 4294967296))) + ((IntKind.u64.wrap ((IntKind.u64.wrap ((a0 / 4294967296) * (Go.bits .and .u64 a1 4294967295))) + ((IntKind.u64.wrap ((Go.bits .and .u64 a0 4294967295) * (Go.bits .and .u64 a1 4294967295))) / 4294967296))) / 4294967296))) + ((IntKind.u64.wrap ((IntKind.u64.wrap ((Go.bits .and .u64 a0 4294967295) * (a1 / 4294967296))) + (Go.bits .and .u64 (IntKind.u64.wrap ((IntKind.u64.wrap ((a0 / 4294967296) * (Go.bits .and .u64 a1 4294967295))) + ((IntKind.u64.wrap ((Go.bits .and .u64 a0 4294967295) * (Go.bits .and .u64 a1 4294967295))) / 4294967296))) 4294967295))) / 4294967296)), IntKind.u64.wrap ((IntKind.u64.wrap ((IntKind.u64.wrap ((IntKind.u64.wrap ((Go.bits .and .u64 a0 4294967295) * (a1 / 4294967296))) + (Go.bits .and .u64 (IntKind.u64.wrap ((IntKind.u64.wrap ((a0 / 4294967296) * (Go.bits .and .u64 a1 4294967295))) + ((IntKind.u64.wrap ((Go.bits .and .u64 a0 4294967295) * (Go.bits .and .u64 a1 4294967295))) / 4294967296))) 4294967295))) * 4294967296)) + (Go.bits .and .u64 (IntKind.u64.wrap ((Go.bits .and .u64 a0 4294967295) * (Go.bits .and .u64 a1 4294967295))) 4294967295)))
set_option maxHeartbeats 8000000 in
set_option maxRecDepth 100000 in
theorem qYv.calls (a0 : Int) (a1 : Int) (r1 : Int) (r2 : Int) (w : World) (h : qYv.f a0 a1 = some (r1, r2)) :
  Calls Tryz.prog 64 #[.int .u64 a0, .int .u64 a1] w fun e w' => e = .returned (.agg #[.int .u64 r1, .int .u64 r2]) ∧ Below w.heap.size w w' := by
 have hu104 := Tryz.underlying104
 have HB := am (Below.refl w.heap.size w)
 have H : (some (IntKind.u64.wrap ((IntKind.u64.wrap ((IntKind.u64.wrap ((a0 / 4294967296) * (a1 / 4294967296))) + ((IntKind.u64.wrap ((IntKind.u64.wrap ((a0 / 4294967296) * (Go.bits .and .u64 a1 4294967295))) + ((IntKind.u64.wrap ((Go.bits .and .u64 a0 4294967295) * (Go.bits .and .u64 a1 4294967295))) / 4294967296))) / 4294967296))) + ((IntKind.u64.wrap ((IntKind.u64.wrap ((Go.bits .and .u64 a0 4294967295) * (a1 / 4294967296))) + (Go.bits .and .u64 (IntKind.u64.wrap ((IntKind.u64.wrap ((a0 / 4294967296) * (Go.bits .and .u64 a1 4294967295))) + ((IntKind.u64.wrap ((Go.bits .and .u64 a0 4294967295) * (Go.bits .and .u64 a1 4294967295))) / 4294967296))) 4294967295))) / 4294967296)), IntKind.u64.wrap ((IntKind.u64.wrap ((IntKind.u64.wrap ((IntKind.u64.wrap ((Go.bits .and .u64 a0 4294967295) * (a1 / 4294967296))) + (Go.bits .and .u64 (IntKind.u64.wrap ((IntKind.u64.wrap ((a0 / 4294967296) * (Go.bits .and .u64 a1 4294967295))) + ((IntKind.u64.wrap ((Go.bits .and .u64 a0 4294967295) * (Go.bits .and .u64 a1 4294967295))) / 4294967296))) 4294967295))) * 4294967296)) + (Go.bits .and .u64 (IntKind.u64.wrap ((Go.bits .and .u64 a0 4294967295) * (Go.bits .and .u64 a1 4294967295))) 4294967295)))) = some (r1, r2) := h
 clear h
 simp only [Option.some.injEq, Prod.mk.injEq] at H
 obtain ⟨rfl, rfl⟩ := H
 go_enter Tryz.func64, Tryz.ntmps64
 go_wp2_with (first | ((with_reducible refine qQ0 (N := 4) rfl ?_); refine qQs ?hg (N := 4) ?hd (cs := #[.int .u64 0, .int .u64 0]) (t := 104) ?hr ?_; (case hd => rfl); (case hg => rfl); (case hr => first | (go_simp; done) | (go_simp; rfl)); intro gb395 hg w3 hbox hb; have n0_ := am (qQb (by exact h0q HB.out) hb); have n1_ := am (hbox); have n2_ := am ((by rw [hg]; exact (qQd (by exact h0q HB.out)) : w.heap.size ≤ gb395)); have n3_ := am ((by rw [hg]; exact (qQd (by exact h0q HB.out)) : w.heap.size ≤ gb395)); clear HB; have HB := n0_; have BK395 := n1_; have GW395 := n2_; have GE395 := n3_; clear n0_ n1_ n2_ n3_; clear hb hbox hg; have hcz4_0 : w3.cell? ⟨gb395, 0, none⟩ = some (.int .u64 0) := (qQc BK395.out 0).trans rfl; have hcz4_1 : w3.cell? ⟨gb395, 1, none⟩ = some (.int .u64 0) := (qQc BK395.out 1).trans rfl; have hfz4_0 := qQi BK395.out 0; have hfz4_1 := qQi BK395.out 1))
 refine bodyPost_ret (results_cell_row rfl _ _ gb395 104 #[.int .u64 (IntKind.u64.wrap ((IntKind.u64.wrap ((IntKind.u64.wrap ((a0 / 4294967296) * (a1 / 4294967296))) + ((IntKind.u64.wrap ((IntKind.u64.wrap ((a0 / 4294967296) * (Go.bits .and .u64 a1 4294967295))) + ((IntKind.u64.wrap ((Go.bits .and .u64 a0 4294967295) * (Go.bits .and .u64 a1 4294967295))) / 4294967296))) / 4294967296))) + ((IntKind.u64.wrap ((IntKind.u64.wrap ((Go.bits .and .u64 a0 4294967295) * (a1 / 4294967296))) + (Go.bits .and .u64 (IntKind.u64.wrap ((IntKind.u64.wrap ((a0 / 4294967296) * (Go.bits .and .u64 a1 4294967295))) + ((IntKind.u64.wrap ((Go.bits .and .u64 a0 4294967295) * (Go.bits .and .u64 a1 4294967295))) / 4294967296))) 4294967295))) / 4294967296))), .int .u64 (IntKind.u64.wrap ((IntKind.u64.wrap ((IntKind.u64.wrap ((IntKind.u64.wrap ((Go.bits .and .u64 a0 4294967295) * (a1 / 4294967296))) + (Go.bits .and .u64 (IntKind.u64.wrap ((IntKind.u64.wrap ((a0 / 4294967296) * (Go.bits .and .u64 a1 4294967295))) + ((IntKind.u64.wrap ((Go.bits .and .u64 a0 4294967295) * (Go.bits .and .u64 a1 4294967295))) / 4294967296))) 4294967295))) * 4294967296)) + (Go.bits .and .u64 (IntKind.u64.wrap ((Go.bits .and .u64 a0 4294967295) * (Go.bits .and .u64 a1 4294967295))) 4294967295)))] (0, 0) _ rfl (by (with_reducible repeat (first | refine qQj ?_ _ | refine qQv ?_ | refine qQm ?_ _)); refine qZ6 (cs := #[.int .u64 (IntKind.u64.wrap ((IntKind.u64.wrap ((IntKind.u64.wrap ((a0 / 4294967296) * (a1 / 4294967296))) + ((IntKind.u64.wrap ((IntKind.u64.wrap ((a0 / 4294967296) * (Go.bits .and .u64 a1 4294967295))) + ((IntKind.u64.wrap ((Go.bits .and .u64 a0 4294967295) * (Go.bits .and .u64 a1 4294967295))) / 4294967296))) / 4294967296))) + ((IntKind.u64.wrap ((IntKind.u64.wrap ((Go.bits .and .u64 a0 4294967295) * (a1 / 4294967296))) + (Go.bits .and .u64 (IntKind.u64.wrap ((IntKind.u64.wrap ((a0 / 4294967296) * (Go.bits .and .u64 a1 4294967295))) + ((IntKind.u64.wrap ((Go.bits .and .u64 a0 4294967295) * (Go.bits .and .u64 a1 4294967295))) / 4294967296))) 4294967295))) / 4294967296))), .int .u64 0]) ?_ 1 _ rfl; (with_reducible repeat (first | refine qQj ?_ _ | refine qQv ?_ | refine qQm ?_ _)); refine qZ6 (cs := #[.int .u64 0, .int .u64 0]) ?_ 0 _ rfl; (with_reducible repeat (first | refine qQj ?_ _ | refine qQv ?_ | refine qQm ?_ _)); exact BK395.out) Tryz.underlying104 rfl (by kernel_rfl)) rfl ?_
 exact ⟨er, by exact h1q HB.out GE395.out⟩
mutual
def qQ1.j0 : Nat → Int → Int → Int → Bool → Option (Int × Int × Bool)
 | 0, _, _, _, _ => none
 | k + 1, x0, x1, x2, x17 => if x17 = true then (some (0, 0, false)) else (qQ1.l0 k x1 x2 0 x0 63)
def qQ1.l0 : Nat → Int → Int → Int → Int → Int → Option (Int × Int × Bool)
 | 0, _, _, _, _, _ => none
 | k + 1, x1, x2, x7, x8, x9 => if x9 ≥ 0 then (if 0 ≤ (IntKind.u64.wrap (x9)) then (if (x8 / 9223372036854775808) = 1 then (qQ1.l0 k x1 x2 (IntKind.u64.wrap ((IntKind.u64.wrap (x7 * 2)) + 1)) (IntKind.u64.wrap ((IntKind.u64.wrap ((IntKind.u64.wrap (x8 * 2)) + (Go.bits .and .u64 (shr .u64 x1 (IntKind.u64.wrap (x9))) 1))) - x2)) (wrap64 (x9 - 1))) else (if (IntKind.u64.wrap ((IntKind.u64.wrap (x8 * 2)) + (Go.bits .and .u64 (shr .u64 x1 (IntKind.u64.wrap (x9))) 1))) ≥ x2 then (qQ1.l0 k x1 x2 (IntKind.u64.wrap ((IntKind.u64.wrap (x7 * 2)) + 1)) (IntKind.u64.wrap ((IntKind.u64.wrap ((IntKind.u64.wrap (x8 * 2)) + (Go.bits .and .u64 (shr .u64 x1 (IntKind.u64.wrap (x9))) 1))) - x2)) (wrap64 (x9 - 1))) else (qQ1.l0 k x1 x2 (IntKind.u64.wrap (x7 * 2)) (IntKind.u64.wrap ((IntKind.u64.wrap (x8 * 2)) + (Go.bits .and .u64 (shr .u64 x1 (IntKind.u64.wrap (x9))) 1))) (wrap64 (x9 - 1))))) else (none)) else (some (x7, x8, true))
end
def qQ1.f (k : Nat) (a0 : Int) (a1 : Int) (a2 : Int) : Option (Int × Int × Bool) := if a2 = 0 then (qQ1.j0 k a0 a1 a2 true) else (qQ1.j0 k a0 a1 a2 (decide (a0 ≥ a2)))
set_option maxHeartbeats 8000000 in
set_option maxRecDepth 100000 in
theorem qQ1.calls (k : Nat) (a0 : Int) (a1 : Int) (a2 : Int) (r1 : Int) (r2 : Int) (r3 : Bool) (w : World) (h : qQ1.f k a0 a1 a2 = some (r1, r2, r3)) :
  Calls Tryz.prog 65 #[.int .u64 a0, .int .u64 a1, .int .u64 a2] w fun e w' => e = .returned (.agg #[.int .u64 r1, .int .u64 r2, .bool r3]) ∧ Below w.heap.size w w' := by
 have hu107 := Tryz.underlying107
 have HB := am (Below.refl w.heap.size w)
 have H : (if a2 = 0 then (qQ1.j0 k a0 a1 a2 true) else (qQ1.j0 k a0 a1 a2 (decide (a0 ≥ a2)))) = some (r1, r2, r3) := h
 clear h
 have HC4 := am H
 clear H
 go_enter Tryz.func65, Tryz.ntmps65
 go_upto_region 1 with (first | ((with_reducible refine qQ0 (N := 6) rfl ?_); refine qQs ?hg (N := 6) ?hd (cs := #[.int .u64 0, .int .u64 0, .bool false]) (t := 107) ?hr ?_; (case hd => rfl); (case hg => rfl); (case hr => first | (go_simp; done) | (go_simp; rfl)); intro gb396 hg w5 hbox hb; have n0_ := am (qQb (by exact h0q HB.out) hb); have n1_ := am (hbox); have n2_ := am ((by rw [hg]; exact (qQd (by exact h0q HB.out)) : w.heap.size ≤ gb396)); have n3_ := am ((by rw [hg]; exact (qQd (by exact h0q HB.out)) : w.heap.size ≤ gb396)); clear HB; have HB := n0_; have BK396 := n1_; have GW396 := n2_; have GE396 := n3_; clear n0_ n1_ n2_ n3_; clear hb hbox hg))
 (try simp only [Act.put, List.setIfInBounds_toArray, List.set_cons_zero, List.set_cons_succ])
 go_cut [17] (fun v17 wc => ∃ (kq : Nat) (x17_3 : Bool), v17 = .bool x17_3 ∧ Aside0 (qQ1.j0 kq a0 a1 a2 x17_3 = some (r1, r2, r3)) ∧ Aside0 (kq ≤ k) ∧ Aside0 (wc.heap[gb396]? = some (.cells #[.int .u64 0, .int .u64 0, .bool false] 107 (0, 0))) ∧ Aside0 (Below w.heap.size w wc))
 case first =>
  have H := HC4.out
  clear HC4
  by_cases c6 : a2 = 0
  ·rw [if_pos c6] at H
   have c6b0 : (a2 == 0) = true := beq_iff_eq.mpr c6
   have c6b1 : (a2 != 0) = false := bne_eq_false_iff_eq.mpr c6
   clear c6
   (first | rw [c6b0] | (simp only [i64_w, i32_w]; rw [c6b0]) | skip)
   have H' := am H
   clear H
   go_wp2
   go_meet
   case rel => exact ⟨_, (true), (by first | rfl | (simp; done) | (simp [*]; done)), H', ⟨by first | omega | exact Nat.le_refl _⟩, ⟨by exact bb BK396.out⟩, ⟨by exact h1q HB.out GE396.out⟩⟩
  ·rw [if_neg c6] at H
   have c6b0 : (a2 == 0) = false := beq_eq_false_iff_ne.mpr c6
   have c6b1 : (a2 != 0) = true := bne_iff_ne.mpr c6
   (first | rw [c6b0] | (simp only [i64_w, i32_w]; rw [c6b0]) | skip)
   have H' := am H
   clear H
   go_wp2
   go_meet
   case rel => exact ⟨_, (decide (a0 ≥ a2)), (by first | rfl | (simp; done) | (simp [*]; done)), H', ⟨by first | omega | exact Nat.le_refl _⟩, ⟨by exact bb BK396.out⟩, ⟨by exact h1q HB.out GE396.out⟩⟩
 case rest =>
  clear HC4
  try clear c6
  try clear c6b0 c6b1
  obtain ⟨kq, x17_3, rfl, HA, HJ3, BK396, HB⟩ := hcut
  rcases kq with _ | kj3
  ·exact absurd HA.out (by simp [qQ1.j0])
  have H := HA.out
  clear HA
  simp only [qQ1.j0] at H
  by_cases c7 : x17_3 = true
  ·subst c7
   have H1 : (some (0, 0, false)) = some (r1, r2, r3) := by rw [if_pos rfl] at H; exact H
   clear H
   have H := H1
   clear H1
   simp only [Option.some.injEq, Prod.mk.injEq] at H
   obtain ⟨rfl, rfl, rfl⟩ := H
   have hcz8_0 : wc.cell? ⟨gb396, 0, none⟩ = some (.int .u64 0) := (qQc BK396.out 0).trans rfl
   have hcz8_1 : wc.cell? ⟨gb396, 1, none⟩ = some (.int .u64 0) := (qQc BK396.out 1).trans rfl
   have hcz8_2 : wc.cell? ⟨gb396, 2, none⟩ = some (.bool false) := (qQc BK396.out 2).trans rfl
   have hfz8_0 := qQi BK396.out 0
   have hfz8_1 := qQi BK396.out 1
   have hfz8_2 := qQi BK396.out 2
   go_wp2
   refine bodyPost_ret (results_cell_row rfl _ _ gb396 107 #[.int .u64 0, .int .u64 0, .bool false] (0, 0) _ rfl (by (with_reducible repeat (first | refine qQj ?_ _ | refine qQv ?_ | refine qQm ?_ _)); refine qZ6 (cs := #[.int .u64 0, .int .u64 0, .bool false]) ?_ 2 _ rfl; (with_reducible repeat (first | refine qQj ?_ _ | refine qQv ?_ | refine qQm ?_ _)); refine qZ6 (cs := #[.int .u64 0, .int .u64 0, .bool false]) ?_ 1 _ rfl; (with_reducible repeat (first | refine qQj ?_ _ | refine qQv ?_ | refine qQm ?_ _)); refine qZ6 (cs := #[.int .u64 0, .int .u64 0, .bool false]) ?_ 0 _ rfl; (with_reducible repeat (first | refine qQj ?_ _ | refine qQv ?_ | refine qQm ?_ _)); exact BK396.out) Tryz.underlying107 rfl (by kernel_rfl)) rfl ?_
   exact ⟨er, by exact h1q HB.out GE396.out⟩
  ·replace c7 := Bool.eq_false_iff.mpr c7
   subst c7
   have H1 : (qQ1.l0 kj3 a1 a2 0 a0 63) = some (r1, r2, r3) := by rw [if_neg (show ¬ (false = true) by decide)] at H; exact H
   clear H
   have H := H1
   clear H1
   have H' := am H
   clear H
   go_wp2
   go_loopg [7, 8, 9] kj3 (fun kq v7 v8 v9 w' => ∃ (x7_2 : Int) (x8_2 : Int) (x9_2 : Int), v7 = .int .u64 x7_2 ∧ v8 = .int .u64 x8_2 ∧ v9 = .int .i64 x9_2 ∧ Aside0 (qQ1.l0 kq a1 a2 x7_2 x8_2 x9_2 = some (r1, r2, r3)) ∧ Aside0 (kq ≤ kj3) ∧ Aside0 (w'.heap[gb396]? = some (.cells #[.int .u64 0, .int .u64 0, .bool false] 107 (0, 0))) ∧ Aside0 (Below w.heap.size w w'))
   case atStart => exact ⟨(0), (a0), (63), (by first | rfl | (simp; done) | (simp [*]; done)), (by first | rfl | (simp; done) | (simp [*]; done)), (by first | rfl | (simp; done) | (simp [*]; done)), H', ⟨Nat.le_refl _⟩, ⟨by exact bb BK396.out⟩, ⟨by exact h1q HB.out GE396.out⟩⟩
   case round =>
    clear H'
    try clear c6
    try clear c6b0 c6b1
    try clear c7
    try clear hcz8_0
    try clear hcz8_1
    try clear hcz8_2
    try clear hfz8_0
    try clear hfz8_1
    try clear hfz8_2
    obtain ⟨x7_2, x8_2, x9_2, rfl, rfl, rfl, HA, HK2, BK396, HB⟩ := hrel
    rcases gk with _ | k2
    ·exact absurd HA.out (by simp [qQ1.l0])
    have H := HA.out
    clear HA
    simp only [qQ1.l0] at H
    by_cases c9 : x9_2 ≥ 0
    ·rw [if_pos c9] at H
     have c9b0 : decide (0 ≤ x9_2) = true := decide_eq_true c9
     clear c9
     obtain ⟨ji10, hji10⟩ : ∃ j_ : Int, (IntKind.u64.wrap (x9_2)) = j_ := ⟨_, rfl⟩
     replace H : (if 0 ≤ (ji10) then (if (x8_2 / 9223372036854775808) = 1 then (qQ1.l0 k2 a1 a2 (IntKind.u64.wrap ((IntKind.u64.wrap (x7_2 * 2)) + 1)) (IntKind.u64.wrap ((IntKind.u64.wrap ((IntKind.u64.wrap (x8_2 * 2)) + (Go.bits .and .u64 (shr .u64 a1 (ji10)) 1))) - a2)) (wrap64 (x9_2 - 1))) else (if (IntKind.u64.wrap ((IntKind.u64.wrap (x8_2 * 2)) + (Go.bits .and .u64 (shr .u64 a1 (ji10)) 1))) ≥ a2 then (qQ1.l0 k2 a1 a2 (IntKind.u64.wrap ((IntKind.u64.wrap (x7_2 * 2)) + 1)) (IntKind.u64.wrap ((IntKind.u64.wrap ((IntKind.u64.wrap (x8_2 * 2)) + (Go.bits .and .u64 (shr .u64 a1 (ji10)) 1))) - a2)) (wrap64 (x9_2 - 1))) else (qQ1.l0 k2 a1 a2 (IntKind.u64.wrap (x7_2 * 2)) (IntKind.u64.wrap ((IntKind.u64.wrap (x8_2 * 2)) + (Go.bits .and .u64 (shr .u64 a1 (ji10)) 1))) (wrap64 (x9_2 - 1))))) else (none)) = some (r1, r2, r3) := by first | (rw [hji10] at H; exact H) | (simp only [hji10] at H ⊢; exact H)
     by_cases c11 : 0 ≤ (ji10)
     ·rw [if_pos c11] at H
      have c11b0 := eq_true c11
      have c11b1 : decide (0 ≤ (ji10)) = true := decide_eq_true c11
      clear c11
      obtain ⟨ji12, hji12⟩ : ∃ j_ : Int, (shr .u64 a1 (ji10)) = j_ := ⟨_, rfl⟩
      replace H : (if (x8_2 / 9223372036854775808) = 1 then (qQ1.l0 k2 a1 a2 (IntKind.u64.wrap ((IntKind.u64.wrap (x7_2 * 2)) + 1)) (IntKind.u64.wrap ((IntKind.u64.wrap ((IntKind.u64.wrap (x8_2 * 2)) + (Go.bits .and .u64 (ji12) 1))) - a2)) (wrap64 (x9_2 - 1))) else (if (IntKind.u64.wrap ((IntKind.u64.wrap (x8_2 * 2)) + (Go.bits .and .u64 (ji12) 1))) ≥ a2 then (qQ1.l0 k2 a1 a2 (IntKind.u64.wrap ((IntKind.u64.wrap (x7_2 * 2)) + 1)) (IntKind.u64.wrap ((IntKind.u64.wrap ((IntKind.u64.wrap (x8_2 * 2)) + (Go.bits .and .u64 (ji12) 1))) - a2)) (wrap64 (x9_2 - 1))) else (qQ1.l0 k2 a1 a2 (IntKind.u64.wrap (x7_2 * 2)) (IntKind.u64.wrap ((IntKind.u64.wrap (x8_2 * 2)) + (Go.bits .and .u64 (ji12) 1))) (wrap64 (x9_2 - 1))))) = some (r1, r2, r3) := by first | (rw [hji12] at H; exact H) | (simp only [hji12] at H ⊢; exact H)
      have hji12_ : (a1 / 2 ^ min (ji10).toNat 64) = ji12 := hji12
      have hji12z : (ji10) ≤ 64 → (a1 / 2 ^ (ji10).toNat) = ji12 := qW7 hji12
      by_cases c13 : (x8_2 / 9223372036854775808) = 1
      ·rw [if_pos c13] at H
       have c13b0 : ((x8_2 / 9223372036854775808) == 1) = true := beq_iff_eq.mpr c13
       have c13b1 : ((x8_2 / 9223372036854775808) != 1) = false := bne_eq_false_iff_eq.mpr c13
       clear c13
       have H' := am H
       clear H
       go_wp2
       go_roundg k2
       case measure => have := HJ3.out; have := HK2.out; omega
       case rel => exact ⟨(IntKind.u64.wrap ((IntKind.u64.wrap (x7_2 * 2)) + 1)), (IntKind.u64.wrap ((IntKind.u64.wrap ((IntKind.u64.wrap (x8_2 * 2)) + (Go.bits .and .u64 (ji12) 1))) - a2)), (wrap64 (x9_2 - 1)), (by first | rfl | (simp; done) | (simp [*]; done)), (by first | rfl | (simp; done) | (simp only [← hji12] <;> (first | rfl | simp)) | (simp [*]; done)), (by first | rfl | (simp; done) | (simp [*]; done)), H', ⟨by have := HJ3.out; have := HK2.out; omega⟩, ⟨by exact bb BK396.out⟩, ⟨by exact h1q HB.out GE396.out⟩⟩
      ·rw [if_neg c13] at H
       have c13b0 : ((x8_2 / 9223372036854775808) == 1) = false := beq_eq_false_iff_ne.mpr c13
       have c13b1 : ((x8_2 / 9223372036854775808) != 1) = true := bne_iff_ne.mpr c13
       by_cases c14 : (IntKind.u64.wrap ((IntKind.u64.wrap (x8_2 * 2)) + (Go.bits .and .u64 (ji12) 1))) ≥ a2
       ·rw [if_pos c14] at H
        have c14b0 : decide (a2 ≤ (IntKind.u64.wrap ((IntKind.u64.wrap (x8_2 * 2)) + (Go.bits .and .u64 (ji12) 1)))) = true := decide_eq_true c14
        clear c14
        have H' := am H
        clear H
        go_wp2
        go_roundg k2
        case measure => have := HJ3.out; have := HK2.out; omega
        case rel => exact ⟨(IntKind.u64.wrap ((IntKind.u64.wrap (x7_2 * 2)) + 1)), (IntKind.u64.wrap ((IntKind.u64.wrap ((IntKind.u64.wrap (x8_2 * 2)) + (Go.bits .and .u64 (ji12) 1))) - a2)), (wrap64 (x9_2 - 1)), (by first | rfl | (simp; done) | (simp [*]; done)), (by first | rfl | (simp; done) | (simp only [← hji12] <;> (first | rfl | simp)) | (simp [*]; done)), (by first | rfl | (simp; done) | (simp [*]; done)), H', ⟨by have := HJ3.out; have := HK2.out; omega⟩, ⟨by exact bb BK396.out⟩, ⟨by exact h1q HB.out GE396.out⟩⟩
       ·rw [if_neg c14] at H
        have c14b0 : decide (a2 ≤ (IntKind.u64.wrap ((IntKind.u64.wrap (x8_2 * 2)) + (Go.bits .and .u64 (ji12) 1)))) = false := decide_eq_false c14
        clear c14
        have H' := am H
        clear H
        go_wp2
        go_roundg k2
        case measure => have := HJ3.out; have := HK2.out; omega
        case rel => exact ⟨(IntKind.u64.wrap (x7_2 * 2)), (IntKind.u64.wrap ((IntKind.u64.wrap (x8_2 * 2)) + (Go.bits .and .u64 (ji12) 1))), (wrap64 (x9_2 - 1)), (by first | rfl | (simp; done) | (simp [*]; done)), (by first | rfl | (simp; done) | (simp only [← hji12] <;> (first | rfl | simp)) | (simp [*]; done)), (by first | rfl | (simp; done) | (simp [*]; done)), H', ⟨by have := HJ3.out; have := HK2.out; omega⟩, ⟨by exact bb BK396.out⟩, ⟨by exact h1q HB.out GE396.out⟩⟩
     ·rw [if_neg c11] at H
      exact absurd H (by simp)
    ·rw [if_neg c9] at H
     have c9b0 : decide (0 ≤ x9_2) = false := decide_eq_false c9
     clear c9
     simp only [Option.some.injEq, Prod.mk.injEq] at H
     obtain ⟨rfl, rfl, rfl⟩ := H
     have hcz15_0 : wr.cell? ⟨gb396, 0, none⟩ = some (.int .u64 0) := (qQc BK396.out 0).trans rfl
     have hcz15_1 : wr.cell? ⟨gb396, 1, none⟩ = some (.int .u64 0) := (qQc BK396.out 1).trans rfl
     have hcz15_2 : wr.cell? ⟨gb396, 2, none⟩ = some (.bool false) := (qQc BK396.out 2).trans rfl
     have hfz15_0 := qQi BK396.out 0
     have hfz15_1 := qQi BK396.out 1
     have hfz15_2 := qQi BK396.out 2
     go_wp2
     refine bodyPost_ret (results_cell_row rfl _ _ gb396 107 #[.int .u64 x7_2, .int .u64 x8_2, .bool true] (0, 0) _ rfl (by (with_reducible repeat (first | refine qQj ?_ _ | refine qQv ?_ | refine qQm ?_ _)); refine qZ6 (cs := #[.int .u64 x7_2, .int .u64 x8_2, .bool false]) ?_ 2 _ rfl; (with_reducible repeat (first | refine qQj ?_ _ | refine qQv ?_ | refine qQm ?_ _)); refine qZ6 (cs := #[.int .u64 x7_2, .int .u64 0, .bool false]) ?_ 1 _ rfl; (with_reducible repeat (first | refine qQj ?_ _ | refine qQv ?_ | refine qQm ?_ _)); refine qZ6 (cs := #[.int .u64 0, .int .u64 0, .bool false]) ?_ 0 _ rfl; (with_reducible repeat (first | refine qQj ?_ _ | refine qQv ?_ | refine qQm ?_ _)); exact BK396.out) Tryz.underlying107 rfl (by kernel_rfl)) rfl ?_
     exact ⟨er, by exact h1q HB.out GE396.out⟩
mutual
def qQf.j0 : Nat → Int → Int → Int → Int → Bool → Option (Int × Int)
 | 0, _, _, _, _, _ => none
 | k + 1, x0, x1, x2, x3, x31 => if x31 = true then (some (0, 1)) else ((qYv.f (IntKind.u64.wrap (x0)) (IntKind.u64.wrap (x1))).bind fun bt397 => ((qQ1.f k bt397.1 bt397.2 (IntKind.u64.wrap (x2))).bind fun bt400 => (if bt400.2.2 = true then (qQf.j1 k x2 x3 (decide (bt400.1 > 10000000000000)) bt400.1 bt400.2.1 bt400.2.2) else (qQf.j1 k x2 x3 true bt400.1 bt400.2.1 bt400.2.2))))
def qQf.j1 : Nat → Int → Int → Bool → Int → Int → Bool → Option (Int × Int)
 | 0, _, _, _, _, _, _ => none
 | k + 1, x2, x3, x51, x404000, x404001, x404002 => if x51 = true then (some (0, 14)) else (if x3 = 1 then (qQf.j2 k x2 x3 (wrap64 (x404000)) (decide (x404001 > 0)) x404000 x404001 x404002) else (qQf.j2 k x2 x3 (wrap64 (x404000)) false x404000 x404001 x404002))
def qQf.j2 : Nat → Int → Int → Int → Bool → Int → Int → Bool → Option (Int × Int)
 | 0, _, _, _, _, _, _, _ => none
 | k + 1, x2, x3, x12, x55, x404000, x404001, x404002 => if x55 = true then (if (wrap64 (x12 + 1)) > 10000000000000 then (some (0, 14)) else (some (wrap64 (x12 + 1), 0))) else (if x3 = 2 then (if x404001 > (IntKind.u64.wrap ((IntKind.u64.wrap (x2)) - x404001)) then (qQf.j3 k x12 true) else (if x404001 = (IntKind.u64.wrap ((IntKind.u64.wrap (x2)) - x404001)) then (qQf.j3 k x12 ((Int.tmod x12 2) == 1)) else (qQf.j3 k x12 false))) else (if x12 > 10000000000000 then (some (0, 14)) else (some (x12, 0))))
def qQf.j3 : Nat → Int → Bool → Option (Int × Int)
 | 0, _, _ => none
 | k + 1, x12, x87 => if x87 = true then (if (wrap64 (x12 + 1)) > 10000000000000 then (some (0, 14)) else (some (wrap64 (x12 + 1), 0))) else (if x12 > 10000000000000 then (some (0, 14)) else (some (x12, 0)))
end
def qQf.f (k : Nat) (a0 : Int) (a1 : Int) (a2 : Int) (a3 : Int) : Option (Int × Int) := if a0 < 0 then (qQf.j0 k a0 a1 a2 a3 true) else (if a1 < 0 then (qQf.j0 k a0 a1 a2 a3 true) else (if a2 ≤ 0 then (qQf.j0 k a0 a1 a2 a3 true) else (if a3 < 0 then (qQf.j0 k a0 a1 a2 a3 true) else (qQf.j0 k a0 a1 a2 a3 (decide (a3 > 2))))))
set_option maxHeartbeats 8000000 in
set_option maxRecDepth 100000 in
theorem qQf.calls (k : Nat) (a0 : Int) (a1 : Int) (a2 : Int) (a3 : Int) (r1 : Int) (r2 : Int) (w : World) (h : qQf.f k a0 a1 a2 a3 = some (r1, r2)) :
  Calls Tryz.prog 43 #[.int .i64 a0, .int .i64 a1, .int .i64 a2, .int .i64 a3] w fun e w' => e = .returned (.tuple #[.int .i64 r1, .int .i64 r2]) ∧ Below w.heap.size w w' := by
 have hu104 := Tryz.underlying104
 have hu107 := Tryz.underlying107
 have HB := am (Below.refl w.heap.size w)
 have H : (if a0 < 0 then (qQf.j0 k a0 a1 a2 a3 true) else (if a1 < 0 then (qQf.j0 k a0 a1 a2 a3 true) else (if a2 ≤ 0 then (qQf.j0 k a0 a1 a2 a3 true) else (if a3 < 0 then (qQf.j0 k a0 a1 a2 a3 true) else (qQf.j0 k a0 a1 a2 a3 (decide (a3 > 2))))))) = some (r1, r2) := h
 clear h
 have HC5 := am H
 clear H
 go_enter Tryz.func43, Tryz.ntmps43
 go_upto_region 1 with (fail)
 go_cut [31] (fun v31 wc => ∃ (kq : Nat) (x31_4 : Bool), v31 = .bool x31_4 ∧ Aside0 (qQf.j0 kq a0 a1 a2 a3 x31_4 = some (r1, r2)) ∧ Aside0 (kq ≤ k) ∧ Aside0 (Below w.heap.size w wc))
 case first =>
  have H := HC5.out
  clear HC5
  by_cases c6 : a0 < 0
  ·rw [if_pos c6] at H
   have c6b0 : decide (a0 < 0) = true := decide_eq_true c6
   clear c6
   (first | rw [c6b0] | (simp only [i64_w, i32_w]; rw [c6b0]) | skip)
   have H' := am H
   clear H
   go_wp2
   go_meet
   case rel => exact ⟨_, (true), (by first | rfl | (simp; done) | (simp [*]; done)), H', ⟨by first | omega | exact Nat.le_refl _⟩, ⟨by exact h0q HB.out⟩⟩
  ·rw [if_neg c6] at H
   have c6b0 : decide (a0 < 0) = false := decide_eq_false c6
   clear c6
   (first | rw [c6b0] | (simp only [i64_w, i32_w]; rw [c6b0]) | skip)
   by_cases c7 : a1 < 0
   ·rw [if_pos c7] at H
    have c7b0 : decide (a1 < 0) = true := decide_eq_true c7
    clear c7
    have H' := am H
    clear H
    go_wp2
    go_meet
    case rel => exact ⟨_, (true), (by first | rfl | (simp; done) | (simp [*]; done)), H', ⟨by first | omega | exact Nat.le_refl _⟩, ⟨by exact h0q HB.out⟩⟩
   ·rw [if_neg c7] at H
    have c7b0 : decide (a1 < 0) = false := decide_eq_false c7
    clear c7
    by_cases c8 : a2 ≤ 0
    ·rw [if_pos c8] at H
     have c8b0 : decide (a2 ≤ 0) = true := decide_eq_true c8
     clear c8
     have H' := am H
     clear H
     go_wp2
     go_meet
     case rel => exact ⟨_, (true), (by first | rfl | (simp; done) | (simp [*]; done)), H', ⟨by first | omega | exact Nat.le_refl _⟩, ⟨by exact h0q HB.out⟩⟩
    ·rw [if_neg c8] at H
     have c8b0 : decide (a2 ≤ 0) = false := decide_eq_false c8
     clear c8
     by_cases c9 : a3 < 0
     ·rw [if_pos c9] at H
      have c9b0 : decide (a3 < 0) = true := decide_eq_true c9
      clear c9
      have H' := am H
      clear H
      go_wp2
      go_meet
      case rel => exact ⟨_, (true), (by first | rfl | (simp; done) | (simp [*]; done)), H', ⟨by first | omega | exact Nat.le_refl _⟩, ⟨by exact h0q HB.out⟩⟩
     ·rw [if_neg c9] at H
      have c9b0 : decide (a3 < 0) = false := decide_eq_false c9
      clear c9
      have H' := am H
      clear H
      go_wp2
      go_meet
      case rel => exact ⟨_, (decide (a3 > 2)), (by first | rfl | (simp; done) | (simp [*]; done)), H', ⟨by first | omega | exact Nat.le_refl _⟩, ⟨by exact h0q HB.out⟩⟩
 case rest =>
  clear HC5
  try clear c6
  try clear c6b0
  try clear c7
  try clear c7b0
  try clear c8
  try clear c8b0
  try clear c9
  try clear c9b0
  obtain ⟨kq, x31_4, rfl, HA, HJ4, HB⟩ := hcut
  rcases kq with _ | kj4
  ·exact absurd HA.out (by simp [qQf.j0])
  have H := HA.out
  clear HA
  simp only [qQf.j0] at H
  by_cases c10 : x31_4 = true
  ·subst c10
   have H1 : (some (0, 1)) = some (r1, r2) := by rw [if_pos rfl] at H; exact H
   clear H
   have H := H1
   clear H1
   simp only [Option.some.injEq, Prod.mk.injEq] at H
   obtain ⟨rfl, rfl⟩ := H
   go_wp2
   go_ret2
   exact ⟨er, by exact h0q HB.out⟩
  ·replace c10 := Bool.eq_false_iff.mpr c10
   subst c10
   have H1 : ((qYv.f (IntKind.u64.wrap (a0)) (IntKind.u64.wrap (a1))).bind fun bt397 => ((qQ1.f kj4 bt397.1 bt397.2 (IntKind.u64.wrap (a2))).bind fun bt400 => (if bt400.2.2 = true then (qQf.j1 kj4 a2 a3 (decide (bt400.1 > 10000000000000)) bt400.1 bt400.2.1 bt400.2.2) else (qQf.j1 kj4 a2 a3 true bt400.1 bt400.2.1 bt400.2.2)))) = some (r1, r2) := by rw [if_neg (show ¬ (false = true) by decide)] at H; exact H
   clear H
   have H := H1
   clear H1
   replace H := Option.bind_eq_some_iff.mp H
   obtain ⟨⟨t397, t398⟩, A110, H⟩ := H
   replace H : ((qQ1.f kj4 t397 t398 (IntKind.u64.wrap (a2))).bind fun bt400 => (if bt400.2.2 = true then (qQf.j1 kj4 a2 a3 (decide (bt400.1 > 10000000000000)) bt400.1 bt400.2.1 bt400.2.2) else (qQf.j1 kj4 a2 a3 true bt400.1 bt400.2.1 bt400.2.2))) = some (r1, r2) := H
   have A11 := am A110
   clear A110
   replace H := Option.bind_eq_some_iff.mp H
   obtain ⟨⟨t400, t401, t402⟩, A120, H⟩ := H
   replace H : (if t402 = true then (qQf.j1 kj4 a2 a3 (decide (t400 > 10000000000000)) t400 t401 t402) else (qQf.j1 kj4 a2 a3 true t400 t401 t402)) = some (r1, r2) := H
   have A12 := am A120
   clear A120
   have HC13 := am H
   clear H
   go_upto_region 5 with (first | ((with_reducible refine qQh (f := 64) rfl ?_); refine goesL_ (some 36) rfl rfl Tryz.func64 (by kernel_rfl) rfl #[.int .u64 (IntKind.u64.wrap (a0)), .int .u64 (IntKind.u64.wrap (a1))] rfl ml ?_; (with_reducible refine (qYv.calls (IntKind.u64.wrap (a0)) (IntKind.u64.wrap (a1)) t397 t398 _ A11.out).mono ?_); rintro e w14 ⟨rfl, hb⟩; refine ⟨_, rfl, ?_⟩; have n0_ := am (qQb (by exact h0q HB.out) hb); clear HB; have HB := n0_; clear n0_; (try clear hb); (try clear hb2); (try clear hk); (try clear hi)) | ((with_reducible refine qQ0 (N := 10) rfl ?_); refine qQs ?hg (N := 10) ?hd (cs := #[.int .u64 0, .int .u64 0]) (t := 104) ?hr ?_; (case hd => rfl); (case hg => rfl); (case hr => first | (go_simp; done) | (go_simp; rfl)); intro gb399 hg w15 hbox hb; have n0_ := am (qQb (by exact h0q HB.out) hb); have n1_ := am (hbox); have n2_ := am ((by rw [hg]; exact (qQd (by exact h0q HB.out)) : w.heap.size ≤ gb399)); have n3_ := am ((by rw [hg]; exact (qQd (by exact h0q HB.out)) : w.heap.size ≤ gb399)); clear HB; have HB := n0_; have BK399 := n1_; have GW399 := n2_; have GE399 := n3_; clear n0_ n1_ n2_ n3_; clear hb hbox hg; have hcz16_0 : w15.cell? ⟨gb399, 0, none⟩ = some (.int .u64 0) := (qQc BK399.out 0).trans rfl; have hcz16_1 : w15.cell? ⟨gb399, 1, none⟩ = some (.int .u64 0) := (qQc BK399.out 1).trans rfl; have hfz16_0 := qQi BK399.out 0; have hfz16_1 := qQi BK399.out 1) | ((with_reducible refine qQh (f := 65) rfl ?_); refine goesL_ (some 43) rfl rfl Tryz.func65 (by kernel_rfl) rfl #[.int .u64 t397, .int .u64 t398, .int .u64 (IntKind.u64.wrap (a2))] rfl ml ?_; (with_reducible refine (qQ1.calls kj4 t397 t398 (IntKind.u64.wrap (a2)) t400 t401 t402 _ A12.out).mono ?_); rintro e w17 ⟨rfl, hb⟩; refine ⟨_, rfl, ?_⟩; have n0_ := am (qQg (g := gb399) (o := .cells #[.int .u64 t397, .int .u64 t398] 104 (0, 0)) (by (with_reducible repeat (first | refine qQj ?_ _ | refine qQv ?_ | refine qQm ?_ _)); refine qZ6 (cs := #[.int .u64 t397, .int .u64 0]) ?_ 1 _ rfl; (with_reducible repeat (first | refine qQj ?_ _ | refine qQv ?_ | refine qQm ?_ _)); refine qZ6 (cs := #[.int .u64 0, .int .u64 0]) ?_ 0 _ rfl; (with_reducible repeat (first | refine qQj ?_ _ | refine qQv ?_ | refine qQm ?_ _)); exact BK399.out) hb); have n1_ := am (qQb (by exact h1q HB.out GE399.out) hb); clear BK399; clear HB; have BK399 := n0_; have HB := n1_; clear n0_ n1_; (try clear hb); (try clear hb2); (try clear hk); (try clear hi)) | ((with_reducible refine qQ0 (N := 11) rfl ?_); refine qQs ?hg (N := 11) ?hd (cs := #[.int .u64 0, .int .u64 0, .bool false]) (t := 107) ?hr ?_; (case hd => rfl); (case hg => rfl); (case hr => first | (go_simp; done) | (go_simp; rfl)); intro gb403 hg w18 hbox hb; have n0_ := am (qQg (g := gb399) (Up.up BK399.out) hb); have n1_ := am (qQb (by exact h1q HB.out GE399.out) hb); have n2_ := am (hbox); have n3_ := am ((by rw [hg]; exact (qQd (by exact h1q HB.out GE399.out)) : w.heap.size ≤ gb403)); have n4_ := am ((by rw [hg]; exact (qQd (by exact h1q HB.out GE399.out)) : w.heap.size ≤ gb403)); have n5_ := am ((by rw [hg]; exact Nat.ne_of_lt (qZr (g := gb399) (Up.up BK399.out)) : gb399 ≠ gb403)); have n6_ := am ((by rw [hg]; exact Nat.ne_of_gt (qZr (g := gb399) (Up.up BK399.out)) : gb403 ≠ gb399)); clear BK399; clear HB; have BK399 := n0_; have HB := n1_; have BK403 := n2_; have GW403 := n3_; have GE403 := n4_; have NB399_403 := n5_; have NB403_399 := n6_; clear n0_ n1_ n2_ n3_ n4_ n5_ n6_; clear hb hbox hg; have hnb19 := NB403_399.out; have hnc19 := NB399_403.out; have hcz20_0 : w18.cell? ⟨gb403, 0, none⟩ = some (.int .u64 0) := (qQc BK403.out 0).trans rfl; have hcz20_1 : w18.cell? ⟨gb403, 1, none⟩ = some (.int .u64 0) := (qQc BK403.out 1).trans rfl; have hcz20_2 : w18.cell? ⟨gb403, 2, none⟩ = some (.bool false) := (qQc BK403.out 2).trans rfl; have hfz20_0 := qQi BK403.out 0; have hfz20_1 := qQi BK403.out 1; have hfz20_2 := qQi BK403.out 2))
   (try simp only [Act.put, List.setIfInBounds_toArray, List.set_cons_zero, List.set_cons_succ])
   go_cut [51] (fun v51 wc => ∃ (kq : Nat) (x51_12 : Bool), v51 = .bool x51_12 ∧ Aside0 (qQf.j1 kq a2 a3 x51_12 t400 t401 t402 = some (r1, r2)) ∧ Aside0 (kq ≤ kj4) ∧ Aside0 (wc.heap[gb399]? = some (.cells #[.int .u64 t397, .int .u64 t398] 104 (0, 0))) ∧ Aside0 (wc.heap[gb403]? = some (.cells #[.int .u64 t400, .int .u64 t401, .bool t402] 107 (0, 0))) ∧ Aside0 (Below w.heap.size w wc))
   case first =>
    have H := HC13.out
    clear HC13
    by_cases c21 : t402 = true
    ·subst c21
     have H1 : (qQf.j1 kj4 a2 a3 (decide (t400 > 10000000000000)) t400 t401 true) = some (r1, r2) := by rw [if_pos rfl] at H; exact H
     clear H
     have H := H1
     clear H1
     have H' := am H
     clear H
     have hnb22 := NB403_399.out
     have hnc22 := NB399_403.out
     have hcz23_0 : w18.cell? ⟨gb403, 0, none⟩ = some (.int .u64 0) := (qQc BK403.out 0).trans rfl
     have hcz23_1 : w18.cell? ⟨gb403, 1, none⟩ = some (.int .u64 0) := (qQc BK403.out 1).trans rfl
     have hcz23_2 : w18.cell? ⟨gb403, 2, none⟩ = some (.bool false) := (qQc BK403.out 2).trans rfl
     have hfz23_0 := qQi BK403.out 0
     have hfz23_1 := qQi BK403.out 1
     have hfz23_2 := qQi BK403.out 2
     go_wp2
     go_meet
     case rel => exact ⟨_, (decide (t400 > 10000000000000)), (by first | rfl | (simp; done) | (simp [*]; done)), H', ⟨by have := HJ4.out; first | omega | exact Nat.le_refl _⟩, ⟨by (iterate 3 ((with_reducible repeat (first | refine qQj ?_ _ | refine qQv ?_ | refine qQm ?_ _)); refine qYr ?_ NB399_403.out _)); (with_reducible repeat (first | refine qQj ?_ _ | refine qQv ?_ | refine qQm ?_ _)); exact BK399.out⟩, ⟨by (with_reducible repeat (first | refine qQj ?_ _ | refine qQv ?_ | refine qQm ?_ _)); refine qZ6 (cs := #[.int .u64 t400, .int .u64 t401, .bool false]) ?_ 2 _ rfl; (with_reducible repeat (first | refine qQj ?_ _ | refine qQv ?_ | refine qQm ?_ _)); refine qZ6 (cs := #[.int .u64 t400, .int .u64 0, .bool false]) ?_ 1 _ rfl; (with_reducible repeat (first | refine qQj ?_ _ | refine qQv ?_ | refine qQm ?_ _)); refine qZ6 (cs := #[.int .u64 0, .int .u64 0, .bool false]) ?_ 0 _ rfl; (with_reducible repeat (first | refine qQj ?_ _ | refine qQv ?_ | refine qQm ?_ _)); exact BK403.out⟩, ⟨by exact h2q HB.out GE399.out GE403.out⟩⟩
    ·replace c21 := Bool.eq_false_iff.mpr c21
     subst c21
     have H1 : (qQf.j1 kj4 a2 a3 true t400 t401 false) = some (r1, r2) := by rw [if_neg (show ¬ (false = true) by decide)] at H; exact H
     clear H
     have H := H1
     clear H1
     have H' := am H
     clear H
     have hnb24 := NB403_399.out
     have hnc24 := NB399_403.out
     have hcz25_0 : w18.cell? ⟨gb403, 0, none⟩ = some (.int .u64 0) := (qQc BK403.out 0).trans rfl
     have hcz25_1 : w18.cell? ⟨gb403, 1, none⟩ = some (.int .u64 0) := (qQc BK403.out 1).trans rfl
     have hcz25_2 : w18.cell? ⟨gb403, 2, none⟩ = some (.bool false) := (qQc BK403.out 2).trans rfl
     have hfz25_0 := qQi BK403.out 0
     have hfz25_1 := qQi BK403.out 1
     have hfz25_2 := qQi BK403.out 2
     go_wp2
     go_meet
     case rel => exact ⟨_, (true), (by first | rfl | (simp; done) | (simp [*]; done)), H', ⟨by have := HJ4.out; first | omega | exact Nat.le_refl _⟩, ⟨by (iterate 3 ((with_reducible repeat (first | refine qQj ?_ _ | refine qQv ?_ | refine qQm ?_ _)); refine qYr ?_ NB399_403.out _)); (with_reducible repeat (first | refine qQj ?_ _ | refine qQv ?_ | refine qQm ?_ _)); exact BK399.out⟩, ⟨by (with_reducible repeat (first | refine qQj ?_ _ | refine qQv ?_ | refine qQm ?_ _)); refine qZ6 (cs := #[.int .u64 t400, .int .u64 t401, .bool false]) ?_ 2 _ rfl; (with_reducible repeat (first | refine qQj ?_ _ | refine qQv ?_ | refine qQm ?_ _)); refine qZ6 (cs := #[.int .u64 t400, .int .u64 0, .bool false]) ?_ 1 _ rfl; (with_reducible repeat (first | refine qQj ?_ _ | refine qQv ?_ | refine qQm ?_ _)); refine qZ6 (cs := #[.int .u64 0, .int .u64 0, .bool false]) ?_ 0 _ rfl; (with_reducible repeat (first | refine qQj ?_ _ | refine qQv ?_ | refine qQm ?_ _)); exact BK403.out⟩, ⟨by exact h2q HB.out GE399.out GE403.out⟩⟩
   case rest =>
    clear HC13
    try clear c6
    try clear c6b0
    try clear c7
    try clear c7b0
    try clear c8
    try clear c8b0
    try clear c9
    try clear c9b0
    try clear c10
    try clear c21
    try clear hcz16_0
    try clear hcz16_1
    try clear hcz20_0
    try clear hcz20_1
    try clear hcz20_2
    try clear hcz23_0
    try clear hcz23_1
    try clear hcz23_2
    try clear hcz25_0
    try clear hcz25_1
    try clear hcz25_2
    try clear hfz16_0
    try clear hfz16_1
    try clear hfz20_0
    try clear hfz20_1
    try clear hfz20_2
    try clear hfz23_0
    try clear hfz23_1
    try clear hfz23_2
    try clear hfz25_0
    try clear hfz25_1
    try clear hfz25_2
    obtain ⟨kq, x51_12, rfl, HA, HJ12, BK399, BK403, HB⟩ := hcut
    rcases kq with _ | kj12
    ·exact absurd HA.out (by simp [qQf.j1])
    have H := HA.out
    clear HA
    simp only [qQf.j1] at H
    by_cases c26 : x51_12 = true
    ·subst c26
     have H1 : (some (0, 14)) = some (r1, r2) := by rw [if_pos rfl] at H; exact H
     clear H
     have H := H1
     clear H1
     simp only [Option.some.injEq, Prod.mk.injEq] at H
     obtain ⟨rfl, rfl⟩ := H
     go_wp2
     go_ret2
     exact ⟨er, by exact h2q HB.out GE399.out GE403.out⟩
    ·replace c26 := Bool.eq_false_iff.mpr c26
     subst c26
     have H1 : (if a3 = 1 then (qQf.j2 kj12 a2 a3 (wrap64 (t400)) (decide (t401 > 0)) t400 t401 t402) else (qQf.j2 kj12 a2 a3 (wrap64 (t400)) false t400 t401 t402)) = some (r1, r2) := by rw [if_neg (show ¬ (false = true) by decide)] at H; exact H
     clear H
     have H := H1
     clear H1
     have HC27 := am H
     clear H
     have hnb28 := NB403_399.out
     have hnc28 := NB399_403.out
     have hcz29_0 : wc.cell? ⟨gb403, 0, none⟩ = some (.int .u64 t400) := (qQc BK403.out 0).trans rfl
     have hcz29_1 : wc.cell? ⟨gb403, 1, none⟩ = some (.int .u64 t401) := (qQc BK403.out 1).trans rfl
     have hcz29_2 : wc.cell? ⟨gb403, 2, none⟩ = some (.bool t402) := (qQc BK403.out 2).trans rfl
     have hfz29_0 := qQi BK403.out 0
     have hfz29_1 := qQi BK403.out 1
     have hfz29_2 := qQi BK403.out 2
     go_upto_region 8 with (fail)
     go_cut [55] (fun v55 wc => ∃ (kq : Nat) (x55_26 : Bool), v55 = .bool x55_26 ∧ Aside0 (qQf.j2 kq a2 a3 (wrap64 (t400)) x55_26 t400 t401 t402 = some (r1, r2)) ∧ Aside0 (kq ≤ kj12) ∧ Aside0 (wc.heap[gb399]? = some (.cells #[.int .u64 t397, .int .u64 t398] 104 (0, 0))) ∧ Aside0 (wc.heap[gb403]? = some (.cells #[.int .u64 t400, .int .u64 t401, .bool t402] 107 (0, 0))) ∧ Aside0 (Below w.heap.size w wc))
     case first =>
      have H := HC27.out
      clear HC27
      by_cases c30 : a3 = 1
      ·rw [if_pos c30] at H
       have c30b0 : (a3 == 1) = true := beq_iff_eq.mpr c30
       have c30b1 : (a3 != 1) = false := bne_eq_false_iff_eq.mpr c30
       clear c30
       (first | rw [c30b0] | (simp only [i64_w, i32_w]; rw [c30b0]) | skip)
       have H' := am H
       clear H
       have hnb31 := NB403_399.out
       have hnc31 := NB399_403.out
       have hcz32_0 : wc.cell? ⟨gb403, 0, none⟩ = some (.int .u64 t400) := (qQc BK403.out 0).trans rfl
       have hcz32_1 : wc.cell? ⟨gb403, 1, none⟩ = some (.int .u64 t401) := (qQc BK403.out 1).trans rfl
       have hcz32_2 : wc.cell? ⟨gb403, 2, none⟩ = some (.bool t402) := (qQc BK403.out 2).trans rfl
       have hfz32_0 := qQi BK403.out 0
       have hfz32_1 := qQi BK403.out 1
       have hfz32_2 := qQi BK403.out 2
       go_wp2
       go_meet
       case rel => exact ⟨_, (decide (t401 > 0)), (by first | rfl | (simp; done) | (simp [*]; done)), H', ⟨by have := HJ4.out; have := HJ12.out; first | omega | exact Nat.le_refl _⟩, ⟨by exact bb BK399.out⟩, ⟨by exact bb BK403.out⟩, ⟨by exact h2q HB.out GE399.out GE403.out⟩⟩
      ·rw [if_neg c30] at H
       have c30b0 : (a3 == 1) = false := beq_eq_false_iff_ne.mpr c30
       have c30b1 : (a3 != 1) = true := bne_iff_ne.mpr c30
       (first | rw [c30b0] | (simp only [i64_w, i32_w]; rw [c30b0]) | skip)
       have H' := am H
       clear H
       go_wp2
       go_meet
       case rel => exact ⟨_, (false), (by first | rfl | (simp; done) | (simp [*]; done)), H', ⟨by have := HJ4.out; have := HJ12.out; first | omega | exact Nat.le_refl _⟩, ⟨by exact bb BK399.out⟩, ⟨by exact bb BK403.out⟩, ⟨by exact h2q HB.out GE399.out GE403.out⟩⟩
     case rest =>
      clear HC27
      try clear c6
      try clear c6b0
      try clear c7
      try clear c7b0
      try clear c8
      try clear c8b0
      try clear c9
      try clear c9b0
      try clear c10
      try clear c21
      try clear c26
      try clear c30
      try clear c30b0 c30b1
      try clear hcz16_0
      try clear hcz16_1
      try clear hcz20_0
      try clear hcz20_1
      try clear hcz20_2
      try clear hcz23_0
      try clear hcz23_1
      try clear hcz23_2
      try clear hcz25_0
      try clear hcz25_1
      try clear hcz25_2
      try clear hcz29_0
      try clear hcz29_1
      try clear hcz29_2
      try clear hcz32_0
      try clear hcz32_1
      try clear hcz32_2
      try clear hfz16_0
      try clear hfz16_1
      try clear hfz20_0
      try clear hfz20_1
      try clear hfz20_2
      try clear hfz23_0
      try clear hfz23_1
      try clear hfz23_2
      try clear hfz25_0
      try clear hfz25_1
      try clear hfz25_2
      try clear hfz29_0
      try clear hfz29_1
      try clear hfz29_2
      try clear hfz32_0
      try clear hfz32_1
      try clear hfz32_2
      obtain ⟨kq, x55_26, rfl, HA, HJ26, BK399, BK403, HB⟩ := hcut
      rcases kq with _ | kj26
      ·exact absurd HA.out (by simp [qQf.j2])
      have H := HA.out
      clear HA
      simp only [qQf.j2] at H
      by_cases c33 : x55_26 = true
      ·subst c33
       have H1 : (if (wrap64 ((wrap64 (t400)) + 1)) > 10000000000000 then (some (0, 14)) else (some (wrap64 ((wrap64 (t400)) + 1), 0))) = some (r1, r2) := by rw [if_pos rfl] at H; exact H
       clear H
       have H := H1
       clear H1
       by_cases c34 : (wrap64 ((wrap64 (t400)) + 1)) > 10000000000000
       ·rw [if_pos c34] at H
        have c34b0 : decide (10000000000000 < (wrap64 ((wrap64 (t400)) + 1))) = true := decide_eq_true c34
        clear c34
        simp only [Option.some.injEq, Prod.mk.injEq] at H
        obtain ⟨rfl, rfl⟩ := H
        go_wp2
        go_ret2
        exact ⟨er, by exact h2q HB.out GE399.out GE403.out⟩
       ·rw [if_neg c34] at H
        have c34b0 : decide (10000000000000 < (wrap64 ((wrap64 (t400)) + 1))) = false := decide_eq_false c34
        clear c34
        simp only [Option.some.injEq, Prod.mk.injEq] at H
        obtain ⟨rfl, rfl⟩ := H
        go_wp2
        go_ret2
        exact ⟨er, by exact h2q HB.out GE399.out GE403.out⟩
      ·replace c33 := Bool.eq_false_iff.mpr c33
       subst c33
       have H1 : (if a3 = 2 then (if t401 > (IntKind.u64.wrap ((IntKind.u64.wrap (a2)) - t401)) then (qQf.j3 kj26 (wrap64 (t400)) true) else (if t401 = (IntKind.u64.wrap ((IntKind.u64.wrap (a2)) - t401)) then (qQf.j3 kj26 (wrap64 (t400)) ((Int.tmod (wrap64 (t400)) 2) == 1)) else (qQf.j3 kj26 (wrap64 (t400)) false))) else (if (wrap64 (t400)) > 10000000000000 then (some (0, 14)) else (some ((wrap64 (t400)), 0)))) = some (r1, r2) := by rw [if_neg (show ¬ (false = true) by decide)] at H; exact H
       clear H
       have H := H1
       clear H1
       by_cases c35 : a3 = 2
       ·rw [if_pos c35] at H
        have c35b0 : (a3 == 2) = true := beq_iff_eq.mpr c35
        have c35b1 : (a3 != 2) = false := bne_eq_false_iff_eq.mpr c35
        clear c35
        have HC36 := am H
        clear H
        have hnb37 := NB403_399.out
        have hnc37 := NB399_403.out
        have hcz38_0 : wc.cell? ⟨gb403, 0, none⟩ = some (.int .u64 t400) := (qQc BK403.out 0).trans rfl
        have hcz38_1 : wc.cell? ⟨gb403, 1, none⟩ = some (.int .u64 t401) := (qQc BK403.out 1).trans rfl
        have hcz38_2 : wc.cell? ⟨gb403, 2, none⟩ = some (.bool t402) := (qQc BK403.out 2).trans rfl
        have hfz38_0 := qQi BK403.out 0
        have hfz38_1 := qQi BK403.out 1
        have hfz38_2 := qQi BK403.out 2
        go_upto_region 12 with (fail)
        go_cut [87] (fun v87 wc => ∃ (kq : Nat) (x87_35 : Bool), v87 = .bool x87_35 ∧ Aside0 (qQf.j3 kq (wrap64 (t400)) x87_35 = some (r1, r2)) ∧ Aside0 (kq ≤ kj26) ∧ Aside0 (wc.heap[gb399]? = some (.cells #[.int .u64 t397, .int .u64 t398] 104 (0, 0))) ∧ Aside0 (wc.heap[gb403]? = some (.cells #[.int .u64 t400, .int .u64 t401, .bool t402] 107 (0, 0))) ∧ Aside0 (Below w.heap.size w wc))
        case first =>
         have H := HC36.out
         clear HC36
         by_cases c39 : t401 > (IntKind.u64.wrap ((IntKind.u64.wrap (a2)) - t401))
         ·rw [if_pos c39] at H
          have c39b0 : decide ((IntKind.u64.wrap ((IntKind.u64.wrap (a2)) - t401)) < t401) = true := decide_eq_true c39
          clear c39
          (first | rw [c39b0] | (simp only [i64_w, i32_w]; rw [c39b0]) | skip)
          have H' := am H
          clear H
          have hnb40 := NB403_399.out
          have hnc40 := NB399_403.out
          have hcz41_0 : wc.cell? ⟨gb403, 0, none⟩ = some (.int .u64 t400) := (qQc BK403.out 0).trans rfl
          have hcz41_1 : wc.cell? ⟨gb403, 1, none⟩ = some (.int .u64 t401) := (qQc BK403.out 1).trans rfl
          have hcz41_2 : wc.cell? ⟨gb403, 2, none⟩ = some (.bool t402) := (qQc BK403.out 2).trans rfl
          have hfz41_0 := qQi BK403.out 0
          have hfz41_1 := qQi BK403.out 1
          have hfz41_2 := qQi BK403.out 2
          go_wp2
          go_meet
          case rel => exact ⟨_, (true), (by first | rfl | (simp; done) | (simp [*]; done)), H', ⟨by have := HJ4.out; have := HJ12.out; have := HJ26.out; first | omega | exact Nat.le_refl _⟩, ⟨by exact bb BK399.out⟩, ⟨by exact bb BK403.out⟩, ⟨by exact h2q HB.out GE399.out GE403.out⟩⟩
         ·rw [if_neg c39] at H
          have c39b0 : decide ((IntKind.u64.wrap ((IntKind.u64.wrap (a2)) - t401)) < t401) = false := decide_eq_false c39
          clear c39
          (first | rw [c39b0] | (simp only [i64_w, i32_w]; rw [c39b0]) | skip)
          by_cases c42 : t401 = (IntKind.u64.wrap ((IntKind.u64.wrap (a2)) - t401))
          ·rw [if_pos c42] at H
           have c42b0 : (t401 == (IntKind.u64.wrap ((IntKind.u64.wrap (a2)) - t401))) = true := beq_iff_eq.mpr c42
           have c42b1 : (t401 != (IntKind.u64.wrap ((IntKind.u64.wrap (a2)) - t401))) = false := bne_eq_false_iff_eq.mpr c42
           clear c42
           have H' := am H
           clear H
           have hnb43 := NB403_399.out
           have hnc43 := NB399_403.out
           have hcz44_0 : wc.cell? ⟨gb403, 0, none⟩ = some (.int .u64 t400) := (qQc BK403.out 0).trans rfl
           have hcz44_1 : wc.cell? ⟨gb403, 1, none⟩ = some (.int .u64 t401) := (qQc BK403.out 1).trans rfl
           have hcz44_2 : wc.cell? ⟨gb403, 2, none⟩ = some (.bool t402) := (qQc BK403.out 2).trans rfl
           have hfz44_0 := qQi BK403.out 0
           have hfz44_1 := qQi BK403.out 1
           have hfz44_2 := qQi BK403.out 2
           go_wp2
           go_meet
           case rel => exact ⟨_, (((Int.tmod (wrap64 (t400)) 2) == 1)), (by first | rfl | (simp; done) | (simp [*]; done)), H', ⟨by have := HJ4.out; have := HJ12.out; have := HJ26.out; first | omega | exact Nat.le_refl _⟩, ⟨by exact bb BK399.out⟩, ⟨by exact bb BK403.out⟩, ⟨by exact h2q HB.out GE399.out GE403.out⟩⟩
          ·rw [if_neg c42] at H
           have c42b0 : (t401 == (IntKind.u64.wrap ((IntKind.u64.wrap (a2)) - t401))) = false := beq_eq_false_iff_ne.mpr c42
           have c42b1 : (t401 != (IntKind.u64.wrap ((IntKind.u64.wrap (a2)) - t401))) = true := bne_iff_ne.mpr c42
           have H' := am H
           clear H
           have hnb45 := NB403_399.out
           have hnc45 := NB399_403.out
           have hcz46_0 : wc.cell? ⟨gb403, 0, none⟩ = some (.int .u64 t400) := (qQc BK403.out 0).trans rfl
           have hcz46_1 : wc.cell? ⟨gb403, 1, none⟩ = some (.int .u64 t401) := (qQc BK403.out 1).trans rfl
           have hcz46_2 : wc.cell? ⟨gb403, 2, none⟩ = some (.bool t402) := (qQc BK403.out 2).trans rfl
           have hfz46_0 := qQi BK403.out 0
           have hfz46_1 := qQi BK403.out 1
           have hfz46_2 := qQi BK403.out 2
           go_wp2
           go_meet
           case rel => exact ⟨_, (false), (by first | rfl | (simp; done) | (simp [*]; done)), H', ⟨by have := HJ4.out; have := HJ12.out; have := HJ26.out; first | omega | exact Nat.le_refl _⟩, ⟨by exact bb BK399.out⟩, ⟨by exact bb BK403.out⟩, ⟨by exact h2q HB.out GE399.out GE403.out⟩⟩
        case rest =>
         clear HC36
         try clear c6
         try clear c6b0
         try clear c7
         try clear c7b0
         try clear c8
         try clear c8b0
         try clear c9
         try clear c9b0
         try clear c10
         try clear c21
         try clear c26
         try clear c30
         try clear c30b0 c30b1
         try clear c33
         try clear c34
         try clear c34b0
         try clear c35
         try clear c35b0 c35b1
         try clear c39
         try clear c39b0
         try clear c42
         try clear c42b0 c42b1
         try clear hcz16_0
         try clear hcz16_1
         try clear hcz20_0
         try clear hcz20_1
         try clear hcz20_2
         try clear hcz23_0
         try clear hcz23_1
         try clear hcz23_2
         try clear hcz25_0
         try clear hcz25_1
         try clear hcz25_2
         try clear hcz29_0
         try clear hcz29_1
         try clear hcz29_2
         try clear hcz32_0
         try clear hcz32_1
         try clear hcz32_2
         try clear hcz38_0
         try clear hcz38_1
         try clear hcz38_2
         try clear hcz41_0
         try clear hcz41_1
         try clear hcz41_2
         try clear hcz44_0
         try clear hcz44_1
         try clear hcz44_2
         try clear hcz46_0
         try clear hcz46_1
         try clear hcz46_2
         try clear hfz16_0
         try clear hfz16_1
         try clear hfz20_0
         try clear hfz20_1
         try clear hfz20_2
         try clear hfz23_0
         try clear hfz23_1
         try clear hfz23_2
         try clear hfz25_0
         try clear hfz25_1
         try clear hfz25_2
         try clear hfz29_0
         try clear hfz29_1
         try clear hfz29_2
         try clear hfz32_0
         try clear hfz32_1
         try clear hfz32_2
         try clear hfz38_0
         try clear hfz38_1
         try clear hfz38_2
         try clear hfz41_0
         try clear hfz41_1
         try clear hfz41_2
         try clear hfz44_0
         try clear hfz44_1
         try clear hfz44_2
         try clear hfz46_0
         try clear hfz46_1
         try clear hfz46_2
         obtain ⟨kq, x87_35, rfl, HA, HJ35, BK399, BK403, HB⟩ := hcut
         rcases kq with _ | kj35
         ·exact absurd HA.out (by simp [qQf.j3])
         have H := HA.out
         clear HA
         simp only [qQf.j3] at H
         by_cases c47 : x87_35 = true
         ·subst c47
          have H1 : (if (wrap64 ((wrap64 (t400)) + 1)) > 10000000000000 then (some (0, 14)) else (some (wrap64 ((wrap64 (t400)) + 1), 0))) = some (r1, r2) := by rw [if_pos rfl] at H; exact H
          clear H
          have H := H1
          clear H1
          by_cases c48 : (wrap64 ((wrap64 (t400)) + 1)) > 10000000000000
          ·rw [if_pos c48] at H
           have c48b0 : decide (10000000000000 < (wrap64 ((wrap64 (t400)) + 1))) = true := decide_eq_true c48
           clear c48
           simp only [Option.some.injEq, Prod.mk.injEq] at H
           obtain ⟨rfl, rfl⟩ := H
           go_wp2
           go_ret2
           exact ⟨er, by exact h2q HB.out GE399.out GE403.out⟩
          ·rw [if_neg c48] at H
           have c48b0 : decide (10000000000000 < (wrap64 ((wrap64 (t400)) + 1))) = false := decide_eq_false c48
           clear c48
           simp only [Option.some.injEq, Prod.mk.injEq] at H
           obtain ⟨rfl, rfl⟩ := H
           go_wp2
           go_ret2
           exact ⟨er, by exact h2q HB.out GE399.out GE403.out⟩
         ·replace c47 := Bool.eq_false_iff.mpr c47
          subst c47
          have H1 : (if (wrap64 (t400)) > 10000000000000 then (some (0, 14)) else (some ((wrap64 (t400)), 0))) = some (r1, r2) := by rw [if_neg (show ¬ (false = true) by decide)] at H; exact H
          clear H
          have H := H1
          clear H1
          by_cases c49 : (wrap64 (t400)) > 10000000000000
          ·rw [if_pos c49] at H
           have c49b0 : decide (10000000000000 < (wrap64 (t400))) = true := decide_eq_true c49
           clear c49
           simp only [Option.some.injEq, Prod.mk.injEq] at H
           obtain ⟨rfl, rfl⟩ := H
           go_wp2
           go_ret2
           exact ⟨er, by exact h2q HB.out GE399.out GE403.out⟩
          ·rw [if_neg c49] at H
           have c49b0 : decide (10000000000000 < (wrap64 (t400))) = false := decide_eq_false c49
           clear c49
           simp only [Option.some.injEq, Prod.mk.injEq] at H
           obtain ⟨rfl, rfl⟩ := H
           go_wp2
           go_ret2
           exact ⟨er, by exact h2q HB.out GE399.out GE403.out⟩
       ·rw [if_neg c35] at H
        have c35b0 : (a3 == 2) = false := beq_eq_false_iff_ne.mpr c35
        have c35b1 : (a3 != 2) = true := bne_iff_ne.mpr c35
        by_cases c50 : (wrap64 (t400)) > 10000000000000
        ·rw [if_pos c50] at H
         have c50b0 : decide (10000000000000 < (wrap64 (t400))) = true := decide_eq_true c50
         clear c50
         simp only [Option.some.injEq, Prod.mk.injEq] at H
         obtain ⟨rfl, rfl⟩ := H
         go_wp2
         go_ret2
         exact ⟨er, by exact h2q HB.out GE399.out GE403.out⟩
        ·rw [if_neg c50] at H
         have c50b0 : decide (10000000000000 < (wrap64 (t400))) = false := decide_eq_false c50
         clear c50
         simp only [Option.some.injEq, Prod.mk.injEq] at H
         obtain ⟨rfl, rfl⟩ := H
         go_wp2
         go_ret2
         exact ⟨er, by exact h2q HB.out GE399.out GE403.out⟩
def qZ9.f (k : Nat) (l0 : List Int) (a1 : Int) : Option (Int × Int) := (qZb.f k l0).bind fun t404 => (if t404 = true then (if a1 < 1 then (some (0, 1)) else (if a1 > 30 then (some (0, 1)) else (if 0 ≤ (wrap64 ((mn a1 (l0.length : Int)) - 1)) then (if (wrap64 ((mn a1 (l0.length : Int)) - 1)) < (l0.length : Int) then ((qQf.f k (rd l0 (wrap64 ((mn a1 (l0.length : Int)) - 1))) 3 2 1).bind fun bt406 => (some (bt406.1, bt406.2))) else (none)) else (none)))) else (some (0, 1)))
set_option maxHeartbeats 8000000 in
set_option maxRecDepth 100000 in
theorem qZ9.calls (k : Nat) (A0 : Option Addr) (c0 : Nat) (l0 : List Int) (a1 : Int) (r1 : Int) (r2 : Int) (w : World) (hr0 : Kd.C (Kd.int .i64) w A0 l0.length l0) (hc0 : l0.length ≤ c0) (h : qZ9.f k l0 a1 = some (r1, r2)) :
  Calls Tryz.prog 63 #[.slice A0 l0.length c0, .int .i64 a1] w fun e w' => e = .returned (.tuple #[.int .i64 r1, .int .i64 r2]) ∧ Below w.heap.size w w' := by
 have HR0 := am hr0
 have HC0 := am hc0
 clear hr0 hc0
 have HB := am (Below.refl w.heap.size w)
 have H : ((qZb.f k l0).bind fun t404 => (if t404 = true then (if a1 < 1 then (some (0, 1)) else (if a1 > 30 then (some (0, 1)) else (if 0 ≤ (wrap64 ((mn a1 (l0.length : Int)) - 1)) then (if (wrap64 ((mn a1 (l0.length : Int)) - 1)) < (l0.length : Int) then ((qQf.f k (rd l0 (wrap64 ((mn a1 (l0.length : Int)) - 1))) 3 2 1).bind fun bt406 => (some (bt406.1, bt406.2))) else (none)) else (none)))) else (some (0, 1)))) = some (r1, r2) := h
 clear h
 replace H := Option.bind_eq_some_iff.mp H
 obtain ⟨t404, A30, H⟩ := H
 replace H : (if t404 = true then (if a1 < 1 then (some (0, 1)) else (if a1 > 30 then (some (0, 1)) else (if 0 ≤ (wrap64 ((mn a1 (l0.length : Int)) - 1)) then (if (wrap64 ((mn a1 (l0.length : Int)) - 1)) < (l0.length : Int) then ((qQf.f k (rd l0 (wrap64 ((mn a1 (l0.length : Int)) - 1))) 3 2 1).bind fun bt406 => (some (bt406.1, bt406.2))) else (none)) else (none)))) else (some (0, 1))) = some (r1, r2) := H
 have A3 := am A30
 clear A30
 by_cases c4 : t404 = true
 ·subst c4
  have H1 : (if a1 < 1 then (some (0, 1)) else (if a1 > 30 then (some (0, 1)) else (if 0 ≤ (wrap64 ((mn a1 (l0.length : Int)) - 1)) then (if (wrap64 ((mn a1 (l0.length : Int)) - 1)) < (l0.length : Int) then ((qQf.f k (rd l0 (wrap64 ((mn a1 (l0.length : Int)) - 1))) 3 2 1).bind fun bt406 => (some (bt406.1, bt406.2))) else (none)) else (none)))) = some (r1, r2) := by rw [if_pos rfl] at H; exact H
  clear H
  have H := H1
  clear H1
  by_cases c5 : a1 < 1
  ·rw [if_pos c5] at H
   have c5b0 : decide (a1 < 1) = true := decide_eq_true c5
   clear c5
   simp only [Option.some.injEq, Prod.mk.injEq] at H
   obtain ⟨rfl, rfl⟩ := H
   go_enter Tryz.func63, Tryz.ntmps63
   go_wp2_with (first | ((with_reducible refine qQh (f := 31) rfl ?_); refine goesL_ (some 7) rfl rfl Tryz.func31 (by kernel_rfl) rfl #[.slice A0 l0.length c0] rfl ml ?_; (with_reducible refine (qZb.calls k _ _ l0 true _ ?side1 ?side2 A3.out).mono ?_); (case side1 => exact cq (HR0.out)); (case side2 => exact HC0.out); rintro e w' ⟨rfl, ⟨nd, rfl⟩⟩; refine ⟨_, rfl, ?_⟩))
   go_ret2
   exact ⟨er, by exact h0q HB.out⟩
  ·rw [if_neg c5] at H
   have c5b0 : decide (a1 < 1) = false := decide_eq_false c5
   clear c5
   by_cases c6 : a1 > 30
   ·rw [if_pos c6] at H
    have c6b0 : decide (30 < a1) = true := decide_eq_true c6
    clear c6
    simp only [Option.some.injEq, Prod.mk.injEq] at H
    obtain ⟨rfl, rfl⟩ := H
    go_enter Tryz.func63, Tryz.ntmps63
    go_wp2_with (first | ((with_reducible refine qQh (f := 31) rfl ?_); refine goesL_ (some 7) rfl rfl Tryz.func31 (by kernel_rfl) rfl #[.slice A0 l0.length c0] rfl ml ?_; (with_reducible refine (qZb.calls k _ _ l0 true _ ?side1 ?side2 A3.out).mono ?_); (case side1 => exact cq (HR0.out)); (case side2 => exact HC0.out); rintro e w' ⟨rfl, ⟨nd, rfl⟩⟩; refine ⟨_, rfl, ?_⟩))
    go_ret2
    exact ⟨er, by exact h0q HB.out⟩
   ·rw [if_neg c6] at H
    have c6b0 : decide (30 < a1) = false := decide_eq_false c6
    clear c6
    obtain ⟨ji7, hji7⟩ : ∃ j_ : Int, (mn a1 (l0.length : Int)) = j_ := ⟨_, rfl⟩
    replace H : (if 0 ≤ (wrap64 ((ji7) - 1)) then (if (wrap64 ((ji7) - 1)) < (l0.length : Int) then ((qQf.f k (rd l0 (wrap64 ((ji7) - 1))) 3 2 1).bind fun bt406 => (some (bt406.1, bt406.2))) else (none)) else (none)) = some (r1, r2) := by first | (rw [hji7] at H; exact H) | (simp only [hji7] at H ⊢; exact H)
    (try rw [hji7] at A3)
    have hji7_ : (if (l0.length : Int) < a1 then (l0.length : Int) else a1) = ji7 := hji7
    obtain ⟨ji8, hji8⟩ : ∃ j_ : Int, (wrap64 ((ji7) - 1)) = j_ := ⟨_, rfl⟩
    replace H : (if 0 ≤ (ji8) then (if (ji8) < (l0.length : Int) then ((qQf.f k (rd l0 (ji8)) 3 2 1).bind fun bt406 => (some (bt406.1, bt406.2))) else (none)) else (none)) = some (r1, r2) := by first | (rw [hji8] at H; exact H) | (simp only [hji8] at H ⊢; exact H)
    (try rw [hji8] at A3)
    have hji8w : (IntKind.i64.wrap ((ji7) - 1)) = ji8 := (i64_w _).trans hji8
    by_cases c9 : 0 ≤ (ji8)
    ·rw [if_pos c9] at H
     have c9b0 : decide (0 ≤ (ji8)) = true := decide_eq_true c9
     clear c9
     by_cases c10 : (ji8) < (l0.length : Int)
     ·rw [if_pos c10] at H
      have c10b0 : decide ((ji8) < (l0.length : Int)) = true := decide_eq_true c10
      clear c10
      replace H := Option.bind_eq_some_iff.mp H
      obtain ⟨⟨t406, t407⟩, A110, H⟩ := H
      replace H : (some (t406, t407)) = some (r1, r2) := H
      have A11 := am A110
      clear A110
      simp only [Option.some.injEq, Prod.mk.injEq] at H
      obtain ⟨rfl, rfl⟩ := H
      go_enter Tryz.func63, Tryz.ntmps63
      go_wp2_with (first | ((with_reducible refine qQh (f := 31) rfl ?_); refine goesL_ (some 7) rfl rfl Tryz.func31 (by kernel_rfl) rfl #[.slice A0 l0.length c0] rfl ml ?_; (with_reducible refine (qZb.calls k _ _ l0 true _ ?side1 ?side2 A3.out).mono ?_); (case side1 => exact cq (HR0.out)); (case side2 => exact HC0.out); rintro e w' ⟨rfl, ⟨nd, rfl⟩⟩; refine ⟨_, rfl, ?_⟩; have p405 : 0 ≤ ((ji8) : Int) := yd; have q405 : (ji8) < (l0.length : Int) := yd; obtain ⟨ad405, e405, hx405_0⟩ := Kd.qZx HR0.out (ji8) p405 q405; cases e405; replace p405 := eq_true p405; replace q405 := eq_true q405) | ((with_reducible refine qQh (f := 43) rfl ?_); refine goesL_ (some 25) rfl rfl Tryz.func43 (by kernel_rfl) rfl #[.int .i64 (rd l0 (ji8)), .int .i64 3, .int .i64 2, .int .i64 1] rfl (by (try simp only [List.map_toArray, List.map_cons, List.map_nil]); first | done | (simp only [hji8]; rfl) | rfl | (simp only [List.length_drop, List.length_take]; rfl)) ?_; (with_reducible refine (qQf.calls k (rd l0 (ji8)) 3 2 1 t406 t407 _ A11.out).mono ?_); rintro e w12 ⟨rfl, hb⟩; refine ⟨_, rfl, ?_⟩; have n0_ := am (qQb (by exact h0q HB.out) hb); clear HB; have HB := n0_; clear n0_; (try clear hb); (try clear hb2); (try clear hk); (try clear hi)))
      go_ret2
      exact ⟨by first | rfl | (simp [qQq, qQr] <;> rfl) | (simp only [← hji7, ← hji8]; first | rfl | (simp [qQq, qQr] <;> rfl)) | (simp [*, qQq, qQr] <;> rfl), by exact h0q HB.out⟩
     ·rw [if_neg c10] at H
      exact absurd H (by simp)
    ·rw [if_neg c9] at H
     exact absurd H (by simp)
 ·replace c4 := Bool.eq_false_iff.mpr c4
  subst c4
  have H1 : (some (0, 1)) = some (r1, r2) := by rw [if_neg (show ¬ (false = true) by decide)] at H; exact H
  clear H
  have H := H1
  clear H1
  simp only [Option.some.injEq, Prod.mk.injEq] at H
  obtain ⟨rfl, rfl⟩ := H
  go_enter Tryz.func63, Tryz.ntmps63
  go_wp2_with (first | ((with_reducible refine qQh (f := 31) rfl ?_); refine goesL_ (some 7) rfl rfl Tryz.func31 (by kernel_rfl) rfl #[.slice A0 l0.length c0] rfl ml ?_; (with_reducible refine (qZb.calls k _ _ l0 false _ ?side1 ?side2 A3.out).mono ?_); (case side1 => exact cq (HR0.out)); (case side2 => exact HC0.out); rintro e w' ⟨rfl, ⟨nd, rfl⟩⟩; refine ⟨_, rfl, ?_⟩))
  go_ret2
  exact ⟨er, by exact h0q HB.out⟩
def qYn.f (k : Nat) (l0 : List Int) (a1 : Int) (a2 : Int) : Option (Int × Int) := (qZ9.f k l0 a1).bind fun bt408 => (if bt408.2 = 0 then (if a2 < 0 then (some (0, 1)) else (if a2 > 1000000000 then (some (0, 1)) else (some (mx 0 (wrap64 (a2 - bt408.1)), 0)))) else (some (0, 1)))
set_option maxHeartbeats 8000000 in
set_option maxRecDepth 100000 in
theorem qYn.calls (k : Nat) (A0 : Option Addr) (c0 : Nat) (l0 : List Int) (a1 : Int) (a2 : Int) (r1 : Int) (r2 : Int) (w : World) (hr0 : Kd.C (Kd.int .i64) w A0 l0.length l0) (hc0 : l0.length ≤ c0) (h : qYn.f k l0 a1 a2 = some (r1, r2)) :
  Calls Tryz.prog 42 #[.slice A0 l0.length c0, .int .i64 a1, .int .i64 a2] w fun e w' => e = .returned (.tuple #[.int .i64 r1, .int .i64 r2]) ∧ Below w.heap.size w w' := by
 have HR0 := am hr0
 have HC0 := am hc0
 clear hr0 hc0
 have HB := am (Below.refl w.heap.size w)
 have H : ((qZ9.f k l0 a1).bind fun bt408 => (if bt408.2 = 0 then (if a2 < 0 then (some (0, 1)) else (if a2 > 1000000000 then (some (0, 1)) else (some (mx 0 (wrap64 (a2 - bt408.1)), 0)))) else (some (0, 1)))) = some (r1, r2) := h
 clear h
 replace H := Option.bind_eq_some_iff.mp H
 obtain ⟨⟨t408, t409⟩, A40, H⟩ := H
 replace H : (if t409 = 0 then (if a2 < 0 then (some (0, 1)) else (if a2 > 1000000000 then (some (0, 1)) else (some (mx 0 (wrap64 (a2 - t408)), 0)))) else (some (0, 1))) = some (r1, r2) := H
 have A4 := am A40
 clear A40
 by_cases c5 : t409 = 0
 ·rw [if_pos c5] at H
  have c5b0 : (t409 == 0) = true := beq_iff_eq.mpr c5
  have c5b1 : (t409 != 0) = false := bne_eq_false_iff_eq.mpr c5
  clear c5
  by_cases c6 : a2 < 0
  ·rw [if_pos c6] at H
   have c6b0 : decide (a2 < 0) = true := decide_eq_true c6
   clear c6
   simp only [Option.some.injEq, Prod.mk.injEq] at H
   obtain ⟨rfl, rfl⟩ := H
   go_enter Tryz.func42, Tryz.ntmps42
   go_wp2_with (first | ((with_reducible refine qQh (f := 63) rfl ?_); refine goesL_ (some 13) rfl rfl Tryz.func63 (by kernel_rfl) rfl #[.slice A0 l0.length c0, .int .i64 a1] rfl ml ?_; (with_reducible refine (qZ9.calls k _ _ l0 a1 t408 t409 _ ?side1 ?side2 A4.out).mono ?_); (case side1 => exact cq (HR0.out)); (case side2 => exact HC0.out); rintro e w7 ⟨rfl, hb⟩; refine ⟨_, rfl, ?_⟩; have n0_ := am (qQb (by exact h0q HB.out) hb); clear HB; have HB := n0_; clear n0_; (try clear hb); (try clear hb2); (try clear hk); (try clear hi)))
   go_ret2
   exact ⟨er, by exact h0q HB.out⟩
  ·rw [if_neg c6] at H
   have c6b0 : decide (a2 < 0) = false := decide_eq_false c6
   clear c6
   by_cases c8 : a2 > 1000000000
   ·rw [if_pos c8] at H
    have c8b0 : decide (1000000000 < a2) = true := decide_eq_true c8
    clear c8
    simp only [Option.some.injEq, Prod.mk.injEq] at H
    obtain ⟨rfl, rfl⟩ := H
    go_enter Tryz.func42, Tryz.ntmps42
    go_wp2_with (first | ((with_reducible refine qQh (f := 63) rfl ?_); refine goesL_ (some 13) rfl rfl Tryz.func63 (by kernel_rfl) rfl #[.slice A0 l0.length c0, .int .i64 a1] rfl ml ?_; (with_reducible refine (qZ9.calls k _ _ l0 a1 t408 t409 _ ?side1 ?side2 A4.out).mono ?_); (case side1 => exact cq (HR0.out)); (case side2 => exact HC0.out); rintro e w9 ⟨rfl, hb⟩; refine ⟨_, rfl, ?_⟩; have n0_ := am (qQb (by exact h0q HB.out) hb); clear HB; have HB := n0_; clear n0_; (try clear hb); (try clear hb2); (try clear hk); (try clear hi)))
    go_ret2
    exact ⟨er, by exact h0q HB.out⟩
   ·rw [if_neg c8] at H
    have c8b0 : decide (1000000000 < a2) = false := decide_eq_false c8
    clear c8
    obtain ⟨ji10, hji10⟩ : ∃ j_ : Int, (mx 0 (wrap64 (a2 - t408))) = j_ := ⟨_, rfl⟩
    replace H : (some (ji10, 0)) = some (r1, r2) := by first | (rw [hji10] at H; exact H) | (simp only [hji10] at H ⊢; exact H)
    (try rw [hji10] at A4)
    (try (have hji10l : 0 ≤ ji10 := by (rw [← hji10]; unfold mx; (repeat' split) <;> omega)))
    (try (have hji10m : 0 ≤ ji10 := by omega))
    have hji10_ : (if 0 < (wrap64 (a2 - t408)) then (wrap64 (a2 - t408)) else 0) = ji10 := hji10
    simp only [Option.some.injEq, Prod.mk.injEq] at H
    obtain ⟨rfl, rfl⟩ := H
    go_enter Tryz.func42, Tryz.ntmps42
    go_wp2_with (first | ((with_reducible refine qQh (f := 63) rfl ?_); refine goesL_ (some 13) rfl rfl Tryz.func63 (by kernel_rfl) rfl #[.slice A0 l0.length c0, .int .i64 a1] rfl ml ?_; (with_reducible refine (qZ9.calls k _ _ l0 a1 t408 t409 _ ?side1 ?side2 A4.out).mono ?_); (case side1 => exact cq (HR0.out)); (case side2 => exact HC0.out); rintro e w11 ⟨rfl, hb⟩; refine ⟨_, rfl, ?_⟩; have n0_ := am (qQb (by exact h0q HB.out) hb); clear HB; have HB := n0_; clear n0_; (try clear hb); (try clear hb2); (try clear hk); (try clear hi)))
    go_ret2
    exact ⟨by first | rfl | (simp [qQq, qQr] <;> rfl) | (simp only [← hji10]; first | rfl | (simp [qQq, qQr] <;> rfl)) | (simp [*, qQq, qQr] <;> rfl), by exact h0q HB.out⟩
 ·rw [if_neg c5] at H
  have c5b0 : (t409 == 0) = false := beq_eq_false_iff_ne.mpr c5
  have c5b1 : (t409 != 0) = true := bne_iff_ne.mpr c5
  simp only [Option.some.injEq, Prod.mk.injEq] at H
  obtain ⟨rfl, rfl⟩ := H
  go_enter Tryz.func42, Tryz.ntmps42
  go_wp2_with (first | ((with_reducible refine qQh (f := 63) rfl ?_); refine goesL_ (some 13) rfl rfl Tryz.func63 (by kernel_rfl) rfl #[.slice A0 l0.length c0, .int .i64 a1] rfl ml ?_; (with_reducible refine (qZ9.calls k _ _ l0 a1 t408 t409 _ ?side1 ?side2 A4.out).mono ?_); (case side1 => exact cq (HR0.out)); (case side2 => exact HC0.out); rintro e w12 ⟨rfl, hb⟩; refine ⟨_, rfl, ?_⟩; have n0_ := am (qQb (by exact h0q HB.out) hb); clear HB; have HB := n0_; clear n0_; (try clear hb); (try clear hb2); (try clear hk); (try clear hi)))
  go_ret2
  exact ⟨er, by exact h0q HB.out⟩
def qZ7.f (k : Nat) (l0 : List Int) (a1 : Int) (a2 : Int) : Option (Int × Int) := (qYn.f k l0 a1 a2).bind fun bt410 => (if bt410.2 = 0 then ((qQf.f k bt410.1 1 120 2).bind fun bt412 => (some (bt412.1, bt412.2))) else (some (0, bt410.2)))
set_option maxHeartbeats 8000000 in
set_option maxRecDepth 100000 in
theorem qZ7.calls (k : Nat) (A0 : Option Addr) (c0 : Nat) (l0 : List Int) (a1 : Int) (a2 : Int) (r1 : Int) (r2 : Int) (w : World) (hr0 : Kd.C (Kd.int .i64) w A0 l0.length l0) (hc0 : l0.length ≤ c0) (h : qZ7.f k l0 a1 a2 = some (r1, r2)) :
  Calls Tryz.prog 16 #[.slice A0 l0.length c0, .int .i64 a1, .int .i64 a2] w fun e w' => e = .returned (.tuple #[.int .i64 r1, .int .i64 r2]) ∧ Below w.heap.size w w' := by
 have HR0 := am hr0
 have HC0 := am hc0
 clear hr0 hc0
 have HB := am (Below.refl w.heap.size w)
 have H : ((qYn.f k l0 a1 a2).bind fun bt410 => (if bt410.2 = 0 then ((qQf.f k bt410.1 1 120 2).bind fun bt412 => (some (bt412.1, bt412.2))) else (some (0, bt410.2)))) = some (r1, r2) := h
 clear h
 replace H := Option.bind_eq_some_iff.mp H
 obtain ⟨⟨t410, t411⟩, A40, H⟩ := H
 replace H : (if t411 = 0 then ((qQf.f k t410 1 120 2).bind fun bt412 => (some (bt412.1, bt412.2))) else (some (0, t411))) = some (r1, r2) := H
 have A4 := am A40
 clear A40
 by_cases c5 : t411 = 0
 ·rw [if_pos c5] at H
  have c5b0 : (t411 == 0) = true := beq_iff_eq.mpr c5
  have c5b1 : (t411 != 0) = false := bne_eq_false_iff_eq.mpr c5
  clear c5
  replace H := Option.bind_eq_some_iff.mp H
  obtain ⟨⟨t412, t413⟩, A60, H⟩ := H
  replace H : (some (t412, t413)) = some (r1, r2) := H
  have A6 := am A60
  clear A60
  simp only [Option.some.injEq, Prod.mk.injEq] at H
  obtain ⟨rfl, rfl⟩ := H
  go_enter Tryz.func16, Tryz.ntmps16
  go_wp2_with (first | ((with_reducible refine qQh (f := 42) rfl ?_); refine goesL_ (some 14) rfl rfl Tryz.func42 (by kernel_rfl) rfl #[.slice A0 l0.length c0, .int .i64 a1, .int .i64 a2] rfl ml ?_; (with_reducible refine (qYn.calls k _ _ l0 a1 a2 t410 t411 _ ?side1 ?side2 A4.out).mono ?_); (case side1 => exact cq (HR0.out)); (case side2 => exact HC0.out); rintro e w7 ⟨rfl, hb⟩; refine ⟨_, rfl, ?_⟩; have n0_ := am (qQb (by exact h0q HB.out) hb); clear HB; have HB := n0_; clear n0_; (try clear hb); (try clear hb2); (try clear hk); (try clear hi)) | ((with_reducible refine qQh (f := 43) rfl ?_); refine goesL_ (some 21) rfl rfl Tryz.func43 (by kernel_rfl) rfl #[.int .i64 t410, .int .i64 1, .int .i64 120, .int .i64 2] rfl ml ?_; (with_reducible refine (qQf.calls k t410 1 120 2 t412 t413 _ A6.out).mono ?_); rintro e w8 ⟨rfl, hb⟩; refine ⟨_, rfl, ?_⟩; have n0_ := am (qQb (by exact h0q HB.out) hb); clear HB; have HB := n0_; clear n0_; (try clear hb); (try clear hb2); (try clear hk); (try clear hi)))
  go_ret2
  exact ⟨er, by exact h0q HB.out⟩
 ·rw [if_neg c5] at H
  have c5b0 : (t411 == 0) = false := beq_eq_false_iff_ne.mpr c5
  have c5b1 : (t411 != 0) = true := bne_iff_ne.mpr c5
  simp only [Option.some.injEq, Prod.mk.injEq] at H
  obtain ⟨rfl, rfl⟩ := H
  go_enter Tryz.func16, Tryz.ntmps16
  go_wp2_with (first | ((with_reducible refine qQh (f := 42) rfl ?_); refine goesL_ (some 14) rfl rfl Tryz.func42 (by kernel_rfl) rfl #[.slice A0 l0.length c0, .int .i64 a1, .int .i64 a2] rfl ml ?_; (with_reducible refine (qYn.calls k _ _ l0 a1 a2 t410 t411 _ ?side1 ?side2 A4.out).mono ?_); (case side1 => exact cq (HR0.out)); (case side2 => exact HC0.out); rintro e w9 ⟨rfl, hb⟩; refine ⟨_, rfl, ?_⟩; have n0_ := am (qQb (by exact h0q HB.out) hb); clear HB; have HB := n0_; clear n0_; (try clear hb); (try clear hb2); (try clear hk); (try clear hi)))
  go_ret2
  exact ⟨er, by exact h0q HB.out⟩
-- NOT PRINTED: function 54 (annuityref02_Split)
def qZc.l0 : Nat → List Int → List Int → Int → Option (Bool)
 | 0, _, _, _ => none
 | k + 1, x0, x1, x5 => if x5 < (x0.length : Int) then (if 0 ≤ x5 then (if x5 < (x1.length : Int) then (if (rd x0 x5) = (rd x1 x5) then (qZc.l0 k x0 x1 (wrap64 (x5 + 1))) else (some false)) else (none)) else (none)) else (some true)
def qZc.f (k : Nat) (l0 : List Int) (l1 : List Int) : Option (Bool) := if (l0.length : Int) = (l1.length : Int) then (qZc.l0 k l0 l1 0) else (some false)
set_option maxHeartbeats 8000000 in
set_option maxRecDepth 100000 in
theorem qZc.calls (k : Nat) (A0 : Option Addr) (c0 : Nat) (l0 : List Int) (A1 : Option Addr) (c1 : Nat) (l1 : List Int) (r : Bool) (w : World) (hr0 : Kd.C (Kd.int .i64) w A0 l0.length l0) (hc0 : l0.length ≤ c0) (hr1 : Kd.C (Kd.int .i64) w A1 l1.length l1) (hc1 : l1.length ≤ c1) (h : qZc.f k l0 l1 = some r) :
  Calls Tryz.prog 10 #[.slice A0 l0.length c0, .slice A1 l1.length c1] w fun e w' => e = .returned (.bool r) ∧ Drawn0 w w' := by
 have HR0 := am hr0
 have HC0 := am hc0
 clear hr0 hc0
 have HR1 := am hr1
 have HC1 := am hc1
 clear hr1 hc1
 have H : (if (l0.length : Int) = (l1.length : Int) then (qZc.l0 k l0 l1 0) else (some false)) = some r := h
 clear h
 by_cases c3 : (l0.length : Int) = (l1.length : Int)
 ·rw [if_pos c3] at H
  have c3b0 : ((l0.length : Int) == (l1.length : Int)) = true := beq_iff_eq.mpr c3
  have c3b1 : ((l0.length : Int) != (l1.length : Int)) = false := bne_eq_false_iff_eq.mpr c3
  have c3b2 : (l0.length == l1.length) = true := by first | simpa using c3 | (simp at c3 ⊢; omega)
  clear c3
  have H' := am H
  clear H
  go_enter Tryz.func10, Tryz.ntmps10
  go_wp2
  repeat (go_quiet (fail); try go_wp2)
  go_loopg [5] k (fun kq v5 w' => ∃ (x5_1 : Int), v5 = .int .i64 x5_1 ∧ Aside0 (qZc.l0 kq l0 l1 x5_1 = some r) ∧ Aside0 (kq ≤ k) ∧ Drawn0 w w')
  case atStart => exact ⟨(0), (by first | rfl | (simp [i64_w, i32_w, qQq, qQr]; done) | (simp; done) | (simp [*]; done)), H', ⟨Nat.le_refl _⟩, by repeat (first | exact Drawn0.refl _ | apply Drawn0.step)⟩
  case round =>
   clear H'
   try clear c1
   try clear c3
   try clear c3b0 c3b1
   try clear c3b2
   obtain ⟨x5_1, rfl, HA, HK1, ⟨m1, rfl⟩⟩ := hrel
   rcases gk with _ | k1
   ·exact absurd HA.out (by simp [qZc.l0])
   have H := HA.out
   clear HA
   simp only [qZc.l0] at H
   by_cases c4 : x5_1 < (l0.length : Int)
   ·rw [if_pos c4] at H
    have c4b0 : decide (x5_1 < (l0.length : Int)) = true := decide_eq_true c4
    clear c4
    by_cases c5 : 0 ≤ x5_1
    ·rw [if_pos c5] at H
     have c5b0 : decide (0 ≤ x5_1) = true := decide_eq_true c5
     clear c5
     by_cases c6 : x5_1 < (l1.length : Int)
     ·rw [if_pos c6] at H
      have c6b0 : decide (x5_1 < (l1.length : Int)) = true := decide_eq_true c6
      clear c6
      by_cases c7 : (rd l0 x5_1) = (rd l1 x5_1)
      ·rw [if_pos c7] at H
       have c7b0 : ((rd l0 x5_1) == (rd l1 x5_1)) = true := beq_iff_eq.mpr c7
       have c7b1 : ((rd l0 x5_1) != (rd l1 x5_1)) = false := bne_eq_false_iff_eq.mpr c7
       clear c7
       have H' := am H
       clear H
       have p272 : 0 ≤ (x5_1 : Int) := yd
       have q272 : x5_1 < (l0.length : Int) := yd
       obtain ⟨ad272, e272, hx272_0⟩ := Kd.qZx HR0.out x5_1 p272 q272
       cases e272
       replace p272 := eq_true p272
       replace q272 := eq_true q272
       have p273 : 0 ≤ (x5_1 : Int) := yd
       have q273 : x5_1 < (l1.length : Int) := yd
       obtain ⟨ad273, e273, hx273_0⟩ := Kd.qZx HR1.out x5_1 p273 q273
       cases e273
       replace p273 := eq_true p273
       replace q273 := eq_true q273
       go_wp2
       repeat (go_quiet (fail); try go_wp2)
       go_roundg k1
       case measure => have := HK1.out; omega
       case rel => exact ⟨(wrap64 (x5_1 + 1)), (by first | rfl | (simp [i64_w, i32_w, qQq, qQr]; done) | (simp; done) | (simp [*]; done)), H', ⟨by have := HK1.out; omega⟩, by repeat (first | exact Drawn0.refl _ | apply Drawn0.step)⟩
      ·rw [if_neg c7] at H
       have c7b0 : ((rd l0 x5_1) == (rd l1 x5_1)) = false := beq_eq_false_iff_ne.mpr c7
       have c7b1 : ((rd l0 x5_1) != (rd l1 x5_1)) = true := bne_iff_ne.mpr c7
       obtain rfl := Option.some.inj H
       have p272 : 0 ≤ (x5_1 : Int) := yd
       have q272 : x5_1 < (l0.length : Int) := yd
       obtain ⟨ad272, e272, hx272_0⟩ := Kd.qZx HR0.out x5_1 p272 q272
       cases e272
       replace p272 := eq_true p272
       replace q272 := eq_true q272
       have p273 : 0 ≤ (x5_1 : Int) := yd
       have q273 : x5_1 < (l1.length : Int) := yd
       obtain ⟨ad273, e273, hx273_0⟩ := Kd.qZx HR1.out x5_1 p273 q273
       cases e273
       replace p273 := eq_true p273
       replace q273 := eq_true q273
       go_wp2
       repeat (go_quiet (fail); try go_wp2)
       go_ret
       exact ⟨by first | rfl | (simp [i64_w, i32_w, qQq, qQr]; done) | (simp; done) | (simp [*]; done), by repeat (first | exact Drawn0.refl _ | apply Drawn0.step)⟩
     ·rw [if_neg c6] at H
      exact absurd H (by simp)
    ·rw [if_neg c5] at H
     exact absurd H (by simp)
   ·rw [if_neg c4] at H
    have c4b0 : decide (x5_1 < (l0.length : Int)) = false := decide_eq_false c4
    clear c4
    obtain rfl := Option.some.inj H
    go_wp2
    repeat (go_quiet (fail); try go_wp2)
    go_ret
    exact ⟨by first | rfl | (simp [i64_w, i32_w, qQq, qQr]; done) | (simp; done) | (simp [*]; done), by repeat (first | exact Drawn0.refl _ | apply Drawn0.step)⟩
 ·rw [if_neg c3] at H
  have c3b0 : ((l0.length : Int) == (l1.length : Int)) = false := beq_eq_false_iff_ne.mpr c3
  have c3b1 : ((l0.length : Int) != (l1.length : Int)) = true := bne_iff_ne.mpr c3
  have c3b2 : (l0.length == l1.length) = false := by first | simpa using c3 | (simp at c3 ⊢; omega)
  obtain rfl := Option.some.inj H
  go_enter Tryz.func10, Tryz.ntmps10
  go_wp2
  repeat (go_quiet (fail); try go_wp2)
  go_ret
  exact ⟨by first | rfl | (simp [i64_w, i32_w, qQq, qQr]; done) | (simp; done) | (simp [*]; done), by repeat (first | exact Drawn0.refl _ | apply Drawn0.step)⟩
def qQ7.l0 : Nat → List Int → List Int → Int → Option (Bool)
 | 0, _, _, _ => none
 | k + 1, x0, x1, x5 => if x5 < (x0.length : Int) then (if 0 ≤ x5 then (if x5 < (x1.length : Int) then (if (rd x0 x5) = (rd x1 x5) then (qQ7.l0 k x0 x1 (wrap64 (x5 + 1))) else (some false)) else (none)) else (none)) else (some true)
def qQ7.f (k : Nat) (l0 : List Int) (l1 : List Int) : Option (Bool) := if (l0.length : Int) = (l1.length : Int) then (qQ7.l0 k l0 l1 0) else (some false)
set_option maxHeartbeats 8000000 in
set_option maxRecDepth 100000 in
theorem qQ7.calls (k : Nat) (A0 : Option Addr) (c0 : Nat) (l0 : List Int) (A1 : Option Addr) (c1 : Nat) (l1 : List Int) (r : Bool) (w : World) (hr0 : Kd.C (Kd.int .i64) w A0 l0.length l0) (hc0 : l0.length ≤ c0) (hr1 : Kd.C (Kd.int .i64) w A1 l1.length l1) (hc1 : l1.length ≤ c1) (h : qQ7.f k l0 l1 = some r) :
  Calls Tryz.prog 11 #[.slice A0 l0.length c0, .slice A1 l1.length c1] w fun e w' => e = .returned (.bool r) ∧ Drawn0 w w' := by
 have HR0 := am hr0
 have HC0 := am hc0
 clear hr0 hc0
 have HR1 := am hr1
 have HC1 := am hc1
 clear hr1 hc1
 have H : (if (l0.length : Int) = (l1.length : Int) then (qQ7.l0 k l0 l1 0) else (some false)) = some r := h
 clear h
 by_cases c3 : (l0.length : Int) = (l1.length : Int)
 ·rw [if_pos c3] at H
  have c3b0 : ((l0.length : Int) == (l1.length : Int)) = true := beq_iff_eq.mpr c3
  have c3b1 : ((l0.length : Int) != (l1.length : Int)) = false := bne_eq_false_iff_eq.mpr c3
  have c3b2 : (l0.length == l1.length) = true := by first | simpa using c3 | (simp at c3 ⊢; omega)
  clear c3
  have H' := am H
  clear H
  go_enter Tryz.func11, Tryz.ntmps11
  go_wp2
  repeat (go_quiet (fail); try go_wp2)
  go_loopg [5] k (fun kq v5 w' => ∃ (x5_1 : Int), v5 = .int .i64 x5_1 ∧ Aside0 (qQ7.l0 kq l0 l1 x5_1 = some r) ∧ Aside0 (kq ≤ k) ∧ Drawn0 w w')
  case atStart => exact ⟨(0), (by first | rfl | (simp [i64_w, i32_w, qQq, qQr]; done) | (simp; done) | (simp [*]; done)), H', ⟨Nat.le_refl _⟩, by repeat (first | exact Drawn0.refl _ | apply Drawn0.step)⟩
  case round =>
   clear H'
   try clear c1
   try clear c3
   try clear c3b0 c3b1
   try clear c3b2
   obtain ⟨x5_1, rfl, HA, HK1, ⟨m1, rfl⟩⟩ := hrel
   rcases gk with _ | k1
   ·exact absurd HA.out (by simp [qQ7.l0])
   have H := HA.out
   clear HA
   simp only [qQ7.l0] at H
   by_cases c4 : x5_1 < (l0.length : Int)
   ·rw [if_pos c4] at H
    have c4b0 : decide (x5_1 < (l0.length : Int)) = true := decide_eq_true c4
    clear c4
    by_cases c5 : 0 ≤ x5_1
    ·rw [if_pos c5] at H
     have c5b0 : decide (0 ≤ x5_1) = true := decide_eq_true c5
     clear c5
     by_cases c6 : x5_1 < (l1.length : Int)
     ·rw [if_pos c6] at H
      have c6b0 : decide (x5_1 < (l1.length : Int)) = true := decide_eq_true c6
      clear c6
      by_cases c7 : (rd l0 x5_1) = (rd l1 x5_1)
      ·rw [if_pos c7] at H
       have c7b0 : ((rd l0 x5_1) == (rd l1 x5_1)) = true := beq_iff_eq.mpr c7
       have c7b1 : ((rd l0 x5_1) != (rd l1 x5_1)) = false := bne_eq_false_iff_eq.mpr c7
       clear c7
       have H' := am H
       clear H
       have p274 : 0 ≤ (x5_1 : Int) := yd
       have q274 : x5_1 < (l0.length : Int) := yd
       obtain ⟨ad274, e274, hx274_0⟩ := Kd.qZx HR0.out x5_1 p274 q274
       cases e274
       replace p274 := eq_true p274
       replace q274 := eq_true q274
       have p275 : 0 ≤ (x5_1 : Int) := yd
       have q275 : x5_1 < (l1.length : Int) := yd
       obtain ⟨ad275, e275, hx275_0⟩ := Kd.qZx HR1.out x5_1 p275 q275
       cases e275
       replace p275 := eq_true p275
       replace q275 := eq_true q275
       go_wp2
       repeat (go_quiet (fail); try go_wp2)
       go_roundg k1
       case measure => have := HK1.out; omega
       case rel => exact ⟨(wrap64 (x5_1 + 1)), (by first | rfl | (simp [i64_w, i32_w, qQq, qQr]; done) | (simp; done) | (simp [*]; done)), H', ⟨by have := HK1.out; omega⟩, by repeat (first | exact Drawn0.refl _ | apply Drawn0.step)⟩
      ·rw [if_neg c7] at H
       have c7b0 : ((rd l0 x5_1) == (rd l1 x5_1)) = false := beq_eq_false_iff_ne.mpr c7
       have c7b1 : ((rd l0 x5_1) != (rd l1 x5_1)) = true := bne_iff_ne.mpr c7
       obtain rfl := Option.some.inj H
       have p274 : 0 ≤ (x5_1 : Int) := yd
       have q274 : x5_1 < (l0.length : Int) := yd
       obtain ⟨ad274, e274, hx274_0⟩ := Kd.qZx HR0.out x5_1 p274 q274
       cases e274
       replace p274 := eq_true p274
       replace q274 := eq_true q274
       have p275 : 0 ≤ (x5_1 : Int) := yd
       have q275 : x5_1 < (l1.length : Int) := yd
       obtain ⟨ad275, e275, hx275_0⟩ := Kd.qZx HR1.out x5_1 p275 q275
       cases e275
       replace p275 := eq_true p275
       replace q275 := eq_true q275
       go_wp2
       repeat (go_quiet (fail); try go_wp2)
       go_ret
       exact ⟨by first | rfl | (simp [i64_w, i32_w, qQq, qQr]; done) | (simp; done) | (simp [*]; done), by repeat (first | exact Drawn0.refl _ | apply Drawn0.step)⟩
     ·rw [if_neg c6] at H
      exact absurd H (by simp)
    ·rw [if_neg c5] at H
     exact absurd H (by simp)
   ·rw [if_neg c4] at H
    have c4b0 : decide (x5_1 < (l0.length : Int)) = false := decide_eq_false c4
    clear c4
    obtain rfl := Option.some.inj H
    go_wp2
    repeat (go_quiet (fail); try go_wp2)
    go_ret
    exact ⟨by first | rfl | (simp [i64_w, i32_w, qQq, qQr]; done) | (simp; done) | (simp [*]; done), by repeat (first | exact Drawn0.refl _ | apply Drawn0.step)⟩
 ·rw [if_neg c3] at H
  have c3b0 : ((l0.length : Int) == (l1.length : Int)) = false := beq_eq_false_iff_ne.mpr c3
  have c3b1 : ((l0.length : Int) != (l1.length : Int)) = true := bne_iff_ne.mpr c3
  have c3b2 : (l0.length == l1.length) = false := by first | simpa using c3 | (simp at c3 ⊢; omega)
  obtain rfl := Option.some.inj H
  go_enter Tryz.func11, Tryz.ntmps11
  go_wp2
  repeat (go_quiet (fail); try go_wp2)
  go_ret
  exact ⟨by first | rfl | (simp [i64_w, i32_w, qQq, qQr]; done) | (simp; done) | (simp [*]; done), by repeat (first | exact Drawn0.refl _ | apply Drawn0.step)⟩
end Go.Proofs.YtlhcohipnieidaaGreat.P
