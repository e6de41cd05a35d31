/- A part of a proof. -/
import Derived.Test.YteemomncbcpdjaaZaa
import Derived.Test.YteemomncbcpdjaaPx1
namespace Go.Proofs.Yteemomncbcpdjaa.P
open Go.RowKit W.PrintWords W.PrintLast W.PrintMore
attribute [local go_sem] qZs qZq qZ5 qZ6 qZk qZl qZt qZp
set_option linter.unusedVariables false
set_option linter.unusedSimpArgs false
section
variable {P : Program} {ops : Array Oper} {rest : List Oper} {o : Oper} {a : Act} {Q : Exit → Act → World → Prop} {Kc : Act → World → Prop} {α : Type}
theorem qYp {W : World} (hgd : o.guard = none) {N : Tmp} (_hd : o.dst = some N) {cs : Array Value} {t : TypeId}
    (hrun : (execOp a.eval o).run P W = .ok (.value (.pointer (some ⟨W.heap.size, 0, none⟩))) (W.alloc (.cells cs t (0, 0))))
    (h : ∀ g, g = W.heap.size → ∀ w1, w1.heap[g]? = some (.cells cs t (0, 0)) → Below W.heap.size W w1 → w1.drawn = W.drawn → wpList P ops Q rest (a.put o.dst (.pointer (some ⟨g, 0, none⟩))) w1) : wpList P ops Q (o :: rest) a W :=
  Kd.qW7 hgd hrun (h _ rfl _ (qYn W _) (qZ0 (Below.refl _ _) _) rfl)
theorem qJ7 (d : Kd α) {w0 W : World} (base e : Nat) (hw : Region.wanted o (yielded ops a.tmps) = true) {N : Tmp} (hd : o.dst = some N) {xs : List α} {inner : List Value} {ok okp : Nat → Prop}
    (hrun : (execOp a.eval o).run P W = .ok (.value (.slice (some ⟨W.heap.size, 0, none⟩) xs.length xs.length)) (W.alloc (.cells inner.toArray e)))
    (hrep : Reps (d.M W base okp) d.sz xs inner) (hok : ∀ k, okp k → ok k) (hfresh : ok W.heap.size) (HB : Below base w0 W) (hbase : base ≤ W.heap.size) (hm : xs.length ≤ 9223372036854775807)
    (h : ∀ v1 w1, d.R e w1 base ok v1 xs → Below base w0 w1 → W.grownBy w1 none → (∃ b, v1.ownBlock = some b ∧ W.heap.size ≤ b) → w1.drawn = W.drawn → Kc (a.put o.dst v1) w1) : if Region.wanted o (yielded ops a.tmps) = true then Oper.wp P o a W Kc Q else Kc (a.put o.dst undef) W := by
  have T := Kd.qZz (P := P) (Q := Q) (Kc := fun a' w' => ∃ v1, a' = a.put o.dst v1 ∧ d.R e w' base ok v1 xs ∧ Below base w0 w' ∧ W.grownBy w' none ∧ (∃ b, v1.ownBlock = some b ∧ W.heap.size ≤ b)) d base e hw hd hrun hrep hok hfresh HB hbase hm (fun v1 w1 r1 r2 r3 r4 => ⟨v1, rfl, r1, r2, r3, r4⟩)
  rw [if_pos hw] at T ⊢
  unfold Oper.wp at T ⊢
  rw [hrun] at T ⊢
  obtain ⟨v1, e1, r1, r2, r3, r4⟩ := T
  show Kc (a.put o.dst _) (W.alloc _)
  rw [e1]
  exact h v1 _ r1 r2 r3 r4 rfl
end
def qX0.f (a0_0 : Int) (a0_1 : Int) (a0_2 : Int) (a0_3 : Int) (a0_4 : Int) (a0_5 : Int) (a0_6 : Bool) (a0_7 : Int) (a0_8 : Int) (a0_9 : Int) (a0_10 : Int) (a0_11 : Int) (a0_12 : Int) (a1_0 : Int) (a1_1 : Int) (a1_2 : Int) (a1_3 : Int) (a1_4 : Int) (a1_5 : Int) (a1_6 : Bool) (a1_7 : Int) (a1_8 : Int) (a1_9 : Int) (a1_10 : Int) (a1_11 : Int) (a1_12 : Int) : Option (Int) := (cmp_Compare_int.f a0_0 a1_0).bind fun t126 => (some t126)
set_option maxHeartbeats 8000000 in
set_option maxRecDepth 100000 in
theorem qX0.calls (a0_0 : Int) (a0_1 : Int) (a0_2 : Int) (a0_3 : Int) (a0_4 : Int) (a0_5 : Int) (a0_6 : Bool) (a0_7 : Int) (a0_8 : Int) (a0_9 : Int) (a0_10 : Int) (a0_11 : Int) (a0_12 : Int) (a1_0 : Int) (a1_1 : Int) (a1_2 : Int) (a1_3 : Int) (a1_4 : Int) (a1_5 : Int) (a1_6 : Bool) (a1_7 : Int) (a1_8 : Int) (a1_9 : Int) (a1_10 : Int) (a1_11 : Int) (a1_12 : Int) (r : Int) (w : World) (h : qX0.f a0_0 a0_1 a0_2 a0_3 a0_4 a0_5 a0_6 a0_7 a0_8 a0_9 a0_10 a0_11 a0_12 a1_0 a1_1 a1_2 a1_3 a1_4 a1_5 a1_6 a1_7 a1_8 a1_9 a1_10 a1_11 a1_12 = some r) :
    Calls Try.prog 23 #[.agg #[.int .i64 a0_0, .int .i64 a0_1, .int .i64 a0_2, .int .i64 a0_3, .int .i64 a0_4, .int .i64 a0_5, .bool a0_6, .int .i64 a0_7, .int .i64 a0_8, .int .i64 a0_9, .int .i64 a0_10, .int .i64 a0_11, .int .i64 a0_12], .agg #[.int .i64 a1_0, .int .i64 a1_1, .int .i64 a1_2, .int .i64 a1_3, .int .i64 a1_4, .int .i64 a1_5, .bool a1_6, .int .i64 a1_7, .int .i64 a1_8, .int .i64 a1_9, .int .i64 a1_10, .int .i64 a1_11, .int .i64 a1_12]] w fun e w' => e = .returned (.int .i64 r) ∧ Below w.heap.size w w' ∧ w.drawn ≤ w'.drawn := by
  have hu43 := Try.underlying43
  have HB := am (Below.refl w.heap.size w)
  have DR := am (Nat.le_refl w.drawn)
  have H : ((cmp_Compare_int.f a0_0 a1_0).bind fun t126 => (some t126)) = some r := h
  clear h
  replace H := Option.bind_eq_some_iff.mp H
  obtain ⟨t126, A30, H⟩ := H
  replace H : (some t126) = some r := H
  have A3 := am A30
  clear A30
  obtain rfl := Option.some.inj H
  go_enter Try.func23, Try.ntmps23
  go_wp2_with (first | ((with_reducible refine qZj (N := 2) rfl ?_); refine qYp ?hg (N := 2) ?hd (cs := #[.int .i64 a0_0, .int .i64 a0_1, .int .i64 a0_2, .int .i64 a0_3, .int .i64 a0_4, .int .i64 a0_5, .bool a0_6, .int .i64 a0_7, .int .i64 a0_8, .int .i64 a0_9, .int .i64 a0_10, .int .i64 a0_11, .int .i64 a0_12]) (t := 43) ?hr ?_; (case hd => rfl); (case hg => rfl); (case hr => first | (go_simp; done) | (go_simp; rfl)); intro gb124 hg w4 hbox hb hdr; have nd_ := am (Nat.le_trans DR.out (Nat.le_of_eq hdr.symm)); clear DR hdr; have DR := nd_; clear nd_; have n0_ := am (qQn (by exact h0q HB.out) hb); have n1_ := am (hbox); have n2_ := am ((by rw [hg]; exact (qQh (by exact h0q HB.out)) : w.heap.size ≤ gb124)); have n3_ := am ((by rw [hg]; exact (qQh (by exact h0q HB.out)) : w.heap.size ≤ gb124)); clear HB; have HB := n0_; have BK124 := n1_; have GW124 := n2_; have GE124 := n3_; clear n0_ n1_ n2_ n3_; clear hb hbox hg) | ((with_reducible refine qZj (N := 3) rfl ?_); refine qYp ?hg (N := 3) ?hd (cs := #[.int .i64 a1_0, .int .i64 a1_1, .int .i64 a1_2, .int .i64 a1_3, .int .i64 a1_4, .int .i64 a1_5, .bool a1_6, .int .i64 a1_7, .int .i64 a1_8, .int .i64 a1_9, .int .i64 a1_10, .int .i64 a1_11, .int .i64 a1_12]) (t := 43) ?hr ?_; (case hd => rfl); (case hg => rfl); (case hr => first | (go_simp; done) | (go_simp; rfl)); intro gb125 hg w5 hbox hb hdr; have nd_ := am (Nat.le_trans DR.out (Nat.le_of_eq hdr.symm)); clear DR hdr; have DR := nd_; clear nd_; have n0_ := am (qQu (g := gb124) (Up.up BK124.out) hb); have n1_ := am (qQn (by exact h1q HB.out GE124.out) hb); have n2_ := am (hbox); have n3_ := am ((by rw [hg]; exact (qQh (by exact h1q HB.out GE124.out)) : w.heap.size ≤ gb125)); have n4_ := am ((by rw [hg]; exact (qQh (by exact h1q HB.out GE124.out)) : w.heap.size ≤ gb125)); have n5_ := am ((by rw [hg]; exact Nat.ne_of_lt (qZd (g := gb124) (Up.up BK124.out)) : gb124 ≠ gb125)); have n6_ := am ((by rw [hg]; exact Nat.ne_of_gt (qZd (g := gb124) (Up.up BK124.out)) : gb125 ≠ gb124)); clear BK124; clear HB; have BK124 := n0_; have HB := n1_; have BK125 := n2_; have GW125 := n3_; have GE125 := n4_; have NB124_125 := n5_; have NB125_124 := n6_; clear n0_ n1_ n2_ n3_ n4_ n5_ n6_; clear hb hbox hg; have hnb6 := NB124_125.out; have hnc6 := NB125_124.out; have hz7 := lc13 BK124.out; have hz8 := lc13 BK125.out) | ((with_reducible refine qQ4 (f := 24) rfl ?_); refine goesL_ (some 9) rfl rfl Try.func24 (by kernel_rfl) rfl #[.int .i64 a0_0, .int .i64 a1_0] rfl ml ?_; (with_reducible refine (cmp_Compare_int.calls a0_0 a1_0 t126 _ A3.out).mono ?_); rintro e w' ⟨rfl, ⟨nd, rfl⟩⟩; refine ⟨_, rfl, ?_⟩))
  go_ret
  exact ⟨er, by exact h2q HB.out GE124.out GE125.out, Nat.le_trans DR.out (by first | exact Nat.le_refl _ | (simp only [World.drewN, World.drew]; omega))⟩
def qYb.f (k : Nat) (a0_0 : Int) (a0_1 : Int) (a0_2 : Int) (a0_3 : Int) (a0_4 : Int) (a0_5 : Int) (a0_6 : Bool) (a0_7 : Int) (a0_8 : Int) (a0_9 : Int) (a0_10 : Int) (a0_11 : Int) (a0_12 : Int) (a1_0 : Int) (a1_1 : Int) (a1_2 : Int) (a1_3 : Int) (a1_4 : Int) (a1_5 : Int) (a1_6 : Bool) (a1_7 : Int) (a1_8 : Int) (a1_9 : Int) (a1_10 : Int) (a1_11 : Int) (a1_12 : Int) : Option (Int) := (cmp_Compare_int.f a1_5 a0_5).bind fun t106 => ((cmp_Compare_int.f a0_0 a1_0).bind fun t107 => ((qZ2.f k (([t106, t107] : List Int))).bind fun t111 => (some t111)))
def qYb.T1 : Bool × List (List Nat × List Nat) := (true, [([], []), ([0], [0]), ([], []), ([2], [2]), ([1, 3], [1, 3]), ([], []), ([5], [5]), ([], []), ([7], [7]), ([6, 8, 4], [6, 8]), ([4, 9], [4, 9]), ([10, 9], [10]), ([11, 11, 0, 1, 2, 3, 4, 5, 6, 7, 8, 9, 10, 11], [11])])
def qYb.B1 : List Nat := [0, 1, 0, 4, 15, 0, 32, 0, 128, 511, 1023, 2047, 4095]
theorem qYb.tab1 : rtab .any (opsOf Try.f34 1) = qYb.T1 := by kernel_rfl
theorem qYb.bits1 : waitsOk qYb.T1.2 qYb.B1 = true := by kernel_rfl
set_option maxHeartbeats 8000000 in
set_option maxRecDepth 100000 in
theorem qYb.calls (k : Nat) (a0_0 : Int) (a0_1 : Int) (a0_2 : Int) (a0_3 : Int) (a0_4 : Int) (a0_5 : Int) (a0_6 : Bool) (a0_7 : Int) (a0_8 : Int) (a0_9 : Int) (a0_10 : Int) (a0_11 : Int) (a0_12 : Int) (a1_0 : Int) (a1_1 : Int) (a1_2 : Int) (a1_3 : Int) (a1_4 : Int) (a1_5 : Int) (a1_6 : Bool) (a1_7 : Int) (a1_8 : Int) (a1_9 : Int) (a1_10 : Int) (a1_11 : Int) (a1_12 : Int) (r : Int) (w : World) (h : qYb.f k a0_0 a0_1 a0_2 a0_3 a0_4 a0_5 a0_6 a0_7 a0_8 a0_9 a0_10 a0_11 a0_12 a1_0 a1_1 a1_2 a1_3 a1_4 a1_5 a1_6 a1_7 a1_8 a1_9 a1_10 a1_11 a1_12 = some r) :
    Calls Try.prog 34 #[.agg #[.int .i64 a0_0, .int .i64 a0_1, .int .i64 a0_2, .int .i64 a0_3, .int .i64 a0_4, .int .i64 a0_5, .bool a0_6, .int .i64 a0_7, .int .i64 a0_8, .int .i64 a0_9, .int .i64 a0_10, .int .i64 a0_11, .int .i64 a0_12], .agg #[.int .i64 a1_0, .int .i64 a1_1, .int .i64 a1_2, .int .i64 a1_3, .int .i64 a1_4, .int .i64 a1_5, .bool a1_6, .int .i64 a1_7, .int .i64 a1_8, .int .i64 a1_9, .int .i64 a1_10, .int .i64 a1_11, .int .i64 a1_12]] w fun e w' => e = .returned (.int .i64 r) ∧ Below w.heap.size w w' ∧ w.drawn ≤ w'.drawn := by
  have hu43 := Try.underlying43
  have HB := am (Below.refl w.heap.size w)
  have DR := am (Nat.le_refl w.drawn)
  have H : ((cmp_Compare_int.f a1_5 a0_5).bind fun t106 => ((cmp_Compare_int.f a0_0 a1_0).bind fun t107 => ((qZ2.f k (([t106, t107] : List Int))).bind fun t111 => (some t111)))) = some r := h
  clear h
  replace H := Option.bind_eq_some_iff.mp H
  obtain ⟨t106, A30, H⟩ := H
  replace H : ((cmp_Compare_int.f a0_0 a1_0).bind fun t107 => ((qZ2.f k (([t106, t107] : List Int))).bind fun t111 => (some t111))) = some r := H
  have A3 := am A30
  clear A30
  replace H := Option.bind_eq_some_iff.mp H
  obtain ⟨t107, A40, H⟩ := H
  replace H : ((qZ2.f k (([t106, t107] : List Int))).bind fun t111 => (some t111)) = some r := H
  have A4 := am A40
  clear A40
  obtain ⟨y108, hy108⟩ : ∃ y_ : List Int, y_ = (([t106, t107] : List Int)) := ⟨_, rfl⟩
  replace H : ((qZ2.f k y108).bind fun t111 => (some t111)) = some r := by first | (rw [hy108]; with_reducible exact H) | (have H2_ := (Option.bind_some _ _).symm.trans H; rw [hy108]; with_reducible exact H2_) | (have H2_ := (Option.bind_some _ _).symm.trans H; with_reducible exact H2_) | with_reducible exact H | (rw [hy108]; exact H) | exact H
  have Ny108 := am hy108
  clear hy108
  replace H := Option.bind_eq_some_iff.mp H
  obtain ⟨t111, A50, H⟩ := H
  replace H : (some t111) = some r := H
  have A5 := am A50
  clear A50
  obtain rfl := Option.some.inj H
  go_enter Try.func34, Try.ntmps34
  try go_wp2_with (first | ((with_reducible refine qZj (N := 2) rfl ?_); refine qYp ?hg (N := 2) ?hd (cs := #[.int .i64 a0_0, .int .i64 a0_1, .int .i64 a0_2, .int .i64 a0_3, .int .i64 a0_4, .int .i64 a0_5, .bool a0_6, .int .i64 a0_7, .int .i64 a0_8, .int .i64 a0_9, .int .i64 a0_10, .int .i64 a0_11, .int .i64 a0_12]) (t := 43) ?hr ?_; (case hd => rfl); (case hg => rfl); (case hr => first | (go_simp; done) | (go_simp; rfl)); intro gb104 hg w6 hbox hb hdr; have nd_ := am (Nat.le_trans DR.out (Nat.le_of_eq hdr.symm)); clear DR hdr; have DR := nd_; clear nd_; have n0_ := am (qQn (by exact h0q HB.out) hb); have n1_ := am (hbox); have n2_ := am ((by rw [hg]; exact (qQh (by exact h0q HB.out)) : w.heap.size ≤ gb104)); have n3_ := am ((by rw [hg]; exact (qQh (by exact h0q HB.out)) : w.heap.size ≤ gb104)); clear HB; have HB := n0_; have BK104 := n1_; have GW104 := n2_; have GE104 := n3_; clear n0_ n1_ n2_ n3_; clear hb hbox hg) | ((with_reducible refine qZj (N := 3) rfl ?_); refine qYp ?hg (N := 3) ?hd (cs := #[.int .i64 a1_0, .int .i64 a1_1, .int .i64 a1_2, .int .i64 a1_3, .int .i64 a1_4, .int .i64 a1_5, .bool a1_6, .int .i64 a1_7, .int .i64 a1_8, .int .i64 a1_9, .int .i64 a1_10, .int .i64 a1_11, .int .i64 a1_12]) (t := 43) ?hr ?_; (case hd => rfl); (case hg => rfl); (case hr => first | (go_simp; done) | (go_simp; rfl)); intro gb105 hg w7 hbox hb hdr; have nd_ := am (Nat.le_trans DR.out (Nat.le_of_eq hdr.symm)); clear DR hdr; have DR := nd_; clear nd_; have n0_ := am (qQu (g := gb104) (Up.up BK104.out) hb); have n1_ := am (qQn (by exact h1q HB.out GE104.out) hb); have n2_ := am (hbox); have n3_ := am ((by rw [hg]; exact (qQh (by exact h1q HB.out GE104.out)) : w.heap.size ≤ gb105)); have n4_ := am ((by rw [hg]; exact (qQh (by exact h1q HB.out GE104.out)) : w.heap.size ≤ gb105)); have n5_ := am ((by rw [hg]; exact Nat.ne_of_lt (qZd (g := gb104) (Up.up BK104.out)) : gb104 ≠ gb105)); have n6_ := am ((by rw [hg]; exact Nat.ne_of_gt (qZd (g := gb104) (Up.up BK104.out)) : gb105 ≠ gb104)); clear BK104; clear HB; have BK104 := n0_; have HB := n1_; have BK105 := n2_; have GW105 := n3_; have GE105 := n4_; have NB104_105 := n5_; have NB105_104 := n6_; clear n0_ n1_ n2_ n3_ n4_ n5_ n6_; clear hb hbox hg))
  have n0_ := am (qQk BK104.out)
  have n1_ := am (qQk BK105.out)
  have n2_ := am (qZg HB.out)
  clear BK104
  clear BK105
  clear HB
  have BK104 := n0_
  have BK105 := n1_
  have HB := n2_
  clear n0_ n1_ n2_
  refine start_ (n := 13) (S := fun w' => w'.cell? ⟨gb105, 0, none⟩ = some (.int .i64 a1_0) ∧ w'.cell? ⟨gb105, 1, none⟩ = some (.int .i64 a1_1) ∧ w'.cell? ⟨gb105, 2, none⟩ = some (.int .i64 a1_2) ∧ w'.cell? ⟨gb105, 3, none⟩ = some (.int .i64 a1_3) ∧ w'.cell? ⟨gb105, 4, none⟩ = some (.int .i64 a1_4) ∧ w'.cell? ⟨gb105, 5, none⟩ = some (.int .i64 a1_5) ∧ w'.cell? ⟨gb105, 6, none⟩ = some (.bool a1_6) ∧ w'.cell? ⟨gb105, 7, none⟩ = some (.int .i64 a1_7) ∧ w'.cell? ⟨gb105, 8, none⟩ = some (.int .i64 a1_8) ∧ w'.cell? ⟨gb105, 9, none⟩ = some (.int .i64 a1_9) ∧ w'.cell? ⟨gb105, 10, none⟩ = some (.int .i64 a1_10) ∧ w'.cell? ⟨gb105, 11, none⟩ = some (.int .i64 a1_11) ∧ w'.cell? ⟨gb105, 12, none⟩ = some (.int .i64 a1_12) ∧ w'.cell? ⟨gb104, 0, none⟩ = some (.int .i64 a0_0) ∧ w'.cell? ⟨gb104, 1, none⟩ = some (.int .i64 a0_1) ∧ w'.cell? ⟨gb104, 2, none⟩ = some (.int .i64 a0_2) ∧ w'.cell? ⟨gb104, 3, none⟩ = some (.int .i64 a0_3) ∧ w'.cell? ⟨gb104, 4, none⟩ = some (.int .i64 a0_4) ∧ w'.cell? ⟨gb104, 5, none⟩ = some (.int .i64 a0_5) ∧ w'.cell? ⟨gb104, 6, none⟩ = some (.bool a0_6) ∧ w'.cell? ⟨gb104, 7, none⟩ = some (.int .i64 a0_7) ∧ w'.cell? ⟨gb104, 8, none⟩ = some (.int .i64 a0_8) ∧ w'.cell? ⟨gb104, 9, none⟩ = some (.int .i64 a0_9) ∧ w'.cell? ⟨gb104, 10, none⟩ = some (.int .i64 a0_10) ∧ w'.cell? ⟨gb104, 11, none⟩ = some (.int .i64 a0_11) ∧ w'.cell? ⟨gb104, 12, none⟩ = some (.int .i64 a0_12)) (ds := []) #[false, false, false, false, false, false, false, false, false, false, false, false, false] (by kernel_rfl) rfl rfl ⟨(qQa BK105.out 0).trans rfl, (qQa BK105.out 1).trans rfl, (qQa BK105.out 2).trans rfl, (qQa BK105.out 3).trans rfl, (qQa BK105.out 4).trans rfl, (qQa BK105.out 5).trans rfl, (qQa BK105.out 6).trans rfl, (qQa BK105.out 7).trans rfl, (qQa BK105.out 8).trans rfl, (qQa BK105.out 9).trans rfl, (qQa BK105.out 10).trans rfl, (qQa BK105.out 11).trans rfl, (qQa BK105.out 12).trans rfl, (qQa BK104.out 0).trans rfl, (qQa BK104.out 1).trans rfl, (qQa BK104.out 2).trans rfl, (qQa BK104.out 3).trans rfl, (qQa BK104.out 4).trans rfl, (qQa BK104.out 5).trans rfl, (qQa BK104.out 6).trans rfl, (qQa BK104.out 7).trans rfl, (qQa BK104.out 8).trans rfl, (qQa BK104.out 9).trans rfl, (qQa BK104.out 10).trans rfl, (qQa BK104.out 11).trans rfl, (qQa BK104.out 12).trans rfl⟩ (fun hHeld => ?_); refine qYg qYb.tab1 qYb.bits1 (fun HT_ HW_ => ?_)
  have nd_ := am (show w.drawn ≤ w7.drew.drawn from Nat.le_succ_of_le DR.out)
  clear DR
  have DR := nd_
  clear nd_
  generalize w7.drew = w8 at DR BK104 BK105 HB hHeld ⊢
  refine pure_ (i := 0) (N := some 5) (v := ?_) (a' := ?_) #[true, false, false, false, false, false, false, false, false, false, false, false, false] rfl rfl (qWn HT_.out (by kernel_rfl)) (fun _ _ _ h => h) (Or.inl ⟨by rfl, ?_⟩) ?_ ?_
  rotate_left
  · intro w'
    go_simp
    with_reducible rfl
  rotate_left
  · exact pu
  refine pure_ (i := 2) (N := some 7) (v := ?_) (a' := ?_) #[true, false, true, false, false, false, false, false, false, false, false, false, false] rfl rfl (qWn HT_.out (by kernel_rfl)) (fun _ _ _ h => h) (Or.inl ⟨by rfl, ?_⟩) ?_ ?_
  rotate_left
  · intro w'
    go_simp
    with_reducible rfl
  rotate_left
  · exact pu
  refine pure_ (i := 5) (N := some 10) (v := ?_) (a' := ?_) #[true, false, true, false, false, true, false, false, false, false, false, false, false] rfl rfl (qWn HT_.out (by kernel_rfl)) (fun _ _ _ h => h) (Or.inl ⟨by rfl, ?_⟩) ?_ ?_
  rotate_left
  · intro w'
    go_simp
    with_reducible rfl
  rotate_left
  · exact pu
  refine pure_ (i := 7) (N := some 12) (v := ?_) (a' := ?_) #[true, false, true, false, false, true, false, true, false, false, false, false, false] rfl rfl (qWn HT_.out (by kernel_rfl)) (fun _ _ _ h => h) (Or.inl ⟨by rfl, ?_⟩) ?_ ?_
  rotate_left
  · intro w'
    go_simp
    with_reducible rfl
  rotate_left
  · exact pu
  refine take_ (i := 1) (N := some 6) (v := ?_) (a' := ?_) #[true, true, true, false, false, true, false, true, false, false, false, false, false] rfl rfl (qXu HT_.out HW_.out (by kernel_rfl)) (fun _ _ _ h => h) (Or.inl ⟨by rfl, ?_⟩) hHeld ?_ ?_
  rotate_left
  · rintro w' ⟨s0, s1, s2, s3, s4, s5, s6, s7, s8, s9, s10, s11, s12, s13, s14, s15, s16, s17, s18, s19, s20, s21, s22, s23, s24, s25⟩
    go_simp
    with_reducible rfl
  rotate_left
  · exact pu
  refine take_ (i := 3) (N := some 8) (v := ?_) (a' := ?_) #[true, true, true, true, false, true, false, true, false, false, false, false, false] rfl rfl (qXu HT_.out HW_.out (by kernel_rfl)) (fun _ _ _ h => h) (Or.inl ⟨by rfl, ?_⟩) hHeld ?_ ?_
  rotate_left
  · rintro w' ⟨s0, s1, s2, s3, s4, s5, s6, s7, s8, s9, s10, s11, s12, s13, s14, s15, s16, s17, s18, s19, s20, s21, s22, s23, s24, s25⟩
    go_simp
    with_reducible rfl
  rotate_left
  · exact pu
  refine take_ (i := 6) (N := some 11) (v := ?_) (a' := ?_) #[true, true, true, true, false, true, true, true, false, false, false, false, false] rfl rfl (qXu HT_.out HW_.out (by kernel_rfl)) (fun _ _ _ h => h) (Or.inl ⟨by rfl, ?_⟩) hHeld ?_ ?_
  rotate_left
  · rintro w' ⟨s0, s1, s2, s3, s4, s5, s6, s7, s8, s9, s10, s11, s12, s13, s14, s15, s16, s17, s18, s19, s20, s21, s22, s23, s24, s25⟩
    go_simp
    with_reducible rfl
  rotate_left
  · exact pu
  refine take_ (i := 8) (N := some 13) (v := ?_) (a' := ?_) #[true, true, true, true, false, true, true, true, true, false, false, false, false] rfl rfl (qXu HT_.out HW_.out (by kernel_rfl)) (fun _ _ _ h => h) (Or.inl ⟨by rfl, ?_⟩) hHeld ?_ ?_
  rotate_left
  · rintro w' ⟨s0, s1, s2, s3, s4, s5, s6, s7, s8, s9, s10, s11, s12, s13, s14, s15, s16, s17, s18, s19, s20, s21, s22, s23, s24, s25⟩
    go_simp
    with_reducible rfl
  rotate_left
  · exact pu
  refine one_ (i := 4) (N := some 9) #[true, true, true, true, true, true, true, true, true, false, false, false, false] rfl rfl (qZ3 HT_.out (by kernel_rfl)) (by decide) (fun K hK => ?_)
  refine goes_ Try.func24 (by kernel_rfl) rfl #[.int .i64 a1_5, .int .i64 a0_5] (by rfl) rfl rfl ml ?_
  with_reducible refine (cmp_Compare_int.calls a1_5 a0_5 t106 _ A3.out).mono ?_
  rintro e w' ⟨rfl, ⟨nd, rfl⟩⟩
  refine ⟨_, rfl, ?_⟩
  refine hK.out _ _ ⟨(qQa BK105.out 0).trans rfl, (qQa BK105.out 1).trans rfl, (qQa BK105.out 2).trans rfl, (qQa BK105.out 3).trans rfl, (qQa BK105.out 4).trans rfl, (qQa BK105.out 5).trans rfl, (qQa BK105.out 6).trans rfl, (qQa BK105.out 7).trans rfl, (qQa BK105.out 8).trans rfl, (qQa BK105.out 9).trans rfl, (qQa BK105.out 10).trans rfl, (qQa BK105.out 11).trans rfl, (qQa BK105.out 12).trans rfl, (qQa BK104.out 0).trans rfl, (qQa BK104.out 1).trans rfl, (qQa BK104.out 2).trans rfl, (qQa BK104.out 3).trans rfl, (qQa BK104.out 4).trans rfl, (qQa BK104.out 5).trans rfl, (qQa BK104.out 6).trans rfl, (qQa BK104.out 7).trans rfl, (qQa BK104.out 8).trans rfl, (qQa BK104.out 9).trans rfl, (qQa BK104.out 10).trans rfl, (qQa BK104.out 11).trans rfl, (qQa BK104.out 12).trans rfl⟩ (fun hHeld => ?_)
  clear hK K
  refine norm_ (a' := ?_) ?_ ?_
  rotate_left
  · show Act.put _ (some 9) _ = _
    exact pu
  refine one_ (i := 9) (N := some 14) #[true, true, true, true, true, true, true, true, true, true, false, false, false] rfl rfl (qZ3 HT_.out (by kernel_rfl)) (by decide) (fun K hK => ?_)
  refine goes_ Try.func24 (by kernel_rfl) rfl #[.int .i64 a0_0, .int .i64 a1_0] (by rfl) rfl rfl ml ?_
  with_reducible refine (cmp_Compare_int.calls a0_0 a1_0 t107 _ A4.out).mono ?_
  rintro e w' ⟨rfl, ⟨nd, rfl⟩⟩
  refine ⟨_, rfl, ?_⟩
  refine hK.out _ _ ⟨(qQa BK105.out 0).trans rfl, (qQa BK105.out 1).trans rfl, (qQa BK105.out 2).trans rfl, (qQa BK105.out 3).trans rfl, (qQa BK105.out 4).trans rfl, (qQa BK105.out 5).trans rfl, (qQa BK105.out 6).trans rfl, (qQa BK105.out 7).trans rfl, (qQa BK105.out 8).trans rfl, (qQa BK105.out 9).trans rfl, (qQa BK105.out 10).trans rfl, (qQa BK105.out 11).trans rfl, (qQa BK105.out 12).trans rfl, (qQa BK104.out 0).trans rfl, (qQa BK104.out 1).trans rfl, (qQa BK104.out 2).trans rfl, (qQa BK104.out 3).trans rfl, (qQa BK104.out 4).trans rfl, (qQa BK104.out 5).trans rfl, (qQa BK104.out 6).trans rfl, (qQa BK104.out 7).trans rfl, (qQa BK104.out 8).trans rfl, (qQa BK104.out 9).trans rfl, (qQa BK104.out 10).trans rfl, (qQa BK104.out 11).trans rfl, (qQa BK104.out 12).trans rfl⟩ (fun hHeld => ?_)
  clear hK K
  refine norm_ (a' := ?_) ?_ ?_
  rotate_left
  · show Act.put _ (some 14) _ = _
    exact pu
  refine one_ (i := 10) (N := some 15) #[true, true, true, true, true, true, true, true, true, true, true, false, false] rfl rfl (qZ3 HT_.out (by kernel_rfl)) (by decide) (fun K hK => ?_)
  refine qJ7 (Kd.int .i64) _ 3 ?hg (N := 15) ?hd (xs := ([t106, t107] : List Int)) (inner := [.int .i64 t106, .int .i64 t107]) (ok := fun _ => True) (okp := fun _ => True) ?hr ?hp (fun _ hk => hk) trivial (Below.refl _ _) (Nat.le_refl _) (by simp) ?_; (case hd => rfl); (case hg => rfl); (case hr => first | (go_simp; done) | (go_simp; rfl)); (case hp => exact (Reps.one (show Kd.M (Kd.int .i64) _ _ _ t106 [.int .i64 t106] from rfl) (Reps.one (show Kd.M (Kd.int .i64) _ _ _ t107 [.int .i64 t107] from rfl) (Reps.none _ _))))
  intro v109 w9 ho10 hb hg_ hnew_ hdr
  have nd_ := am (Nat.le_trans DR.out (by rw [hdr]; simp only [World.drewN, World.drew]; omega) : w.drawn ≤ w9.drawn)
  clear DR hdr
  have DR := nd_
  clear nd_
  clear hg_ hnew_
  (first | rw [← Ny108.out] at ho10 | (simp only [Int.reduceToNat] at ho10; rw [← Ny108.out] at ho10))
  have n0_ := am (Kd.qZe ho10 (qQh (by exact h2q HB.out GE104.out GE105.out)))
  have n1_ := am (qQu (g := gb104) (Up.up BK104.out) hb)
  have n2_ := am (qQu (g := gb105) (Up.up BK105.out) hb)
  have n3_ := am (qQn (by exact h2q HB.out GE104.out GE105.out) hb)
  clear BK104
  clear BK105
  clear HB
  have HO110 := n0_
  have BK104 := n1_
  have BK105 := n2_
  have HB := n3_
  clear n0_ n1_ n2_ n3_
  clear hb ho10
  obtain ⟨Ao11, co11, eo11⟩ := Kd.qZ8 HO110.out
  (first | subst eo11 | (injection eo11 with f1_ f2_ f3_; have f4_ := f1_.symm; have f5_ := f3_.symm; clear f1_ f2_ f3_; subst f4_; subst f5_))
  refine hK.out _ _ ⟨(qQa BK105.out 0).trans rfl, (qQa BK105.out 1).trans rfl, (qQa BK105.out 2).trans rfl, (qQa BK105.out 3).trans rfl, (qQa BK105.out 4).trans rfl, (qQa BK105.out 5).trans rfl, (qQa BK105.out 6).trans rfl, (qQa BK105.out 7).trans rfl, (qQa BK105.out 8).trans rfl, (qQa BK105.out 9).trans rfl, (qQa BK105.out 10).trans rfl, (qQa BK105.out 11).trans rfl, (qQa BK105.out 12).trans rfl, (qQa BK104.out 0).trans rfl, (qQa BK104.out 1).trans rfl, (qQa BK104.out 2).trans rfl, (qQa BK104.out 3).trans rfl, (qQa BK104.out 4).trans rfl, (qQa BK104.out 5).trans rfl, (qQa BK104.out 6).trans rfl, (qQa BK104.out 7).trans rfl, (qQa BK104.out 8).trans rfl, (qQa BK104.out 9).trans rfl, (qQa BK104.out 10).trans rfl, (qQa BK104.out 11).trans rfl, (qQa BK104.out 12).trans rfl⟩ (fun hHeld => ?_)
  clear hK K
  refine norm_ (a' := ?_) ?_ ?_
  rotate_left
  · show Act.put _ (some 15) _ = _
    exact pu
  refine one_ (i := 11) (N := some 16) #[true, true, true, true, true, true, true, true, true, true, true, true, false] rfl rfl (qZ3 HT_.out (by kernel_rfl)) (by decide) (fun K hK => ?_)
  refine goes_ Try.func35 (by kernel_rfl) rfl #[.slice Ao11 y108.length co11] (by rfl) rfl rfl ml ?_
  with_reducible refine (qZ2.calls k _ _ y108 t111 _ ?side1 ?side2 A5.out).mono ?_
  (case side1 => exact cq ((Kd.qQx HO110.out).2.2))
  (case side2 => exact (Kd.qQx HO110.out).2.1)
  rintro e w' ⟨rfl, ⟨nd, rfl⟩⟩
  refine ⟨_, rfl, ?_⟩
  refine hK.out _ _ ⟨(qQa BK105.out 0).trans rfl, (qQa BK105.out 1).trans rfl, (qQa BK105.out 2).trans rfl, (qQa BK105.out 3).trans rfl, (qQa BK105.out 4).trans rfl, (qQa BK105.out 5).trans rfl, (qQa BK105.out 6).trans rfl, (qQa BK105.out 7).trans rfl, (qQa BK105.out 8).trans rfl, (qQa BK105.out 9).trans rfl, (qQa BK105.out 10).trans rfl, (qQa BK105.out 11).trans rfl, (qQa BK105.out 12).trans rfl, (qQa BK104.out 0).trans rfl, (qQa BK104.out 1).trans rfl, (qQa BK104.out 2).trans rfl, (qQa BK104.out 3).trans rfl, (qQa BK104.out 4).trans rfl, (qQa BK104.out 5).trans rfl, (qQa BK104.out 6).trans rfl, (qQa BK104.out 7).trans rfl, (qQa BK104.out 8).trans rfl, (qQa BK104.out 9).trans rfl, (qQa BK104.out 10).trans rfl, (qQa BK104.out 11).trans rfl, (qQa BK104.out 12).trans rfl⟩ (fun hHeld => ?_)
  clear hK K
  refine norm_ (a' := ?_) ?_ ?_
  rotate_left
  · show Act.put _ (some 16) _ = _
    exact pu
  refine pure_ (i := 12) (N := some 4) (v := ?_) (a' := ?_) #[true, true, true, true, true, true, true, true, true, true, true, true, true] rfl rfl (qWn HT_.out (by kernel_rfl)) (fun _ _ _ h => h) (Or.inl ⟨by rfl, ?_⟩) ?_ ?_
  rotate_left
  · intro w'
    go_simp
    with_reducible rfl
  rotate_left
  · exact pu
  refine done_ (qYw HT_.out (by kernel_rfl)) ?_
  try go_wp2
  go_ret
  exact ⟨er, by exact h2q HB.out GE104.out GE105.out, Nat.le_trans DR.out (by first | exact Nat.le_refl _ | (simp only [World.drewN, World.drew]; omega))⟩
end Go.Proofs.Yteemomncbcpdjaa.P
