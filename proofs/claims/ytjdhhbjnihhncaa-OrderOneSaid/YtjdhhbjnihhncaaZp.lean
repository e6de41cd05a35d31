/- order.Put: events with one more, and its place. -/
import Derived.Test.YtjdhhbjnihhncaaZaa
import Derived.Test.YtjdhhbjnihhncaaZi
import Derived.Test.YtjdhhbjnihhncaaZd
namespace Go.Proofs.Ytjdhhbjnihhncaa.P
open Go.RowKit Go.Proofs.YtjdhhbjnihhncaaW.PrintWords Go.Proofs.YtjdhhbjnihhncaaW.PrintLast Go.Proofs.YtjdhhbjnihhncaaW.PrintMore
attribute [local go_sem] run_store_float max2_int min2_int max_two min_two max_three min_three max_four min_four   -- for this text's walks alone
set_option linter.unusedVariables false
set_option linter.unusedSimpArgs false
theorem idx_at (x : S26) : ∀ (l : List S26) (j : Nat), idxB (fun y => decide (cmE y x > 0)) l j = if atE x l < l.length then ((j + atE x l : Nat) : Int) else -1 := by
  intro l
  induction l with
  | nil => intro j; rfl
  | cons y l ih =>
    intro j
    have h0 : idxB (fun y => decide (cmE y x > 0)) (y :: l) j = if decide (cmE y x > 0) = true then (j : Int) else idxB (fun y => decide (cmE y x > 0)) l (j + 1) := rfl
    have h1 : atE x (y :: l) = if cmE y x > 0 then 0 else atE x l + 1 := rfl
    have h2 : (y :: l).length = l.length + 1 := rfl
    rw [h0, h2]
    by_cases c : cmE y x > 0
    · rw [if_pos c] at h1
      rw [if_pos (decide_eq_true c), h1, if_pos (by omega)]; rfl
    · rw [if_neg c] at h1
      rw [if_neg (by simpa using c), ih, h1]
      by_cases d : atE x l < l.length
      · rw [if_pos d, if_pos (by omega)]; congr 1; omega
      · rw [if_neg d, if_neg (by omega)]
set_option maxHeartbeats 8000000 in
set_option maxRecDepth 100000 in
theorem order_Put.in_ (B : Nat) (a1_0 a1_1 a1_2 a1_3 a1_4 : Int) (a1_5 a1_6 : Nat) (a1_7 : Bool) (a1_8 a1_9 a1_10 : Int) (x : S26) (w : World) (hB : w.heap[B]? = some (.cells #[.int .i64 a1_0, .int .i64 a1_1, .int .u32 a1_2, .int .i64 a1_3, .int .i64 a1_4, .float .f64 a1_5, .float .f64 a1_6, .bool a1_7, .int .i64 a1_8, .int .i64 a1_9, .int .i64 a1_10] 26 (0, 0))) :
    Calls Try.prog 25 #[.agg #[.int .i64 x.f0, .int .i64 x.f1, .int .u32 x.f2, .int .i64 x.f3, .int .i64 x.f4, .float .f64 x.f5, .float .f64 x.f6, .bool x.f7, .int .i64 x.f8, .int .i64 x.f9, .int .i64 x.f10], .pointer (some ⟨B, 0, none⟩)] w fun e w' => e = .returned (.bool (decide (cmE x ⟨a1_0, a1_1, a1_2, a1_3, a1_4, a1_5, a1_6, a1_7, a1_8, a1_9, a1_10⟩ > 0))) ∧ Below w.heap.size w w' := by
  have hu26 := Try.underlying26
  have HC := fun (W : World) => Aside0.mk (order_Compare.calls 4 x.f0 x.f1 x.f2 x.f3 x.f4 x.f5 x.f6 x.f7 x.f8 x.f9 x.f10 a1_0 a1_1 a1_2 a1_3 a1_4 a1_5 a1_6 a1_7 a1_8 a1_9 a1_10 _ W (cmE_f 0 x ⟨a1_0, a1_1, a1_2, a1_3, a1_4, a1_5, a1_6, a1_7, a1_8, a1_9, a1_10⟩))
  have HC := Aside0.mk HC
  generalize cmE x ⟨a1_0, a1_1, a1_2, a1_3, a1_4, a1_5, a1_6, a1_7, a1_8, a1_9, a1_10⟩ = r at HC ⊢
  obtain ⟨x0, x1, x2, x3, x4, x5, x6, x7, x8, x9, x10⟩ := x
  dsimp only at HC ⊢
  have HB := Aside0.mk (Below.refl w.heap.size w)
  have HK := Aside0.mk hB
  clear hB
  go_enter Try.func25, Try.ntmps25
  go_wp2_with (first | ((with_reducible refine gate_dst (N := 2) rfl ?_); refine box_event ?hg (N := 2) ?hd (cs := #[.int .i64 x0, .int .i64 x1, .int .u32 x2, .int .i64 x3, .int .i64 x4, .float .f64 x5, .float .f64 x6, .bool x7, .int .i64 x8, .int .i64 x9, .int .i64 x10]) (t := 26) ?hr ?_; (case hd => rfl); (case hg => rfl); (case hr => first | (go_simp; done) | (go_simp; rfl)); intro gb hgq w6 hbox hb1; have hc0 : w6.cell? ⟨gb, 0, none⟩ = some (.int .i64 x0) := (blk_cell hbox 0).trans rfl; have hc1 : w6.cell? ⟨gb, 1, none⟩ = some (.int .i64 x1) := (blk_cell hbox 1).trans rfl; have hc2 : w6.cell? ⟨gb, 2, none⟩ = some (.int .u32 x2) := (blk_cell hbox 2).trans rfl; have hc3 : w6.cell? ⟨gb, 3, none⟩ = some (.int .i64 x3) := (blk_cell hbox 3).trans rfl; have hc4 : w6.cell? ⟨gb, 4, none⟩ = some (.int .i64 x4) := (blk_cell hbox 4).trans rfl; have hc5 : w6.cell? ⟨gb, 5, none⟩ = some (.float .f64 x5) := (blk_cell hbox 5).trans rfl; have hc6 : w6.cell? ⟨gb, 6, none⟩ = some (.float .f64 x6) := (blk_cell hbox 6).trans rfl; have hc7 : w6.cell? ⟨gb, 7, none⟩ = some (.bool x7) := (blk_cell hbox 7).trans rfl; have hc8 : w6.cell? ⟨gb, 8, none⟩ = some (.int .i64 x8) := (blk_cell hbox 8).trans rfl; have hc9 : w6.cell? ⟨gb, 9, none⟩ = some (.int .i64 x9) := (blk_cell hbox 9).trans rfl; have hc10 : w6.cell? ⟨gb, 10, none⟩ = some (.int .i64 x10) := (blk_cell hbox 10).trans rfl; have hBk : w6.heap[B]? = _ := (hb1.block B (Array.getElem?_eq_some_iff.1 HK.out).1).trans HK.out; have hd0 : w6.cell? ⟨B, 0, none⟩ = some (.int .i64 a1_0) := (blk_cell hBk 0).trans rfl; have hd1 : w6.cell? ⟨B, 1, none⟩ = some (.int .i64 a1_1) := (blk_cell hBk 1).trans rfl; have hd2 : w6.cell? ⟨B, 2, none⟩ = some (.int .u32 a1_2) := (blk_cell hBk 2).trans rfl; have hd3 : w6.cell? ⟨B, 3, none⟩ = some (.int .i64 a1_3) := (blk_cell hBk 3).trans rfl; have hd4 : w6.cell? ⟨B, 4, none⟩ = some (.int .i64 a1_4) := (blk_cell hBk 4).trans rfl; have hd5 : w6.cell? ⟨B, 5, none⟩ = some (.float .f64 a1_5) := (blk_cell hBk 5).trans rfl; have hd6 : w6.cell? ⟨B, 6, none⟩ = some (.float .f64 a1_6) := (blk_cell hBk 6).trans rfl; have hd7 : w6.cell? ⟨B, 7, none⟩ = some (.bool a1_7) := (blk_cell hBk 7).trans rfl; have hd8 : w6.cell? ⟨B, 8, none⟩ = some (.int .i64 a1_8) := (blk_cell hBk 8).trans rfl; have hd9 : w6.cell? ⟨B, 9, none⟩ = some (.int .i64 a1_9) := (blk_cell hBk 9).trans rfl; have hd10 : w6.cell? ⟨B, 10, none⟩ = some (.int .i64 a1_10) := (blk_cell hBk 10).trans rfl; have n_ := Aside0.mk (below_step HB.out hb1); clear HB hBk; have HB := n_; clear n_ hb1 hbox hgq) | (go_at_call 12; refine (HC.out _).out.mono ?_; rintro e w1 ⟨rfl, hb1⟩; have n_ := Aside0.mk (below_step HB.out hb1); clear HB; have HB := n_; clear n_ hb1))
  go_ret
  exact ⟨by first | rfl | (simp; done), (by exact h0q HB.out)⟩
def order_Put.T4 : Bool × List (List Nat × List Nat) := (true, [([], []), ([0], [0]), ([], []), ([], []), ([3], [3]), ([1, 2, 4, 1], [1, 2, 4]), ([], []), ([5, 5, 0, 1, 2, 3, 4, 5], [5]), ([6, 7, 0, 1, 2, 3, 4, 5, 6, 7], [6])])
def order_Put.B4 : List Nat := [0, 1, 0, 0, 8, 31, 0, 63, 255]
theorem order_Put.tab4 : rtab .any (opsOf Try.f9 4) = order_Put.T4 := by kernel_rfl
theorem order_Put.bits4 : waitsOk order_Put.T4.2 order_Put.B4 = true := by kernel_rfl
def order_Put.f (k : Nat) (l0 : List S26) (a1_0 a1_1 a1_2 a1_3 a1_4 : Int) (a1_5 a1_6 : Nat) (a1_7 : Bool) (a1_8 a1_9 a1_10 : Int) : Option (List S26 × Int) :=
  if l0.length ≤ 100000 then some (insE ⟨a1_0, a1_1, a1_2, a1_3, a1_4, a1_5, a1_6, a1_7, a1_8, a1_9, a1_10⟩ l0, ((atE ⟨a1_0, a1_1, a1_2, a1_3, a1_4, a1_5, a1_6, a1_7, a1_8, a1_9, a1_10⟩ l0 : Nat) : Int)) else none
set_option maxHeartbeats 8000000 in
set_option maxRecDepth 100000 in
theorem order_Put.calls (k : Nat) (A0 : Option Addr) (c0 : Nat) (l0 : List (S26)) (a1_0 : Int) (a1_1 : Int) (a1_2 : Int) (a1_3 : Int) (a1_4 : Int) (a1_5 : Nat) (a1_6 : Nat) (a1_7 : Bool) (a1_8 : Int) (a1_9 : Int) (a1_10 : Int) (r1 : List (S26)) (r2 : Int) (w : World) (hr0 : Kd.C k26 w A0 l0.length l0) (hc0 : l0.length ≤ c0) (h : order_Put.f k l0 a1_0 a1_1 a1_2 a1_3 a1_4 a1_5 a1_6 a1_7 a1_8 a1_9 a1_10 = some (r1, r2)) :
    Calls Try.prog 9 #[.slice A0 l0.length c0, .agg #[.int .i64 a1_0, .int .i64 a1_1, .int .u32 a1_2, .int .i64 a1_3, .int .i64 a1_4, .float .f64 a1_5, .float .f64 a1_6, .bool a1_7, .int .i64 a1_8, .int .i64 a1_9, .int .i64 a1_10]] w fun e w' => ∃ v0_ : Value, e = .returned (.tuple #[v0_, .int .i64 r2]) ∧ Kd.R k26 26 w' w.heap.size (fun _ => True) v0_ r1 ∧ Below w.heap.size w w' := by
  by_cases c : l0.length ≤ 100000
  case neg => rw [order_Put.f, if_neg c] at h; cases h
  rw [order_Put.f, if_pos c] at h
  simp only [Option.some.injEq, Prod.mk.injEq] at h
  obtain ⟨rfl, rfl⟩ := h
  have hu26 := Try.underlying26
  have HL := Aside0.mk c
  have A9 := Aside0.mk (show api_Event_22.f k l0 = some l0 by rw [api_Event_22.f, if_pos c])
  have hid := idx_at ⟨a1_0, a1_1, a1_2, a1_3, a1_4, a1_5, a1_6, a1_7, a1_8, a1_9, a1_10⟩ l0 0
  have hal := atE_le ⟨a1_0, a1_1, a1_2, a1_3, a1_4, a1_5, a1_6, a1_7, a1_8, a1_9, a1_10⟩ l0
  have HI := fun (B : Nat) (W : World) (hB : W.heap[B]? = some (.cells #[.int .i64 a1_0, .int .i64 a1_1, .int .u32 a1_2, .int .i64 a1_3, .int .i64 a1_4, .float .f64 a1_5, .float .f64 a1_6, .bool a1_7, .int .i64 a1_8, .int .i64 a1_9, .int .i64 a1_10] 26 (0, 0))) (hw : Below w.heap.size w W) =>
    Aside0.mk (index_ev 25 (.pointer (some ⟨B, 0, none⟩)) (fun args w => rfl) (fun y => decide (cmE y ⟨a1_0, a1_1, a1_2, a1_3, a1_4, a1_5, a1_6, a1_7, a1_8, a1_9, a1_10⟩ > 0)) A0 c0 l0 W (Kd.C_below hr0 hw) (by omega) (fun x W2 h2 => order_Put.in_ B a1_0 a1_1 a1_2 a1_3 a1_4 a1_5 a1_6 a1_7 a1_8 a1_9 a1_10 x W2 (by rw [h2.block B (Array.getElem?_eq_some_iff.1 hB).1]; exact hB)))
  have HI := Aside0.mk HI
  obtain ⟨x6_3, hx6⟩ : ∃ z : Int, z = ((atE ⟨a1_0, a1_1, a1_2, a1_3, a1_4, a1_5, a1_6, a1_7, a1_8, a1_9, a1_10⟩ l0 : Nat) : Int) := ⟨_, rfl⟩
  obtain ⟨t127, ht7⟩ : ∃ z : List S26, z = insE ⟨a1_0, a1_1, a1_2, a1_3, a1_4, a1_5, a1_6, a1_7, a1_8, a1_9, a1_10⟩ l0 := ⟨_, rfl⟩
  obtain ⟨y124, hy124⟩ : ∃ y_ : List S26, y_ = (([(⟨a1_0, a1_1, a1_2, a1_3, a1_4, a1_5, a1_6, a1_7, a1_8, a1_9, a1_10⟩ : S26)] : List (S26))) := ⟨_, rfl⟩
  rw [← hx6, ← ht7]
  have HX6 := Aside0.mk hx6
  have HT7 := Aside0.mk ht7
  have Ny124 := Aside0.mk hy124
  generalize hti : idxB _ l0 0 = ti at hid HI
  have HT := Aside0.mk (show (ti < 0 → x6_3 = (l0.length : Int)) ∧ (¬ ti < 0 → x6_3 = ti) by
    rw [hid, hx6]
    by_cases d : atE ⟨a1_0, a1_1, a1_2, a1_3, a1_4, a1_5, a1_6, a1_7, a1_8, a1_9, a1_10⟩ l0 < l0.length
    · rw [if_pos d]; omega
    · rw [if_neg d]; omega)
  have HR0 := Aside0.mk hr0
  have HC0 := Aside0.mk hc0
  have HB := Aside0.mk (Below.refl w.heap.size w)
  have hmf : ∀ (fn : Fn) (first cap : Array Value) (w : World), (Instr.makeFunc fn first cap).run Try.prog w = .ok (.func fn first cap) w := fun _ _ _ _ => rfl
  clear hr0 hc0 c hid hal hx6 ht7 hy124 hti
  go_enter Try.func9, Try.ntmps9
  go_upto_if 11 with (first | ((with_reducible refine gate_dst (N := 3) rfl ?_); refine box_event ?hg (N := 3) ?hd (cs := #[.int .i64 a1_0, .int .i64 a1_1, .int .u32 a1_2, .int .i64 a1_3, .int .i64 a1_4, .float .f64 a1_5, .float .f64 a1_6, .bool a1_7, .int .i64 a1_8, .int .i64 a1_9, .int .i64 a1_10]) (t := 26) ?hr ?_; (case hd => rfl); (case hg => rfl); (case hr => first | (go_simp; done) | (go_simp; rfl)); intro gb119 hgq w6 hbox hb1; have n0_ := Aside0.mk (below_step HB.out hb1); have BK119 := Aside0.mk hbox; have GE119 := Aside0.mk ((by rw [hgq]; exact below_size HB.out) : w.heap.size ≤ gb119); clear HB; have HB := n0_; clear n0_ hb1 hbox hgq) | (go_at_call 24; refine (HI.out _ _ BK119.out HB.out).out.mono ?_; rintro e w1 ⟨rfl, hb1⟩; have n0_ := Aside0.mk (below_step HB.out hb1); have n1_ := Aside0.mk (blk_below (g := gb119) (Up.up BK119.out) hb1); clear HB BK119; have HB := n0_; have BK119 := n1_; clear n0_ n1_ hb1))
  (try simp only [Act.put, List.setIfInBounds_toArray, List.set_cons_zero, List.set_cons_succ])
  go_cut [6] (fun v6 wc => v6 = .int .i64 x6_3 ∧ Aside0 (wc.heap[gb119]? = some (.cells #[.int .i64 a1_0, .int .i64 a1_1, .int .u32 a1_2, .int .i64 a1_3, .int .i64 a1_4, .float .f64 a1_5, .float .f64 a1_6, .bool a1_7, .int .i64 a1_8, .int .i64 a1_9, .int .i64 a1_10] 26 (0, 0))) ∧ Aside0 (Below w.heap.size w wc))
  case first =>
    by_cases c8 : ti < 0
    · have c8b0 : decide (ti < 0) = true := decide_eq_true c8
      have hx := HT.out.1 c8
      clear c8
      (first | rw [c8b0] | (simp only [i64_w, i32_w]; rw [c8b0]) | skip)
      go_wp2
      go_meet
      case rel => exact ⟨by first | (rw [hx]; done) | (rw [hx]; rfl), ⟨(Up.up BK119.out)⟩, ⟨HB.out⟩⟩
    · have c8b0 : decide (ti < 0) = false := decide_eq_false c8
      have hx := HT.out.2 (by omega)
      clear c8
      (first | rw [c8b0] | (simp only [i64_w, i32_w]; rw [c8b0]) | skip)
      go_wp2
      go_meet
      case rel => exact ⟨by first | (rw [hx]; done) | (rw [hx]; rfl), ⟨(Up.up BK119.out)⟩, ⟨HB.out⟩⟩
  case rest =>
    clear BK119 HB
    obtain ⟨rfl, BK119, HB⟩ := hcut
    try go_wp2
    have n0_ := Aside0.mk (blk_drew BK119.out)
    have n1_ := Aside0.mk (below_drew1 HB.out)
    clear BK119
    clear HB
    have BK119 := n0_
    have HB := n1_
    clear n0_ n1_
    refine start_ (n := 9) (S := fun w' => True) (ds := []) #[false, false, false, false, false, false, false, false, false] (by kernel_rfl) rfl rfl trivial (fun hHeld => ?_); refine with_tabW order_Put.tab4 order_Put.bits4 (fun HT_ HW_ => ?_)
    generalize wc.drew = w11 at BK119 HB hHeld ⊢
    refine pure_ (i := 0) (N := some 14) (v := ?_) (a' := ?_) #[true, false, false, false, false, false, false, false, false] rfl rfl (any_of HT_.out (by kernel_rfl)) (fun _ _ _ h => h) (Or.inl ⟨by rfl, ?_⟩) ?_ ?_
    rotate_left
    · intro w'
      go_simp
      with_reducible rfl
    rotate_left
    · simp only [Act.put, List.setIfInBounds_toArray, List.set_cons_zero, List.set_cons_succ, i64_w, i32_w]
      rfl
    refine pure_ (i := 2) (N := some 16) (v := ?_) (a' := ?_) #[true, false, true, false, false, false, false, false, false] rfl rfl (any_of HT_.out (by kernel_rfl)) (fun _ _ _ h => h) (Or.inl ⟨by rfl, ?_⟩) ?_ ?_
    rotate_left
    · intro w'
      go_simp
      with_reducible rfl
    rotate_left
    · simp only [Act.put, List.setIfInBounds_toArray, List.set_cons_zero, List.set_cons_succ, i64_w, i32_w]
      rfl
    refine pure_ (i := 6) (N := some 20) (v := ?_) (a' := ?_) #[true, false, true, false, false, false, true, false, false] rfl rfl (any_of HT_.out (by kernel_rfl)) (fun _ _ _ h => h) (Or.inl ⟨by rfl, ?_⟩) ?_ ?_
    rotate_left
    · intro w'
      go_simp
      with_reducible rfl
    rotate_left
    · simp only [Act.put, List.setIfInBounds_toArray, List.set_cons_zero, List.set_cons_succ, i64_w, i32_w]
      rfl
    refine inv_at [1, 3, 4, 5, 7, 8] (fun a0_ b a w' => ∃ (v122 : Value) (v125 : Value) (v128 : Value) (m7_ : Value), a = putSel a0_ b [(1, 15, v122), (3, 17, .agg #[.int .i64 a1_0, .int .i64 a1_1, .int .u32 a1_2, .int .i64 a1_3, .int .i64 a1_4, .float .f64 a1_5, .float .f64 a1_6, .bool a1_7, .int .i64 a1_8, .int .i64 a1_9, .int .i64 a1_10]), (4, 18, v125), (5, 19, v128), (7, 4, m7_), (8, 5, .int .i64 x6_3)] ∧ (w'.heap[gb119]? = some (.cells #[.int .i64 a1_0, .int .i64 a1_1, .int .u32 a1_2, .int .i64 a1_3, .int .i64 a1_4, .float .f64 a1_5, .float .f64 a1_6, .bool a1_7, .int .i64 a1_8, .int .i64 a1_9, .int .i64 a1_10] 26 (0, 0))) ∧ (Below w.heap.size w w') ∧ (b 1 = true → b 5 = false → Kd.R k26 26 w' w.heap.size (fun k_ => k_ ≠ gb119) v122 l0) ∧ (b 4 = true → b 5 = false → Kd.R k26 26 w' w.heap.size (fun k_ => k_ ≠ gb119) v125 y124) ∧ (b 5 = true → Kd.R k26 26 w' w.heap.size (fun k_ => k_ ≠ gb119) v128 t127) ∧ (b 7 = true → (m7_ : Value) = v128) ∧ (b 1 = true → b 4 = true → b 5 = false → ∀ k_, v122.ownBlock = some k_ → v125.ownBlock ≠ some k_)) HT_.out HW_.out (by kernel_rfl) (by kernel_rfl) ?_ ?_ ?_
    · exact ⟨.bool false, .bool false, .bool false, .bool false, by simp only [putSel, Bool.false_eq_true, if_false], BK119.out, HB.out, fun h_ => absurd h_ (by decide), fun h_ => absurd h_ (by decide), fun h_ => absurd h_ (by decide), fun h_ => absurd h_ (by decide), fun h_ => absurd h_ (by decide)⟩
    · skip
      clear BK119 HB
      refine steps_cons ?_ ?_
      · rintro b a w' ⟨v122, v125, v128, m7_, ha, Q_BK119, Q_HB, Q_HO123, Q_HO126, Q_HO129, Q_X7_, Q_D⟩ hb_ hon hoff
        refine ⟨_, rfl, fun K hK => ?_⟩
        have e14 : a.tmps[14]? = some (.slice A0 l0.length c0) := by rw [ha]; exact (putSel_off rfl).trans rfl
        replace ha := Aside0.mk ha
        have BK119 := Aside0.mk Q_BK119
        have HB := Aside0.mk Q_HB
        refine goes_ Try.func22 (by kernel_rfl) rfl #[.slice A0 l0.length c0] (by rfl) rfl rfl (by first | (simp only [List.map_toArray, List.map_cons, List.map_nil, Act.eval, Array.getD_eq_getD_getElem?, Option.getD_some, e14]; done) | (simp only [List.map_toArray, List.map_cons, List.map_nil, Act.eval, Array.getD_eq_getD_getElem?, Option.getD_some, e14]; rfl)) ?_
        with_reducible refine (api_Event_22.calls k _ _ l0 l0 _ ?side1 ?side2 A9.out).mono ?_
        (case side1 => repeat (first | exact (Kd.C_below HR0.out HB.out) | (with_reducible refine Kd.C_alloc ?_ _) | (with_reducible refine Kd.C_drewN ?_ _) | (with_reducible refine Kd.C_drew ?_)))
        (case side2 => exact HC0.out)
        rintro e w12 ⟨v122, rfl, ho0, hb⟩
        refine ⟨_, rfl, ?_⟩
        have n0_ := Aside0.mk (Kd.R_lower (Kd.R_newB ho0 (g := gb119) (Up.up BK119.out)) (below_size (by exact h1q HB.out GE119.out)))
        have n1_ := Aside0.mk (blk_below (g := gb119) (Up.up BK119.out) hb)
        have n2_ := Aside0.mk (below_step (by exact h1q HB.out GE119.out) hb)
        have z_D := fun (_ : up b 1 1 = true) (h4_ : b 4 = true) (h5_ : b 5 = false) (k_ : Nat) (hk_ : v122.ownBlock = some k_) (he_ : v125.ownBlock = some k_) => (Nat.lt_irrefl _ (Nat.lt_of_lt_of_le (Kd.R_lt (Q_HO126 h4_ h5_) k_ he_) (Kd.R_base ho0 k_ hk_)) : False)
        have z_HO126 := fun (h0_ : b 4 = true) (h5_ : b 5 = false) => (show Kd.R k26 26 w12 w.heap.size (fun k_ => k_ ≠ gb119) v125 y124 from by first | exact (Kd.R_elder' (by (with_reducible repeat (first | apply Kd.R_alloc | apply Kd.R_drewN | apply Kd.R_drew)); exact (Q_HO126 h0_ h5_)) (Kd.R_base ho0) hb) | exact Kd.R_mono (Kd.R_elder' (by (with_reducible repeat (first | apply Kd.R_alloc | apply Kd.R_drewN | apply Kd.R_drew)); exact (Q_HO126 h0_ h5_)) (Kd.R_base ho0) hb) (fun _ h_ => by first | trivial | exact h_ | exact h_.1))
        clear BK119
        clear HB
        have HO123 := n0_
        have BK119 := n1_
        have HB := n2_
        clear n0_ n1_ n2_
        (try clear hb)
        (try clear hb2)
        (try clear hk)
        (try clear hi)
        (try clear ho0)
        refine hK.out _ _ ⟨v122, v125, v128, m7_, (by rw [ha.out]; exact putSel_upk 0 hb_ rfl rfl rfl), (Up.up BK119.out), (by exact h1q HB.out GE119.out), fun _ _ => (by (with_reducible repeat (first | apply Kd.R_alloc | apply Kd.R_drewN | apply Kd.R_drew)); exact Kd.R_mono HO123.out (fun _ hk => hk.2)), z_HO126, fun h0_ => absurd ((hoff 5 (by kernel_rfl)).symm.trans h0_) (by decide), fun h0_ => absurd ((hoff 7 (by kernel_rfl)).symm.trans h0_) (by decide), z_D⟩
      refine steps_cons ?_ ?_
      · rintro b a w' ⟨v122, v125, v128, m7_, ha, Q_BK119, Q_HB, Q_HO123, Q_HO126, Q_HO129, Q_X7_, Q_D⟩ hb_ hon hoff
        refine ⟨_, rfl, fun K hK => ?_⟩
        have e3 : a.tmps[3]? = some (.pointer (some ⟨gb119, 0, none⟩)) := by rw [ha]; exact (putSel_off rfl).trans rfl
        replace ha := Aside0.mk ha
        have BK119 := Aside0.mk Q_BK119
        have HB := Aside0.mk Q_HB
        have hc0_ : w'.cell? ⟨gb119, 0, none⟩ = some (.int .i64 a1_0) := (blk_cell BK119.out 0).trans rfl
        have hc1_ : w'.cell? ⟨gb119, 1, none⟩ = some (.int .i64 a1_1) := (blk_cell BK119.out 1).trans rfl
        have hc2_ : w'.cell? ⟨gb119, 2, none⟩ = some (.int .u32 a1_2) := (blk_cell BK119.out 2).trans rfl
        have hc3_ : w'.cell? ⟨gb119, 3, none⟩ = some (.int .i64 a1_3) := (blk_cell BK119.out 3).trans rfl
        have hc4_ : w'.cell? ⟨gb119, 4, none⟩ = some (.int .i64 a1_4) := (blk_cell BK119.out 4).trans rfl
        have hc5_ : w'.cell? ⟨gb119, 5, none⟩ = some (.float .f64 a1_5) := (blk_cell BK119.out 5).trans rfl
        have hc6_ : w'.cell? ⟨gb119, 6, none⟩ = some (.float .f64 a1_6) := (blk_cell BK119.out 6).trans rfl
        have hc7_ : w'.cell? ⟨gb119, 7, none⟩ = some (.bool a1_7) := (blk_cell BK119.out 7).trans rfl
        have hc8_ : w'.cell? ⟨gb119, 8, none⟩ = some (.int .i64 a1_8) := (blk_cell BK119.out 8).trans rfl
        have hc9_ : w'.cell? ⟨gb119, 9, none⟩ = some (.int .i64 a1_9) := (blk_cell BK119.out 9).trans rfl
        have hc10_ : w'.cell? ⟨gb119, 10, none⟩ = some (.int .i64 a1_10) := (blk_cell BK119.out 10).trans rfl
        refine value_ (w1 := w') (v := .agg #[.int .i64 a1_0, .int .i64 a1_1, .int .u32 a1_2, .int .i64 a1_3, .int .i64 a1_4, .float .f64 a1_5, .float .f64 a1_6, .bool a1_7, .int .i64 a1_8, .int .i64 a1_9, .int .i64 a1_10]) (by rfl) rfl ?_ ?_
        · go_simp
          (try simp only [i64_w])
          try rfl
        refine hK.out _ _ ⟨v122, v125, v128, m7_, (by rw [ha.out]; exact putSel_upk 1 hb_ rfl rfl rfl), Q_BK119, Q_HB, Q_HO123, fun h0_ => absurd ((hoff 4 (by kernel_rfl)).symm.trans h0_) (by decide), fun h0_ => absurd ((hoff 5 (by kernel_rfl)).symm.trans h0_) (by decide), fun h0_ => absurd ((hoff 7 (by kernel_rfl)).symm.trans h0_) (by decide), fun _ h4_ => absurd ((hoff 4 (by kernel_rfl)).symm.trans h4_) (by decide)⟩
      refine steps_cons ?_ ?_
      · rintro b a w' ⟨v122, v125, v128, m7_, ha, Q_BK119, Q_HB, Q_HO123, Q_HO126, Q_HO129, Q_X7_, Q_D⟩ hb_ hon hoff
        refine ⟨_, rfl, fun K hK => ?_⟩
        have e17 : a.tmps[17]? = some (.agg #[.int .i64 a1_0, .int .i64 a1_1, .int .u32 a1_2, .int .i64 a1_3, .int .i64 a1_4, .float .f64 a1_5, .float .f64 a1_6, .bool a1_7, .int .i64 a1_8, .int .i64 a1_9, .int .i64 a1_10]) := by rw [ha]; exact putSel_on (e := (3, 17, .agg #[.int .i64 a1_0, .int .i64 a1_1, .int .u32 a1_2, .int .i64 a1_3, .int .i64 a1_4, .float .f64 a1_5, .float .f64 a1_6, .bool a1_7, .int .i64 a1_8, .int .i64 a1_9, .int .i64 a1_10])) 1 rfl rfl (hon 3 (by kernel_rfl)) rfl
        replace ha := Aside0.mk ha
        have BK119 := Aside0.mk Q_BK119
        have HB := Aside0.mk Q_HB
        refine Kd.R_lit_step k26 _ 26 ?hg (N := 18) ?hd (xs := ([(⟨a1_0, a1_1, a1_2, a1_3, a1_4, a1_5, a1_6, a1_7, a1_8, a1_9, a1_10⟩ : S26)] : List (S26))) (inner := [.int .i64 a1_0, .int .i64 a1_1, .int .u32 a1_2, .int .i64 a1_3, .int .i64 a1_4, .float .f64 a1_5, .float .f64 a1_6, .bool a1_7, .int .i64 a1_8, .int .i64 a1_9, .int .i64 a1_10]) (ok := fun _ => True) (okp := fun _ => True) ?hr ?hp (fun _ hk => hk) trivial (Below.refl _ _) (Nat.le_refl _) (by simp) ?_; (case hd => rfl); (case hg => rfl); (case hr => first | (go_simp; done) | (go_simp; rfl)); (case hp => exact (Reps.front (show Kd.M k26 _ _ _ (⟨a1_0, a1_1, a1_2, a1_3, a1_4, a1_5, a1_6, a1_7, a1_8, a1_9, a1_10⟩ : S26) [.int .i64 a1_0, .int .i64 a1_1, .int .u32 a1_2, .int .i64 a1_3, .int .i64 a1_4, .float .f64 a1_5, .float .f64 a1_6, .bool a1_7, .int .i64 a1_8, .int .i64 a1_9, .int .i64 a1_10] from (k26_mkM _ _ _ (⟨a1_0, a1_1, a1_2, a1_3, a1_4, a1_5, a1_6, a1_7, a1_8, a1_9, a1_10⟩ : S26) )) rfl (Reps.none _ _) rfl))
        intro v125 w12 ho13 hb hg_ hnew_
        clear hg_ hnew_
        (first | rw [← Ny124.out] at ho13 | (simp only [Int.reduceToNat] at ho13; rw [← Ny124.out] at ho13))
        have n0_ := Aside0.mk (Kd.R_lower (Kd.R_newB ho13 (g := gb119) (Up.up BK119.out)) (below_size (by exact h1q HB.out GE119.out)))
        have n1_ := Aside0.mk (blk_below (g := gb119) (Up.up BK119.out) hb)
        have n2_ := Aside0.mk (below_step (by exact h1q HB.out GE119.out) hb)
        have z_D := fun (h1_ : b 1 = true) (_ : up b 4 4 = true) (h5_ : b 5 = false) (k_ : Nat) (hk_ : v122.ownBlock = some k_) (he_ : v125.ownBlock = some k_) => (Nat.lt_irrefl _ (Nat.lt_of_lt_of_le (Kd.R_lt (Q_HO123 h1_ h5_) k_ hk_) (Kd.R_base ho13 k_ he_)) : False)
        have z_HO123 := fun (h0_ : b 1 = true) (h5_ : b 5 = false) => (show Kd.R k26 26 w12 w.heap.size (fun k_ => k_ ≠ gb119) v122 l0 from by first | exact (Kd.R_elder' (by (with_reducible repeat (first | apply Kd.R_alloc | apply Kd.R_drewN | apply Kd.R_drew)); exact (Q_HO123 h0_ h5_)) (Kd.R_base ho13) hb) | exact Kd.R_mono (Kd.R_elder' (by (with_reducible repeat (first | apply Kd.R_alloc | apply Kd.R_drewN | apply Kd.R_drew)); exact (Q_HO123 h0_ h5_)) (Kd.R_base ho13) hb) (fun _ h_ => by first | trivial | exact h_ | exact h_.1))
        clear BK119
        clear HB
        have HO126 := n0_
        have BK119 := n1_
        have HB := n2_
        clear n0_ n1_ n2_
        clear hb ho13
        refine hK.out _ _ ⟨v122, v125, v128, m7_, (by rw [ha.out]; exact putSel_upk 2 hb_ rfl rfl rfl), (Up.up BK119.out), (by exact h1q HB.out GE119.out), z_HO123, fun _ _ => (by (with_reducible repeat (first | apply Kd.R_alloc | apply Kd.R_drewN | apply Kd.R_drew)); exact Kd.R_mono HO126.out (fun _ hk => hk.2)), fun h0_ => absurd ((hoff 5 (by kernel_rfl)).symm.trans h0_) (by decide), fun h0_ => absurd ((hoff 7 (by kernel_rfl)).symm.trans h0_) (by decide), z_D⟩
      refine steps_cons ?_ ?_
      · rintro b a w' ⟨v122, v125, v128, m7_, ha, Q_BK119, Q_HB, Q_HO123, Q_HO126, Q_HO129, Q_X7_, Q_D⟩ hb_ hon hoff
        refine ⟨_, rfl, fun K hK => ?_⟩
        have e15 : a.tmps[15]? = some (v122) := by rw [ha]; exact putSel_on (e := (1, 15, v122)) 0 rfl rfl (hon 1 (by kernel_rfl)) rfl
        have e16 : a.tmps[16]? = some (.int .i64 x6_3) := by rw [ha]; exact (putSel_off rfl).trans rfl
        have e18 : a.tmps[18]? = some (v125) := by rw [ha]; exact putSel_on (e := (4, 18, v125)) 2 rfl rfl (hon 4 (by kernel_rfl)) rfl
        replace ha := Aside0.mk ha
        have BK119 := Aside0.mk Q_BK119
        have HB := Aside0.mk Q_HB
        have HO123 := Aside0.mk (Q_HO123 (hon 1 (by kernel_rfl)) hb_)
        have HO126 := Aside0.mk (Q_HO126 (hon 4 (by kernel_rfl)) hb_)
        have hg9 : gb119 < w'.heap.size := (Array.getElem?_eq_some_iff.1 BK119.out).1
        have hI := insert_ev v122 v125 w.heap.size w.heap.size _ l0 ⟨a1_0, a1_1, a1_2, a1_3, a1_4, a1_5, a1_6, a1_7, a1_8, a1_9, a1_10⟩ (atE ⟨a1_0, a1_1, a1_2, a1_3, a1_4, a1_5, a1_6, a1_7, a1_8, a1_9, a1_10⟩ l0) w' (atE_le ⟨a1_0, a1_1, a1_2, a1_3, a1_4, a1_5, a1_6, a1_7, a1_8, a1_9, a1_10⟩ l0) HL.out (Kd.R_mono HO123.out (fun _ _ => trivial)) (Ny124.out ▸ HO126.out) (Q_D (hon 1 (by kernel_rfl)) (hon 4 (by kernel_rfl)) hb_) HB.out.size
        rw [← HX6.out] at hI
        refine goes_ Try.func26 (by kernel_rfl) rfl #[v122, .int .i64 x6_3, v125] (by rfl) rfl rfl (by first | (simp only [List.map_toArray, List.map_cons, List.map_nil, Act.eval, Array.getD_eq_getD_getElem?, Option.getD_some, e15, e16, e18]; done) | (simp only [List.map_toArray, List.map_cons, List.map_nil, Act.eval, Array.getD_eq_getD_getElem?, Option.getD_some, e15, e16, e18]; rfl)) ?_
        refine hI.mono ?_
        rintro e w18 ⟨v128, rfl, ho, hgr, hat⟩
        refine ⟨_, rfl, ?_⟩
        have hne : v122.ownBlock ≠ some gb119 := fun h_ => HO123.out.1 gb119 h_ rfl
        have z1 : Aside0 (w18.heap[gb119]? = some (.cells #[.int .i64 a1_0, .int .i64 a1_1, .int .u32 a1_2, .int .i64 a1_3, .int .i64 a1_4, .float .f64 a1_5, .float .f64 a1_6, .bool a1_7, .int .i64 a1_8, .int .i64 a1_9, .int .i64 a1_10] 26 (0, 0))) := ⟨(hgr.block gb119 hg9 (fun h_ => hne h_.symm)).trans BK119.out⟩
        have z2 : Aside0 (Below w.heap.size w w18) := ⟨Below.grown HB.out hgr HB.out.size (fun k_ h_ => Kd.R_base HO123.out k_ h_)⟩
        have z3 : Aside0 (Kd.R k26 26 w18 w.heap.size (fun k_ => k_ ≠ gb119) v128 t127) := ⟨by
          rw [HT7.out]
          have hb9 : ∀ k_, v128.ownBlock = some k_ → k_ ≠ gb119 := fun k_ h_ he_ => by
            subst he_
            rcases hat with h1_ | ⟨q_, h1_, h2_⟩
            · exact hne (h1_.symm.trans h_)
            · rw [h1_] at h_; injection h_ with h_; omega
          rcases R_flat ho with ⟨h1_, h2_⟩ | ⟨g_, cap_, cur_, h1_, h2_, h3_, h4_, h5_, h6_, h7_⟩
          · exact absurd h2_ (by simp)
          · rw [h1_]
            exact flat_R (hb9 g_ (by rw [h1_]; rfl)) h2_ h3_ h4_ h5_ h6_ h7_⟩
        clear HO123 HO126 BK119 HB hI hgr hat ho
        refine hK.out _ _ ⟨v122, v125, v128, m7_, (by rw [ha.out]; exact putSel_upk 3 hb_ rfl rfl rfl), z1.out, z2.out, fun _ h_ => absurd (show up b 5 5 = false from h_) (by simp [up]), fun _ h_ => absurd (show up b 5 5 = false from h_) (by simp [up]), fun _ => z3.out, fun h0_ => absurd ((hoff 7 (by kernel_rfl)).symm.trans h0_) (by decide), fun _ _ h_ => absurd (show up b 5 5 = false from h_) (by simp [up])⟩
      refine steps_cons ?_ ?_
      · rintro b a w' ⟨v122, v125, v128, m7_, ha, Q_BK119, Q_HB, Q_HO123, Q_HO126, Q_HO129, Q_X7_, Q_D⟩ hb_ hon hoff
        refine ⟨_, rfl, fun K hK => ?_⟩
        have e19 : a.tmps[19]? = some (v128) := by rw [ha]; exact putSel_on (e := (5, 19, v128)) 3 rfl rfl (hon 5 (by kernel_rfl)) rfl
        replace ha := Aside0.mk ha
        have BK119 := Aside0.mk Q_BK119
        have HB := Aside0.mk Q_HB
        have HO129 := Aside0.mk (Q_HO129 (hon 5 (by kernel_rfl)))
        refine value_ (w1 := w') (v := v128) (by rfl) rfl ?_ ?_
        · go_simp
          (try simp only [i64_w])
          try rfl
        refine hK.out _ _ ⟨v122, v125, v128, (v128), (by rw [ha.out]; exact putSel_upk 4 hb_ rfl rfl rfl), Q_BK119, Q_HB, Q_HO123, Q_HO126, Q_HO129, fun _ => rfl, Q_D⟩
      refine steps_cons ?_ ?_
      · rintro b a w' ⟨v122, v125, v128, m7_, ha, Q_BK119, Q_HB, Q_HO123, Q_HO126, Q_HO129, Q_X7_, Q_D⟩ hb_ hon hoff
        refine ⟨_, rfl, fun K hK => ?_⟩
        have e20 : a.tmps[20]? = some (.int .i64 x6_3) := by rw [ha]; exact (putSel_off rfl).trans rfl
        replace ha := Aside0.mk ha
        have BK119 := Aside0.mk Q_BK119
        have HB := Aside0.mk Q_HB
        have HO129 := Aside0.mk (Q_HO129 (hon 5 (by kernel_rfl)))
        refine value_ (w1 := w') (v := .int .i64 x6_3) (by rfl) rfl ?_ ?_
        · go_simp
          (try simp only [i64_w])
          try rfl
        refine hK.out _ _ ⟨v122, v125, v128, m7_, (by rw [ha.out]; exact putSel_upk 5 hb_ rfl rfl rfl), Q_BK119, Q_HB, Q_HO123, Q_HO126, Q_HO129, Q_X7_, Q_D⟩
      exact steps_nil
    rintro b a w18 hall ⟨v122, v125, v128, m7_, ha, Q_BK119, Q_HB, Q_HO123, Q_HO126, Q_HO129, Q_X7_, Q_D⟩
    clear BK119 HB
    have hb1_ := hall 1 (by kernel_rfl)
    have hb3_ := hall 3 (by kernel_rfl)
    have hb4_ := hall 4 (by kernel_rfl)
    have hb5_ := hall 5 (by kernel_rfl)
    have hb7_ := hall 7 (by kernel_rfl)
    have hb8_ := hall 8 (by kernel_rfl)
    subst ha
    obtain rfl := Q_X7_ hb7_
    simp only [putSel, hb1_, hb3_, hb4_, hb5_, hb7_, hb8_, if_true, Act.put, List.setIfInBounds_toArray, List.set_cons_zero, List.set_cons_succ]
    have BK119 := Aside0.mk Q_BK119
    clear Q_BK119
    have HB := Aside0.mk Q_HB
    clear Q_HB
    have HO129 := Aside0.mk (Q_HO129 hb5_)
    clear Q_HO129
    clear hall hb1_ hb3_ hb4_ hb5_ hb7_ hb8_
    try go_wp2
    go_ret2
    exact ⟨_, by first | rfl | (simp [errW_none, errW_some] <;> rfl) | (simp [*, errW_none, errW_some] <;> rfl), by (with_reducible repeat (first | apply Kd.R_alloc | apply Kd.R_drewN | apply Kd.R_drew)); exact Kd.R_mono HO129.out (fun _ hk => trivial), by exact h1q HB.out GE119.out⟩
end Go.Proofs.Ytjdhhbjnihhncaa.P
