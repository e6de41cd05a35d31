/- Functions of the program as plain Lean functions, and proofs that its calls come to just their answers, where they tell one (written by a program of this session). -/
import Derived.Test.YtjdhhbjnihhncaaZaa
import Derived.Test.YtjdhhbjnihhncaaPx0
import Derived.Test.YtjdhhbjnihhncaaPx5
namespace Go.Proofs.Ytjdhhbjnihhncaa.P
open Go.RowKit Go.Proofs.YtjdhhbjnihhncaaW.PrintWords Go.Proofs.YtjdhhbjnihhncaaW.PrintLast Go.Proofs.YtjdhhbjnihhncaaW.PrintMore
attribute [local go_sem] run_store_float max2_int min2_int max_two min_two max_three min_three max_four min_four   -- for this text's walks alone
set_option linter.unusedVariables false
set_option linter.unusedSimpArgs false

/-! ### annuityref23_Put: function 10 -/
def annuityref23_Put.l0 : Nat → List (S26) → Int → Int → Int → Int → Int → Int → Nat → Nat → Bool → Int → Int → Int → Option ((List (S26)) × Int)
 | 0, _, _, _, _, _, _, _, _, _, _, _, _, _ => none
 | k + 1, x0, x6, x166000, x166001, x166002, x166003, x166004, x166005, x166006, x166007, x166008, x166009, x166010 => if x6 < (x0.length : Int) then (if 0 ≤ x6 then ((annuityref23_Compare.f k ((rd_T26 x0 x6).f0) ((rd_T26 x0 x6).f1) ((rd_T26 x0 x6).f2) ((rd_T26 x0 x6).f3) ((rd_T26 x0 x6).f4) ((rd_T26 x0 x6).f5) ((rd_T26 x0 x6).f6) ((rd_T26 x0 x6).f7) ((rd_T26 x0 x6).f8) ((rd_T26 x0 x6).f9) ((rd_T26 x0 x6).f10) x166000 x166001 x166002 x166003 x166004 x166005 x166006 x166007 x166008 x166009 x166010).bind fun t167 => (if t167 ≤ 0 then (annuityref23_Put.l0 k x0 (wrap64 (x6 + 1)) x166000 x166001 x166002 x166003 x166004 x166005 x166006 x166007 x166008 x166009 x166010) else ((some (([] : List (S26)) : List (S26))).bind fun y168 => (if x6 ≤ (x0.length : Int) then ((some (x0.take (x6 : Int).toNat : List (S26))).bind fun y171 => (if y168.length + y171.length < 1599289640401 then ((some (y168 ++ y171 : List (S26))).bind fun y175 => ((some (([(⟨x166000, x166001, x166002, x166003, x166004, x166005, x166006, x166007, x166008, x166009, x166010⟩ : S26)] : List (S26)) : List (S26))).bind fun y178 => (if y175.length + y178.length < 1599289640401 then ((some (y175 ++ y178 : List (S26))).bind fun y181 => ((some (x0.drop (x6 : Int).toNat : List (S26))).bind fun y184 => (if y181.length + y184.length < 1599289640401 then (some ((y181 ++ y184), x6)) else (none)))) else (none)))) else (none))) else (none))))) else (none)) else ((some (([] : List (S26)) : List (S26))).bind fun y191 => (if 0 ≤ x6 then (if x6 ≤ (x0.length : Int) then ((some (x0.take (x6 : Int).toNat : List (S26))).bind fun y194 => (if y191.length + y194.length < 1599289640401 then ((some (y191 ++ y194 : List (S26))).bind fun y198 => ((some (([(⟨x166000, x166001, x166002, x166003, x166004, x166005, x166006, x166007, x166008, x166009, x166010⟩ : S26)] : List (S26)) : List (S26))).bind fun y201 => (if y198.length + y201.length < 1599289640401 then ((some (y198 ++ y201 : List (S26))).bind fun y204 => ((some (x0.drop (x6 : Int).toNat : List (S26))).bind fun y207 => (if y204.length + y207.length < 1599289640401 then (some ((y204 ++ y207), x6)) else (none)))) else (none)))) else (none))) else (none)) else (none)))
def annuityref23_Put.f (k : Nat) (l0 : List (S26)) (a1_0 : Int) (a1_1 : Int) (a1_2 : Int) (a1_3 : Int) (a1_4 : Int) (a1_5 : Nat) (a1_6 : Nat) (a1_7 : Bool) (a1_8 : Int) (a1_9 : Int) (a1_10 : Int) : Option ((List (S26)) × Int) := annuityref23_Put.l0 k l0 0 a1_0 a1_1 a1_2 a1_3 a1_4 a1_5 a1_6 a1_7 a1_8 a1_9 a1_10
def annuityref23_Put.T2 : Bool × List (List Nat × List Nat) := (true, [([], []), ([], []), ([1], [1]), ([0, 2], [0, 2]), ([3], [3]), ([4], [4]), ([4], [4]), ([5, 6, 4], [4, 5, 6]), ([7, 4], [4, 7]), ([4], [4]), ([8, 9, 4, 4], [4, 8, 9]), ([10, 4], [4, 10]), ([4, 11], [4, 11])])
def annuityref23_Put.B2 : List Nat := [0, 0, 2, 7, 15, 31, 31, 127, 255, 31, 1023, 2047, 4095]
theorem annuityref23_Put.tab2 : rtab .any (opsOf Try.f10 2) = annuityref23_Put.T2 := by kernel_rfl
theorem annuityref23_Put.bits2 : waitsOk annuityref23_Put.T2.2 annuityref23_Put.B2 = true := by kernel_rfl
def annuityref23_Put.T4 : Bool × List (List Nat × List Nat) := (true, [([], []), ([], []), ([], []), ([1, 2], [1, 2]), ([0, 3], [0, 3]), ([], []), ([5], [5]), ([4, 6, 4], [4, 6]), ([], []), ([], []), ([8, 9], [8, 9]), ([7, 10, 7], [7, 10]), ([], []), ([11, 11, 0, 1, 2, 3, 4, 5, 6, 7, 8, 9, 10, 11], [11]), ([12, 13, 0, 1, 2, 3, 4, 5, 6, 7, 8, 9, 10, 11, 12, 13], [12])])
def annuityref23_Put.B4 : List Nat := [0, 0, 0, 6, 15, 0, 32, 127, 0, 0, 768, 2047, 0, 4095, 16383]
theorem annuityref23_Put.tab4 : rtab .any (opsOf Try.f10 4) = annuityref23_Put.T4 := by kernel_rfl
theorem annuityref23_Put.bits4 : waitsOk annuityref23_Put.T4.2 annuityref23_Put.B4 = true := by kernel_rfl
set_option maxHeartbeats 8000000 in
set_option maxRecDepth 100000 in
theorem annuityref23_Put.calls (k : Nat) (A0 : Option Addr) (c0 : Nat) (l0 : List (S26)) (a1_0 : Int) (a1_1 : Int) (a1_2 : Int) (a1_3 : Int) (a1_4 : Int) (a1_5 : Nat) (a1_6 : Nat) (a1_7 : Bool) (a1_8 : Int) (a1_9 : Int) (a1_10 : Int) (r1 : List (S26)) (r2 : Int) (w : World) (hr0 : Kd.C k26 w A0 l0.length l0) (hc0 : l0.length ≤ c0) (h : annuityref23_Put.f k l0 a1_0 a1_1 a1_2 a1_3 a1_4 a1_5 a1_6 a1_7 a1_8 a1_9 a1_10 = some (r1, r2)) :
  Calls Try.prog 10 #[.slice A0 l0.length c0, .agg #[.int .i64 a1_0, .int .i64 a1_1, .int .u32 a1_2, .int .i64 a1_3, .int .i64 a1_4, .float .f64 a1_5, .float .f64 a1_6, .bool a1_7, .int .i64 a1_8, .int .i64 a1_9, .int .i64 a1_10]] w fun e w' => ∃ v0_ : Value, e = .returned (.tuple #[v0_, .int .i64 r2]) ∧ Kd.R k26 26 w' w.heap.size (fun _ => True) v0_ r1 ∧ Below w.heap.size w w' := by
 have hu26 := Try.underlying26
 have HR0 := Aside0.mk hr0
 have HC0 := Aside0.mk hc0
 clear hr0 hc0
 have HB := Aside0.mk (Below.refl w.heap.size w)
 have H : (annuityref23_Put.l0 k l0 0 a1_0 a1_1 a1_2 a1_3 a1_4 a1_5 a1_6 a1_7 a1_8 a1_9 a1_10) = some (r1, r2) := h
 clear h
 have H' := Aside0.mk H
 clear H
 go_enter Try.func10, Try.ntmps10
 go_wp2_with (first | ((with_reducible refine gate_dst (N := 3) rfl ?_); refine box_event ?hg (N := 3) ?hd (cs := #[.int .i64 a1_0, .int .i64 a1_1, .int .u32 a1_2, .int .i64 a1_3, .int .i64 a1_4, .float .f64 a1_5, .float .f64 a1_6, .bool a1_7, .int .i64 a1_8, .int .i64 a1_9, .int .i64 a1_10]) (t := 26) ?hr ?_; (case hd => rfl); (case hg => rfl); (case hr => first | (go_simp; done) | (go_simp; rfl)); intro gb165 hg w3 hbox hb; have n0_ := Aside0.mk (below_step (by exact h0q HB.out) hb); have n1_ := Aside0.mk (hbox); have n2_ := Aside0.mk ((by rw [hg]; exact (below_size (by exact h0q HB.out)) : w.heap.size ≤ gb165)); have n3_ := Aside0.mk ((by rw [hg]; exact (below_size (by exact h0q HB.out)) : w.heap.size ≤ gb165)); clear HB; have HB := n0_; have BK165 := n1_; have GW165 := n2_; have GE165 := n3_; clear n0_ n1_ n2_ n3_; clear hb hbox hg))
 go_loopg [6] k (fun kq v6 w' => ∃ (x6_1 : Int), v6 = .int .i64 x6_1 ∧ Aside0 (annuityref23_Put.l0 kq l0 x6_1 a1_0 a1_1 a1_2 a1_3 a1_4 a1_5 a1_6 a1_7 a1_8 a1_9 a1_10 = some (r1, r2)) ∧ Aside0 (kq ≤ k) ∧ Aside0 (w'.heap[gb165]? = some (.cells #[.int .i64 a1_0, .int .i64 a1_1, .int .u32 a1_2, .int .i64 a1_3, .int .i64 a1_4, .float .f64 a1_5, .float .f64 a1_6, .bool a1_7, .int .i64 a1_8, .int .i64 a1_9, .int .i64 a1_10] 26 (0, 0))) ∧ Aside0 (Below w.heap.size w w'))
 case atStart => exact ⟨(0), (by first | rfl | (simp; done) | (simp [*]; done)), H', ⟨Nat.le_refl _⟩, ⟨by exact bb BK165.out⟩, ⟨by exact h1q HB.out GE165.out⟩⟩
 case round =>
  clear H'
  try clear c1
  obtain ⟨x6_1, rfl, HA, HK1, BK165, HB⟩ := hrel
  rcases gk with _ | k1
  ·exact absurd HA.out (by simp [annuityref23_Put.l0])
  have H := HA.out
  clear HA
  simp only [annuityref23_Put.l0] at H
  by_cases c4 : x6_1 < (l0.length : Int)
  ·rw [if_pos c4] at H
   have c4b0 : decide (x6_1 < (l0.length : Int)) = true := decide_eq_true c4
   clear c4
   by_cases c5 : 0 ≤ x6_1
   ·rw [if_pos c5] at H
    have c5b0 : decide (0 ≤ x6_1) = true := decide_eq_true c5
    clear c5
    replace H := Option.bind_eq_some_iff.mp H
    obtain ⟨t167, A60, H⟩ := H
    replace H : (if t167 ≤ 0 then (annuityref23_Put.l0 k1 l0 (wrap64 (x6_1 + 1)) a1_0 a1_1 a1_2 a1_3 a1_4 a1_5 a1_6 a1_7 a1_8 a1_9 a1_10) else ((some (([] : List (S26)) : List (S26))).bind fun y168 => (if x6_1 ≤ (l0.length : Int) then ((some (l0.take (x6_1 : Int).toNat : List (S26))).bind fun y171 => (if y168.length + y171.length < 1599289640401 then ((some (y168 ++ y171 : List (S26))).bind fun y175 => ((some (([(⟨a1_0, a1_1, a1_2, a1_3, a1_4, a1_5, a1_6, a1_7, a1_8, a1_9, a1_10⟩ : S26)] : List (S26)) : List (S26))).bind fun y178 => (if y175.length + y178.length < 1599289640401 then ((some (y175 ++ y178 : List (S26))).bind fun y181 => ((some (l0.drop (x6_1 : Int).toNat : List (S26))).bind fun y184 => (if y181.length + y184.length < 1599289640401 then (some ((y181 ++ y184), x6_1)) else (none)))) else (none)))) else (none))) else (none)))) = some (r1, r2) := H
    have A6 := Aside0.mk A60
    clear A60
    by_cases c7 : t167 ≤ 0
    ·rw [if_pos c7] at H
     have c7b0 : decide (t167 ≤ 0) = true := decide_eq_true c7
     clear c7
     have H' := Aside0.mk H
     clear H
     try go_wp2
     have n0_ := Aside0.mk (blk_drew BK165.out)
     have n1_ := Aside0.mk (below_drew1 HB.out)
     clear BK165
     clear HB
     have BK165 := n0_
     have HB := n1_
     clear n0_ n1_
     have p166 : 0 ≤ (x6_1 : Int) := yd
     have q166 : x6_1 < (l0.length : Int) := yd
     obtain ⟨ad166, e166, hx166_0, hx166_1, hx166_2, hx166_3, hx166_4, hx166_5, hx166_6, hx166_7, hx166_8, hx166_9, hx166_10⟩ := at_T26 HR0.out x6_1 p166 q166
     have hw166_10 := hx166_10
     have hw166_9 := hx166_9
     have hw166_8 := hx166_8
     have hw166_7 := hx166_7
     have hw166_6 := hx166_6
     have hw166_5 := hx166_5
     have hw166_4 := hx166_4
     have hw166_3 := hx166_3
     have hw166_2 := hx166_2
     have hw166_1 := hx166_1
     have hw166_0 := hx166_0
     cases e166
     replace hx166_0 := hxb HB.out hx166_0
     replace hx166_1 := hxb HB.out hx166_1
     replace hx166_2 := hxb HB.out hx166_2
     replace hx166_3 := hxb HB.out hx166_3
     replace hx166_4 := hxb HB.out hx166_4
     replace hx166_5 := hxb HB.out hx166_5
     replace hx166_6 := hxb HB.out hx166_6
     replace hx166_7 := hxb HB.out hx166_7
     replace hx166_8 := hxb HB.out hx166_8
     replace hx166_9 := hxb HB.out hx166_9
     replace hx166_10 := hxb HB.out hx166_10
     replace p166 := eq_true p166
     replace q166 := eq_true q166
     refine start_ (n := 13) (S := fun w' => w'.cell? ⟨gb165, 0, none⟩ = some (.int .i64 a1_0) ∧ w'.cell? ⟨gb165, 1, none⟩ = some (.int .i64 a1_1) ∧ w'.cell? ⟨gb165, 2, none⟩ = some (.int .u32 a1_2) ∧ w'.cell? ⟨gb165, 3, none⟩ = some (.int .i64 a1_3) ∧ w'.cell? ⟨gb165, 4, none⟩ = some (.int .i64 a1_4) ∧ w'.cell? ⟨gb165, 5, none⟩ = some (.float .f64 a1_5) ∧ w'.cell? ⟨gb165, 6, none⟩ = some (.float .f64 a1_6) ∧ w'.cell? ⟨gb165, 7, none⟩ = some (.bool a1_7) ∧ w'.cell? ⟨gb165, 8, none⟩ = some (.int .i64 a1_8) ∧ w'.cell? ⟨gb165, 9, none⟩ = some (.int .i64 a1_9) ∧ w'.cell? ⟨gb165, 10, none⟩ = some (.int .i64 a1_10) ∧ w'.cell? (ad166.add ((x6_1).toNat * 11)) = some (.int .i64 ((rd_T26 l0 x6_1).f0)) ∧ w'.cell? ⟨(ad166.add ((x6_1).toNat * 11)).block, (ad166.add ((x6_1).toNat * 11)).off + 1, none⟩ = some (.int .i64 ((rd_T26 l0 x6_1).f1)) ∧ w'.cell? ⟨(ad166.add ((x6_1).toNat * 11)).block, (ad166.add ((x6_1).toNat * 11)).off + 2, none⟩ = some (.int .u32 ((rd_T26 l0 x6_1).f2)) ∧ w'.cell? ⟨(ad166.add ((x6_1).toNat * 11)).block, (ad166.add ((x6_1).toNat * 11)).off + 3, none⟩ = some (.int .i64 ((rd_T26 l0 x6_1).f3)) ∧ w'.cell? ⟨(ad166.add ((x6_1).toNat * 11)).block, (ad166.add ((x6_1).toNat * 11)).off + 4, none⟩ = some (.int .i64 ((rd_T26 l0 x6_1).f4)) ∧ w'.cell? ⟨(ad166.add ((x6_1).toNat * 11)).block, (ad166.add ((x6_1).toNat * 11)).off + 5, none⟩ = some (.float .f64 ((rd_T26 l0 x6_1).f5)) ∧ w'.cell? ⟨(ad166.add ((x6_1).toNat * 11)).block, (ad166.add ((x6_1).toNat * 11)).off + 6, none⟩ = some (.float .f64 ((rd_T26 l0 x6_1).f6)) ∧ w'.cell? ⟨(ad166.add ((x6_1).toNat * 11)).block, (ad166.add ((x6_1).toNat * 11)).off + 7, none⟩ = some (.bool ((rd_T26 l0 x6_1).f7)) ∧ w'.cell? ⟨(ad166.add ((x6_1).toNat * 11)).block, (ad166.add ((x6_1).toNat * 11)).off + 8, none⟩ = some (.int .i64 ((rd_T26 l0 x6_1).f8)) ∧ w'.cell? ⟨(ad166.add ((x6_1).toNat * 11)).block, (ad166.add ((x6_1).toNat * 11)).off + 9, none⟩ = some (.int .i64 ((rd_T26 l0 x6_1).f9)) ∧ w'.cell? ⟨(ad166.add ((x6_1).toNat * 11)).block, (ad166.add ((x6_1).toNat * 11)).off + 10, none⟩ = some (.int .i64 ((rd_T26 l0 x6_1).f10))) (ds := []) #[false, false, false, false, false, false, false, false, false, false, false, false, false] (by kernel_rfl) rfl rfl ⟨(blk_cell BK165.out 0).trans rfl, (blk_cell BK165.out 1).trans rfl, (blk_cell BK165.out 2).trans rfl, (blk_cell BK165.out 3).trans rfl, (blk_cell BK165.out 4).trans rfl, (blk_cell BK165.out 5).trans rfl, (blk_cell BK165.out 6).trans rfl, (blk_cell BK165.out 7).trans rfl, (blk_cell BK165.out 8).trans rfl, (blk_cell BK165.out 9).trans rfl, (blk_cell BK165.out 10).trans rfl, (hxb HB.out hw166_0), (hxb HB.out hw166_1), (hxb HB.out hw166_2), (hxb HB.out hw166_3), (hxb HB.out hw166_4), (hxb HB.out hw166_5), (hxb HB.out hw166_6), (hxb HB.out hw166_7), (hxb HB.out hw166_8), (hxb HB.out hw166_9), (hxb HB.out hw166_10)⟩ (fun hHeld => ?_); refine with_tabW annuityref23_Put.tab2 annuityref23_Put.bits2 (fun HT_ HW_ => ?_)
     generalize wr.drew = w8 at BK165 HB hx166_0 hx166_1 hx166_10 hx166_2 hx166_3 hx166_4 hx166_5 hx166_6 hx166_7 hx166_8 hx166_9 hHeld ⊢
     refine pure_ (i := 0) (N := some 7) (v := ?_) (a' := ?_) #[true, false, false, false, false, false, false, false, false, false, false, false, false] rfl rfl (any_of HT_.out (by kernel_rfl)) (fun _ _ _ h => h) (Or.inl ⟨by rfl, ?_⟩) ?_ ?_
     rotate_left
     ·intro w'
      go_simp
      with_reducible rfl
     rotate_left
     ·simp only [Act.put, List.setIfInBounds_toArray, List.set_cons_zero, List.set_cons_succ, i64_w, i32_w]
      rfl
     refine pure_ (i := 1) (N := some 8) (v := ?_) (a' := ?_) #[true, true, false, false, false, false, false, false, false, false, false, false, false] rfl rfl (any_of HT_.out (by kernel_rfl)) (fun _ _ _ h => h) (Or.inl ⟨by rfl, ?_⟩) ?_ ?_
     rotate_left
     ·intro w'
      go_simp
      with_reducible rfl
     rotate_left
     ·simp only [Act.put, List.setIfInBounds_toArray, List.set_cons_zero, List.set_cons_succ, i64_w, i32_w]
      rfl
     refine pure_ (i := 2) (N := some 9) (v := ?_) (a' := ?_) #[true, true, true, false, false, false, false, false, false, false, false, false, false] rfl rfl (any_of HT_.out (by kernel_rfl)) (fun _ _ _ h => h) (Or.inl ⟨by rfl, ?_⟩) ?_ ?_
     rotate_left
     ·intro w'
      go_simp
      with_reducible rfl
     rotate_left
     ·simp only [Act.put, List.setIfInBounds_toArray, List.set_cons_zero, List.set_cons_succ, i64_w, i32_w]
      rfl
     refine pure_ (i := 3) (N := some 10) (v := ?_) (a' := ?_) #[true, true, true, true, false, false, false, false, false, false, false, false, false] rfl rfl (any_of HT_.out (by kernel_rfl)) (fun _ _ _ h => h) (Or.inl ⟨by rfl, ?_⟩) ?_ ?_
     rotate_left
     ·intro w'
      go_simp
      with_reducible rfl
     rotate_left
     ·simp only [Act.put, List.setIfInBounds_toArray, List.set_cons_zero, List.set_cons_succ, i64_w, i32_w]
      rfl
     refine pure_ (i := 4) (N := some 11) (v := ?_) (a' := ?_) #[true, true, true, true, true, false, false, false, false, false, false, false, false] rfl rfl (any_of HT_.out (by kernel_rfl)) (fun _ _ _ h => h) (Or.inl ⟨by rfl, ?_⟩) ?_ ?_
     rotate_left
     ·intro w'
      go_simp
      with_reducible rfl
     rotate_left
     ·simp only [Act.put, List.setIfInBounds_toArray, List.set_cons_zero, List.set_cons_succ, i64_w, i32_w]
      rfl
     refine pure_ (i := 5) (N := some 12) (v := ?_) (a' := ?_) #[true, true, true, true, true, true, false, false, false, false, false, false, false] rfl rfl (any_of HT_.out (by kernel_rfl)) (fun _ _ _ h => h) (Or.inl ⟨by rfl, ?_⟩) ?_ ?_
     rotate_left
     ·intro w'
      go_simp
      with_reducible rfl
     rotate_left
     ·simp only [Act.put, List.setIfInBounds_toArray, List.set_cons_zero, List.set_cons_succ, i64_w, i32_w]
      rfl
     refine pure_ (i := 6) (N := some 13) (v := ?_) (a' := ?_) #[true, true, true, true, true, true, true, false, false, false, false, false, false] rfl rfl (any_of HT_.out (by kernel_rfl)) (fun _ _ _ h => h) (Or.inl ⟨by rfl, ?_⟩) ?_ ?_
     rotate_left
     ·intro w'
      go_simp
      with_reducible rfl
     rotate_left
     ·simp only [Act.put, List.setIfInBounds_toArray, List.set_cons_zero, List.set_cons_succ, i64_w, i32_w]
      rfl
     refine pure_ (i := 7) (N := some 14) (v := ?_) (a' := ?_) #[true, true, true, true, true, true, true, true, false, false, false, false, false] rfl rfl (any_of HT_.out (by kernel_rfl)) (fun _ _ _ h => h) (Or.inl ⟨by rfl, ?_⟩) ?_ ?_
     rotate_left
     ·intro w'
      go_simp
      with_reducible rfl
     rotate_left
     ·simp only [Act.put, List.setIfInBounds_toArray, List.set_cons_zero, List.set_cons_succ, i64_w, i32_w]
      rfl
     refine take_ (i := 8) (N := some 15) (v := ?_) (a' := ?_) #[true, true, true, true, true, true, true, true, true, false, false, false, false] rfl rfl (take_ofW HT_.out HW_.out (by kernel_rfl)) (fun _ _ _ h => h) (Or.inl ⟨by rfl, ?_⟩) hHeld ?_ ?_
     rotate_left
     ·rintro w' ⟨s0, s1, s2, s3, s4, s5, s6, s7, s8, s9, s10, s11, s12, s13, s14, s15, s16, s17, s18, s19, s20, s21⟩
      go_simp
      with_reducible rfl
     rotate_left
     ·simp only [Act.put, List.setIfInBounds_toArray, List.set_cons_zero, List.set_cons_succ, i64_w, i32_w]
      rfl
     refine take_ (i := 9) (N := some 16) (v := ?_) (a' := ?_) #[true, true, true, true, true, true, true, true, true, true, false, false, false] rfl rfl (take_ofW HT_.out HW_.out (by kernel_rfl)) (fun _ _ _ h => h) (Or.inl ⟨by rfl, ?_⟩) hHeld ?_ ?_
     rotate_left
     ·rintro w' ⟨s0, s1, s2, s3, s4, s5, s6, s7, s8, s9, s10, s11, s12, s13, s14, s15, s16, s17, s18, s19, s20, s21⟩
      go_simp
      with_reducible rfl
     rotate_left
     ·simp only [Act.put, List.setIfInBounds_toArray, List.set_cons_zero, List.set_cons_succ, i64_w, i32_w]
      rfl
     refine one_ (i := 10) (N := some 17) #[true, true, true, true, true, true, true, true, true, true, true, false, false] rfl rfl (one_of HT_.out (by kernel_rfl)) (by decide) (fun K hK => ?_)
     refine goes_ Try.func13 (by kernel_rfl) rfl #[.agg #[.int .i64 ((rd_T26 l0 x6_1).f0), .int .i64 ((rd_T26 l0 x6_1).f1), .int .u32 ((rd_T26 l0 x6_1).f2), .int .i64 ((rd_T26 l0 x6_1).f3), .int .i64 ((rd_T26 l0 x6_1).f4), .float .f64 ((rd_T26 l0 x6_1).f5), .float .f64 ((rd_T26 l0 x6_1).f6), .bool ((rd_T26 l0 x6_1).f7), .int .i64 ((rd_T26 l0 x6_1).f8), .int .i64 ((rd_T26 l0 x6_1).f9), .int .i64 ((rd_T26 l0 x6_1).f10)], .agg #[.int .i64 a1_0, .int .i64 a1_1, .int .u32 a1_2, .int .i64 a1_3, .int .i64 a1_4, .float .f64 a1_5, .float .f64 a1_6, .bool a1_7, .int .i64 a1_8, .int .i64 a1_9, .int .i64 a1_10]] (by rfl) rfl rfl (by (try simp only [List.map_toArray, List.map_cons, List.map_nil]); first | done | rfl | (simp only [List.length_drop, List.length_take]; rfl)) ?_
     with_reducible refine (annuityref23_Compare.calls k1 ((rd_T26 l0 x6_1).f0) ((rd_T26 l0 x6_1).f1) ((rd_T26 l0 x6_1).f2) ((rd_T26 l0 x6_1).f3) ((rd_T26 l0 x6_1).f4) ((rd_T26 l0 x6_1).f5) ((rd_T26 l0 x6_1).f6) ((rd_T26 l0 x6_1).f7) ((rd_T26 l0 x6_1).f8) ((rd_T26 l0 x6_1).f9) ((rd_T26 l0 x6_1).f10) a1_0 a1_1 a1_2 a1_3 a1_4 a1_5 a1_6 a1_7 a1_8 a1_9 a1_10 t167 _ A6.out).mono ?_
     rintro e w9 ⟨rfl, hb⟩
     refine ⟨_, rfl, ?_⟩
     have n0_ := Aside0.mk (blk_below (g := gb165) (Up.up BK165.out) hb)
     have n1_ := Aside0.mk (below_step (by exact h1q HB.out GE165.out) hb)
     clear BK165
     clear HB
     have BK165 := n0_
     have HB := n1_
     clear n0_ n1_
     (try clear hb)
     (try clear hb2)
     (try clear hk)
     (try clear hi)
     refine hK.out _ _ ⟨(blk_cell BK165.out 0).trans rfl, (blk_cell BK165.out 1).trans rfl, (blk_cell BK165.out 2).trans rfl, (blk_cell BK165.out 3).trans rfl, (blk_cell BK165.out 4).trans rfl, (blk_cell BK165.out 5).trans rfl, (blk_cell BK165.out 6).trans rfl, (blk_cell BK165.out 7).trans rfl, (blk_cell BK165.out 8).trans rfl, (blk_cell BK165.out 9).trans rfl, (blk_cell BK165.out 10).trans rfl, (hxb HB.out hw166_0), (hxb HB.out hw166_1), (hxb HB.out hw166_2), (hxb HB.out hw166_3), (hxb HB.out hw166_4), (hxb HB.out hw166_5), (hxb HB.out hw166_6), (hxb HB.out hw166_7), (hxb HB.out hw166_8), (hxb HB.out hw166_9), (hxb HB.out hw166_10)⟩ (fun hHeld => ?_)
     clear hK K
     refine norm_ (a' := ?_) ?_ ?_
     rotate_left
     ·show Act.put _ (some 17) _ = _
      simp only [Act.put, List.setIfInBounds_toArray, List.set_cons_zero, List.set_cons_succ, i64_w, i32_w]
      rfl
     refine pure_ (i := 11) (N := some 18) (v := ?_) (a' := ?_) #[true, true, true, true, true, true, true, true, true, true, true, true, false] rfl rfl (any_of HT_.out (by kernel_rfl)) (fun _ _ _ h => h) (Or.inl ⟨by rfl, ?_⟩) ?_ ?_
     rotate_left
     ·intro w'
      go_simp
      with_reducible rfl
     rotate_left
     ·simp only [Act.put, List.setIfInBounds_toArray, List.set_cons_zero, List.set_cons_succ, i64_w, i32_w]
      rfl
     refine pure_ (i := 12) (N := some 19) (v := ?_) (a' := ?_) #[true, true, true, true, true, true, true, true, true, true, true, true, true] rfl rfl (any_of HT_.out (by kernel_rfl)) (fun _ _ _ h => h) (Or.inl ⟨by rfl, ?_⟩) ?_ ?_
     rotate_left
     ·intro w'
      go_simp
      with_reducible rfl
     rotate_left
     ·simp only [Act.put, List.setIfInBounds_toArray, List.set_cons_zero, List.set_cons_succ, i64_w, i32_w]
      rfl
     refine done_ (done_of HT_.out (by kernel_rfl)) ?_
     try go_wp2
     go_roundg k1
     case measure => have := HK1.out; omega
     case rel => exact ⟨(wrap64 (x6_1 + 1)), (by first | rfl | (simp; done) | (simp [*]; done)), H', ⟨by have := HK1.out; omega⟩, ⟨by exact bb BK165.out⟩, ⟨by exact h1q HB.out GE165.out⟩⟩
    ·rw [if_neg c7] at H
     have c7b0 : decide (t167 ≤ 0) = false := decide_eq_false c7
     clear c7
     obtain ⟨y168, hy168⟩ : ∃ y_ : List (S26), y_ = (([] : List (S26))) := ⟨_, rfl⟩
     replace H : (if x6_1 ≤ (l0.length : Int) then ((some (l0.take (x6_1 : Int).toNat : List (S26))).bind fun y171 => (if y168.length + y171.length < 1599289640401 then ((some (y168 ++ y171 : List (S26))).bind fun y175 => ((some (([(⟨a1_0, a1_1, a1_2, a1_3, a1_4, a1_5, a1_6, a1_7, a1_8, a1_9, a1_10⟩ : S26)] : List (S26)) : List (S26))).bind fun y178 => (if y175.length + y178.length < 1599289640401 then ((some (y175 ++ y178 : List (S26))).bind fun y181 => ((some (l0.drop (x6_1 : Int).toNat : List (S26))).bind fun y184 => (if y181.length + y184.length < 1599289640401 then (some ((y181 ++ y184), x6_1)) else (none)))) else (none)))) else (none))) else (none)) = some (r1, r2) := by first | (rw [hy168]; with_reducible exact H) | (have H2_ := (Option.bind_some _ _).symm.trans H; rw [hy168]; with_reducible exact H2_) | (have H2_ := (Option.bind_some _ _).symm.trans H; with_reducible exact H2_) | with_reducible exact H | (rw [hy168]; exact H) | exact H
     have Ny168 := Aside0.mk hy168
     clear hy168
     have c10b0 := eq_true (yd : 0 ≤ x6_1)
     by_cases c11 : x6_1 ≤ (l0.length : Int)
     ·rw [if_pos c11] at H
      have c11b0 := eq_true c11
      have c11b1 : decide (x6_1 ≤ (l0.length : Int)) = true := decide_eq_true c11
      clear c11
      obtain ⟨y171, hy171⟩ : ∃ y_ : List (S26), y_ = (l0.take (x6_1 : Int).toNat) := ⟨_, rfl⟩
      replace H : (if y168.length + y171.length < 1599289640401 then ((some (y168 ++ y171 : List (S26))).bind fun y175 => ((some (([(⟨a1_0, a1_1, a1_2, a1_3, a1_4, a1_5, a1_6, a1_7, a1_8, a1_9, a1_10⟩ : S26)] : List (S26)) : List (S26))).bind fun y178 => (if y175.length + y178.length < 1599289640401 then ((some (y175 ++ y178 : List (S26))).bind fun y181 => ((some (l0.drop (x6_1 : Int).toNat : List (S26))).bind fun y184 => (if y181.length + y184.length < 1599289640401 then (some ((y181 ++ y184), x6_1)) else (none)))) else (none)))) else (none)) = some (r1, r2) := by first | (rw [hy171]; with_reducible exact H) | (have H2_ := (Option.bind_some _ _).symm.trans H; rw [hy171]; with_reducible exact H2_) | (have H2_ := (Option.bind_some _ _).symm.trans H; with_reducible exact H2_) | with_reducible exact H | (rw [hy171]; exact H) | exact H
      have Ny171 := Aside0.mk hy171
      clear hy171
      by_cases c12 : y168.length + y171.length < 1599289640401
      ·rw [if_pos c12] at H
       have LMc12 := Aside0.mk c12
       clear c12
       obtain ⟨y175, hy175⟩ : ∃ y_ : List (S26), y_ = (y168 ++ y171) := ⟨_, rfl⟩
       replace H : ((some (([(⟨a1_0, a1_1, a1_2, a1_3, a1_4, a1_5, a1_6, a1_7, a1_8, a1_9, a1_10⟩ : S26)] : List (S26)) : List (S26))).bind fun y178 => (if y175.length + y178.length < 1599289640401 then ((some (y175 ++ y178 : List (S26))).bind fun y181 => ((some (l0.drop (x6_1 : Int).toNat : List (S26))).bind fun y184 => (if y181.length + y184.length < 1599289640401 then (some ((y181 ++ y184), x6_1)) else (none)))) else (none))) = some (r1, r2) := by first | (rw [hy175]; with_reducible exact H) | (have H2_ := (Option.bind_some _ _).symm.trans H; rw [hy175]; with_reducible exact H2_) | (have H2_ := (Option.bind_some _ _).symm.trans H; with_reducible exact H2_) | with_reducible exact H | (rw [hy175]; exact H) | exact H
       have Ny175 := Aside0.mk hy175
       clear hy175
       obtain ⟨y178, hy178⟩ : ∃ y_ : List (S26), y_ = (([(⟨a1_0, a1_1, a1_2, a1_3, a1_4, a1_5, a1_6, a1_7, a1_8, a1_9, a1_10⟩ : S26)] : List (S26))) := ⟨_, rfl⟩
       replace H : (if y175.length + y178.length < 1599289640401 then ((some (y175 ++ y178 : List (S26))).bind fun y181 => ((some (l0.drop (x6_1 : Int).toNat : List (S26))).bind fun y184 => (if y181.length + y184.length < 1599289640401 then (some ((y181 ++ y184), x6_1)) else (none)))) else (none)) = some (r1, r2) := by first | (rw [hy178]; with_reducible exact H) | (have H2_ := (Option.bind_some _ _).symm.trans H; rw [hy178]; with_reducible exact H2_) | (have H2_ := (Option.bind_some _ _).symm.trans H; with_reducible exact H2_) | with_reducible exact H | (rw [hy178]; exact H) | exact H
       have Ny178 := Aside0.mk hy178
       clear hy178
       by_cases c13 : y175.length + y178.length < 1599289640401
       ·rw [if_pos c13] at H
        have LMc13 := Aside0.mk c13
        clear c13
        obtain ⟨y181, hy181⟩ : ∃ y_ : List (S26), y_ = (y175 ++ y178) := ⟨_, rfl⟩
        replace H : ((some (l0.drop (x6_1 : Int).toNat : List (S26))).bind fun y184 => (if y181.length + y184.length < 1599289640401 then (some ((y181 ++ y184), x6_1)) else (none))) = some (r1, r2) := by first | (rw [hy181]; with_reducible exact H) | (have H2_ := (Option.bind_some _ _).symm.trans H; rw [hy181]; with_reducible exact H2_) | (have H2_ := (Option.bind_some _ _).symm.trans H; with_reducible exact H2_) | with_reducible exact H | (rw [hy181]; exact H) | exact H
        have Ny181 := Aside0.mk hy181
        clear hy181
        have c14b0 := eq_true (yd : 0 ≤ x6_1)
        have c15b0 := eq_true (yd : x6_1 ≤ (l0.length : Int))
        obtain ⟨y184, hy184⟩ : ∃ y_ : List (S26), y_ = (l0.drop (x6_1 : Int).toNat) := ⟨_, rfl⟩
        replace H : (if y181.length + y184.length < 1599289640401 then (some ((y181 ++ y184), x6_1)) else (none)) = some (r1, r2) := by first | (rw [hy184]; with_reducible exact H) | (have H2_ := (Option.bind_some _ _).symm.trans H; rw [hy184]; with_reducible exact H2_) | (have H2_ := (Option.bind_some _ _).symm.trans H; with_reducible exact H2_) | with_reducible exact H | (rw [hy184]; exact H) | exact H
        have Ny184 := Aside0.mk hy184
        clear hy184
        by_cases c16 : y181.length + y184.length < 1599289640401
        ·rw [if_pos c16] at H
         have LMc16 := Aside0.mk c16
         clear c16
         obtain ⟨y188, hy188⟩ : ∃ y_ : List (S26), y_ = (y181 ++ y184) := ⟨_, rfl⟩
         replace H : (some (y188, x6_1)) = some (r1, r2) := by first | (rw [hy188]; with_reducible exact H) | (have H2_ := (Option.bind_some _ _).symm.trans H; rw [hy188]; with_reducible exact H2_) | (have H2_ := (Option.bind_some _ _).symm.trans H; with_reducible exact H2_) | with_reducible exact H | (rw [hy188]; exact H) | exact H
         have Ny188 := Aside0.mk hy188
         clear hy188
         simp only [Option.some.injEq, Prod.mk.injEq] at H
         obtain ⟨rfl, rfl⟩ := H
         try go_wp2
         have n0_ := Aside0.mk (blk_drew BK165.out)
         have n1_ := Aside0.mk (below_drew1 HB.out)
         clear BK165
         clear HB
         have BK165 := n0_
         have HB := n1_
         clear n0_ n1_
         have p166 : 0 ≤ (x6_1 : Int) := yd
         have q166 : x6_1 < (l0.length : Int) := yd
         obtain ⟨ad166, e166, hx166_0, hx166_1, hx166_2, hx166_3, hx166_4, hx166_5, hx166_6, hx166_7, hx166_8, hx166_9, hx166_10⟩ := at_T26 HR0.out x6_1 p166 q166
         have hw166_10 := hx166_10
         have hw166_9 := hx166_9
         have hw166_8 := hx166_8
         have hw166_7 := hx166_7
         have hw166_6 := hx166_6
         have hw166_5 := hx166_5
         have hw166_4 := hx166_4
         have hw166_3 := hx166_3
         have hw166_2 := hx166_2
         have hw166_1 := hx166_1
         have hw166_0 := hx166_0
         cases e166
         replace hx166_0 := hxb HB.out hx166_0
         replace hx166_1 := hxb HB.out hx166_1
         replace hx166_2 := hxb HB.out hx166_2
         replace hx166_3 := hxb HB.out hx166_3
         replace hx166_4 := hxb HB.out hx166_4
         replace hx166_5 := hxb HB.out hx166_5
         replace hx166_6 := hxb HB.out hx166_6
         replace hx166_7 := hxb HB.out hx166_7
         replace hx166_8 := hxb HB.out hx166_8
         replace hx166_9 := hxb HB.out hx166_9
         replace hx166_10 := hxb HB.out hx166_10
         replace p166 := eq_true p166
         replace q166 := eq_true q166
         refine start_ (n := 13) (S := fun w' => w'.cell? ⟨gb165, 0, none⟩ = some (.int .i64 a1_0) ∧ w'.cell? ⟨gb165, 1, none⟩ = some (.int .i64 a1_1) ∧ w'.cell? ⟨gb165, 2, none⟩ = some (.int .u32 a1_2) ∧ w'.cell? ⟨gb165, 3, none⟩ = some (.int .i64 a1_3) ∧ w'.cell? ⟨gb165, 4, none⟩ = some (.int .i64 a1_4) ∧ w'.cell? ⟨gb165, 5, none⟩ = some (.float .f64 a1_5) ∧ w'.cell? ⟨gb165, 6, none⟩ = some (.float .f64 a1_6) ∧ w'.cell? ⟨gb165, 7, none⟩ = some (.bool a1_7) ∧ w'.cell? ⟨gb165, 8, none⟩ = some (.int .i64 a1_8) ∧ w'.cell? ⟨gb165, 9, none⟩ = some (.int .i64 a1_9) ∧ w'.cell? ⟨gb165, 10, none⟩ = some (.int .i64 a1_10) ∧ w'.cell? (ad166.add ((x6_1).toNat * 11)) = some (.int .i64 ((rd_T26 l0 x6_1).f0)) ∧ w'.cell? ⟨(ad166.add ((x6_1).toNat * 11)).block, (ad166.add ((x6_1).toNat * 11)).off + 1, none⟩ = some (.int .i64 ((rd_T26 l0 x6_1).f1)) ∧ w'.cell? ⟨(ad166.add ((x6_1).toNat * 11)).block, (ad166.add ((x6_1).toNat * 11)).off + 2, none⟩ = some (.int .u32 ((rd_T26 l0 x6_1).f2)) ∧ w'.cell? ⟨(ad166.add ((x6_1).toNat * 11)).block, (ad166.add ((x6_1).toNat * 11)).off + 3, none⟩ = some (.int .i64 ((rd_T26 l0 x6_1).f3)) ∧ w'.cell? ⟨(ad166.add ((x6_1).toNat * 11)).block, (ad166.add ((x6_1).toNat * 11)).off + 4, none⟩ = some (.int .i64 ((rd_T26 l0 x6_1).f4)) ∧ w'.cell? ⟨(ad166.add ((x6_1).toNat * 11)).block, (ad166.add ((x6_1).toNat * 11)).off + 5, none⟩ = some (.float .f64 ((rd_T26 l0 x6_1).f5)) ∧ w'.cell? ⟨(ad166.add ((x6_1).toNat * 11)).block, (ad166.add ((x6_1).toNat * 11)).off + 6, none⟩ = some (.float .f64 ((rd_T26 l0 x6_1).f6)) ∧ w'.cell? ⟨(ad166.add ((x6_1).toNat * 11)).block, (ad166.add ((x6_1).toNat * 11)).off + 7, none⟩ = some (.bool ((rd_T26 l0 x6_1).f7)) ∧ w'.cell? ⟨(ad166.add ((x6_1).toNat * 11)).block, (ad166.add ((x6_1).toNat * 11)).off + 8, none⟩ = some (.int .i64 ((rd_T26 l0 x6_1).f8)) ∧ w'.cell? ⟨(ad166.add ((x6_1).toNat * 11)).block, (ad166.add ((x6_1).toNat * 11)).off + 9, none⟩ = some (.int .i64 ((rd_T26 l0 x6_1).f9)) ∧ w'.cell? ⟨(ad166.add ((x6_1).toNat * 11)).block, (ad166.add ((x6_1).toNat * 11)).off + 10, none⟩ = some (.int .i64 ((rd_T26 l0 x6_1).f10))) (ds := []) #[false, false, false, false, false, false, false, false, false, false, false, false, false] (by kernel_rfl) rfl rfl ⟨(blk_cell BK165.out 0).trans rfl, (blk_cell BK165.out 1).trans rfl, (blk_cell BK165.out 2).trans rfl, (blk_cell BK165.out 3).trans rfl, (blk_cell BK165.out 4).trans rfl, (blk_cell BK165.out 5).trans rfl, (blk_cell BK165.out 6).trans rfl, (blk_cell BK165.out 7).trans rfl, (blk_cell BK165.out 8).trans rfl, (blk_cell BK165.out 9).trans rfl, (blk_cell BK165.out 10).trans rfl, (hxb HB.out hw166_0), (hxb HB.out hw166_1), (hxb HB.out hw166_2), (hxb HB.out hw166_3), (hxb HB.out hw166_4), (hxb HB.out hw166_5), (hxb HB.out hw166_6), (hxb HB.out hw166_7), (hxb HB.out hw166_8), (hxb HB.out hw166_9), (hxb HB.out hw166_10)⟩ (fun hHeld => ?_); refine with_tabW annuityref23_Put.tab2 annuityref23_Put.bits2 (fun HT_ HW_ => ?_)
         generalize wr.drew = w17 at BK165 HB hx166_0 hx166_1 hx166_10 hx166_2 hx166_3 hx166_4 hx166_5 hx166_6 hx166_7 hx166_8 hx166_9 hHeld ⊢
         refine pure_ (i := 0) (N := some 7) (v := ?_) (a' := ?_) #[true, false, false, false, false, false, false, false, false, false, false, false, false] rfl rfl (any_of HT_.out (by kernel_rfl)) (fun _ _ _ h => h) (Or.inl ⟨by rfl, ?_⟩) ?_ ?_
         rotate_left
         ·intro w'
          go_simp
          with_reducible rfl
         rotate_left
         ·simp only [Act.put, List.setIfInBounds_toArray, List.set_cons_zero, List.set_cons_succ, i64_w, i32_w]
          rfl
         refine pure_ (i := 1) (N := some 8) (v := ?_) (a' := ?_) #[true, true, false, false, false, false, false, false, false, false, false, false, false] rfl rfl (any_of HT_.out (by kernel_rfl)) (fun _ _ _ h => h) (Or.inl ⟨by rfl, ?_⟩) ?_ ?_
         rotate_left
         ·intro w'
          go_simp
          with_reducible rfl
         rotate_left
         ·simp only [Act.put, List.setIfInBounds_toArray, List.set_cons_zero, List.set_cons_succ, i64_w, i32_w]
          rfl
         refine pure_ (i := 2) (N := some 9) (v := ?_) (a' := ?_) #[true, true, true, false, false, false, false, false, false, false, false, false, false] rfl rfl (any_of HT_.out (by kernel_rfl)) (fun _ _ _ h => h) (Or.inl ⟨by rfl, ?_⟩) ?_ ?_
         rotate_left
         ·intro w'
          go_simp
          with_reducible rfl
         rotate_left
         ·simp only [Act.put, List.setIfInBounds_toArray, List.set_cons_zero, List.set_cons_succ, i64_w, i32_w]
          rfl
         refine pure_ (i := 3) (N := some 10) (v := ?_) (a' := ?_) #[true, true, true, true, false, false, false, false, false, false, false, false, false] rfl rfl (any_of HT_.out (by kernel_rfl)) (fun _ _ _ h => h) (Or.inl ⟨by rfl, ?_⟩) ?_ ?_
         rotate_left
         ·intro w'
          go_simp
          with_reducible rfl
         rotate_left
         ·simp only [Act.put, List.setIfInBounds_toArray, List.set_cons_zero, List.set_cons_succ, i64_w, i32_w]
          rfl
         refine pure_ (i := 4) (N := some 11) (v := ?_) (a' := ?_) #[true, true, true, true, true, false, false, false, false, false, false, false, false] rfl rfl (any_of HT_.out (by kernel_rfl)) (fun _ _ _ h => h) (Or.inl ⟨by rfl, ?_⟩) ?_ ?_
         rotate_left
         ·intro w'
          go_simp
          with_reducible rfl
         rotate_left
         ·simp only [Act.put, List.setIfInBounds_toArray, List.set_cons_zero, List.set_cons_succ, i64_w, i32_w]
          rfl
         refine pure_ (i := 5) (N := some 12) (v := ?_) (a' := ?_) #[true, true, true, true, true, true, false, false, false, false, false, false, false] rfl rfl (any_of HT_.out (by kernel_rfl)) (fun _ _ _ h => h) (Or.inl ⟨by rfl, ?_⟩) ?_ ?_
         rotate_left
         ·intro w'
          go_simp
          with_reducible rfl
         rotate_left
         ·simp only [Act.put, List.setIfInBounds_toArray, List.set_cons_zero, List.set_cons_succ, i64_w, i32_w]
          rfl
         refine pure_ (i := 6) (N := some 13) (v := ?_) (a' := ?_) #[true, true, true, true, true, true, true, false, false, false, false, false, false] rfl rfl (any_of HT_.out (by kernel_rfl)) (fun _ _ _ h => h) (Or.inl ⟨by rfl, ?_⟩) ?_ ?_
         rotate_left
         ·intro w'
          go_simp
          with_reducible rfl
         rotate_left
         ·simp only [Act.put, List.setIfInBounds_toArray, List.set_cons_zero, List.set_cons_succ, i64_w, i32_w]
          rfl
         refine pure_ (i := 7) (N := some 14) (v := ?_) (a' := ?_) #[true, true, true, true, true, true, true, true, false, false, false, false, false] rfl rfl (any_of HT_.out (by kernel_rfl)) (fun _ _ _ h => h) (Or.inl ⟨by rfl, ?_⟩) ?_ ?_
         rotate_left
         ·intro w'
          go_simp
          with_reducible rfl
         rotate_left
         ·simp only [Act.put, List.setIfInBounds_toArray, List.set_cons_zero, List.set_cons_succ, i64_w, i32_w]
          rfl
         refine take_ (i := 8) (N := some 15) (v := ?_) (a' := ?_) #[true, true, true, true, true, true, true, true, true, false, false, false, false] rfl rfl (take_ofW HT_.out HW_.out (by kernel_rfl)) (fun _ _ _ h => h) (Or.inl ⟨by rfl, ?_⟩) hHeld ?_ ?_
         rotate_left
         ·rintro w' ⟨s0, s1, s2, s3, s4, s5, s6, s7, s8, s9, s10, s11, s12, s13, s14, s15, s16, s17, s18, s19, s20, s21⟩
          go_simp
          with_reducible rfl
         rotate_left
         ·simp only [Act.put, List.setIfInBounds_toArray, List.set_cons_zero, List.set_cons_succ, i64_w, i32_w]
          rfl
         refine take_ (i := 9) (N := some 16) (v := ?_) (a' := ?_) #[true, true, true, true, true, true, true, true, true, true, false, false, false] rfl rfl (take_ofW HT_.out HW_.out (by kernel_rfl)) (fun _ _ _ h => h) (Or.inl ⟨by rfl, ?_⟩) hHeld ?_ ?_
         rotate_left
         ·rintro w' ⟨s0, s1, s2, s3, s4, s5, s6, s7, s8, s9, s10, s11, s12, s13, s14, s15, s16, s17, s18, s19, s20, s21⟩
          go_simp
          with_reducible rfl
         rotate_left
         ·simp only [Act.put, List.setIfInBounds_toArray, List.set_cons_zero, List.set_cons_succ, i64_w, i32_w]
          rfl
         refine one_ (i := 10) (N := some 17) #[true, true, true, true, true, true, true, true, true, true, true, false, false] rfl rfl (one_of HT_.out (by kernel_rfl)) (by decide) (fun K hK => ?_)
         refine goes_ Try.func13 (by kernel_rfl) rfl #[.agg #[.int .i64 ((rd_T26 l0 x6_1).f0), .int .i64 ((rd_T26 l0 x6_1).f1), .int .u32 ((rd_T26 l0 x6_1).f2), .int .i64 ((rd_T26 l0 x6_1).f3), .int .i64 ((rd_T26 l0 x6_1).f4), .float .f64 ((rd_T26 l0 x6_1).f5), .float .f64 ((rd_T26 l0 x6_1).f6), .bool ((rd_T26 l0 x6_1).f7), .int .i64 ((rd_T26 l0 x6_1).f8), .int .i64 ((rd_T26 l0 x6_1).f9), .int .i64 ((rd_T26 l0 x6_1).f10)], .agg #[.int .i64 a1_0, .int .i64 a1_1, .int .u32 a1_2, .int .i64 a1_3, .int .i64 a1_4, .float .f64 a1_5, .float .f64 a1_6, .bool a1_7, .int .i64 a1_8, .int .i64 a1_9, .int .i64 a1_10]] (by rfl) rfl rfl (by (try simp only [List.map_toArray, List.map_cons, List.map_nil]); first | done | rfl | (simp only [List.length_drop, List.length_take]; rfl)) ?_
         with_reducible refine (annuityref23_Compare.calls k1 ((rd_T26 l0 x6_1).f0) ((rd_T26 l0 x6_1).f1) ((rd_T26 l0 x6_1).f2) ((rd_T26 l0 x6_1).f3) ((rd_T26 l0 x6_1).f4) ((rd_T26 l0 x6_1).f5) ((rd_T26 l0 x6_1).f6) ((rd_T26 l0 x6_1).f7) ((rd_T26 l0 x6_1).f8) ((rd_T26 l0 x6_1).f9) ((rd_T26 l0 x6_1).f10) a1_0 a1_1 a1_2 a1_3 a1_4 a1_5 a1_6 a1_7 a1_8 a1_9 a1_10 t167 _ A6.out).mono ?_
         rintro e w18 ⟨rfl, hb⟩
         refine ⟨_, rfl, ?_⟩
         have n0_ := Aside0.mk (blk_below (g := gb165) (Up.up BK165.out) hb)
         have n1_ := Aside0.mk (below_step (by exact h1q HB.out GE165.out) hb)
         clear BK165
         clear HB
         have BK165 := n0_
         have HB := n1_
         clear n0_ n1_
         (try clear hb)
         (try clear hb2)
         (try clear hk)
         (try clear hi)
         refine hK.out _ _ ⟨(blk_cell BK165.out 0).trans rfl, (blk_cell BK165.out 1).trans rfl, (blk_cell BK165.out 2).trans rfl, (blk_cell BK165.out 3).trans rfl, (blk_cell BK165.out 4).trans rfl, (blk_cell BK165.out 5).trans rfl, (blk_cell BK165.out 6).trans rfl, (blk_cell BK165.out 7).trans rfl, (blk_cell BK165.out 8).trans rfl, (blk_cell BK165.out 9).trans rfl, (blk_cell BK165.out 10).trans rfl, (hxb HB.out hw166_0), (hxb HB.out hw166_1), (hxb HB.out hw166_2), (hxb HB.out hw166_3), (hxb HB.out hw166_4), (hxb HB.out hw166_5), (hxb HB.out hw166_6), (hxb HB.out hw166_7), (hxb HB.out hw166_8), (hxb HB.out hw166_9), (hxb HB.out hw166_10)⟩ (fun hHeld => ?_)
         clear hK K
         refine norm_ (a' := ?_) ?_ ?_
         rotate_left
         ·show Act.put _ (some 17) _ = _
          simp only [Act.put, List.setIfInBounds_toArray, List.set_cons_zero, List.set_cons_succ, i64_w, i32_w]
          rfl
         refine pure_ (i := 11) (N := some 18) (v := ?_) (a' := ?_) #[true, true, true, true, true, true, true, true, true, true, true, true, false] rfl rfl (any_of HT_.out (by kernel_rfl)) (fun _ _ _ h => h) (Or.inl ⟨by rfl, ?_⟩) ?_ ?_
         rotate_left
         ·intro w'
          go_simp
          with_reducible rfl
         rotate_left
         ·simp only [Act.put, List.setIfInBounds_toArray, List.set_cons_zero, List.set_cons_succ, i64_w, i32_w]
          rfl
         refine pure_ (i := 12) (N := some 19) (v := ?_) (a' := ?_) #[true, true, true, true, true, true, true, true, true, true, true, true, true] rfl rfl (any_of HT_.out (by kernel_rfl)) (fun _ _ _ h => h) (Or.inl ⟨by rfl, ?_⟩) ?_ ?_
         rotate_left
         ·intro w'
          go_simp
          with_reducible rfl
         rotate_left
         ·simp only [Act.put, List.setIfInBounds_toArray, List.set_cons_zero, List.set_cons_succ, i64_w, i32_w]
          rfl
         refine done_ (done_of HT_.out (by kernel_rfl)) ?_
         try go_wp2
         have n0_ := Aside0.mk (blk_drew BK165.out)
         have n1_ := Aside0.mk (below_drew1 HB.out)
         clear BK165
         clear HB
         have BK165 := n0_
         have HB := n1_
         clear n0_ n1_
         have q20 : (x6_1 : Int) ≤ ((l0.length : Int) : Int) := yd
         obtain ⟨i020, hi020, _, hsz20, _⟩ := info_parts info26
         have hroom20 : l0.length ≤ c0 := HC0.out
         have hC20 : Kd.C k26 _ (some ad166) l0.length l0 := HR0.out
         have hcut20 := cut_to (P := Try.prog) 22 26 .i64 Try.underlying22 hi020 (some ad166) l0.length c0 x6_1 (yd) q20 hroom20
         have hr20 := Kd.C_take (m := (x6_1 : Int).toNat) hC20 (by omega)
         have hy20 : y171.length = (x6_1 : Int).toNat := (by rw [Ny171.out, List.length_take]; omega)
         rw [← Ny171.out] at hr20
         rw [← hy20] at hcut20
         have HR174 := Aside0.mk hr20
         have HC174 := Aside0.mk (show y171.length ≤ c0 from by omega)
         clear hr20 hC20 hroom20 hi020 hsz20
         have KY20 := Aside0.mk hy20
         clear hy20
         replace q20 := eq_true q20
         have q21 : (x6_1 : Int) ≤ ((l0.length : Int) : Int) := yd
         obtain ⟨i021, hi021, _, hsz21, _⟩ := info_parts info26
         have hroom21 : l0.length ≤ c0 := HC0.out
         have hC21 : Kd.C k26 _ (some ad166) l0.length l0 := HR0.out
         have q021 : (0 : Int) ≤ (x6_1 : Int) := yd
         have hcut21 := cut_from (P := Try.prog) 22 26 .i64 Try.underlying22 hi021 11 hsz21 (some ad166) l0.length c0 x6_1 q021 q21
         have hr21 := Kd.C_drop (m := (x6_1 : Int).toNat) (c := c0) hC21 (by omega) hroom21
         obtain ⟨A21, hA21⟩ : ∃ A1, A1 = (if c0 = (x6_1 : Int).toNat then (some ad166) else ((some ad166) : Option Addr).map (·.add ((x6_1 : Int).toNat * 11))) := ⟨_, rfl⟩
         obtain ⟨c21, hc21⟩ : ∃ c1, c1 = c0 - (x6_1 : Int).toNat := ⟨_, rfl⟩
         have hy21 : y184.length = l0.length - (x6_1 : Int).toNat := (by rw [Ny184.out, List.length_drop] <;> omega)
         rw [show (l0).drop (x6_1 : Int).toNat = y184 from Ny184.out.symm] at hr21
         replace hr21 : Kd.C k26 _ A21 y184.length y184 := (by rw [hA21]; exact hr21)
         rw [← hy21, ← hA21, ← hc21] at hcut21
         have HR187 := Aside0.mk hr21
         have HC187 := Aside0.mk (show y184.length ≤ c21 from by rw [hy21, hc21]; exact Nat.sub_le_sub_right hroom21 _)
         clear hr21 hC21 hroom21 hi021 hsz21 hc21
         have KY21 := Aside0.mk hy21
         have KA21 := Aside0.mk hA21
         clear hy21 hA21
         replace q21 := eq_true q21
         refine start_ (n := 15) (S := fun w' => w'.cell? ⟨gb165, 0, none⟩ = some (.int .i64 a1_0) ∧ w'.cell? ⟨gb165, 1, none⟩ = some (.int .i64 a1_1) ∧ w'.cell? ⟨gb165, 2, none⟩ = some (.int .u32 a1_2) ∧ w'.cell? ⟨gb165, 3, none⟩ = some (.int .i64 a1_3) ∧ w'.cell? ⟨gb165, 4, none⟩ = some (.int .i64 a1_4) ∧ w'.cell? ⟨gb165, 5, none⟩ = some (.float .f64 a1_5) ∧ w'.cell? ⟨gb165, 6, none⟩ = some (.float .f64 a1_6) ∧ w'.cell? ⟨gb165, 7, none⟩ = some (.bool a1_7) ∧ w'.cell? ⟨gb165, 8, none⟩ = some (.int .i64 a1_8) ∧ w'.cell? ⟨gb165, 9, none⟩ = some (.int .i64 a1_9) ∧ w'.cell? ⟨gb165, 10, none⟩ = some (.int .i64 a1_10)) (ds := []) #[false, false, false, false, false, false, false, false, false, false, false, false, false, false, false] (by kernel_rfl) rfl rfl ⟨(blk_cell BK165.out 0).trans rfl, (blk_cell BK165.out 1).trans rfl, (blk_cell BK165.out 2).trans rfl, (blk_cell BK165.out 3).trans rfl, (blk_cell BK165.out 4).trans rfl, (blk_cell BK165.out 5).trans rfl, (blk_cell BK165.out 6).trans rfl, (blk_cell BK165.out 7).trans rfl, (blk_cell BK165.out 8).trans rfl, (blk_cell BK165.out 9).trans rfl, (blk_cell BK165.out 10).trans rfl⟩ (fun hHeld => ?_); refine with_tabW annuityref23_Put.tab4 annuityref23_Put.bits4 (fun HT_ HW_ => ?_)
         generalize w18.drew = w19 at BK165 HB HR174 HR187 hHeld ⊢
         refine pure_ (i := 1) (N := some 23) (v := ?_) (a' := ?_) #[false, true, false, false, false, false, false, false, false, false, false, false, false, false, false] rfl rfl (any_of HT_.out (by kernel_rfl)) (fun _ _ _ h => h) (Or.inl ⟨by rfl, ?_⟩) ?_ ?_
         rotate_left
         ·intro w'
          go_simp
          with_reducible rfl
         rotate_left
         ·simp only [Act.put, List.setIfInBounds_toArray, List.set_cons_zero, List.set_cons_succ, i64_w, i32_w]
          rfl
         refine pure_ (i := 2) (N := some 24) (v := ?_) (a' := ?_) #[false, true, true, false, false, false, false, false, false, false, false, false, false, false, false] rfl rfl (any_of HT_.out (by kernel_rfl)) (fun _ _ _ h => h) (Or.inl ⟨by rfl, ?_⟩) ?_ ?_
         rotate_left
         ·intro w'
          go_simp
          with_reducible rfl
         rotate_left
         ·simp only [Act.put, List.setIfInBounds_toArray, List.set_cons_zero, List.set_cons_succ, i64_w, i32_w]
          rfl
         refine pure_ (i := 3) (N := some 25) (v := ?_) (a' := ?_) #[false, true, true, true, false, false, false, false, false, false, false, false, false, false, false] rfl rfl (any_of HT_.out (by kernel_rfl)) (fun _ _ _ h => h) (Or.inl ⟨by rfl, ?_⟩) ?_ ?_
         rotate_left
         ·intro w'
          go_simp
          with_reducible rfl
         rotate_left
         ·simp only [Act.put, List.setIfInBounds_toArray, List.set_cons_zero, List.set_cons_succ, i64_w, i32_w]
          rfl
         refine pure_ (i := 8) (N := some 30) (v := ?_) (a' := ?_) #[false, true, true, true, false, false, false, false, true, false, false, false, false, false, false] rfl rfl (any_of HT_.out (by kernel_rfl)) (fun _ _ _ h => h) (Or.inl ⟨by rfl, ?_⟩) ?_ ?_
         rotate_left
         ·intro w'
          go_simp
          with_reducible rfl
         rotate_left
         ·simp only [Act.put, List.setIfInBounds_toArray, List.set_cons_zero, List.set_cons_succ, i64_w, i32_w]
          rfl
         refine pure_ (i := 9) (N := some 31) (v := ?_) (a' := ?_) #[false, true, true, true, false, false, false, false, true, true, false, false, false, false, false] rfl rfl (any_of HT_.out (by kernel_rfl)) (fun _ _ _ h => h) (Or.inl ⟨by rfl, ?_⟩) ?_ ?_
         rotate_left
         ·intro w'
          go_simp
          with_reducible rfl
         rotate_left
         ·simp only [Act.put, List.setIfInBounds_toArray, List.set_cons_zero, List.set_cons_succ, i64_w, i32_w]
          rfl
         refine pure_ (i := 10) (N := some 32) (v := ?_) (a' := ?_) #[false, true, true, true, false, false, false, false, true, true, true, false, false, false, false] rfl rfl (any_of HT_.out (by kernel_rfl)) (fun _ _ _ h => h) (Or.inl ⟨by rfl, ?_⟩) ?_ ?_
         rotate_left
         ·intro w'
          go_simp
          with_reducible rfl
         rotate_left
         ·simp only [Act.put, List.setIfInBounds_toArray, List.set_cons_zero, List.set_cons_succ, i64_w, i32_w]
          rfl
         refine pure_ (i := 12) (N := some 34) (v := ?_) (a' := ?_) #[false, true, true, true, false, false, false, false, true, true, true, false, true, false, false] rfl rfl (any_of HT_.out (by kernel_rfl)) (fun _ _ _ h => h) (Or.inl ⟨by rfl, ?_⟩) ?_ ?_
         rotate_left
         ·intro w'
          go_simp
          with_reducible rfl
         rotate_left
         ·simp only [Act.put, List.setIfInBounds_toArray, List.set_cons_zero, List.set_cons_succ, i64_w, i32_w]
          rfl
         refine take_ (i := 5) (N := some 27) (v := ?_) (a' := ?_) #[false, true, true, true, false, true, false, false, true, true, true, false, true, false, false] rfl rfl (take_ofW HT_.out HW_.out (by kernel_rfl)) (fun _ _ _ h => h) (Or.inl ⟨by rfl, ?_⟩) hHeld ?_ ?_
         rotate_left
         ·rintro w' ⟨s0, s1, s2, s3, s4, s5, s6, s7, s8, s9, s10⟩
          go_simp
          with_reducible rfl
         rotate_left
         ·simp only [Act.put, List.setIfInBounds_toArray, List.set_cons_zero, List.set_cons_succ, i64_w, i32_w]
          rfl
         refine join_ (σ := Value × Value × Value) 4 #[true, true, true, true, true, true, true, false, true, true, true, false, true, false, false] (fun s_ => [(22, s_.1), (26, s_.2.1), (28, s_.2.2)]) (fun s_ w' => (w'.cell? ⟨gb165, 0, none⟩ = some (.int .i64 a1_0) ∧ w'.cell? ⟨gb165, 1, none⟩ = some (.int .i64 a1_1) ∧ w'.cell? ⟨gb165, 2, none⟩ = some (.int .u32 a1_2) ∧ w'.cell? ⟨gb165, 3, none⟩ = some (.int .i64 a1_3) ∧ w'.cell? ⟨gb165, 4, none⟩ = some (.int .i64 a1_4) ∧ w'.cell? ⟨gb165, 5, none⟩ = some (.float .f64 a1_5) ∧ w'.cell? ⟨gb165, 6, none⟩ = some (.float .f64 a1_6) ∧ w'.cell? ⟨gb165, 7, none⟩ = some (.bool a1_7) ∧ w'.cell? ⟨gb165, 8, none⟩ = some (.int .i64 a1_8) ∧ w'.cell? ⟨gb165, 9, none⟩ = some (.int .i64 a1_9) ∧ w'.cell? ⟨gb165, 10, none⟩ = some (.int .i64 a1_10)) ∧ (Kd.R k26 26 w' w.heap.size (fun k_ => some k_ ≠ (s_.2.2 : Value).ownBlock ∧ k_ ≠ gb165) s_.2.1 y175) ∧ (Kd.R k26 26 w' w.heap.size (fun k_ => some k_ ≠ (s_.2.1 : Value).ownBlock ∧ k_ ≠ gb165) s_.2.2 y178) ∧ (w'.heap[gb165]? = some (.cells #[.int .i64 a1_0, .int .i64 a1_1, .int .u32 a1_2, .int .i64 a1_3, .int .i64 a1_4, .float .f64 a1_5, .float .f64 a1_6, .bool a1_7, .int .i64 a1_8, .int .i64 a1_9, .int .i64 a1_10] 26 (0, 0))) ∧ (Below w.heap.size w w')) ?_ ?_
         rotate_left
         ·intro hCont
          refine two_ (i := 0) (j := 6) (Ni := some 22) (Nj := some 28) #[true, true, true, true, false, true, false, false, true, true, true, false, true, false, false] #[false, true, true, true, false, true, true, false, true, true, true, false, true, false, false] rfl rfl rfl rfl (two_of HT_.out (by kernel_rfl)) (by decide) (by decide) (fun K hK => ?_) (fun K hK => ?_)
          ·skip
           refine Kd.R_lit_step k26 _ 26 ?hg (N := 22) ?hd (xs := ([] : List (S26))) (inner := []) (ok := fun _ => True) (okp := fun _ => True) ?hr ?hp (fun _ hk => hk) trivial (Below.refl _ _) (Nat.le_refl _) (by simp) ?_; (case hd => rfl); (case hg => rfl); (case hr => first | (go_simp; done) | (go_simp; rfl)); (case hp => exact (Reps.none _ _))
           intro v169 w22 ho23 hb hg_ hnew_
           clear hg_ hnew_
           (first | rw [← Ny168.out] at ho23 | (simp only [Int.reduceToNat] at ho23; rw [← Ny168.out] at ho23))
           have n0_ := Aside0.mk (Kd.R_lower (Kd.R_newB ho23 (g := gb165) (Up.up BK165.out)) (below_size (by exact h1q HB.out GE165.out)))
           have n1_ := Aside0.mk (blk_below (g := gb165) (Up.up BK165.out) hb)
           have n2_ := Aside0.mk (below_step (by exact h1q HB.out GE165.out) hb)
           clear BK165
           clear HB
           have HO170 := n0_
           have BK165 := n1_
           have HB := n2_
           clear n0_ n1_ n2_
           clear hb ho23
           refine hK.out _ _ ⟨(blk_cell BK165.out 0).trans rfl, (blk_cell BK165.out 1).trans rfl, (blk_cell BK165.out 2).trans rfl, (blk_cell BK165.out 3).trans rfl, (blk_cell BK165.out 4).trans rfl, (blk_cell BK165.out 5).trans rfl, (blk_cell BK165.out 6).trans rfl, (blk_cell BK165.out 7).trans rfl, (blk_cell BK165.out 8).trans rfl, (blk_cell BK165.out 9).trans rfl, (blk_cell BK165.out 10).trans rfl⟩ (fun hHeld => ?_)
           clear hK K
           refine norm_ (a' := ?_) ?_ ?_
           rotate_left
           ·show Act.put _ (some 22) _ = _
            simp only [Act.put, List.setIfInBounds_toArray, List.set_cons_zero, List.set_cons_succ, i64_w, i32_w]
            rfl
           refine two_ (i := 4) (j := 6) (Ni := some 26) (Nj := some 28) #[true, true, true, true, true, true, false, false, true, true, true, false, true, false, false] #[true, true, true, true, false, true, true, false, true, true, true, false, true, false, false] rfl rfl rfl rfl (two_of HT_.out (by kernel_rfl)) (by decide) (by decide) (fun K hK => ?_) (fun K hK => ?_)
           ·skip
            refine Kd.R_append_rows_step k26 (w0 := w) w.heap.size (by rfl) (.tmp 22) (.tmp 25) 22 26 (.agg #[(.int .i64 0), (.int .i64 0), (.int .u32 0), (.int .i64 0), (.int .i64 0), (.float .f64 0), (.float .f64 0), (.bool false), (.int .i64 0), (.int .i64 0), (.int .i64 0)]) 88 rfl Try.underlying22 info26 rfl (by decide) (by omega) v169 y168 y171 _ _ _ (fun k_ => k_ ≠ gb165) (fun _ => False) rfl rfl ?aO ?aR (fun _ _ h => h) (fun _ h => h.elim) ?aF ?aB ?aS ?aL ?_
            (case aR => repeat (first | exact (Kd.C_below HR174.out HB.out) | (with_reducible refine Kd.C_alloc ?_ _) | (with_reducible refine Kd.C_drewN ?_ _) | (with_reducible refine Kd.C_drew ?_)))
            (case aB => exact (by exact h1q HB.out GE165.out))
            (case aF => exact (fun k_ hk => Kd.freshB (g := gb165) (Up.up BK165.out) k_ hk))
            (case aO => exact (by (with_reducible repeat (first | apply Kd.R_alloc | apply Kd.R_drewN | apply Kd.R_drew)); exact Kd.R_mono HO170.out (fun _ hk => hk.2)))
            (case aS => exact (below_size (by exact h1q HB.out GE165.out)))
            (case aL => have := LMc12.out; omega)
            intro v176 w24 ho hb hg hat
            rw [← Ny175.out] at ho
            have n0_ := Aside0.mk (blk_grown (g := gb165) (Up.up BK165.out) hg (Kd.R_away HO170.out (fun _ hk => hk.2)))
            have n1_ := Aside0.mk (hb)
            have n2_ := Aside0.mk (ho)
            clear BK165
            clear HB
            clear HO170
            have BK165 := n0_
            have HB := n1_
            have HO177 := n2_
            clear n0_ n1_ n2_
            clear ho hb hg hat
            refine hK.out _ _ ⟨(blk_cell BK165.out 0).trans rfl, (blk_cell BK165.out 1).trans rfl, (blk_cell BK165.out 2).trans rfl, (blk_cell BK165.out 3).trans rfl, (blk_cell BK165.out 4).trans rfl, (blk_cell BK165.out 5).trans rfl, (blk_cell BK165.out 6).trans rfl, (blk_cell BK165.out 7).trans rfl, (blk_cell BK165.out 8).trans rfl, (blk_cell BK165.out 9).trans rfl, (blk_cell BK165.out 10).trans rfl⟩ (fun hHeld => ?_)
            clear hK K
            refine norm_ (a' := ?_) ?_ ?_
            rotate_left
            ·show Act.put _ (some 26) _ = _
             simp only [Act.put, List.setIfInBounds_toArray, List.set_cons_zero, List.set_cons_succ, i64_w, i32_w]
             rfl
            refine one_ (i := 6) (N := some 28) #[true, true, true, true, true, true, true, false, true, true, true, false, true, false, false] rfl rfl (one_of HT_.out (by kernel_rfl)) (by decide) (fun K hK => ?_)
            refine Kd.R_lit_step k26 _ 26 ?hg (N := 28) ?hd (xs := ([(⟨a1_0, a1_1, a1_2, a1_3, a1_4, a1_5, a1_6, a1_7, a1_8, a1_9, a1_10⟩ : S26)] : List (S26))) (inner := [.int .i64 a1_0, .int .i64 a1_1, .int .u32 a1_2, .int .i64 a1_3, .int .i64 a1_4, .float .f64 a1_5, .float .f64 a1_6, .bool a1_7, .int .i64 a1_8, .int .i64 a1_9, .int .i64 a1_10]) (ok := fun _ => True) (okp := fun _ => True) ?hr ?hp (fun _ hk => hk) trivial (Below.refl _ _) (Nat.le_refl _) (by simp) ?_; (case hd => rfl); (case hg => rfl); (case hr => first | (go_simp; done) | (go_simp; rfl)); (case hp => exact (Reps.front (show Kd.M k26 _ _ _ (⟨a1_0, a1_1, a1_2, a1_3, a1_4, a1_5, a1_6, a1_7, a1_8, a1_9, a1_10⟩ : S26) [.int .i64 a1_0, .int .i64 a1_1, .int .u32 a1_2, .int .i64 a1_3, .int .i64 a1_4, .float .f64 a1_5, .float .f64 a1_6, .bool a1_7, .int .i64 a1_8, .int .i64 a1_9, .int .i64 a1_10] from (k26_mkM _ _ _ (⟨a1_0, a1_1, a1_2, a1_3, a1_4, a1_5, a1_6, a1_7, a1_8, a1_9, a1_10⟩ : S26) )) rfl (Reps.none _ _) rfl))
            intro v179 w25 ho26 hb hg_ hnew_
            clear hg_ hnew_
            (first | rw [← Ny178.out] at ho26 | (simp only [Int.reduceToNat] at ho26; rw [← Ny178.out] at ho26))
            have n0_ := Aside0.mk (Kd.R_elder' (by exact rq HO177.out) (Kd.R_base ho26) hb)
            have n1_ := Aside0.mk (Kd.R_lower (Kd.R_newB (Kd.R_new' ho26 (Kd.R_lt (by exact rq HO177.out))) (g := gb165) (Up.up BK165.out)) (below_size (by exact h1q HB.out GE165.out)))
            have n2_ := Aside0.mk (blk_below (g := gb165) (Up.up BK165.out) hb)
            have n3_ := Aside0.mk (below_step (by exact h1q HB.out GE165.out) hb)
            clear HO177
            clear BK165
            clear HB
            have HO177 := n0_
            have HO180 := n1_
            have BK165 := n2_
            have HB := n3_
            clear n0_ n1_ n2_ n3_
            clear hb ho26
            refine hK.out _ _ ⟨(blk_cell BK165.out 0).trans rfl, (blk_cell BK165.out 1).trans rfl, (blk_cell BK165.out 2).trans rfl, (blk_cell BK165.out 3).trans rfl, (blk_cell BK165.out 4).trans rfl, (blk_cell BK165.out 5).trans rfl, (blk_cell BK165.out 6).trans rfl, (blk_cell BK165.out 7).trans rfl, (blk_cell BK165.out 8).trans rfl, (blk_cell BK165.out 9).trans rfl, (blk_cell BK165.out 10).trans rfl⟩ (fun hHeld => ?_)
            clear hK K
            refine norm_ (a' := ?_) ?_ ?_
            rotate_left
            ·show Act.put _ (some 28) _ = _
             simp only [Act.put, List.setIfInBounds_toArray, List.set_cons_zero, List.set_cons_succ, i64_w, i32_w]
             rfl
            exact norm_ (by simp only [putAll, Act.put, List.setIfInBounds_toArray, List.set_cons_zero, List.set_cons_succ]) (hCont (v169, v176, v179) _ ⟨hHeld, (by (with_reducible repeat (first | apply Kd.R_alloc | apply Kd.R_drewN | apply Kd.R_drew)); exact Kd.R_mono HO177.out (fun _ hk => ⟨hk.2, hk.1⟩)), (by (with_reducible repeat (first | apply Kd.R_alloc | apply Kd.R_drewN | apply Kd.R_drew)); exact Kd.R_mono HO180.out (fun _ hk => ⟨hk.1.2, hk.2⟩)), (Up.up BK165.out), (by exact h1q HB.out GE165.out)⟩)
           ·skip
            refine Kd.R_lit_step k26 _ 26 ?hg (N := 28) ?hd (xs := ([(⟨a1_0, a1_1, a1_2, a1_3, a1_4, a1_5, a1_6, a1_7, a1_8, a1_9, a1_10⟩ : S26)] : List (S26))) (inner := [.int .i64 a1_0, .int .i64 a1_1, .int .u32 a1_2, .int .i64 a1_3, .int .i64 a1_4, .float .f64 a1_5, .float .f64 a1_6, .bool a1_7, .int .i64 a1_8, .int .i64 a1_9, .int .i64 a1_10]) (ok := fun _ => True) (okp := fun _ => True) ?hr ?hp (fun _ hk => hk) trivial (Below.refl _ _) (Nat.le_refl _) (by simp) ?_; (case hd => rfl); (case hg => rfl); (case hr => first | (go_simp; done) | (go_simp; rfl)); (case hp => exact (Reps.front (show Kd.M k26 _ _ _ (⟨a1_0, a1_1, a1_2, a1_3, a1_4, a1_5, a1_6, a1_7, a1_8, a1_9, a1_10⟩ : S26) [.int .i64 a1_0, .int .i64 a1_1, .int .u32 a1_2, .int .i64 a1_3, .int .i64 a1_4, .float .f64 a1_5, .float .f64 a1_6, .bool a1_7, .int .i64 a1_8, .int .i64 a1_9, .int .i64 a1_10] from (k26_mkM _ _ _ (⟨a1_0, a1_1, a1_2, a1_3, a1_4, a1_5, a1_6, a1_7, a1_8, a1_9, a1_10⟩ : S26) )) rfl (Reps.none _ _) rfl))
            intro v179 w24 ho25 hb hg_ hnew_
            clear hg_ hnew_
            (first | rw [← Ny178.out] at ho25 | (simp only [Int.reduceToNat] at ho25; rw [← Ny178.out] at ho25))
            have n0_ := Aside0.mk (Kd.R_elder' (by exact rq HO170.out) (Kd.R_base ho25) hb)
            have n1_ := Aside0.mk (Kd.R_lower (Kd.R_newB (Kd.R_new' ho25 (Kd.R_lt (by exact rq HO170.out))) (g := gb165) (Up.up BK165.out)) (below_size (by exact h1q HB.out GE165.out)))
            have n2_ := Aside0.mk (blk_below (g := gb165) (Up.up BK165.out) hb)
            have n3_ := Aside0.mk (below_step (by exact h1q HB.out GE165.out) hb)
            clear HO170
            clear BK165
            clear HB
            have HO170 := n0_
            have HO180 := n1_
            have BK165 := n2_
            have HB := n3_
            clear n0_ n1_ n2_ n3_
            clear hb ho25
            refine hK.out _ _ ⟨(blk_cell BK165.out 0).trans rfl, (blk_cell BK165.out 1).trans rfl, (blk_cell BK165.out 2).trans rfl, (blk_cell BK165.out 3).trans rfl, (blk_cell BK165.out 4).trans rfl, (blk_cell BK165.out 5).trans rfl, (blk_cell BK165.out 6).trans rfl, (blk_cell BK165.out 7).trans rfl, (blk_cell BK165.out 8).trans rfl, (blk_cell BK165.out 9).trans rfl, (blk_cell BK165.out 10).trans rfl⟩ (fun hHeld => ?_)
            clear hK K
            refine norm_ (a' := ?_) ?_ ?_
            rotate_left
            ·show Act.put _ (some 28) _ = _
             simp only [Act.put, List.setIfInBounds_toArray, List.set_cons_zero, List.set_cons_succ, i64_w, i32_w]
             rfl
            refine one_ (i := 4) (N := some 26) #[true, true, true, true, true, true, true, false, true, true, true, false, true, false, false] rfl rfl (one_of HT_.out (by kernel_rfl)) (by decide) (fun K hK => ?_)
            refine Kd.R_append_rows_step k26 (w0 := w) w.heap.size (by rfl) (.tmp 22) (.tmp 25) 22 26 (.agg #[(.int .i64 0), (.int .i64 0), (.int .u32 0), (.int .i64 0), (.int .i64 0), (.float .f64 0), (.float .f64 0), (.bool false), (.int .i64 0), (.int .i64 0), (.int .i64 0)]) 88 rfl Try.underlying22 info26 rfl (by decide) (by omega) v169 y168 y171 _ _ _ (fun k_ => some k_ ≠ (v179 : Value).ownBlock ∧ k_ ≠ gb165) (fun _ => False) rfl rfl ?aO ?aR (fun _ _ h => h) (fun _ h => h.elim) ?aF ?aB ?aS ?aL ?_
            (case aR => repeat (first | exact (Kd.C_below HR174.out HB.out) | (with_reducible refine Kd.C_alloc ?_ _) | (with_reducible refine Kd.C_drewN ?_ _) | (with_reducible refine Kd.C_drew ?_)))
            (case aB => exact (by exact h1q HB.out GE165.out))
            (case aF => exact (fun k_ hk => ⟨Kd.fresh' (Kd.R_lt (by exact rq HO180.out)) k_ hk, Kd.freshB (g := gb165) (Up.up BK165.out) k_ hk⟩))
            (case aO => exact (by (with_reducible repeat (first | apply Kd.R_alloc | apply Kd.R_drewN | apply Kd.R_drew)); exact Kd.R_mono HO170.out (fun _ hk => ⟨hk.2, hk.1.2⟩)))
            (case aS => exact (below_size (by exact h1q HB.out GE165.out)))
            (case aL => have := LMc12.out; omega)
            intro v176 w26 ho hb hg hat
            rw [← Ny175.out] at ho
            have n0_ := Aside0.mk (blk_grown (g := gb165) (Up.up BK165.out) hg (Kd.R_away HO170.out (fun _ hk => hk.1.2)))
            have n1_ := Aside0.mk (Kd.R_after (ok := (fun k_ => k_ ≠ gb165)) (by (with_reducible repeat (first | apply Kd.R_alloc | apply Kd.R_drewN | apply Kd.R_drew)); exact Kd.R_mono HO180.out (fun _ hk => ⟨hk.2, hk.1.2⟩)) hg hat)
            have n2_ := Aside0.mk (hb)
            have n3_ := Aside0.mk (ho)
            clear BK165
            clear HO180
            clear HB
            clear HO170
            have BK165 := n0_
            have HO180 := n1_
            have HB := n2_
            have HO177 := n3_
            clear n0_ n1_ n2_ n3_
            clear ho hb hg hat
            refine hK.out _ _ ⟨(blk_cell BK165.out 0).trans rfl, (blk_cell BK165.out 1).trans rfl, (blk_cell BK165.out 2).trans rfl, (blk_cell BK165.out 3).trans rfl, (blk_cell BK165.out 4).trans rfl, (blk_cell BK165.out 5).trans rfl, (blk_cell BK165.out 6).trans rfl, (blk_cell BK165.out 7).trans rfl, (blk_cell BK165.out 8).trans rfl, (blk_cell BK165.out 9).trans rfl, (blk_cell BK165.out 10).trans rfl⟩ (fun hHeld => ?_)
            clear hK K
            refine norm_ (a' := ?_) ?_ ?_
            rotate_left
            ·show Act.put _ (some 26) _ = _
             simp only [Act.put, List.setIfInBounds_toArray, List.set_cons_zero, List.set_cons_succ, i64_w, i32_w]
             rfl
            exact norm_ (by simp only [putAll, Act.put, List.setIfInBounds_toArray, List.set_cons_zero, List.set_cons_succ]) (hCont (v169, v176, v179) _ ⟨hHeld, (by exact rq HO177.out), (by (with_reducible repeat (first | apply Kd.R_alloc | apply Kd.R_drewN | apply Kd.R_drew)); exact Kd.R_mono HO180.out (fun _ hk => ⟨hk.2, hk.1⟩)), (Up.up BK165.out), (by exact h1q HB.out GE165.out)⟩)
          ·skip
           refine Kd.R_lit_step k26 _ 26 ?hg (N := 28) ?hd (xs := ([(⟨a1_0, a1_1, a1_2, a1_3, a1_4, a1_5, a1_6, a1_7, a1_8, a1_9, a1_10⟩ : S26)] : List (S26))) (inner := [.int .i64 a1_0, .int .i64 a1_1, .int .u32 a1_2, .int .i64 a1_3, .int .i64 a1_4, .float .f64 a1_5, .float .f64 a1_6, .bool a1_7, .int .i64 a1_8, .int .i64 a1_9, .int .i64 a1_10]) (ok := fun _ => True) (okp := fun _ => True) ?hr ?hp (fun _ hk => hk) trivial (Below.refl _ _) (Nat.le_refl _) (by simp) ?_; (case hd => rfl); (case hg => rfl); (case hr => first | (go_simp; done) | (go_simp; rfl)); (case hp => exact (Reps.front (show Kd.M k26 _ _ _ (⟨a1_0, a1_1, a1_2, a1_3, a1_4, a1_5, a1_6, a1_7, a1_8, a1_9, a1_10⟩ : S26) [.int .i64 a1_0, .int .i64 a1_1, .int .u32 a1_2, .int .i64 a1_3, .int .i64 a1_4, .float .f64 a1_5, .float .f64 a1_6, .bool a1_7, .int .i64 a1_8, .int .i64 a1_9, .int .i64 a1_10] from (k26_mkM _ _ _ (⟨a1_0, a1_1, a1_2, a1_3, a1_4, a1_5, a1_6, a1_7, a1_8, a1_9, a1_10⟩ : S26) )) rfl (Reps.none _ _) rfl))
           intro v179 w22 ho23 hb hg_ hnew_
           clear hg_ hnew_
           (first | rw [← Ny178.out] at ho23 | (simp only [Int.reduceToNat] at ho23; rw [← Ny178.out] at ho23))
           have n0_ := Aside0.mk (Kd.R_lower (Kd.R_newB ho23 (g := gb165) (Up.up BK165.out)) (below_size (by exact h1q HB.out GE165.out)))
           have n1_ := Aside0.mk (blk_below (g := gb165) (Up.up BK165.out) hb)
           have n2_ := Aside0.mk (below_step (by exact h1q HB.out GE165.out) hb)
           clear BK165
           clear HB
           have HO180 := n0_
           have BK165 := n1_
           have HB := n2_
           clear n0_ n1_ n2_
           clear hb ho23
           refine hK.out _ _ ⟨(blk_cell BK165.out 0).trans rfl, (blk_cell BK165.out 1).trans rfl, (blk_cell BK165.out 2).trans rfl, (blk_cell BK165.out 3).trans rfl, (blk_cell BK165.out 4).trans rfl, (blk_cell BK165.out 5).trans rfl, (blk_cell BK165.out 6).trans rfl, (blk_cell BK165.out 7).trans rfl, (blk_cell BK165.out 8).trans rfl, (blk_cell BK165.out 9).trans rfl, (blk_cell BK165.out 10).trans rfl⟩ (fun hHeld => ?_)
           clear hK K
           refine norm_ (a' := ?_) ?_ ?_
           rotate_left
           ·show Act.put _ (some 28) _ = _
            simp only [Act.put, List.setIfInBounds_toArray, List.set_cons_zero, List.set_cons_succ, i64_w, i32_w]
            rfl
           refine one_ (i := 0) (N := some 22) #[true, true, true, true, false, true, true, false, true, true, true, false, true, false, false] rfl rfl (one_of HT_.out (by kernel_rfl)) (by decide) (fun K hK => ?_)
           refine Kd.R_lit_step k26 _ 26 ?hg (N := 22) ?hd (xs := ([] : List (S26))) (inner := []) (ok := fun _ => True) (okp := fun _ => True) ?hr ?hp (fun _ hk => hk) trivial (Below.refl _ _) (Nat.le_refl _) (by simp) ?_; (case hd => rfl); (case hg => rfl); (case hr => first | (go_simp; done) | (go_simp; rfl)); (case hp => exact (Reps.none _ _))
           intro v169 w24 ho25 hb hg_ hnew_
           clear hg_ hnew_
           (first | rw [← Ny168.out] at ho25 | (simp only [Int.reduceToNat] at ho25; rw [← Ny168.out] at ho25))
           have n0_ := Aside0.mk (Kd.R_elder' (by exact rq HO180.out) (Kd.R_base ho25) hb)
           have n1_ := Aside0.mk (Kd.R_lower (Kd.R_newB (Kd.R_new' ho25 (Kd.R_lt (by exact rq HO180.out))) (g := gb165) (Up.up BK165.out)) (below_size (by exact h1q HB.out GE165.out)))
           have n2_ := Aside0.mk (blk_below (g := gb165) (Up.up BK165.out) hb)
           have n3_ := Aside0.mk (below_step (by exact h1q HB.out GE165.out) hb)
           clear HO180
           clear BK165
           clear HB
           have HO180 := n0_
           have HO170 := n1_
           have BK165 := n2_
           have HB := n3_
           clear n0_ n1_ n2_ n3_
           clear hb ho25
           refine hK.out _ _ ⟨(blk_cell BK165.out 0).trans rfl, (blk_cell BK165.out 1).trans rfl, (blk_cell BK165.out 2).trans rfl, (blk_cell BK165.out 3).trans rfl, (blk_cell BK165.out 4).trans rfl, (blk_cell BK165.out 5).trans rfl, (blk_cell BK165.out 6).trans rfl, (blk_cell BK165.out 7).trans rfl, (blk_cell BK165.out 8).trans rfl, (blk_cell BK165.out 9).trans rfl, (blk_cell BK165.out 10).trans rfl⟩ (fun hHeld => ?_)
           clear hK K
           refine norm_ (a' := ?_) ?_ ?_
           rotate_left
           ·show Act.put _ (some 22) _ = _
            simp only [Act.put, List.setIfInBounds_toArray, List.set_cons_zero, List.set_cons_succ, i64_w, i32_w]
            rfl
           refine one_ (i := 4) (N := some 26) #[true, true, true, true, true, true, true, false, true, true, true, false, true, false, false] rfl rfl (one_of HT_.out (by kernel_rfl)) (by decide) (fun K hK => ?_)
           refine Kd.R_append_rows_step k26 (w0 := w) w.heap.size (by rfl) (.tmp 22) (.tmp 25) 22 26 (.agg #[(.int .i64 0), (.int .i64 0), (.int .u32 0), (.int .i64 0), (.int .i64 0), (.float .f64 0), (.float .f64 0), (.bool false), (.int .i64 0), (.int .i64 0), (.int .i64 0)]) 88 rfl Try.underlying22 info26 rfl (by decide) (by omega) v169 y168 y171 _ _ _ (fun k_ => some k_ ≠ (v179 : Value).ownBlock ∧ k_ ≠ gb165) (fun _ => False) rfl rfl ?aO ?aR (fun _ _ h => h) (fun _ h => h.elim) ?aF ?aB ?aS ?aL ?_
           (case aR => repeat (first | exact (Kd.C_below HR174.out HB.out) | (with_reducible refine Kd.C_alloc ?_ _) | (with_reducible refine Kd.C_drewN ?_ _) | (with_reducible refine Kd.C_drew ?_)))
           (case aB => exact (by exact h1q HB.out GE165.out))
           (case aF => exact (fun k_ hk => ⟨Kd.fresh' (Kd.R_lt (by exact rq HO180.out)) k_ hk, Kd.freshB (g := gb165) (Up.up BK165.out) k_ hk⟩))
           (case aO => exact (by (with_reducible repeat (first | apply Kd.R_alloc | apply Kd.R_drewN | apply Kd.R_drew)); exact Kd.R_mono HO170.out (fun _ hk => ⟨hk.1.2, hk.2⟩)))
           (case aS => exact (below_size (by exact h1q HB.out GE165.out)))
           (case aL => have := LMc12.out; omega)
           intro v176 w26 ho hb hg hat
           rw [← Ny175.out] at ho
           have n0_ := Aside0.mk (blk_grown (g := gb165) (Up.up BK165.out) hg (Kd.R_away HO170.out (fun _ hk => hk.2)))
           have n1_ := Aside0.mk (Kd.R_after (ok := (fun k_ => k_ ≠ gb165)) (by (with_reducible repeat (first | apply Kd.R_alloc | apply Kd.R_drewN | apply Kd.R_drew)); exact Kd.R_mono HO180.out (fun _ hk => ⟨hk.1.2, hk.2⟩)) hg hat)
           have n2_ := Aside0.mk (hb)
           have n3_ := Aside0.mk (ho)
           clear BK165
           clear HO180
           clear HB
           clear HO170
           have BK165 := n0_
           have HO180 := n1_
           have HB := n2_
           have HO177 := n3_
           clear n0_ n1_ n2_ n3_
           clear ho hb hg hat
           refine hK.out _ _ ⟨(blk_cell BK165.out 0).trans rfl, (blk_cell BK165.out 1).trans rfl, (blk_cell BK165.out 2).trans rfl, (blk_cell BK165.out 3).trans rfl, (blk_cell BK165.out 4).trans rfl, (blk_cell BK165.out 5).trans rfl, (blk_cell BK165.out 6).trans rfl, (blk_cell BK165.out 7).trans rfl, (blk_cell BK165.out 8).trans rfl, (blk_cell BK165.out 9).trans rfl, (blk_cell BK165.out 10).trans rfl⟩ (fun hHeld => ?_)
           clear hK K
           refine norm_ (a' := ?_) ?_ ?_
           rotate_left
           ·show Act.put _ (some 26) _ = _
            simp only [Act.put, List.setIfInBounds_toArray, List.set_cons_zero, List.set_cons_succ, i64_w, i32_w]
            rfl
           exact norm_ (by simp only [putAll, Act.put, List.setIfInBounds_toArray, List.set_cons_zero, List.set_cons_succ]) (hCont (v169, v176, v179) _ ⟨hHeld, (by exact rq HO177.out), (by (with_reducible repeat (first | apply Kd.R_alloc | apply Kd.R_drewN | apply Kd.R_drew)); exact Kd.R_mono HO180.out (fun _ hk => ⟨hk.2, hk.1⟩)), (Up.up BK165.out), (by exact h1q HB.out GE165.out)⟩)
         rintro ⟨v169, v176, v179⟩ w27 ⟨hS_, h0_, h1_, h2_, h3_⟩
         have n0_ : Aside0 (Kd.R k26 26 w27 w.heap.size (fun k_ => some k_ ≠ (v179 : Value).ownBlock ∧ k_ ≠ gb165) v176 y175) := ⟨h0_⟩
         have n1_ : Aside0 (Kd.R k26 26 w27 w.heap.size (fun k_ => some k_ ≠ (v176 : Value).ownBlock ∧ k_ ≠ gb165) v179 y178) := ⟨h1_⟩
         have n2_ : Aside0 (w27.heap[gb165]? = some (.cells #[.int .i64 a1_0, .int .i64 a1_1, .int .u32 a1_2, .int .i64 a1_3, .int .i64 a1_4, .float .f64 a1_5, .float .f64 a1_6, .bool a1_7, .int .i64 a1_8, .int .i64 a1_9, .int .i64 a1_10] 26 (0, 0))) := ⟨h2_⟩
         have n3_ : Aside0 (Below w.heap.size w w27) := ⟨h3_⟩
         clear BK165
         clear HB
         clear h0_ h1_ h2_ h3_
         have HO177 := n0_
         have HO180 := n1_
         have BK165 := n2_
         have HB := n3_
         clear n0_ n1_ n2_ n3_
         have hHeld : w27.cell? ⟨gb165, 0, none⟩ = some (.int .i64 a1_0) ∧ w27.cell? ⟨gb165, 1, none⟩ = some (.int .i64 a1_1) ∧ w27.cell? ⟨gb165, 2, none⟩ = some (.int .u32 a1_2) ∧ w27.cell? ⟨gb165, 3, none⟩ = some (.int .i64 a1_3) ∧ w27.cell? ⟨gb165, 4, none⟩ = some (.int .i64 a1_4) ∧ w27.cell? ⟨gb165, 5, none⟩ = some (.float .f64 a1_5) ∧ w27.cell? ⟨gb165, 6, none⟩ = some (.float .f64 a1_6) ∧ w27.cell? ⟨gb165, 7, none⟩ = some (.bool a1_7) ∧ w27.cell? ⟨gb165, 8, none⟩ = some (.int .i64 a1_8) ∧ w27.cell? ⟨gb165, 9, none⟩ = some (.int .i64 a1_9) ∧ w27.cell? ⟨gb165, 10, none⟩ = some (.int .i64 a1_10) := hS_
         obtain ⟨Ao29, co29, eo29⟩ := Kd.R_slice HO180.out
         (first | subst eo29 | (injection eo29 with f1_ f2_ f3_; have f4_ := f1_.symm; have f5_ := f3_.symm; clear f1_ f2_ f3_; subst f4_; subst f5_))
         refine norm_ (a' := ?_) ?_ ?_
         rotate_left
         ·simp only [putAll, Act.put, List.setIfInBounds_toArray, List.set_cons_zero, List.set_cons_succ]
          rfl
         refine one_ (i := 7) (N := some 29) #[true, true, true, true, true, true, true, true, true, true, true, false, true, false, false] rfl rfl (one_of HT_.out (by kernel_rfl)) (by decide) (fun K hK => ?_)
         refine Kd.R_append_rows_step k26 (w0 := w) w.heap.size (by rfl) (.tmp 26) (.tmp 28) 22 26 (.agg #[(.int .i64 0), (.int .i64 0), (.int .u32 0), (.int .i64 0), (.int .i64 0), (.float .f64 0), (.float .f64 0), (.bool false), (.int .i64 0), (.int .i64 0), (.int .i64 0)]) 88 rfl Try.underlying22 info26 rfl (by decide) (by omega) v176 y175 y178 _ _ _ (fun k_ => some k_ ≠ (.slice Ao29 y178.length co29 : Value).ownBlock ∧ k_ ≠ gb165) (fun _ => False) rfl rfl ?aO ?aR (fun _ _ h => h) (fun _ h => h.elim) ?aF ?aB ?aS ?aL ?_
         (case aR => repeat (first | exact (Kd.R_reads' HO180.out).2.2 | (with_reducible refine Kd.C_alloc ?_ _) | (with_reducible refine Kd.C_drewN ?_ _) | (with_reducible refine Kd.C_drew ?_)))
         (case aB => exact (by exact h1q HB.out GE165.out))
         (case aF => exact (fun k_ hk => ⟨Kd.fresh' (Kd.R_lt (by exact rq HO180.out)) k_ hk, Kd.freshB (g := gb165) (Up.up BK165.out) k_ hk⟩))
         (case aO => exact (by exact rq HO177.out))
         (case aS => exact (below_size (by exact h1q HB.out GE165.out)))
         (case aL => have := LMc13.out; omega)
         intro v182 w28 ho hb hg hat
         rw [← Ny181.out] at ho
         have n0_ := Aside0.mk (blk_grown (g := gb165) (Up.up BK165.out) hg (Kd.R_away HO177.out (fun _ hk => hk.2)))
         have n1_ := Aside0.mk (Kd.R_after (ok := (fun k_ => k_ ≠ gb165)) (by (with_reducible repeat (first | apply Kd.R_alloc | apply Kd.R_drewN | apply Kd.R_drew)); exact Kd.R_mono HO180.out (fun _ hk => ⟨hk.2, hk.1⟩)) hg hat)
         have n2_ := Aside0.mk (hb)
         have n3_ := Aside0.mk (ho)
         clear BK165
         clear HO180
         clear HB
         clear HO177
         have BK165 := n0_
         have HO180 := n1_
         have HB := n2_
         have HO183 := n3_
         clear n0_ n1_ n2_ n3_
         clear ho hb hg hat
         refine hK.out _ _ ⟨(blk_cell BK165.out 0).trans rfl, (blk_cell BK165.out 1).trans rfl, (blk_cell BK165.out 2).trans rfl, (blk_cell BK165.out 3).trans rfl, (blk_cell BK165.out 4).trans rfl, (blk_cell BK165.out 5).trans rfl, (blk_cell BK165.out 6).trans rfl, (blk_cell BK165.out 7).trans rfl, (blk_cell BK165.out 8).trans rfl, (blk_cell BK165.out 9).trans rfl, (blk_cell BK165.out 10).trans rfl⟩ (fun hHeld => ?_)
         clear hK K
         refine norm_ (a' := ?_) ?_ ?_
         rotate_left
         ·show Act.put _ (some 29) _ = _
          simp only [Act.put, List.setIfInBounds_toArray, List.set_cons_zero, List.set_cons_succ, i64_w, i32_w]
          rfl
         refine one_ (i := 11) (N := some 33) #[true, true, true, true, true, true, true, true, true, true, true, true, true, false, false] rfl rfl (one_of HT_.out (by kernel_rfl)) (by decide) (fun K hK => ?_)
         refine Kd.R_append_rows_step k26 (w0 := w) w.heap.size (by rfl) (.tmp 29) (.tmp 32) 22 26 (.agg #[(.int .i64 0), (.int .i64 0), (.int .u32 0), (.int .i64 0), (.int .i64 0), (.float .f64 0), (.float .f64 0), (.bool false), (.int .i64 0), (.int .i64 0), (.int .i64 0)]) 88 rfl Try.underlying22 info26 rfl (by decide) (by omega) v182 y181 y184 _ _ _ (fun k_ => some k_ ≠ (.slice Ao29 y178.length co29 : Value).ownBlock ∧ k_ ≠ gb165) (fun _ => False) rfl rfl ?aO ?aR (fun _ _ h => h) (fun _ h => h.elim) ?aF ?aB ?aS ?aL ?_
         (case aR => repeat (first | exact (Kd.C_below HR187.out HB.out) | (with_reducible refine Kd.C_alloc ?_ _) | (with_reducible refine Kd.C_drewN ?_ _) | (with_reducible refine Kd.C_drew ?_)))
         (case aB => exact (by exact h1q HB.out GE165.out))
         (case aF => exact (fun k_ hk => ⟨Kd.fresh' (Kd.R_lt (by exact rq HO180.out)) k_ hk, Kd.freshB (g := gb165) (Up.up BK165.out) k_ hk⟩))
         (case aO => exact (by exact rq HO183.out))
         (case aS => exact (below_size (by exact h1q HB.out GE165.out)))
         (case aL => have := LMc16.out; omega)
         intro v189 w30 ho hb hg hat
         rw [← Ny188.out] at ho
         have n0_ := Aside0.mk (blk_grown (g := gb165) (Up.up BK165.out) hg (Kd.R_away HO183.out (fun _ hk => hk.2)))
         have n1_ := Aside0.mk (Kd.R_after (ok := (fun k_ => k_ ≠ gb165)) (by exact rq HO180.out) hg hat)
         have n2_ := Aside0.mk (hb)
         have n3_ := Aside0.mk (ho)
         clear BK165
         clear HO180
         clear HB
         clear HO183
         have BK165 := n0_
         have HO180 := n1_
         have HB := n2_
         have HO190 := n3_
         clear n0_ n1_ n2_ n3_
         clear ho hb hg hat
         refine hK.out _ _ ⟨(blk_cell BK165.out 0).trans rfl, (blk_cell BK165.out 1).trans rfl, (blk_cell BK165.out 2).trans rfl, (blk_cell BK165.out 3).trans rfl, (blk_cell BK165.out 4).trans rfl, (blk_cell BK165.out 5).trans rfl, (blk_cell BK165.out 6).trans rfl, (blk_cell BK165.out 7).trans rfl, (blk_cell BK165.out 8).trans rfl, (blk_cell BK165.out 9).trans rfl, (blk_cell BK165.out 10).trans rfl⟩ (fun hHeld => ?_)
         clear hK K
         refine norm_ (a' := ?_) ?_ ?_
         rotate_left
         ·show Act.put _ (some 33) _ = _
          simp only [Act.put, List.setIfInBounds_toArray, List.set_cons_zero, List.set_cons_succ, i64_w, i32_w]
          rfl
         refine pure_ (i := 13) (N := some 4) (v := ?_) (a' := ?_) #[true, true, true, true, true, true, true, true, true, true, true, true, true, true, false] rfl rfl (any_of HT_.out (by kernel_rfl)) (fun _ _ _ h => h) (Or.inl ⟨by rfl, ?_⟩) ?_ ?_
         rotate_left
         ·intro w'
          go_simp
          with_reducible rfl
         rotate_left
         ·simp only [Act.put, List.setIfInBounds_toArray, List.set_cons_zero, List.set_cons_succ, i64_w, i32_w]
          rfl
         refine pure_ (i := 14) (N := some 5) (v := ?_) (a' := ?_) #[true, true, true, true, true, true, true, true, true, true, true, true, true, true, true] rfl rfl (any_of HT_.out (by kernel_rfl)) (fun _ _ _ h => h) (Or.inl ⟨by rfl, ?_⟩) ?_ ?_
         rotate_left
         ·intro w'
          go_simp
          with_reducible rfl
         rotate_left
         ·simp only [Act.put, List.setIfInBounds_toArray, List.set_cons_zero, List.set_cons_succ, i64_w, i32_w]
          rfl
         refine done_ (done_of HT_.out (by kernel_rfl)) ?_
         try go_wp2
         go_ret2
         exact ⟨_, by first | rfl | (simp [errW_none, errW_some] <;> rfl) | (simp [*, errW_none, errW_some] <;> rfl), by (with_reducible repeat (first | apply Kd.R_alloc | apply Kd.R_drewN | apply Kd.R_drew)); exact Kd.R_mono HO190.out (fun _ hk => trivial), by exact h1q HB.out GE165.out⟩
        ·rw [if_neg c16] at H
         exact absurd H (by simp)
       ·rw [if_neg c13] at H
        exact absurd H (by simp)
      ·rw [if_neg c12] at H
       exact absurd H (by simp)
     ·rw [if_neg c11] at H
      exact absurd H (by simp)
   ·rw [if_neg c5] at H
    exact absurd H (by simp)
  ·rw [if_neg c4] at H
   have c4b0 : decide (x6_1 < (l0.length : Int)) = false := decide_eq_false c4
   clear c4
   obtain ⟨y191, hy191⟩ : ∃ y_ : List (S26), y_ = (([] : List (S26))) := ⟨_, rfl⟩
   replace H : (if 0 ≤ x6_1 then (if x6_1 ≤ (l0.length : Int) then ((some (l0.take (x6_1 : Int).toNat : List (S26))).bind fun y194 => (if y191.length + y194.length < 1599289640401 then ((some (y191 ++ y194 : List (S26))).bind fun y198 => ((some (([(⟨a1_0, a1_1, a1_2, a1_3, a1_4, a1_5, a1_6, a1_7, a1_8, a1_9, a1_10⟩ : S26)] : List (S26)) : List (S26))).bind fun y201 => (if y198.length + y201.length < 1599289640401 then ((some (y198 ++ y201 : List (S26))).bind fun y204 => ((some (l0.drop (x6_1 : Int).toNat : List (S26))).bind fun y207 => (if y204.length + y207.length < 1599289640401 then (some ((y204 ++ y207), x6_1)) else (none)))) else (none)))) else (none))) else (none)) else (none)) = some (r1, r2) := by first | (rw [hy191]; with_reducible exact H) | (have H2_ := (Option.bind_some _ _).symm.trans H; rw [hy191]; with_reducible exact H2_) | (have H2_ := (Option.bind_some _ _).symm.trans H; with_reducible exact H2_) | with_reducible exact H | (rw [hy191]; exact H) | exact H
   have Ny191 := Aside0.mk hy191
   clear hy191
   by_cases c31 : 0 ≤ x6_1
   ·rw [if_pos c31] at H
    have c31b0 := eq_true c31
    have c31b1 : decide (0 ≤ x6_1) = true := decide_eq_true c31
    clear c31
    by_cases c32 : x6_1 ≤ (l0.length : Int)
    ·rw [if_pos c32] at H
     have c32b0 := eq_true c32
     have c32b1 : decide (x6_1 ≤ (l0.length : Int)) = true := decide_eq_true c32
     clear c32
     obtain ⟨y194, hy194⟩ : ∃ y_ : List (S26), y_ = (l0.take (x6_1 : Int).toNat) := ⟨_, rfl⟩
     replace H : (if y191.length + y194.length < 1599289640401 then ((some (y191 ++ y194 : List (S26))).bind fun y198 => ((some (([(⟨a1_0, a1_1, a1_2, a1_3, a1_4, a1_5, a1_6, a1_7, a1_8, a1_9, a1_10⟩ : S26)] : List (S26)) : List (S26))).bind fun y201 => (if y198.length + y201.length < 1599289640401 then ((some (y198 ++ y201 : List (S26))).bind fun y204 => ((some (l0.drop (x6_1 : Int).toNat : List (S26))).bind fun y207 => (if y204.length + y207.length < 1599289640401 then (some ((y204 ++ y207), x6_1)) else (none)))) else (none)))) else (none)) = some (r1, r2) := by first | (rw [hy194]; with_reducible exact H) | (have H2_ := (Option.bind_some _ _).symm.trans H; rw [hy194]; with_reducible exact H2_) | (have H2_ := (Option.bind_some _ _).symm.trans H; with_reducible exact H2_) | with_reducible exact H | (rw [hy194]; exact H) | exact H
     have Ny194 := Aside0.mk hy194
     clear hy194
     by_cases c33 : y191.length + y194.length < 1599289640401
     ·rw [if_pos c33] at H
      have LMc33 := Aside0.mk c33
      clear c33
      obtain ⟨y198, hy198⟩ : ∃ y_ : List (S26), y_ = (y191 ++ y194) := ⟨_, rfl⟩
      replace H : ((some (([(⟨a1_0, a1_1, a1_2, a1_3, a1_4, a1_5, a1_6, a1_7, a1_8, a1_9, a1_10⟩ : S26)] : List (S26)) : List (S26))).bind fun y201 => (if y198.length + y201.length < 1599289640401 then ((some (y198 ++ y201 : List (S26))).bind fun y204 => ((some (l0.drop (x6_1 : Int).toNat : List (S26))).bind fun y207 => (if y204.length + y207.length < 1599289640401 then (some ((y204 ++ y207), x6_1)) else (none)))) else (none))) = some (r1, r2) := by first | (rw [hy198]; with_reducible exact H) | (have H2_ := (Option.bind_some _ _).symm.trans H; rw [hy198]; with_reducible exact H2_) | (have H2_ := (Option.bind_some _ _).symm.trans H; with_reducible exact H2_) | with_reducible exact H | (rw [hy198]; exact H) | exact H
      have Ny198 := Aside0.mk hy198
      clear hy198
      obtain ⟨y201, hy201⟩ : ∃ y_ : List (S26), y_ = (([(⟨a1_0, a1_1, a1_2, a1_3, a1_4, a1_5, a1_6, a1_7, a1_8, a1_9, a1_10⟩ : S26)] : List (S26))) := ⟨_, rfl⟩
      replace H : (if y198.length + y201.length < 1599289640401 then ((some (y198 ++ y201 : List (S26))).bind fun y204 => ((some (l0.drop (x6_1 : Int).toNat : List (S26))).bind fun y207 => (if y204.length + y207.length < 1599289640401 then (some ((y204 ++ y207), x6_1)) else (none)))) else (none)) = some (r1, r2) := by first | (rw [hy201]; with_reducible exact H) | (have H2_ := (Option.bind_some _ _).symm.trans H; rw [hy201]; with_reducible exact H2_) | (have H2_ := (Option.bind_some _ _).symm.trans H; with_reducible exact H2_) | with_reducible exact H | (rw [hy201]; exact H) | exact H
      have Ny201 := Aside0.mk hy201
      clear hy201
      by_cases c34 : y198.length + y201.length < 1599289640401
      ·rw [if_pos c34] at H
       have LMc34 := Aside0.mk c34
       clear c34
       obtain ⟨y204, hy204⟩ : ∃ y_ : List (S26), y_ = (y198 ++ y201) := ⟨_, rfl⟩
       replace H : ((some (l0.drop (x6_1 : Int).toNat : List (S26))).bind fun y207 => (if y204.length + y207.length < 1599289640401 then (some ((y204 ++ y207), x6_1)) else (none))) = some (r1, r2) := by first | (rw [hy204]; with_reducible exact H) | (have H2_ := (Option.bind_some _ _).symm.trans H; rw [hy204]; with_reducible exact H2_) | (have H2_ := (Option.bind_some _ _).symm.trans H; with_reducible exact H2_) | with_reducible exact H | (rw [hy204]; exact H) | exact H
       have Ny204 := Aside0.mk hy204
       clear hy204
       have c35b0 := eq_true (yd : 0 ≤ x6_1)
       have c36b0 := eq_true (yd : x6_1 ≤ (l0.length : Int))
       obtain ⟨y207, hy207⟩ : ∃ y_ : List (S26), y_ = (l0.drop (x6_1 : Int).toNat) := ⟨_, rfl⟩
       replace H : (if y204.length + y207.length < 1599289640401 then (some ((y204 ++ y207), x6_1)) else (none)) = some (r1, r2) := by first | (rw [hy207]; with_reducible exact H) | (have H2_ := (Option.bind_some _ _).symm.trans H; rw [hy207]; with_reducible exact H2_) | (have H2_ := (Option.bind_some _ _).symm.trans H; with_reducible exact H2_) | with_reducible exact H | (rw [hy207]; exact H) | exact H
       have Ny207 := Aside0.mk hy207
       clear hy207
       by_cases c37 : y204.length + y207.length < 1599289640401
       ·rw [if_pos c37] at H
        have LMc37 := Aside0.mk c37
        clear c37
        obtain ⟨y211, hy211⟩ : ∃ y_ : List (S26), y_ = (y204 ++ y207) := ⟨_, rfl⟩
        replace H : (some (y211, x6_1)) = some (r1, r2) := by first | (rw [hy211]; with_reducible exact H) | (have H2_ := (Option.bind_some _ _).symm.trans H; rw [hy211]; with_reducible exact H2_) | (have H2_ := (Option.bind_some _ _).symm.trans H; with_reducible exact H2_) | with_reducible exact H | (rw [hy211]; exact H) | exact H
        have Ny211 := Aside0.mk hy211
        clear hy211
        simp only [Option.some.injEq, Prod.mk.injEq] at H
        obtain ⟨rfl, rfl⟩ := H
        try go_wp2
        have n0_ := Aside0.mk (blk_drew BK165.out)
        have n1_ := Aside0.mk (below_drew1 HB.out)
        clear BK165
        clear HB
        have BK165 := n0_
        have HB := n1_
        clear n0_ n1_
        refine start_ (n := 13) (S := fun w' => True) (ds := []) #[false, false, false, false, false, false, false, false, false, false, false, false, false] (by kernel_rfl) rfl rfl trivial (fun hHeld => ?_); refine with_tabW annuityref23_Put.tab2 annuityref23_Put.bits2 (fun HT_ HW_ => ?_)
        generalize wr.drew = w38 at BK165 HB hHeld ⊢
        refine pure_ (i := 0) (N := some 7) (v := ?_) (a' := ?_) #[true, false, false, false, false, false, false, false, false, false, false, false, false] rfl rfl (any_of HT_.out (by kernel_rfl)) (fun _ _ _ h => h) (Or.inl ⟨by rfl, ?_⟩) ?_ ?_
        rotate_left
        ·intro w'
         go_simp
         with_reducible rfl
        rotate_left
        ·simp only [Act.put, List.setIfInBounds_toArray, List.set_cons_zero, List.set_cons_succ, i64_w, i32_w]
         rfl
        refine pure_ (i := 1) (N := some 8) (v := ?_) (a' := ?_) #[true, true, false, false, false, false, false, false, false, false, false, false, false] rfl rfl (any_of HT_.out (by kernel_rfl)) (fun _ _ _ h => h) (Or.inl ⟨by rfl, ?_⟩) ?_ ?_
        rotate_left
        ·intro w'
         go_simp
         with_reducible rfl
        rotate_left
        ·simp only [Act.put, List.setIfInBounds_toArray, List.set_cons_zero, List.set_cons_succ, i64_w, i32_w]
         rfl
        refine pure_ (i := 2) (N := some 9) (v := ?_) (a' := ?_) #[true, true, true, false, false, false, false, false, false, false, false, false, false] rfl rfl (any_of HT_.out (by kernel_rfl)) (fun _ _ _ h => h) (Or.inl ⟨by rfl, ?_⟩) ?_ ?_
        rotate_left
        ·intro w'
         go_simp
         with_reducible rfl
        rotate_left
        ·simp only [Act.put, List.setIfInBounds_toArray, List.set_cons_zero, List.set_cons_succ, i64_w, i32_w]
         rfl
        refine pure_ (i := 3) (N := some 10) (v := ?_) (a' := ?_) #[true, true, true, true, false, false, false, false, false, false, false, false, false] rfl rfl (any_of HT_.out (by kernel_rfl)) (fun _ _ _ h => h) (Or.inl ⟨by rfl, ?_⟩) ?_ ?_
        rotate_left
        ·intro w'
         go_simp
         with_reducible rfl
        rotate_left
        ·simp only [Act.put, List.setIfInBounds_toArray, List.set_cons_zero, List.set_cons_succ, i64_w, i32_w]
         rfl
        refine pure_ (i := 4) (N := some 11) (v := ?_) (a' := ?_) #[true, true, true, true, true, false, false, false, false, false, false, false, false] rfl rfl (any_of HT_.out (by kernel_rfl)) (fun _ _ _ h => h) (Or.inl ⟨by rfl, ?_⟩) ?_ ?_
        rotate_left
        ·intro w'
         go_simp
         with_reducible rfl
        rotate_left
        ·simp only [Act.put, List.setIfInBounds_toArray, List.set_cons_zero, List.set_cons_succ, i64_w, i32_w]
         rfl
        refine pure_ (i := 5) (N := some 12) (v := undef) (a' := ?_) #[true, true, true, true, true, true, false, false, false, false, false, false, false] rfl rfl (any_of HT_.out (by kernel_rfl)) (fun _ _ _ h => h) (Or.inr ⟨by rfl, rfl⟩) ?_ ?_
        rotate_left
        ·simp only [Act.put, List.setIfInBounds_toArray, List.set_cons_zero, List.set_cons_succ, i64_w, i32_w]
         rfl
        refine pure_ (i := 6) (N := some 13) (v := undef) (a' := ?_) #[true, true, true, true, true, true, true, false, false, false, false, false, false] rfl rfl (any_of HT_.out (by kernel_rfl)) (fun _ _ _ h => h) (Or.inr ⟨by rfl, rfl⟩) ?_ ?_
        rotate_left
        ·simp only [Act.put, List.setIfInBounds_toArray, List.set_cons_zero, List.set_cons_succ, i64_w, i32_w]
         rfl
        refine pure_ (i := 7) (N := some 14) (v := undef) (a' := ?_) #[true, true, true, true, true, true, true, true, false, false, false, false, false] rfl rfl (any_of HT_.out (by kernel_rfl)) (fun _ _ _ h => h) (Or.inr ⟨by rfl, rfl⟩) ?_ ?_
        rotate_left
        ·simp only [Act.put, List.setIfInBounds_toArray, List.set_cons_zero, List.set_cons_succ, i64_w, i32_w]
         rfl
        refine pure_ (i := 8) (N := some 15) (v := undef) (a' := ?_) #[true, true, true, true, true, true, true, true, true, false, false, false, false] rfl rfl (any_of HT_.out (by kernel_rfl)) (fun _ _ _ h => h) (Or.inr ⟨by rfl, rfl⟩) ?_ ?_
        rotate_left
        ·simp only [Act.put, List.setIfInBounds_toArray, List.set_cons_zero, List.set_cons_succ, i64_w, i32_w]
         rfl
        refine pure_ (i := 9) (N := some 16) (v := undef) (a' := ?_) #[true, true, true, true, true, true, true, true, true, true, false, false, false] rfl rfl (any_of HT_.out (by kernel_rfl)) (fun _ _ _ h => h) (Or.inr ⟨by rfl, rfl⟩) ?_ ?_
        rotate_left
        ·simp only [Act.put, List.setIfInBounds_toArray, List.set_cons_zero, List.set_cons_succ, i64_w, i32_w]
         rfl
        refine pure_ (i := 10) (N := some 17) (v := undef) (a' := ?_) #[true, true, true, true, true, true, true, true, true, true, true, false, false] rfl rfl (any_of HT_.out (by kernel_rfl)) (fun _ _ _ h => h) (Or.inr ⟨by rfl, rfl⟩) ?_ ?_
        rotate_left
        ·simp only [Act.put, List.setIfInBounds_toArray, List.set_cons_zero, List.set_cons_succ, i64_w, i32_w]
         rfl
        refine pure_ (i := 11) (N := some 18) (v := undef) (a' := ?_) #[true, true, true, true, true, true, true, true, true, true, true, true, false] rfl rfl (any_of HT_.out (by kernel_rfl)) (fun _ _ _ h => h) (Or.inr ⟨by rfl, rfl⟩) ?_ ?_
        rotate_left
        ·simp only [Act.put, List.setIfInBounds_toArray, List.set_cons_zero, List.set_cons_succ, i64_w, i32_w]
         rfl
        refine pure_ (i := 12) (N := some 19) (v := ?_) (a' := ?_) #[true, true, true, true, true, true, true, true, true, true, true, true, true] rfl rfl (any_of HT_.out (by kernel_rfl)) (fun _ _ _ h => h) (Or.inl ⟨by rfl, ?_⟩) ?_ ?_
        rotate_left
        ·intro w'
         go_simp
         with_reducible rfl
        rotate_left
        ·simp only [Act.put, List.setIfInBounds_toArray, List.set_cons_zero, List.set_cons_succ, i64_w, i32_w]
         rfl
        refine done_ (done_of HT_.out (by kernel_rfl)) ?_
        try go_wp2
        have n0_ := Aside0.mk (blk_drew BK165.out)
        have n1_ := Aside0.mk (below_drew1 HB.out)
        clear BK165
        clear HB
        have BK165 := n0_
        have HB := n1_
        clear n0_ n1_
        have q40 : (x6_1 : Int) ≤ ((l0.length : Int) : Int) := yd
        obtain ⟨i040, hi040, _, hsz40, _⟩ := info_parts info26
        have hroom40 : l0.length ≤ c0 := HC0.out
        have hC40 : Kd.C k26 _ A0 l0.length l0 := HR0.out
        have hcut40 := cut_to (P := Try.prog) 22 26 .i64 Try.underlying22 hi040 A0 l0.length c0 x6_1 (yd) q40 hroom40
        have hr40 := Kd.C_take (m := (x6_1 : Int).toNat) hC40 (by omega)
        have hy40 : y194.length = (x6_1 : Int).toNat := (by rw [Ny194.out, List.length_take]; omega)
        rw [← Ny194.out] at hr40
        rw [← hy40] at hcut40
        have HR197 := Aside0.mk hr40
        have HC197 := Aside0.mk (show y194.length ≤ c0 from by omega)
        clear hr40 hC40 hroom40 hi040 hsz40
        have KY40 := Aside0.mk hy40
        clear hy40
        replace q40 := eq_true q40
        have q41 : (x6_1 : Int) ≤ ((l0.length : Int) : Int) := yd
        obtain ⟨i041, hi041, _, hsz41, _⟩ := info_parts info26
        have hroom41 : l0.length ≤ c0 := HC0.out
        have hC41 : Kd.C k26 _ A0 l0.length l0 := HR0.out
        have q041 : (0 : Int) ≤ (x6_1 : Int) := yd
        have hcut41 := cut_from (P := Try.prog) 22 26 .i64 Try.underlying22 hi041 11 hsz41 A0 l0.length c0 x6_1 q041 q41
        have hr41 := Kd.C_drop (m := (x6_1 : Int).toNat) (c := c0) hC41 (by omega) hroom41
        obtain ⟨A41, hA41⟩ : ∃ A1, A1 = (if c0 = (x6_1 : Int).toNat then A0 else (A0 : Option Addr).map (·.add ((x6_1 : Int).toNat * 11))) := ⟨_, rfl⟩
        obtain ⟨c41, hc41⟩ : ∃ c1, c1 = c0 - (x6_1 : Int).toNat := ⟨_, rfl⟩
        have hy41 : y207.length = l0.length - (x6_1 : Int).toNat := (by rw [Ny207.out, List.length_drop] <;> omega)
        rw [show (l0).drop (x6_1 : Int).toNat = y207 from Ny207.out.symm] at hr41
        replace hr41 : Kd.C k26 _ A41 y207.length y207 := (by rw [hA41]; exact hr41)
        rw [← hy41, ← hA41, ← hc41] at hcut41
        have HR210 := Aside0.mk hr41
        have HC210 := Aside0.mk (show y207.length ≤ c41 from by rw [hy41, hc41]; exact Nat.sub_le_sub_right hroom41 _)
        clear hr41 hC41 hroom41 hi041 hsz41 hc41
        have KY41 := Aside0.mk hy41
        have KA41 := Aside0.mk hA41
        clear hy41 hA41
        replace q41 := eq_true q41
        refine start_ (n := 15) (S := fun w' => w'.cell? ⟨gb165, 0, none⟩ = some (.int .i64 a1_0) ∧ w'.cell? ⟨gb165, 1, none⟩ = some (.int .i64 a1_1) ∧ w'.cell? ⟨gb165, 2, none⟩ = some (.int .u32 a1_2) ∧ w'.cell? ⟨gb165, 3, none⟩ = some (.int .i64 a1_3) ∧ w'.cell? ⟨gb165, 4, none⟩ = some (.int .i64 a1_4) ∧ w'.cell? ⟨gb165, 5, none⟩ = some (.float .f64 a1_5) ∧ w'.cell? ⟨gb165, 6, none⟩ = some (.float .f64 a1_6) ∧ w'.cell? ⟨gb165, 7, none⟩ = some (.bool a1_7) ∧ w'.cell? ⟨gb165, 8, none⟩ = some (.int .i64 a1_8) ∧ w'.cell? ⟨gb165, 9, none⟩ = some (.int .i64 a1_9) ∧ w'.cell? ⟨gb165, 10, none⟩ = some (.int .i64 a1_10)) (ds := []) #[false, false, false, false, false, false, false, false, false, false, false, false, false, false, false] (by kernel_rfl) rfl rfl ⟨(blk_cell BK165.out 0).trans rfl, (blk_cell BK165.out 1).trans rfl, (blk_cell BK165.out 2).trans rfl, (blk_cell BK165.out 3).trans rfl, (blk_cell BK165.out 4).trans rfl, (blk_cell BK165.out 5).trans rfl, (blk_cell BK165.out 6).trans rfl, (blk_cell BK165.out 7).trans rfl, (blk_cell BK165.out 8).trans rfl, (blk_cell BK165.out 9).trans rfl, (blk_cell BK165.out 10).trans rfl⟩ (fun hHeld => ?_); refine with_tabW annuityref23_Put.tab4 annuityref23_Put.bits4 (fun HT_ HW_ => ?_)
        generalize w38.drew = w39 at BK165 HB HR197 HR210 hHeld ⊢
        refine pure_ (i := 1) (N := some 23) (v := ?_) (a' := ?_) #[false, true, false, false, false, false, false, false, false, false, false, false, false, false, false] rfl rfl (any_of HT_.out (by kernel_rfl)) (fun _ _ _ h => h) (Or.inl ⟨by rfl, ?_⟩) ?_ ?_
        rotate_left
        ·intro w'
         go_simp
         with_reducible rfl
        rotate_left
        ·simp only [Act.put, List.setIfInBounds_toArray, List.set_cons_zero, List.set_cons_succ, i64_w, i32_w]
         rfl
        refine pure_ (i := 2) (N := some 24) (v := ?_) (a' := ?_) #[false, true, true, false, false, false, false, false, false, false, false, false, false, false, false] rfl rfl (any_of HT_.out (by kernel_rfl)) (fun _ _ _ h => h) (Or.inl ⟨by rfl, ?_⟩) ?_ ?_
        rotate_left
        ·intro w'
         go_simp
         with_reducible rfl
        rotate_left
        ·simp only [Act.put, List.setIfInBounds_toArray, List.set_cons_zero, List.set_cons_succ, i64_w, i32_w]
         rfl
        refine pure_ (i := 3) (N := some 25) (v := ?_) (a' := ?_) #[false, true, true, true, false, false, false, false, false, false, false, false, false, false, false] rfl rfl (any_of HT_.out (by kernel_rfl)) (fun _ _ _ h => h) (Or.inl ⟨by rfl, ?_⟩) ?_ ?_
        rotate_left
        ·intro w'
         go_simp
         with_reducible rfl
        rotate_left
        ·simp only [Act.put, List.setIfInBounds_toArray, List.set_cons_zero, List.set_cons_succ, i64_w, i32_w]
         rfl
        refine pure_ (i := 8) (N := some 30) (v := ?_) (a' := ?_) #[false, true, true, true, false, false, false, false, true, false, false, false, false, false, false] rfl rfl (any_of HT_.out (by kernel_rfl)) (fun _ _ _ h => h) (Or.inl ⟨by rfl, ?_⟩) ?_ ?_
        rotate_left
        ·intro w'
         go_simp
         with_reducible rfl
        rotate_left
        ·simp only [Act.put, List.setIfInBounds_toArray, List.set_cons_zero, List.set_cons_succ, i64_w, i32_w]
         rfl
        refine pure_ (i := 9) (N := some 31) (v := ?_) (a' := ?_) #[false, true, true, true, false, false, false, false, true, true, false, false, false, false, false] rfl rfl (any_of HT_.out (by kernel_rfl)) (fun _ _ _ h => h) (Or.inl ⟨by rfl, ?_⟩) ?_ ?_
        rotate_left
        ·intro w'
         go_simp
         with_reducible rfl
        rotate_left
        ·simp only [Act.put, List.setIfInBounds_toArray, List.set_cons_zero, List.set_cons_succ, i64_w, i32_w]
         rfl
        refine pure_ (i := 10) (N := some 32) (v := ?_) (a' := ?_) #[false, true, true, true, false, false, false, false, true, true, true, false, false, false, false] rfl rfl (any_of HT_.out (by kernel_rfl)) (fun _ _ _ h => h) (Or.inl ⟨by rfl, ?_⟩) ?_ ?_
        rotate_left
        ·intro w'
         go_simp
         with_reducible rfl
        rotate_left
        ·simp only [Act.put, List.setIfInBounds_toArray, List.set_cons_zero, List.set_cons_succ, i64_w, i32_w]
         rfl
        refine pure_ (i := 12) (N := some 34) (v := ?_) (a' := ?_) #[false, true, true, true, false, false, false, false, true, true, true, false, true, false, false] rfl rfl (any_of HT_.out (by kernel_rfl)) (fun _ _ _ h => h) (Or.inl ⟨by rfl, ?_⟩) ?_ ?_
        rotate_left
        ·intro w'
         go_simp
         with_reducible rfl
        rotate_left
        ·simp only [Act.put, List.setIfInBounds_toArray, List.set_cons_zero, List.set_cons_succ, i64_w, i32_w]
         rfl
        refine take_ (i := 5) (N := some 27) (v := ?_) (a' := ?_) #[false, true, true, true, false, true, false, false, true, true, true, false, true, false, false] rfl rfl (take_ofW HT_.out HW_.out (by kernel_rfl)) (fun _ _ _ h => h) (Or.inl ⟨by rfl, ?_⟩) hHeld ?_ ?_
        rotate_left
        ·rintro w' ⟨s0, s1, s2, s3, s4, s5, s6, s7, s8, s9, s10⟩
         go_simp
         with_reducible rfl
        rotate_left
        ·simp only [Act.put, List.setIfInBounds_toArray, List.set_cons_zero, List.set_cons_succ, i64_w, i32_w]
         rfl
        refine join_ (σ := Value × Value × Value) 4 #[true, true, true, true, true, true, true, false, true, true, true, false, true, false, false] (fun s_ => [(22, s_.1), (26, s_.2.1), (28, s_.2.2)]) (fun s_ w' => (w'.cell? ⟨gb165, 0, none⟩ = some (.int .i64 a1_0) ∧ w'.cell? ⟨gb165, 1, none⟩ = some (.int .i64 a1_1) ∧ w'.cell? ⟨gb165, 2, none⟩ = some (.int .u32 a1_2) ∧ w'.cell? ⟨gb165, 3, none⟩ = some (.int .i64 a1_3) ∧ w'.cell? ⟨gb165, 4, none⟩ = some (.int .i64 a1_4) ∧ w'.cell? ⟨gb165, 5, none⟩ = some (.float .f64 a1_5) ∧ w'.cell? ⟨gb165, 6, none⟩ = some (.float .f64 a1_6) ∧ w'.cell? ⟨gb165, 7, none⟩ = some (.bool a1_7) ∧ w'.cell? ⟨gb165, 8, none⟩ = some (.int .i64 a1_8) ∧ w'.cell? ⟨gb165, 9, none⟩ = some (.int .i64 a1_9) ∧ w'.cell? ⟨gb165, 10, none⟩ = some (.int .i64 a1_10)) ∧ (Kd.R k26 26 w' w.heap.size (fun k_ => some k_ ≠ (s_.2.2 : Value).ownBlock ∧ k_ ≠ gb165) s_.2.1 y198) ∧ (Kd.R k26 26 w' w.heap.size (fun k_ => some k_ ≠ (s_.2.1 : Value).ownBlock ∧ k_ ≠ gb165) s_.2.2 y201) ∧ (w'.heap[gb165]? = some (.cells #[.int .i64 a1_0, .int .i64 a1_1, .int .u32 a1_2, .int .i64 a1_3, .int .i64 a1_4, .float .f64 a1_5, .float .f64 a1_6, .bool a1_7, .int .i64 a1_8, .int .i64 a1_9, .int .i64 a1_10] 26 (0, 0))) ∧ (Below w.heap.size w w')) ?_ ?_
        rotate_left
        ·intro hCont
         refine two_ (i := 0) (j := 6) (Ni := some 22) (Nj := some 28) #[true, true, true, true, false, true, false, false, true, true, true, false, true, false, false] #[false, true, true, true, false, true, true, false, true, true, true, false, true, false, false] rfl rfl rfl rfl (two_of HT_.out (by kernel_rfl)) (by decide) (by decide) (fun K hK => ?_) (fun K hK => ?_)
         ·skip
          refine Kd.R_lit_step k26 _ 26 ?hg (N := 22) ?hd (xs := ([] : List (S26))) (inner := []) (ok := fun _ => True) (okp := fun _ => True) ?hr ?hp (fun _ hk => hk) trivial (Below.refl _ _) (Nat.le_refl _) (by simp) ?_; (case hd => rfl); (case hg => rfl); (case hr => first | (go_simp; done) | (go_simp; rfl)); (case hp => exact (Reps.none _ _))
          intro v192 w42 ho43 hb hg_ hnew_
          clear hg_ hnew_
          (first | rw [← Ny191.out] at ho43 | (simp only [Int.reduceToNat] at ho43; rw [← Ny191.out] at ho43))
          have n0_ := Aside0.mk (Kd.R_lower (Kd.R_newB ho43 (g := gb165) (Up.up BK165.out)) (below_size (by exact h1q HB.out GE165.out)))
          have n1_ := Aside0.mk (blk_below (g := gb165) (Up.up BK165.out) hb)
          have n2_ := Aside0.mk (below_step (by exact h1q HB.out GE165.out) hb)
          clear BK165
          clear HB
          have HO193 := n0_
          have BK165 := n1_
          have HB := n2_
          clear n0_ n1_ n2_
          clear hb ho43
          refine hK.out _ _ ⟨(blk_cell BK165.out 0).trans rfl, (blk_cell BK165.out 1).trans rfl, (blk_cell BK165.out 2).trans rfl, (blk_cell BK165.out 3).trans rfl, (blk_cell BK165.out 4).trans rfl, (blk_cell BK165.out 5).trans rfl, (blk_cell BK165.out 6).trans rfl, (blk_cell BK165.out 7).trans rfl, (blk_cell BK165.out 8).trans rfl, (blk_cell BK165.out 9).trans rfl, (blk_cell BK165.out 10).trans rfl⟩ (fun hHeld => ?_)
          clear hK K
          refine norm_ (a' := ?_) ?_ ?_
          rotate_left
          ·show Act.put _ (some 22) _ = _
           simp only [Act.put, List.setIfInBounds_toArray, List.set_cons_zero, List.set_cons_succ, i64_w, i32_w]
           rfl
          refine two_ (i := 4) (j := 6) (Ni := some 26) (Nj := some 28) #[true, true, true, true, true, true, false, false, true, true, true, false, true, false, false] #[true, true, true, true, false, true, true, false, true, true, true, false, true, false, false] rfl rfl rfl rfl (two_of HT_.out (by kernel_rfl)) (by decide) (by decide) (fun K hK => ?_) (fun K hK => ?_)
          ·skip
           refine Kd.R_append_rows_step k26 (w0 := w) w.heap.size (by rfl) (.tmp 22) (.tmp 25) 22 26 (.agg #[(.int .i64 0), (.int .i64 0), (.int .u32 0), (.int .i64 0), (.int .i64 0), (.float .f64 0), (.float .f64 0), (.bool false), (.int .i64 0), (.int .i64 0), (.int .i64 0)]) 88 rfl Try.underlying22 info26 rfl (by decide) (by omega) v192 y191 y194 _ _ _ (fun k_ => k_ ≠ gb165) (fun _ => False) rfl rfl ?aO ?aR (fun _ _ h => h) (fun _ h => h.elim) ?aF ?aB ?aS ?aL ?_
           (case aR => repeat (first | exact (Kd.C_below HR197.out HB.out) | (with_reducible refine Kd.C_alloc ?_ _) | (with_reducible refine Kd.C_drewN ?_ _) | (with_reducible refine Kd.C_drew ?_)))
           (case aB => exact (by exact h1q HB.out GE165.out))
           (case aF => exact (fun k_ hk => Kd.freshB (g := gb165) (Up.up BK165.out) k_ hk))
           (case aO => exact (by (with_reducible repeat (first | apply Kd.R_alloc | apply Kd.R_drewN | apply Kd.R_drew)); exact Kd.R_mono HO193.out (fun _ hk => hk.2)))
           (case aS => exact (below_size (by exact h1q HB.out GE165.out)))
           (case aL => have := LMc33.out; omega)
           intro v199 w44 ho hb hg hat
           rw [← Ny198.out] at ho
           have n0_ := Aside0.mk (blk_grown (g := gb165) (Up.up BK165.out) hg (Kd.R_away HO193.out (fun _ hk => hk.2)))
           have n1_ := Aside0.mk (hb)
           have n2_ := Aside0.mk (ho)
           clear BK165
           clear HB
           clear HO193
           have BK165 := n0_
           have HB := n1_
           have HO200 := n2_
           clear n0_ n1_ n2_
           clear ho hb hg hat
           refine hK.out _ _ ⟨(blk_cell BK165.out 0).trans rfl, (blk_cell BK165.out 1).trans rfl, (blk_cell BK165.out 2).trans rfl, (blk_cell BK165.out 3).trans rfl, (blk_cell BK165.out 4).trans rfl, (blk_cell BK165.out 5).trans rfl, (blk_cell BK165.out 6).trans rfl, (blk_cell BK165.out 7).trans rfl, (blk_cell BK165.out 8).trans rfl, (blk_cell BK165.out 9).trans rfl, (blk_cell BK165.out 10).trans rfl⟩ (fun hHeld => ?_)
           clear hK K
           refine norm_ (a' := ?_) ?_ ?_
           rotate_left
           ·show Act.put _ (some 26) _ = _
            simp only [Act.put, List.setIfInBounds_toArray, List.set_cons_zero, List.set_cons_succ, i64_w, i32_w]
            rfl
           refine one_ (i := 6) (N := some 28) #[true, true, true, true, true, true, true, false, true, true, true, false, true, false, false] rfl rfl (one_of HT_.out (by kernel_rfl)) (by decide) (fun K hK => ?_)
           refine Kd.R_lit_step k26 _ 26 ?hg (N := 28) ?hd (xs := ([(⟨a1_0, a1_1, a1_2, a1_3, a1_4, a1_5, a1_6, a1_7, a1_8, a1_9, a1_10⟩ : S26)] : List (S26))) (inner := [.int .i64 a1_0, .int .i64 a1_1, .int .u32 a1_2, .int .i64 a1_3, .int .i64 a1_4, .float .f64 a1_5, .float .f64 a1_6, .bool a1_7, .int .i64 a1_8, .int .i64 a1_9, .int .i64 a1_10]) (ok := fun _ => True) (okp := fun _ => True) ?hr ?hp (fun _ hk => hk) trivial (Below.refl _ _) (Nat.le_refl _) (by simp) ?_; (case hd => rfl); (case hg => rfl); (case hr => first | (go_simp; done) | (go_simp; rfl)); (case hp => exact (Reps.front (show Kd.M k26 _ _ _ (⟨a1_0, a1_1, a1_2, a1_3, a1_4, a1_5, a1_6, a1_7, a1_8, a1_9, a1_10⟩ : S26) [.int .i64 a1_0, .int .i64 a1_1, .int .u32 a1_2, .int .i64 a1_3, .int .i64 a1_4, .float .f64 a1_5, .float .f64 a1_6, .bool a1_7, .int .i64 a1_8, .int .i64 a1_9, .int .i64 a1_10] from (k26_mkM _ _ _ (⟨a1_0, a1_1, a1_2, a1_3, a1_4, a1_5, a1_6, a1_7, a1_8, a1_9, a1_10⟩ : S26) )) rfl (Reps.none _ _) rfl))
           intro v202 w45 ho46 hb hg_ hnew_
           clear hg_ hnew_
           (first | rw [← Ny201.out] at ho46 | (simp only [Int.reduceToNat] at ho46; rw [← Ny201.out] at ho46))
           have n0_ := Aside0.mk (Kd.R_elder' (by exact rq HO200.out) (Kd.R_base ho46) hb)
           have n1_ := Aside0.mk (Kd.R_lower (Kd.R_newB (Kd.R_new' ho46 (Kd.R_lt (by exact rq HO200.out))) (g := gb165) (Up.up BK165.out)) (below_size (by exact h1q HB.out GE165.out)))
           have n2_ := Aside0.mk (blk_below (g := gb165) (Up.up BK165.out) hb)
           have n3_ := Aside0.mk (below_step (by exact h1q HB.out GE165.out) hb)
           clear HO200
           clear BK165
           clear HB
           have HO200 := n0_
           have HO203 := n1_
           have BK165 := n2_
           have HB := n3_
           clear n0_ n1_ n2_ n3_
           clear hb ho46
           refine hK.out _ _ ⟨(blk_cell BK165.out 0).trans rfl, (blk_cell BK165.out 1).trans rfl, (blk_cell BK165.out 2).trans rfl, (blk_cell BK165.out 3).trans rfl, (blk_cell BK165.out 4).trans rfl, (blk_cell BK165.out 5).trans rfl, (blk_cell BK165.out 6).trans rfl, (blk_cell BK165.out 7).trans rfl, (blk_cell BK165.out 8).trans rfl, (blk_cell BK165.out 9).trans rfl, (blk_cell BK165.out 10).trans rfl⟩ (fun hHeld => ?_)
           clear hK K
           refine norm_ (a' := ?_) ?_ ?_
           rotate_left
           ·show Act.put _ (some 28) _ = _
            simp only [Act.put, List.setIfInBounds_toArray, List.set_cons_zero, List.set_cons_succ, i64_w, i32_w]
            rfl
           exact norm_ (by simp only [putAll, Act.put, List.setIfInBounds_toArray, List.set_cons_zero, List.set_cons_succ]) (hCont (v192, v199, v202) _ ⟨hHeld, (by (with_reducible repeat (first | apply Kd.R_alloc | apply Kd.R_drewN | apply Kd.R_drew)); exact Kd.R_mono HO200.out (fun _ hk => ⟨hk.2, hk.1⟩)), (by (with_reducible repeat (first | apply Kd.R_alloc | apply Kd.R_drewN | apply Kd.R_drew)); exact Kd.R_mono HO203.out (fun _ hk => ⟨hk.1.2, hk.2⟩)), (Up.up BK165.out), (by exact h1q HB.out GE165.out)⟩)
          ·skip
           refine Kd.R_lit_step k26 _ 26 ?hg (N := 28) ?hd (xs := ([(⟨a1_0, a1_1, a1_2, a1_3, a1_4, a1_5, a1_6, a1_7, a1_8, a1_9, a1_10⟩ : S26)] : List (S26))) (inner := [.int .i64 a1_0, .int .i64 a1_1, .int .u32 a1_2, .int .i64 a1_3, .int .i64 a1_4, .float .f64 a1_5, .float .f64 a1_6, .bool a1_7, .int .i64 a1_8, .int .i64 a1_9, .int .i64 a1_10]) (ok := fun _ => True) (okp := fun _ => True) ?hr ?hp (fun _ hk => hk) trivial (Below.refl _ _) (Nat.le_refl _) (by simp) ?_; (case hd => rfl); (case hg => rfl); (case hr => first | (go_simp; done) | (go_simp; rfl)); (case hp => exact (Reps.front (show Kd.M k26 _ _ _ (⟨a1_0, a1_1, a1_2, a1_3, a1_4, a1_5, a1_6, a1_7, a1_8, a1_9, a1_10⟩ : S26) [.int .i64 a1_0, .int .i64 a1_1, .int .u32 a1_2, .int .i64 a1_3, .int .i64 a1_4, .float .f64 a1_5, .float .f64 a1_6, .bool a1_7, .int .i64 a1_8, .int .i64 a1_9, .int .i64 a1_10] from (k26_mkM _ _ _ (⟨a1_0, a1_1, a1_2, a1_3, a1_4, a1_5, a1_6, a1_7, a1_8, a1_9, a1_10⟩ : S26) )) rfl (Reps.none _ _) rfl))
           intro v202 w44 ho45 hb hg_ hnew_
           clear hg_ hnew_
           (first | rw [← Ny201.out] at ho45 | (simp only [Int.reduceToNat] at ho45; rw [← Ny201.out] at ho45))
           have n0_ := Aside0.mk (Kd.R_elder' (by exact rq HO193.out) (Kd.R_base ho45) hb)
           have n1_ := Aside0.mk (Kd.R_lower (Kd.R_newB (Kd.R_new' ho45 (Kd.R_lt (by exact rq HO193.out))) (g := gb165) (Up.up BK165.out)) (below_size (by exact h1q HB.out GE165.out)))
           have n2_ := Aside0.mk (blk_below (g := gb165) (Up.up BK165.out) hb)
           have n3_ := Aside0.mk (below_step (by exact h1q HB.out GE165.out) hb)
           clear HO193
           clear BK165
           clear HB
           have HO193 := n0_
           have HO203 := n1_
           have BK165 := n2_
           have HB := n3_
           clear n0_ n1_ n2_ n3_
           clear hb ho45
           refine hK.out _ _ ⟨(blk_cell BK165.out 0).trans rfl, (blk_cell BK165.out 1).trans rfl, (blk_cell BK165.out 2).trans rfl, (blk_cell BK165.out 3).trans rfl, (blk_cell BK165.out 4).trans rfl, (blk_cell BK165.out 5).trans rfl, (blk_cell BK165.out 6).trans rfl, (blk_cell BK165.out 7).trans rfl, (blk_cell BK165.out 8).trans rfl, (blk_cell BK165.out 9).trans rfl, (blk_cell BK165.out 10).trans rfl⟩ (fun hHeld => ?_)
           clear hK K
           refine norm_ (a' := ?_) ?_ ?_
           rotate_left
           ·show Act.put _ (some 28) _ = _
            simp only [Act.put, List.setIfInBounds_toArray, List.set_cons_zero, List.set_cons_succ, i64_w, i32_w]
            rfl
           refine one_ (i := 4) (N := some 26) #[true, true, true, true, true, true, true, false, true, true, true, false, true, false, false] rfl rfl (one_of HT_.out (by kernel_rfl)) (by decide) (fun K hK => ?_)
           refine Kd.R_append_rows_step k26 (w0 := w) w.heap.size (by rfl) (.tmp 22) (.tmp 25) 22 26 (.agg #[(.int .i64 0), (.int .i64 0), (.int .u32 0), (.int .i64 0), (.int .i64 0), (.float .f64 0), (.float .f64 0), (.bool false), (.int .i64 0), (.int .i64 0), (.int .i64 0)]) 88 rfl Try.underlying22 info26 rfl (by decide) (by omega) v192 y191 y194 _ _ _ (fun k_ => some k_ ≠ (v202 : Value).ownBlock ∧ k_ ≠ gb165) (fun _ => False) rfl rfl ?aO ?aR (fun _ _ h => h) (fun _ h => h.elim) ?aF ?aB ?aS ?aL ?_
           (case aR => repeat (first | exact (Kd.C_below HR197.out HB.out) | (with_reducible refine Kd.C_alloc ?_ _) | (with_reducible refine Kd.C_drewN ?_ _) | (with_reducible refine Kd.C_drew ?_)))
           (case aB => exact (by exact h1q HB.out GE165.out))
           (case aF => exact (fun k_ hk => ⟨Kd.fresh' (Kd.R_lt (by exact rq HO203.out)) k_ hk, Kd.freshB (g := gb165) (Up.up BK165.out) k_ hk⟩))
           (case aO => exact (by (with_reducible repeat (first | apply Kd.R_alloc | apply Kd.R_drewN | apply Kd.R_drew)); exact Kd.R_mono HO193.out (fun _ hk => ⟨hk.2, hk.1.2⟩)))
           (case aS => exact (below_size (by exact h1q HB.out GE165.out)))
           (case aL => have := LMc33.out; omega)
           intro v199 w46 ho hb hg hat
           rw [← Ny198.out] at ho
           have n0_ := Aside0.mk (blk_grown (g := gb165) (Up.up BK165.out) hg (Kd.R_away HO193.out (fun _ hk => hk.1.2)))
           have n1_ := Aside0.mk (Kd.R_after (ok := (fun k_ => k_ ≠ gb165)) (by (with_reducible repeat (first | apply Kd.R_alloc | apply Kd.R_drewN | apply Kd.R_drew)); exact Kd.R_mono HO203.out (fun _ hk => ⟨hk.2, hk.1.2⟩)) hg hat)
           have n2_ := Aside0.mk (hb)
           have n3_ := Aside0.mk (ho)
           clear BK165
           clear HO203
           clear HB
           clear HO193
           have BK165 := n0_
           have HO203 := n1_
           have HB := n2_
           have HO200 := n3_
           clear n0_ n1_ n2_ n3_
           clear ho hb hg hat
           refine hK.out _ _ ⟨(blk_cell BK165.out 0).trans rfl, (blk_cell BK165.out 1).trans rfl, (blk_cell BK165.out 2).trans rfl, (blk_cell BK165.out 3).trans rfl, (blk_cell BK165.out 4).trans rfl, (blk_cell BK165.out 5).trans rfl, (blk_cell BK165.out 6).trans rfl, (blk_cell BK165.out 7).trans rfl, (blk_cell BK165.out 8).trans rfl, (blk_cell BK165.out 9).trans rfl, (blk_cell BK165.out 10).trans rfl⟩ (fun hHeld => ?_)
           clear hK K
           refine norm_ (a' := ?_) ?_ ?_
           rotate_left
           ·show Act.put _ (some 26) _ = _
            simp only [Act.put, List.setIfInBounds_toArray, List.set_cons_zero, List.set_cons_succ, i64_w, i32_w]
            rfl
           exact norm_ (by simp only [putAll, Act.put, List.setIfInBounds_toArray, List.set_cons_zero, List.set_cons_succ]) (hCont (v192, v199, v202) _ ⟨hHeld, (by exact rq HO200.out), (by (with_reducible repeat (first | apply Kd.R_alloc | apply Kd.R_drewN | apply Kd.R_drew)); exact Kd.R_mono HO203.out (fun _ hk => ⟨hk.2, hk.1⟩)), (Up.up BK165.out), (by exact h1q HB.out GE165.out)⟩)
         ·skip
          refine Kd.R_lit_step k26 _ 26 ?hg (N := 28) ?hd (xs := ([(⟨a1_0, a1_1, a1_2, a1_3, a1_4, a1_5, a1_6, a1_7, a1_8, a1_9, a1_10⟩ : S26)] : List (S26))) (inner := [.int .i64 a1_0, .int .i64 a1_1, .int .u32 a1_2, .int .i64 a1_3, .int .i64 a1_4, .float .f64 a1_5, .float .f64 a1_6, .bool a1_7, .int .i64 a1_8, .int .i64 a1_9, .int .i64 a1_10]) (ok := fun _ => True) (okp := fun _ => True) ?hr ?hp (fun _ hk => hk) trivial (Below.refl _ _) (Nat.le_refl _) (by simp) ?_; (case hd => rfl); (case hg => rfl); (case hr => first | (go_simp; done) | (go_simp; rfl)); (case hp => exact (Reps.front (show Kd.M k26 _ _ _ (⟨a1_0, a1_1, a1_2, a1_3, a1_4, a1_5, a1_6, a1_7, a1_8, a1_9, a1_10⟩ : S26) [.int .i64 a1_0, .int .i64 a1_1, .int .u32 a1_2, .int .i64 a1_3, .int .i64 a1_4, .float .f64 a1_5, .float .f64 a1_6, .bool a1_7, .int .i64 a1_8, .int .i64 a1_9, .int .i64 a1_10] from (k26_mkM _ _ _ (⟨a1_0, a1_1, a1_2, a1_3, a1_4, a1_5, a1_6, a1_7, a1_8, a1_9, a1_10⟩ : S26) )) rfl (Reps.none _ _) rfl))
          intro v202 w42 ho43 hb hg_ hnew_
          clear hg_ hnew_
          (first | rw [← Ny201.out] at ho43 | (simp only [Int.reduceToNat] at ho43; rw [← Ny201.out] at ho43))
          have n0_ := Aside0.mk (Kd.R_lower (Kd.R_newB ho43 (g := gb165) (Up.up BK165.out)) (below_size (by exact h1q HB.out GE165.out)))
          have n1_ := Aside0.mk (blk_below (g := gb165) (Up.up BK165.out) hb)
          have n2_ := Aside0.mk (below_step (by exact h1q HB.out GE165.out) hb)
          clear BK165
          clear HB
          have HO203 := n0_
          have BK165 := n1_
          have HB := n2_
          clear n0_ n1_ n2_
          clear hb ho43
          refine hK.out _ _ ⟨(blk_cell BK165.out 0).trans rfl, (blk_cell BK165.out 1).trans rfl, (blk_cell BK165.out 2).trans rfl, (blk_cell BK165.out 3).trans rfl, (blk_cell BK165.out 4).trans rfl, (blk_cell BK165.out 5).trans rfl, (blk_cell BK165.out 6).trans rfl, (blk_cell BK165.out 7).trans rfl, (blk_cell BK165.out 8).trans rfl, (blk_cell BK165.out 9).trans rfl, (blk_cell BK165.out 10).trans rfl⟩ (fun hHeld => ?_)
          clear hK K
          refine norm_ (a' := ?_) ?_ ?_
          rotate_left
          ·show Act.put _ (some 28) _ = _
           simp only [Act.put, List.setIfInBounds_toArray, List.set_cons_zero, List.set_cons_succ, i64_w, i32_w]
           rfl
          refine one_ (i := 0) (N := some 22) #[true, true, true, true, false, true, true, false, true, true, true, false, true, false, false] rfl rfl (one_of HT_.out (by kernel_rfl)) (by decide) (fun K hK => ?_)
          refine Kd.R_lit_step k26 _ 26 ?hg (N := 22) ?hd (xs := ([] : List (S26))) (inner := []) (ok := fun _ => True) (okp := fun _ => True) ?hr ?hp (fun _ hk => hk) trivial (Below.refl _ _) (Nat.le_refl _) (by simp) ?_; (case hd => rfl); (case hg => rfl); (case hr => first | (go_simp; done) | (go_simp; rfl)); (case hp => exact (Reps.none _ _))
          intro v192 w44 ho45 hb hg_ hnew_
          clear hg_ hnew_
          (first | rw [← Ny191.out] at ho45 | (simp only [Int.reduceToNat] at ho45; rw [← Ny191.out] at ho45))
          have n0_ := Aside0.mk (Kd.R_elder' (by exact rq HO203.out) (Kd.R_base ho45) hb)
          have n1_ := Aside0.mk (Kd.R_lower (Kd.R_newB (Kd.R_new' ho45 (Kd.R_lt (by exact rq HO203.out))) (g := gb165) (Up.up BK165.out)) (below_size (by exact h1q HB.out GE165.out)))
          have n2_ := Aside0.mk (blk_below (g := gb165) (Up.up BK165.out) hb)
          have n3_ := Aside0.mk (below_step (by exact h1q HB.out GE165.out) hb)
          clear HO203
          clear BK165
          clear HB
          have HO203 := n0_
          have HO193 := n1_
          have BK165 := n2_
          have HB := n3_
          clear n0_ n1_ n2_ n3_
          clear hb ho45
          refine hK.out _ _ ⟨(blk_cell BK165.out 0).trans rfl, (blk_cell BK165.out 1).trans rfl, (blk_cell BK165.out 2).trans rfl, (blk_cell BK165.out 3).trans rfl, (blk_cell BK165.out 4).trans rfl, (blk_cell BK165.out 5).trans rfl, (blk_cell BK165.out 6).trans rfl, (blk_cell BK165.out 7).trans rfl, (blk_cell BK165.out 8).trans rfl, (blk_cell BK165.out 9).trans rfl, (blk_cell BK165.out 10).trans rfl⟩ (fun hHeld => ?_)
          clear hK K
          refine norm_ (a' := ?_) ?_ ?_
          rotate_left
          ·show Act.put _ (some 22) _ = _
           simp only [Act.put, List.setIfInBounds_toArray, List.set_cons_zero, List.set_cons_succ, i64_w, i32_w]
           rfl
          refine one_ (i := 4) (N := some 26) #[true, true, true, true, true, true, true, false, true, true, true, false, true, false, false] rfl rfl (one_of HT_.out (by kernel_rfl)) (by decide) (fun K hK => ?_)
          refine Kd.R_append_rows_step k26 (w0 := w) w.heap.size (by rfl) (.tmp 22) (.tmp 25) 22 26 (.agg #[(.int .i64 0), (.int .i64 0), (.int .u32 0), (.int .i64 0), (.int .i64 0), (.float .f64 0), (.float .f64 0), (.bool false), (.int .i64 0), (.int .i64 0), (.int .i64 0)]) 88 rfl Try.underlying22 info26 rfl (by decide) (by omega) v192 y191 y194 _ _ _ (fun k_ => some k_ ≠ (v202 : Value).ownBlock ∧ k_ ≠ gb165) (fun _ => False) rfl rfl ?aO ?aR (fun _ _ h => h) (fun _ h => h.elim) ?aF ?aB ?aS ?aL ?_
          (case aR => repeat (first | exact (Kd.C_below HR197.out HB.out) | (with_reducible refine Kd.C_alloc ?_ _) | (with_reducible refine Kd.C_drewN ?_ _) | (with_reducible refine Kd.C_drew ?_)))
          (case aB => exact (by exact h1q HB.out GE165.out))
          (case aF => exact (fun k_ hk => ⟨Kd.fresh' (Kd.R_lt (by exact rq HO203.out)) k_ hk, Kd.freshB (g := gb165) (Up.up BK165.out) k_ hk⟩))
          (case aO => exact (by (with_reducible repeat (first | apply Kd.R_alloc | apply Kd.R_drewN | apply Kd.R_drew)); exact Kd.R_mono HO193.out (fun _ hk => ⟨hk.1.2, hk.2⟩)))
          (case aS => exact (below_size (by exact h1q HB.out GE165.out)))
          (case aL => have := LMc33.out; omega)
          intro v199 w46 ho hb hg hat
          rw [← Ny198.out] at ho
          have n0_ := Aside0.mk (blk_grown (g := gb165) (Up.up BK165.out) hg (Kd.R_away HO193.out (fun _ hk => hk.2)))
          have n1_ := Aside0.mk (Kd.R_after (ok := (fun k_ => k_ ≠ gb165)) (by (with_reducible repeat (first | apply Kd.R_alloc | apply Kd.R_drewN | apply Kd.R_drew)); exact Kd.R_mono HO203.out (fun _ hk => ⟨hk.1.2, hk.2⟩)) hg hat)
          have n2_ := Aside0.mk (hb)
          have n3_ := Aside0.mk (ho)
          clear BK165
          clear HO203
          clear HB
          clear HO193
          have BK165 := n0_
          have HO203 := n1_
          have HB := n2_
          have HO200 := n3_
          clear n0_ n1_ n2_ n3_
          clear ho hb hg hat
          refine hK.out _ _ ⟨(blk_cell BK165.out 0).trans rfl, (blk_cell BK165.out 1).trans rfl, (blk_cell BK165.out 2).trans rfl, (blk_cell BK165.out 3).trans rfl, (blk_cell BK165.out 4).trans rfl, (blk_cell BK165.out 5).trans rfl, (blk_cell BK165.out 6).trans rfl, (blk_cell BK165.out 7).trans rfl, (blk_cell BK165.out 8).trans rfl, (blk_cell BK165.out 9).trans rfl, (blk_cell BK165.out 10).trans rfl⟩ (fun hHeld => ?_)
          clear hK K
          refine norm_ (a' := ?_) ?_ ?_
          rotate_left
          ·show Act.put _ (some 26) _ = _
           simp only [Act.put, List.setIfInBounds_toArray, List.set_cons_zero, List.set_cons_succ, i64_w, i32_w]
           rfl
          exact norm_ (by simp only [putAll, Act.put, List.setIfInBounds_toArray, List.set_cons_zero, List.set_cons_succ]) (hCont (v192, v199, v202) _ ⟨hHeld, (by exact rq HO200.out), (by (with_reducible repeat (first | apply Kd.R_alloc | apply Kd.R_drewN | apply Kd.R_drew)); exact Kd.R_mono HO203.out (fun _ hk => ⟨hk.2, hk.1⟩)), (Up.up BK165.out), (by exact h1q HB.out GE165.out)⟩)
        rintro ⟨v192, v199, v202⟩ w47 ⟨hS_, h0_, h1_, h2_, h3_⟩
        have n0_ : Aside0 (Kd.R k26 26 w47 w.heap.size (fun k_ => some k_ ≠ (v202 : Value).ownBlock ∧ k_ ≠ gb165) v199 y198) := ⟨h0_⟩
        have n1_ : Aside0 (Kd.R k26 26 w47 w.heap.size (fun k_ => some k_ ≠ (v199 : Value).ownBlock ∧ k_ ≠ gb165) v202 y201) := ⟨h1_⟩
        have n2_ : Aside0 (w47.heap[gb165]? = some (.cells #[.int .i64 a1_0, .int .i64 a1_1, .int .u32 a1_2, .int .i64 a1_3, .int .i64 a1_4, .float .f64 a1_5, .float .f64 a1_6, .bool a1_7, .int .i64 a1_8, .int .i64 a1_9, .int .i64 a1_10] 26 (0, 0))) := ⟨h2_⟩
        have n3_ : Aside0 (Below w.heap.size w w47) := ⟨h3_⟩
        clear BK165
        clear HB
        clear h0_ h1_ h2_ h3_
        have HO200 := n0_
        have HO203 := n1_
        have BK165 := n2_
        have HB := n3_
        clear n0_ n1_ n2_ n3_
        have hHeld : w47.cell? ⟨gb165, 0, none⟩ = some (.int .i64 a1_0) ∧ w47.cell? ⟨gb165, 1, none⟩ = some (.int .i64 a1_1) ∧ w47.cell? ⟨gb165, 2, none⟩ = some (.int .u32 a1_2) ∧ w47.cell? ⟨gb165, 3, none⟩ = some (.int .i64 a1_3) ∧ w47.cell? ⟨gb165, 4, none⟩ = some (.int .i64 a1_4) ∧ w47.cell? ⟨gb165, 5, none⟩ = some (.float .f64 a1_5) ∧ w47.cell? ⟨gb165, 6, none⟩ = some (.float .f64 a1_6) ∧ w47.cell? ⟨gb165, 7, none⟩ = some (.bool a1_7) ∧ w47.cell? ⟨gb165, 8, none⟩ = some (.int .i64 a1_8) ∧ w47.cell? ⟨gb165, 9, none⟩ = some (.int .i64 a1_9) ∧ w47.cell? ⟨gb165, 10, none⟩ = some (.int .i64 a1_10) := hS_
        obtain ⟨Ao49, co49, eo49⟩ := Kd.R_slice HO203.out
        (first | subst eo49 | (injection eo49 with f1_ f2_ f3_; have f4_ := f1_.symm; have f5_ := f3_.symm; clear f1_ f2_ f3_; subst f4_; subst f5_))
        refine norm_ (a' := ?_) ?_ ?_
        rotate_left
        ·simp only [putAll, Act.put, List.setIfInBounds_toArray, List.set_cons_zero, List.set_cons_succ]
         rfl
        refine one_ (i := 7) (N := some 29) #[true, true, true, true, true, true, true, true, true, true, true, false, true, false, false] rfl rfl (one_of HT_.out (by kernel_rfl)) (by decide) (fun K hK => ?_)
        refine Kd.R_append_rows_step k26 (w0 := w) w.heap.size (by rfl) (.tmp 26) (.tmp 28) 22 26 (.agg #[(.int .i64 0), (.int .i64 0), (.int .u32 0), (.int .i64 0), (.int .i64 0), (.float .f64 0), (.float .f64 0), (.bool false), (.int .i64 0), (.int .i64 0), (.int .i64 0)]) 88 rfl Try.underlying22 info26 rfl (by decide) (by omega) v199 y198 y201 _ _ _ (fun k_ => some k_ ≠ (.slice Ao49 y201.length co49 : Value).ownBlock ∧ k_ ≠ gb165) (fun _ => False) rfl rfl ?aO ?aR (fun _ _ h => h) (fun _ h => h.elim) ?aF ?aB ?aS ?aL ?_
        (case aR => repeat (first | exact (Kd.R_reads' HO203.out).2.2 | (with_reducible refine Kd.C_alloc ?_ _) | (with_reducible refine Kd.C_drewN ?_ _) | (with_reducible refine Kd.C_drew ?_)))
        (case aB => exact (by exact h1q HB.out GE165.out))
        (case aF => exact (fun k_ hk => ⟨Kd.fresh' (Kd.R_lt (by exact rq HO203.out)) k_ hk, Kd.freshB (g := gb165) (Up.up BK165.out) k_ hk⟩))
        (case aO => exact (by exact rq HO200.out))
        (case aS => exact (below_size (by exact h1q HB.out GE165.out)))
        (case aL => have := LMc34.out; omega)
        intro v205 w48 ho hb hg hat
        rw [← Ny204.out] at ho
        have n0_ := Aside0.mk (blk_grown (g := gb165) (Up.up BK165.out) hg (Kd.R_away HO200.out (fun _ hk => hk.2)))
        have n1_ := Aside0.mk (Kd.R_after (ok := (fun k_ => k_ ≠ gb165)) (by (with_reducible repeat (first | apply Kd.R_alloc | apply Kd.R_drewN | apply Kd.R_drew)); exact Kd.R_mono HO203.out (fun _ hk => ⟨hk.2, hk.1⟩)) hg hat)
        have n2_ := Aside0.mk (hb)
        have n3_ := Aside0.mk (ho)
        clear BK165
        clear HO203
        clear HB
        clear HO200
        have BK165 := n0_
        have HO203 := n1_
        have HB := n2_
        have HO206 := n3_
        clear n0_ n1_ n2_ n3_
        clear ho hb hg hat
        refine hK.out _ _ ⟨(blk_cell BK165.out 0).trans rfl, (blk_cell BK165.out 1).trans rfl, (blk_cell BK165.out 2).trans rfl, (blk_cell BK165.out 3).trans rfl, (blk_cell BK165.out 4).trans rfl, (blk_cell BK165.out 5).trans rfl, (blk_cell BK165.out 6).trans rfl, (blk_cell BK165.out 7).trans rfl, (blk_cell BK165.out 8).trans rfl, (blk_cell BK165.out 9).trans rfl, (blk_cell BK165.out 10).trans rfl⟩ (fun hHeld => ?_)
        clear hK K
        refine norm_ (a' := ?_) ?_ ?_
        rotate_left
        ·show Act.put _ (some 29) _ = _
         simp only [Act.put, List.setIfInBounds_toArray, List.set_cons_zero, List.set_cons_succ, i64_w, i32_w]
         rfl
        refine one_ (i := 11) (N := some 33) #[true, true, true, true, true, true, true, true, true, true, true, true, true, false, false] rfl rfl (one_of HT_.out (by kernel_rfl)) (by decide) (fun K hK => ?_)
        refine Kd.R_append_rows_step k26 (w0 := w) w.heap.size (by rfl) (.tmp 29) (.tmp 32) 22 26 (.agg #[(.int .i64 0), (.int .i64 0), (.int .u32 0), (.int .i64 0), (.int .i64 0), (.float .f64 0), (.float .f64 0), (.bool false), (.int .i64 0), (.int .i64 0), (.int .i64 0)]) 88 rfl Try.underlying22 info26 rfl (by decide) (by omega) v205 y204 y207 _ _ _ (fun k_ => some k_ ≠ (.slice Ao49 y201.length co49 : Value).ownBlock ∧ k_ ≠ gb165) (fun _ => False) rfl rfl ?aO ?aR (fun _ _ h => h) (fun _ h => h.elim) ?aF ?aB ?aS ?aL ?_
        (case aR => repeat (first | exact (Kd.C_below HR210.out HB.out) | (with_reducible refine Kd.C_alloc ?_ _) | (with_reducible refine Kd.C_drewN ?_ _) | (with_reducible refine Kd.C_drew ?_)))
        (case aB => exact (by exact h1q HB.out GE165.out))
        (case aF => exact (fun k_ hk => ⟨Kd.fresh' (Kd.R_lt (by exact rq HO203.out)) k_ hk, Kd.freshB (g := gb165) (Up.up BK165.out) k_ hk⟩))
        (case aO => exact (by exact rq HO206.out))
        (case aS => exact (below_size (by exact h1q HB.out GE165.out)))
        (case aL => have := LMc37.out; omega)
        intro v212 w50 ho hb hg hat
        rw [← Ny211.out] at ho
        have n0_ := Aside0.mk (blk_grown (g := gb165) (Up.up BK165.out) hg (Kd.R_away HO206.out (fun _ hk => hk.2)))
        have n1_ := Aside0.mk (Kd.R_after (ok := (fun k_ => k_ ≠ gb165)) (by exact rq HO203.out) hg hat)
        have n2_ := Aside0.mk (hb)
        have n3_ := Aside0.mk (ho)
        clear BK165
        clear HO203
        clear HB
        clear HO206
        have BK165 := n0_
        have HO203 := n1_
        have HB := n2_
        have HO213 := n3_
        clear n0_ n1_ n2_ n3_
        clear ho hb hg hat
        refine hK.out _ _ ⟨(blk_cell BK165.out 0).trans rfl, (blk_cell BK165.out 1).trans rfl, (blk_cell BK165.out 2).trans rfl, (blk_cell BK165.out 3).trans rfl, (blk_cell BK165.out 4).trans rfl, (blk_cell BK165.out 5).trans rfl, (blk_cell BK165.out 6).trans rfl, (blk_cell BK165.out 7).trans rfl, (blk_cell BK165.out 8).trans rfl, (blk_cell BK165.out 9).trans rfl, (blk_cell BK165.out 10).trans rfl⟩ (fun hHeld => ?_)
        clear hK K
        refine norm_ (a' := ?_) ?_ ?_
        rotate_left
        ·show Act.put _ (some 33) _ = _
         simp only [Act.put, List.setIfInBounds_toArray, List.set_cons_zero, List.set_cons_succ, i64_w, i32_w]
         rfl
        refine pure_ (i := 13) (N := some 4) (v := ?_) (a' := ?_) #[true, true, true, true, true, true, true, true, true, true, true, true, true, true, false] rfl rfl (any_of HT_.out (by kernel_rfl)) (fun _ _ _ h => h) (Or.inl ⟨by rfl, ?_⟩) ?_ ?_
        rotate_left
        ·intro w'
         go_simp
         with_reducible rfl
        rotate_left
        ·simp only [Act.put, List.setIfInBounds_toArray, List.set_cons_zero, List.set_cons_succ, i64_w, i32_w]
         rfl
        refine pure_ (i := 14) (N := some 5) (v := ?_) (a' := ?_) #[true, true, true, true, true, true, true, true, true, true, true, true, true, true, true] rfl rfl (any_of HT_.out (by kernel_rfl)) (fun _ _ _ h => h) (Or.inl ⟨by rfl, ?_⟩) ?_ ?_
        rotate_left
        ·intro w'
         go_simp
         with_reducible rfl
        rotate_left
        ·simp only [Act.put, List.setIfInBounds_toArray, List.set_cons_zero, List.set_cons_succ, i64_w, i32_w]
         rfl
        refine done_ (done_of HT_.out (by kernel_rfl)) ?_
        try go_wp2
        go_ret2
        exact ⟨_, by first | rfl | (simp [errW_none, errW_some] <;> rfl) | (simp [*, errW_none, errW_some] <;> rfl), by (with_reducible repeat (first | apply Kd.R_alloc | apply Kd.R_drewN | apply Kd.R_drew)); exact Kd.R_mono HO213.out (fun _ hk => trivial), by exact h1q HB.out GE165.out⟩
       ·rw [if_neg c37] at H
        exact absurd H (by simp)
      ·rw [if_neg c34] at H
       exact absurd H (by simp)
     ·rw [if_neg c33] at H
      exact absurd H (by simp)
    ·rw [if_neg c32] at H
     exact absurd H (by simp)
   ·rw [if_neg c31] at H
    exact absurd H (by simp)

end Go.Proofs.Ytjdhhbjnihhncaa.P
