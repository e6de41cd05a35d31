/- Functions of the program as plain Lean functions, and proofs that its calls come to just their answers, where they tell one (written by a program of this session). -/
import Derived.Test.YtjdhhbjnihhncaaZaa
import Derived.Test.YtjdhhbjnihhncaaPx0
import Derived.Test.YtjdhhbjnihhncaaPx2
import Derived.Test.YtjdhhbjnihhncaaPx4
import Derived.Test.YtjdhhbjnihhncaaPx5
import Derived.Test.YtjdhhbjnihhncaaPx7
import Derived.Test.YtjdhhbjnihhncaaPx10
import Derived.Test.YtjdhhbjnihhncaaPx11
import Derived.Test.YtjdhhbjnihhncaaPx12
import Derived.Test.YtjdhhbjnihhncaaZd
import Derived.Test.YtjdhhbjnihhncaaZk
import Derived.Test.YtjdhhbjnihhncaaZp
import Derived.Test.YtjdhhbjnihhncaaZr
import Derived.Test.YtjdhhbjnihhncaaZs
namespace Go.Proofs.Ytjdhhbjnihhncaa.P
open Go.RowKit Go.Proofs.YtjdhhbjnihhncaaW.PrintWords Go.Proofs.YtjdhhbjnihhncaaW.PrintLast Go.Proofs.YtjdhhbjnihhncaaW.PrintMore
attribute [local go_sem] run_store_float max2_int min2_int max_two min_two max_three min_three max_four min_four   -- for this text's walks alone
set_option linter.unusedVariables false
set_option linter.unusedSimpArgs false

/-! ### annuitylaw23_OrderTells: function 3 -/
def annuitylaw23_OrderTells.l0 : Nat → List (S26) → Int → List (S26) → Int → Int → Int → Int → Int → Int → Nat → Nat → Bool → Int → Int → Int → Option (Bool)
 | 0, _, _, _, _, _, _, _, _, _, _, _, _, _, _, _ => none
 | k + 1, x0, x2, x7, x14, x226000, x226001, x226002, x226003, x226004, x226005, x226006, x226007, x226008, x226009, x226010 => if x14 < (x0.length : Int) then (if 0 ≤ x14 then ((order_Compare.f k ((rd_T26 x0 x14).f0) ((rd_T26 x0 x14).f1) ((rd_T26 x0 x14).f2) ((rd_T26 x0 x14).f3) ((rd_T26 x0 x14).f4) ((rd_T26 x0 x14).f5) ((rd_T26 x0 x14).f6) ((rd_T26 x0 x14).f7) ((rd_T26 x0 x14).f8) ((rd_T26 x0 x14).f9) ((rd_T26 x0 x14).f10) x226000 x226001 x226002 x226003 x226004 x226005 x226006 x226007 x226008 x226009 x226010).bind fun t257 => ((annuityref23_Compare.f k ((rd_T26 x0 x14).f0) ((rd_T26 x0 x14).f1) ((rd_T26 x0 x14).f2) ((rd_T26 x0 x14).f3) ((rd_T26 x0 x14).f4) ((rd_T26 x0 x14).f5) ((rd_T26 x0 x14).f6) ((rd_T26 x0 x14).f7) ((rd_T26 x0 x14).f8) ((rd_T26 x0 x14).f9) ((rd_T26 x0 x14).f10) x226000 x226001 x226002 x226003 x226004 x226005 x226006 x226007 x226008 x226009 x226010).bind fun t259 => (if t257 = t259 then ((order_Compare.f k x226000 x226001 x226002 x226003 x226004 x226005 x226006 x226007 x226008 x226009 x226010 ((rd_T26 x0 x14).f0) ((rd_T26 x0 x14).f1) ((rd_T26 x0 x14).f2) ((rd_T26 x0 x14).f3) ((rd_T26 x0 x14).f4) ((rd_T26 x0 x14).f5) ((rd_T26 x0 x14).f6) ((rd_T26 x0 x14).f7) ((rd_T26 x0 x14).f8) ((rd_T26 x0 x14).f9) ((rd_T26 x0 x14).f10)).bind fun t261 => ((annuityref23_Compare.f k x226000 x226001 x226002 x226003 x226004 x226005 x226006 x226007 x226008 x226009 x226010 ((rd_T26 x0 x14).f0) ((rd_T26 x0 x14).f1) ((rd_T26 x0 x14).f2) ((rd_T26 x0 x14).f3) ((rd_T26 x0 x14).f4) ((rd_T26 x0 x14).f5) ((rd_T26 x0 x14).f6) ((rd_T26 x0 x14).f7) ((rd_T26 x0 x14).f8) ((rd_T26 x0 x14).f9) ((rd_T26 x0 x14).f10)).bind fun t263 => (if t261 = t263 then (annuitylaw23_OrderTells.l0 k x0 x2 x7 (wrap64 (x14 + 1)) x226000 x226001 x226002 x226003 x226004 x226005 x226006 x226007 x226008 x226009 x226010) else (none)))) else (none)))) else (none)) else ((order_Find.f k x7 x2).bind fun t264 => ((annuityref23_Find.f k x0 x2).bind fun t265 => (if t264 = t265 then ((order_Last.f k x7).bind fun t266 => ((annuityref23_Last.f k x0).bind fun t267 => (if t266 = t267 then ((order_Rank.f k (wrap64 (x2))).bind fun t268 => ((annuityref23_Rank.f k (wrap64 (x2))).bind fun t269 => (if t268 = t269 then ((order_Rank.f k x226000).bind fun t270 => ((annuityref23_Rank.f k x226000).bind fun t271 => (if t270 = t271 then ((annuitylaw23_wakes.f k).bind fun t272 => (some t272)) else (none)))) else (none)))) else (none)))) else (none))))
def annuitylaw23_OrderTells.f (k : Nat) (l0 : List (S26)) (a1_0 : Int) (a1_1 : Int) (a1_2 : Int) (a1_3 : Int) (a1_4 : Int) (a1_5 : Nat) (a1_6 : Nat) (a1_7 : Bool) (a1_8 : Int) (a1_9 : Int) (a1_10 : Int) (a2 : Int) : Option (Bool) := if (l0.length : Int) > 120 then ((annuitylaw23_wakes.f k).bind fun t226 => (some t226)) else ((some (([] : List (S26)) : List (S26))).bind fun y227 => (if y227.length + l0.length < 1599289640401 then ((some (y227 ++ l0 : List (S26))).bind fun y230 => ((order_Sort.f k y230).bind fun t233 => ((annuityref23_Sort.f k l0).bind fun t236 => ((some (([] : List (S26)) : List (S26))).bind fun y239 => (if y239.length + t236.length < 1599289640401 then ((order_Put.f k (y239 ++ t236) a1_0 a1_1 a1_2 a1_3 a1_4 a1_5 a1_6 a1_7 a1_8 a1_9 a1_10).bind fun bt245 => ((annuityref23_Put.f k t236 a1_0 a1_1 a1_2 a1_3 a1_4 a1_5 a1_6 a1_7 a1_8 a1_9 a1_10).bind fun bt249 => ((annuitykeep_Events.f k t233 t236).bind fun t253 => (if t253 = true then ((annuitykeep_Events.f k bt245.1 bt249.1).bind fun t254 => (if t254 = true then (if bt245.2 = bt249.2 then ((annuitykeep_Events.f k y230 l0).bind fun t255 => (if t255 = true then (annuitylaw23_OrderTells.l0 k l0 a2 y230 0 a1_0 a1_1 a1_2 a1_3 a1_4 a1_5 a1_6 a1_7 a1_8 a1_9 a1_10) else (none))) else (none)) else (none))) else (none))))) else (none)))))) else (none)))
def annuitylaw23_OrderTells.T5 : Bool × List (List Nat × List Nat) := (true, [([], []), ([], []), ([0, 1], [0, 1]), ([], []), ([2, 3, 2], [2, 3]), ([4], [4]), ([5], [5]), ([5], [5]), ([6, 4, 0, 1, 2, 3, 4, 5, 6], [6]), ([7, 8, 0, 1, 2, 3, 4, 5, 6, 7, 8], [7])])
def annuitylaw23_OrderTells.B5 : List Nat := [0, 0, 3, 0, 15, 31, 63, 63, 127, 511]
theorem annuitylaw23_OrderTells.tab5 : rtab .any (opsOf Try.f3 5) = annuitylaw23_OrderTells.T5 := by kernel_rfl
theorem annuitylaw23_OrderTells.bits5 : waitsOk annuitylaw23_OrderTells.T5.2 annuitylaw23_OrderTells.B5 = true := by kernel_rfl
def annuitylaw23_OrderTells.T12 : Bool × List (List Nat × List Nat) := (true, [([], []), ([], []), ([0, 1], [0, 1]), ([2], [2]), ([], []), ([3, 4], [3, 4]), ([], []), ([], []), ([6, 7], [6, 7]), ([8], [8]), ([], []), ([9, 10, 5], [9, 10]), ([5, 11], [5, 11]), ([12, 11], [12]), ([13], [13]), ([13], [13]), ([13], [13]), ([15, 16, 13], [13, 15, 16]), ([17, 13], [13, 17]), ([14, 18, 13, 13], [13, 14, 18]), ([13], [13]), ([13], [13]), ([13], [13]), ([21, 22, 13], [13, 21, 22]), ([23, 13], [13, 23]), ([20, 24, 19, 13], [13, 20, 24]), ([19, 25, 13], [13, 19, 25]), ([13, 26], [13, 26])])
def annuitylaw23_OrderTells.B12 : List Nat := [0, 0, 3, 7, 0, 31, 0, 0, 192, 448, 0, 2047, 4095, 8191, 16383, 16383, 16383, 114687, 245759, 524287, 16383, 16383, 16383, 6307839, 14696447, 33554431, 67108863, 134217727]
theorem annuitylaw23_OrderTells.tab12 : rtab .any (opsOf Try.f3 12) = annuitylaw23_OrderTells.T12 := by kernel_rfl
theorem annuitylaw23_OrderTells.bits12 : waitsOk annuitylaw23_OrderTells.T12.2 annuitylaw23_OrderTells.B12 = true := by kernel_rfl
def annuitylaw23_OrderTells.T14 : Bool × List (List Nat × List Nat) := (true, [([], []), ([], []), ([0, 1], [0, 1]), ([], []), ([], []), ([3, 4, 2], [3, 4]), ([2, 5], [2, 5]), ([6, 5], [6]), ([7], [7]), ([8, 7, 7], [7, 8]), ([7], [7]), ([10, 9, 7], [7, 10]), ([9, 11, 7], [7, 9, 11]), ([7, 12], [7, 12]), ([13, 11], [13]), ([14], [14]), ([15, 14], [14, 15]), ([16, 14, 14], [14, 16]), ([14], [14]), ([18, 14], [14, 18]), ([19, 17, 14], [14, 19]), ([17, 20, 14], [14, 17, 20]), ([14, 21], [14, 21]), ([22, 20], [22]), ([23], [23]), ([24, 23], [23, 24]), ([25, 23, 23], [23, 25]), ([23], [23]), ([27, 23], [23, 27]), ([28, 26, 23], [23, 28]), ([26, 29, 23], [23, 26, 29]), ([23, 30], [23, 30]), ([31, 29], [31]), ([32, 32], [32]), ([32, 33], [32, 33]), ([34, 33, 0, 1, 2, 3, 4, 5, 6, 7, 8, 9, 10, 11, 12, 13, 14, 15, 16, 17, 18, 19, 20, 21, 22, 23, 24, 25, 26, 27, 28, 29, 30, 31, 32, 33, 34], [34])])
def annuitylaw23_OrderTells.B14 : List Nat := [0, 0, 3, 0, 0, 31, 63, 127, 255, 511, 255, 2047, 4095, 8191, 16383, 32767, 65535, 131071, 32767, 294911, 1048575, 2097151, 4194303, 8388607, 16777215, 33554431, 67108863, 16777215, 150994943, 536870911, 1073741823, 2147483647, 4294967295, 8589934591, 17179869183, 34359738367]
theorem annuitylaw23_OrderTells.tab14 : rtab .any (opsOf Try.f3 14) = annuitylaw23_OrderTells.T14 := by kernel_rfl
theorem annuitylaw23_OrderTells.bits14 : waitsOk annuitylaw23_OrderTells.T14.2 annuitylaw23_OrderTells.B14 = true := by kernel_rfl
set_option maxHeartbeats 8000000 in
set_option maxRecDepth 100000 in
theorem annuitylaw23_OrderTells.calls (k : Nat) (A0 : Option Addr) (c0 : Nat) (l0 : List (S26)) (a1_0 : Int) (a1_1 : Int) (a1_2 : Int) (a1_3 : Int) (a1_4 : Int) (a1_5 : Nat) (a1_6 : Nat) (a1_7 : Bool) (a1_8 : Int) (a1_9 : Int) (a1_10 : Int) (a2 : Int) (r : Bool) (w : World) (hr0 : Kd.C k26 w A0 l0.length l0) (hc0 : l0.length ≤ c0) (h : annuitylaw23_OrderTells.f k l0 a1_0 a1_1 a1_2 a1_3 a1_4 a1_5 a1_6 a1_7 a1_8 a1_9 a1_10 a2 = some r) :
  Calls Try.prog 3 #[.slice A0 l0.length c0, .agg #[.int .i64 a1_0, .int .i64 a1_1, .int .u32 a1_2, .int .i64 a1_3, .int .i64 a1_4, .float .f64 a1_5, .float .f64 a1_6, .bool a1_7, .int .i64 a1_8, .int .i64 a1_9, .int .i64 a1_10], .int .u32 a2] w fun e w' => e = .returned (.bool r) ∧ Below w.heap.size w w' := by
 have hu26 := Try.underlying26
 have HR0 := Aside0.mk hr0
 have HC0 := Aside0.mk hc0
 clear hr0 hc0
 have HB := Aside0.mk (Below.refl w.heap.size w)
 have H : (if (l0.length : Int) > 120 then ((annuitylaw23_wakes.f k).bind fun t226 => (some t226)) else ((some (([] : List (S26)) : List (S26))).bind fun y227 => (if y227.length + l0.length < 1599289640401 then ((some (y227 ++ l0 : List (S26))).bind fun y230 => ((order_Sort.f k y230).bind fun t233 => ((annuityref23_Sort.f k l0).bind fun t236 => ((some (([] : List (S26)) : List (S26))).bind fun y239 => (if y239.length + t236.length < 1599289640401 then ((order_Put.f k (y239 ++ t236) a1_0 a1_1 a1_2 a1_3 a1_4 a1_5 a1_6 a1_7 a1_8 a1_9 a1_10).bind fun bt245 => ((annuityref23_Put.f k t236 a1_0 a1_1 a1_2 a1_3 a1_4 a1_5 a1_6 a1_7 a1_8 a1_9 a1_10).bind fun bt249 => ((annuitykeep_Events.f k t233 t236).bind fun t253 => (if t253 = true then ((annuitykeep_Events.f k bt245.1 bt249.1).bind fun t254 => (if t254 = true then (if bt245.2 = bt249.2 then ((annuitykeep_Events.f k y230 l0).bind fun t255 => (if t255 = true then (annuitylaw23_OrderTells.l0 k l0 a2 y230 0 a1_0 a1_1 a1_2 a1_3 a1_4 a1_5 a1_6 a1_7 a1_8 a1_9 a1_10) else (none))) else (none)) else (none))) else (none))))) else (none)))))) else (none)))) = some r := h
 clear h
 by_cases c4 : (l0.length : Int) > 120
 ·rw [if_pos c4] at H
  have c4b0 : decide (120 < (l0.length : Int)) = true := decide_eq_true c4
  have c4b1 : decide (120 < l0.length) = true := decide_eq_true (by omega)
  clear c4
  replace H := Option.bind_eq_some_iff.mp H
  obtain ⟨t226, A50, H⟩ := H
  replace H : (some t226) = some r := H
  have A5 := Aside0.mk A50
  clear A50
  obtain rfl := Option.some.inj H
  go_enter Try.func3, Try.ntmps3
  go_wp2_with (first | ((with_reducible refine gate_dst (N := 4) rfl ?_); refine box_event ?hg (N := 4) ?hd (cs := #[.int .i64 a1_0, .int .i64 a1_1, .int .u32 a1_2, .int .i64 a1_3, .int .i64 a1_4, .float .f64 a1_5, .float .f64 a1_6, .bool a1_7, .int .i64 a1_8, .int .i64 a1_9, .int .i64 a1_10]) (t := 26) ?hr ?_; (case hd => rfl); (case hg => rfl); (case hr => first | (go_simp; done) | (go_simp; rfl)); intro gb225 hg w6 hbox hb; have n0_ := Aside0.mk (below_step (by exact h0q HB.out) hb); have n1_ := Aside0.mk (hbox); have n2_ := Aside0.mk ((by rw [hg]; exact (below_size (by exact h0q HB.out)) : w.heap.size ≤ gb225)); have n3_ := Aside0.mk ((by rw [hg]; exact (below_size (by exact h0q HB.out)) : w.heap.size ≤ gb225)); clear HB; have HB := n0_; have BK225 := n1_; have GW225 := n2_; have GE225 := n3_; clear n0_ n1_ n2_ n3_; clear hb hbox hg) | ((with_reducible refine gate_callee (f := 6) rfl ?_); refine goesL_ (some 18) rfl rfl Try.func6 (by kernel_rfl) rfl #[] rfl (by (try simp only [List.map_toArray, List.map_cons, List.map_nil]); first | done | rfl | (simp only [List.length_drop, List.length_take]; rfl)) ?_; (with_reducible refine (annuitylaw23_wakes.calls k  t226 _ A5.out).mono ?_); rintro e w7 ⟨rfl, hb⟩; refine ⟨_, rfl, ?_⟩; have n0_ := Aside0.mk (blk_below (g := gb225) (Up.up BK225.out) hb); have n1_ := Aside0.mk (below_step (by exact h1q HB.out GE225.out) hb); clear BK225; clear HB; have BK225 := n0_; have HB := n1_; clear n0_ n1_; (try clear hb); (try clear hb2); (try clear hk); (try clear hi)))
  go_ret
  exact ⟨by first | rfl | (simp [errW_none, errW_some] <;> rfl) | (simp [*, errW_none, errW_some] <;> rfl), by exact h1q HB.out GE225.out⟩
 ·rw [if_neg c4] at H
  have c4b0 : decide (120 < (l0.length : Int)) = false := decide_eq_false c4
  have c4b1 : decide (120 < l0.length) = false := decide_eq_false (by omega)
  clear c4
  obtain ⟨y227, hy227⟩ : ∃ y_ : List (S26), y_ = (([] : List (S26))) := ⟨_, rfl⟩
  replace H : (if y227.length + l0.length < 1599289640401 then ((some (y227 ++ l0 : List (S26))).bind fun y230 => ((order_Sort.f k y230).bind fun t233 => ((annuityref23_Sort.f k l0).bind fun t236 => ((some (([] : List (S26)) : List (S26))).bind fun y239 => (if y239.length + t236.length < 1599289640401 then ((order_Put.f k (y239 ++ t236) a1_0 a1_1 a1_2 a1_3 a1_4 a1_5 a1_6 a1_7 a1_8 a1_9 a1_10).bind fun bt245 => ((annuityref23_Put.f k t236 a1_0 a1_1 a1_2 a1_3 a1_4 a1_5 a1_6 a1_7 a1_8 a1_9 a1_10).bind fun bt249 => ((annuitykeep_Events.f k t233 t236).bind fun t253 => (if t253 = true then ((annuitykeep_Events.f k bt245.1 bt249.1).bind fun t254 => (if t254 = true then (if bt245.2 = bt249.2 then ((annuitykeep_Events.f k y230 l0).bind fun t255 => (if t255 = true then (annuitylaw23_OrderTells.l0 k l0 a2 y230 0 a1_0 a1_1 a1_2 a1_3 a1_4 a1_5 a1_6 a1_7 a1_8 a1_9 a1_10) else (none))) else (none)) else (none))) else (none))))) else (none)))))) else (none)) = some r := by first | (rw [hy227]; with_reducible exact H) | (have H2_ := (Option.bind_some _ _).symm.trans H; rw [hy227]; with_reducible exact H2_) | (have H2_ := (Option.bind_some _ _).symm.trans H; with_reducible exact H2_) | with_reducible exact H | (rw [hy227]; exact H) | exact H
  have Ny227 := Aside0.mk hy227
  clear hy227
  by_cases c8 : y227.length + l0.length < 1599289640401
  ·rw [if_pos c8] at H
   have LMc8 := Aside0.mk c8
   clear c8
   obtain ⟨y230, hy230⟩ : ∃ y_ : List (S26), y_ = (y227 ++ l0) := ⟨_, rfl⟩
   replace H : ((order_Sort.f k y230).bind fun t233 => ((annuityref23_Sort.f k l0).bind fun t236 => ((some (([] : List (S26)) : List (S26))).bind fun y239 => (if y239.length + t236.length < 1599289640401 then ((order_Put.f k (y239 ++ t236) a1_0 a1_1 a1_2 a1_3 a1_4 a1_5 a1_6 a1_7 a1_8 a1_9 a1_10).bind fun bt245 => ((annuityref23_Put.f k t236 a1_0 a1_1 a1_2 a1_3 a1_4 a1_5 a1_6 a1_7 a1_8 a1_9 a1_10).bind fun bt249 => ((annuitykeep_Events.f k t233 t236).bind fun t253 => (if t253 = true then ((annuitykeep_Events.f k bt245.1 bt249.1).bind fun t254 => (if t254 = true then (if bt245.2 = bt249.2 then ((annuitykeep_Events.f k y230 l0).bind fun t255 => (if t255 = true then (annuitylaw23_OrderTells.l0 k l0 a2 y230 0 a1_0 a1_1 a1_2 a1_3 a1_4 a1_5 a1_6 a1_7 a1_8 a1_9 a1_10) else (none))) else (none)) else (none))) else (none))))) else (none))))) = some r := by first | (rw [hy230]; with_reducible exact H) | (have H2_ := (Option.bind_some _ _).symm.trans H; rw [hy230]; with_reducible exact H2_) | (have H2_ := (Option.bind_some _ _).symm.trans H; with_reducible exact H2_) | with_reducible exact H | (rw [hy230]; exact H) | exact H
   have Ny230 := Aside0.mk hy230
   clear hy230
   replace H := Option.bind_eq_some_iff.mp H
   obtain ⟨t233, A90, H⟩ := H
   replace H : ((annuityref23_Sort.f k l0).bind fun t236 => ((some (([] : List (S26)) : List (S26))).bind fun y239 => (if y239.length + t236.length < 1599289640401 then ((order_Put.f k (y239 ++ t236) a1_0 a1_1 a1_2 a1_3 a1_4 a1_5 a1_6 a1_7 a1_8 a1_9 a1_10).bind fun bt245 => ((annuityref23_Put.f k t236 a1_0 a1_1 a1_2 a1_3 a1_4 a1_5 a1_6 a1_7 a1_8 a1_9 a1_10).bind fun bt249 => ((annuitykeep_Events.f k t233 t236).bind fun t253 => (if t253 = true then ((annuitykeep_Events.f k bt245.1 bt249.1).bind fun t254 => (if t254 = true then (if bt245.2 = bt249.2 then ((annuitykeep_Events.f k y230 l0).bind fun t255 => (if t255 = true then (annuitylaw23_OrderTells.l0 k l0 a2 y230 0 a1_0 a1_1 a1_2 a1_3 a1_4 a1_5 a1_6 a1_7 a1_8 a1_9 a1_10) else (none))) else (none)) else (none))) else (none))))) else (none)))) = some r := H
   have A9 := Aside0.mk A90
   clear A90
   replace H := Option.bind_eq_some_iff.mp H
   obtain ⟨t236, A100, H⟩ := H
   replace H : ((some (([] : List (S26)) : List (S26))).bind fun y239 => (if y239.length + t236.length < 1599289640401 then ((order_Put.f k (y239 ++ t236) a1_0 a1_1 a1_2 a1_3 a1_4 a1_5 a1_6 a1_7 a1_8 a1_9 a1_10).bind fun bt245 => ((annuityref23_Put.f k t236 a1_0 a1_1 a1_2 a1_3 a1_4 a1_5 a1_6 a1_7 a1_8 a1_9 a1_10).bind fun bt249 => ((annuitykeep_Events.f k t233 t236).bind fun t253 => (if t253 = true then ((annuitykeep_Events.f k bt245.1 bt249.1).bind fun t254 => (if t254 = true then (if bt245.2 = bt249.2 then ((annuitykeep_Events.f k y230 l0).bind fun t255 => (if t255 = true then (annuitylaw23_OrderTells.l0 k l0 a2 y230 0 a1_0 a1_1 a1_2 a1_3 a1_4 a1_5 a1_6 a1_7 a1_8 a1_9 a1_10) else (none))) else (none)) else (none))) else (none))))) else (none))) = some r := H
   have A10 := Aside0.mk A100
   clear A100
   obtain ⟨y239, hy239⟩ : ∃ y_ : List (S26), y_ = (([] : List (S26))) := ⟨_, rfl⟩
   replace H : (if y239.length + t236.length < 1599289640401 then ((order_Put.f k (y239 ++ t236) a1_0 a1_1 a1_2 a1_3 a1_4 a1_5 a1_6 a1_7 a1_8 a1_9 a1_10).bind fun bt245 => ((annuityref23_Put.f k t236 a1_0 a1_1 a1_2 a1_3 a1_4 a1_5 a1_6 a1_7 a1_8 a1_9 a1_10).bind fun bt249 => ((annuitykeep_Events.f k t233 t236).bind fun t253 => (if t253 = true then ((annuitykeep_Events.f k bt245.1 bt249.1).bind fun t254 => (if t254 = true then (if bt245.2 = bt249.2 then ((annuitykeep_Events.f k y230 l0).bind fun t255 => (if t255 = true then (annuitylaw23_OrderTells.l0 k l0 a2 y230 0 a1_0 a1_1 a1_2 a1_3 a1_4 a1_5 a1_6 a1_7 a1_8 a1_9 a1_10) else (none))) else (none)) else (none))) else (none))))) else (none)) = some r := by first | (rw [hy239]; with_reducible exact H) | (have H2_ := (Option.bind_some _ _).symm.trans H; rw [hy239]; with_reducible exact H2_) | (have H2_ := (Option.bind_some _ _).symm.trans H; with_reducible exact H2_) | with_reducible exact H | (rw [hy239]; exact H) | exact H
   have Ny239 := Aside0.mk hy239
   clear hy239
   by_cases c11 : y239.length + t236.length < 1599289640401
   ·rw [if_pos c11] at H
    have LMc11 := Aside0.mk c11
    clear c11
    obtain ⟨y242, hy242⟩ : ∃ y_ : List (S26), y_ = (y239 ++ t236) := ⟨_, rfl⟩
    replace H : ((order_Put.f k y242 a1_0 a1_1 a1_2 a1_3 a1_4 a1_5 a1_6 a1_7 a1_8 a1_9 a1_10).bind fun bt245 => ((annuityref23_Put.f k t236 a1_0 a1_1 a1_2 a1_3 a1_4 a1_5 a1_6 a1_7 a1_8 a1_9 a1_10).bind fun bt249 => ((annuitykeep_Events.f k t233 t236).bind fun t253 => (if t253 = true then ((annuitykeep_Events.f k bt245.1 bt249.1).bind fun t254 => (if t254 = true then (if bt245.2 = bt249.2 then ((annuitykeep_Events.f k y230 l0).bind fun t255 => (if t255 = true then (annuitylaw23_OrderTells.l0 k l0 a2 y230 0 a1_0 a1_1 a1_2 a1_3 a1_4 a1_5 a1_6 a1_7 a1_8 a1_9 a1_10) else (none))) else (none)) else (none))) else (none))))) = some r := by first | (rw [hy242]; with_reducible exact H) | (have H2_ := (Option.bind_some _ _).symm.trans H; rw [hy242]; with_reducible exact H2_) | (have H2_ := (Option.bind_some _ _).symm.trans H; with_reducible exact H2_) | with_reducible exact H | (rw [hy242]; exact H) | exact H
    have Ny242 := Aside0.mk hy242
    clear hy242
    replace H := Option.bind_eq_some_iff.mp H
    obtain ⟨⟨t245, t248⟩, A120, H⟩ := H
    replace H : ((annuityref23_Put.f k t236 a1_0 a1_1 a1_2 a1_3 a1_4 a1_5 a1_6 a1_7 a1_8 a1_9 a1_10).bind fun bt249 => ((annuitykeep_Events.f k t233 t236).bind fun t253 => (if t253 = true then ((annuitykeep_Events.f k t245 bt249.1).bind fun t254 => (if t254 = true then (if t248 = bt249.2 then ((annuitykeep_Events.f k y230 l0).bind fun t255 => (if t255 = true then (annuitylaw23_OrderTells.l0 k l0 a2 y230 0 a1_0 a1_1 a1_2 a1_3 a1_4 a1_5 a1_6 a1_7 a1_8 a1_9 a1_10) else (none))) else (none)) else (none))) else (none)))) = some r := H
    have A12 := Aside0.mk A120
    clear A120
    replace H := Option.bind_eq_some_iff.mp H
    obtain ⟨⟨t249, t252⟩, A130, H⟩ := H
    replace H : ((annuitykeep_Events.f k t233 t236).bind fun t253 => (if t253 = true then ((annuitykeep_Events.f k t245 t249).bind fun t254 => (if t254 = true then (if t248 = t252 then ((annuitykeep_Events.f k y230 l0).bind fun t255 => (if t255 = true then (annuitylaw23_OrderTells.l0 k l0 a2 y230 0 a1_0 a1_1 a1_2 a1_3 a1_4 a1_5 a1_6 a1_7 a1_8 a1_9 a1_10) else (none))) else (none)) else (none))) else (none))) = some r := H
    have A13 := Aside0.mk A130
    clear A130
    replace H := Option.bind_eq_some_iff.mp H
    obtain ⟨t253, A140, H⟩ := H
    replace H : (if t253 = true then ((annuitykeep_Events.f k t245 t249).bind fun t254 => (if t254 = true then (if t248 = t252 then ((annuitykeep_Events.f k y230 l0).bind fun t255 => (if t255 = true then (annuitylaw23_OrderTells.l0 k l0 a2 y230 0 a1_0 a1_1 a1_2 a1_3 a1_4 a1_5 a1_6 a1_7 a1_8 a1_9 a1_10) else (none))) else (none)) else (none))) else (none)) = some r := H
    have A14 := Aside0.mk A140
    clear A140
    by_cases c15 : t253 = true
    ·subst c15
     have H1 : ((annuitykeep_Events.f k t245 t249).bind fun t254 => (if t254 = true then (if t248 = t252 then ((annuitykeep_Events.f k y230 l0).bind fun t255 => (if t255 = true then (annuitylaw23_OrderTells.l0 k l0 a2 y230 0 a1_0 a1_1 a1_2 a1_3 a1_4 a1_5 a1_6 a1_7 a1_8 a1_9 a1_10) else (none))) else (none)) else (none))) = some r := by rw [if_pos rfl] at H; exact H
     clear H
     have H := H1
     clear H1
     replace H := Option.bind_eq_some_iff.mp H
     obtain ⟨t254, A160, H⟩ := H
     replace H : (if t254 = true then (if t248 = t252 then ((annuitykeep_Events.f k y230 l0).bind fun t255 => (if t255 = true then (annuitylaw23_OrderTells.l0 k l0 a2 y230 0 a1_0 a1_1 a1_2 a1_3 a1_4 a1_5 a1_6 a1_7 a1_8 a1_9 a1_10) else (none))) else (none)) else (none)) = some r := H
     have A16 := Aside0.mk A160
     clear A160
     by_cases c17 : t254 = true
     ·subst c17
      have H1 : (if t248 = t252 then ((annuitykeep_Events.f k y230 l0).bind fun t255 => (if t255 = true then (annuitylaw23_OrderTells.l0 k l0 a2 y230 0 a1_0 a1_1 a1_2 a1_3 a1_4 a1_5 a1_6 a1_7 a1_8 a1_9 a1_10) else (none))) else (none)) = some r := by rw [if_pos rfl] at H; exact H
      clear H
      have H := H1
      clear H1
      by_cases c18 : t248 = t252
      ·rw [if_pos c18] at H
       have c18b0 : (t248 == t252) = true := beq_iff_eq.mpr c18
       have c18b1 : (t248 != t252) = false := bne_eq_false_iff_eq.mpr c18
       clear c18
       replace H := Option.bind_eq_some_iff.mp H
       obtain ⟨t255, A190, H⟩ := H
       replace H : (if t255 = true then (annuitylaw23_OrderTells.l0 k l0 a2 y230 0 a1_0 a1_1 a1_2 a1_3 a1_4 a1_5 a1_6 a1_7 a1_8 a1_9 a1_10) else (none)) = some r := H
       have A19 := Aside0.mk A190
       clear A190
       by_cases c20 : t255 = true
       ·subst c20
        have H1 : (annuitylaw23_OrderTells.l0 k l0 a2 y230 0 a1_0 a1_1 a1_2 a1_3 a1_4 a1_5 a1_6 a1_7 a1_8 a1_9 a1_10) = some r := by rw [if_pos rfl] at H; exact H
        clear H
        have H := H1
        clear H1
        have H' := Aside0.mk H
        clear H
        go_enter Try.func3, Try.ntmps3
        try go_wp2_with (first | ((with_reducible refine gate_dst (N := 4) rfl ?_); refine box_event ?hg (N := 4) ?hd (cs := #[.int .i64 a1_0, .int .i64 a1_1, .int .u32 a1_2, .int .i64 a1_3, .int .i64 a1_4, .float .f64 a1_5, .float .f64 a1_6, .bool a1_7, .int .i64 a1_8, .int .i64 a1_9, .int .i64 a1_10]) (t := 26) ?hr ?_; (case hd => rfl); (case hg => rfl); (case hr => first | (go_simp; done) | (go_simp; rfl)); intro gb225 hg w21 hbox hb; have n0_ := Aside0.mk (below_step (by exact h0q HB.out) hb); have n1_ := Aside0.mk (hbox); have n2_ := Aside0.mk ((by rw [hg]; exact (below_size (by exact h0q HB.out)) : w.heap.size ≤ gb225)); have n3_ := Aside0.mk ((by rw [hg]; exact (below_size (by exact h0q HB.out)) : w.heap.size ≤ gb225)); clear HB; have HB := n0_; have BK225 := n1_; have GW225 := n2_; have GE225 := n3_; clear n0_ n1_ n2_ n3_; clear hb hbox hg) | ((with_reducible refine gate_dst (N := 19) rfl ?_); refine Kd.R_lit k26 _ 26 ?hg (N := 19) ?hd (xs := ([] : List (S26))) (inner := []) (ok := fun _ => True) (okp := fun _ => True) ?hr ?hp (fun _ hk => hk) trivial (Below.refl _ _) (Nat.le_refl _) (by simp) ?_; (case hd => rfl); (case hg => rfl); (case hr => first | (go_simp; done) | (go_simp; rfl)); (case hp => exact (Reps.none _ _)); intro v228 w22 ho23 hb hg_ hnew_; clear hg_ hnew_; (first | rw [← Ny227.out] at ho23 | (simp only [Int.reduceToNat] at ho23; rw [← Ny227.out] at ho23)); have n0_ := Aside0.mk (Kd.R_lower (Kd.R_newB ho23 (g := gb225) (Up.up BK225.out)) (below_size (by exact h1q HB.out GE225.out))); have n1_ := Aside0.mk (blk_below (g := gb225) (Up.up BK225.out) hb); have n2_ := Aside0.mk (below_step (by exact h1q HB.out GE225.out) hb); clear BK225; clear HB; have HO229 := n0_; have BK225 := n1_; have HB := n2_; clear n0_ n1_ n2_; clear hb ho23) | ((with_reducible refine gate_builtin (b := .append) (xs := #[.tmp 19, .tmp 20]) rfl ?_); at_builtin; refine Kd.R_append_rows k26 (w0 := w) w.heap.size rfl (.tmp 19) (.tmp 20) 22 26 (.agg #[(.int .i64 0), (.int .i64 0), (.int .u32 0), (.int .i64 0), (.int .i64 0), (.float .f64 0), (.float .f64 0), (.bool false), (.int .i64 0), (.int .i64 0), (.int .i64 0)]) 88 rfl Try.underlying22 info26 rfl (by decide) (by omega) v228 y227 l0 _ _ _ (fun k_ => k_ ≠ gb225) (fun _ => False) rfl rfl ?aO ?aR (fun _ _ h => h) (fun _ h => h.elim) ?aF ?aB ?aS ?aL ?_; (case aR => repeat (first | exact (Kd.C_below HR0.out HB.out) | (with_reducible refine Kd.C_alloc ?_ _) | (with_reducible refine Kd.C_drewN ?_ _) | (with_reducible refine Kd.C_drew ?_))); (case aB => exact (by exact h1q HB.out GE225.out)); (case aF => exact (fun k_ hk => Kd.freshB (g := gb225) (Up.up BK225.out) k_ hk)); (case aO => exact (by (with_reducible repeat (first | apply Kd.R_alloc | apply Kd.R_drewN | apply Kd.R_drew)); exact Kd.R_mono HO229.out (fun _ hk => hk.2))); (case aS => exact (below_size (by exact h1q HB.out GE225.out))); (case aL => have := LMc8.out; omega); intro v231 w24 ho hb hg hat; rw [← Ny230.out] at ho; have n0_ := Aside0.mk (blk_grown (g := gb225) (Up.up BK225.out) hg (Kd.R_away HO229.out (fun _ hk => hk.2))); have n1_ := Aside0.mk (hb); have n2_ := Aside0.mk (ho); clear BK225; clear HB; clear HO229; have BK225 := n0_; have HB := n1_; have HO232 := n2_; clear n0_ n1_ n2_; clear ho hb hg hat; obtain ⟨Ao25, co25, eo25⟩ := Kd.R_slice HO232.out; subst eo25) | ((with_reducible refine gate_callee (f := 7) rfl ?_); refine goesL_ (some 23) rfl rfl Try.func7 (by kernel_rfl) rfl #[.slice Ao25 y230.length co25] rfl (by (try simp only [List.map_toArray, List.map_cons, List.map_nil]); first | done | rfl | (simp only [List.length_drop, List.length_take]; rfl)) ?_; (with_reducible refine (order_Sort.calls k _ _ y230 t233 _ ?side1 ?side2 A9.out).mono ?_); (case side1 => repeat (first | exact (Kd.R_reads' HO232.out).2.2 | (with_reducible refine Kd.C_alloc ?_ _) | (with_reducible refine Kd.C_drewN ?_ _) | (with_reducible refine Kd.C_drew ?_))); (case side2 => exact (Kd.R_reads' HO232.out).2.1); rintro e w26 ⟨v234, rfl, ho0, hb⟩; refine ⟨_, rfl, ?_⟩; have n0_ := Aside0.mk (Kd.R_elder' (by exact rq HO232.out) (Kd.R_base ho0) hb); have n1_ := Aside0.mk (Kd.R_lower (Kd.R_newB (Kd.R_new' ho0 (Kd.R_lt (by exact rq HO232.out))) (g := gb225) (Up.up BK225.out)) (below_size (by exact h1q HB.out GE225.out))); have n2_ := Aside0.mk (blk_below (g := gb225) (Up.up BK225.out) hb); have n3_ := Aside0.mk (below_step (by exact h1q HB.out GE225.out) hb); clear HO232; clear BK225; clear HB; have HO232 := n0_; have HO235 := n1_; have BK225 := n2_; have HB := n3_; clear n0_ n1_ n2_ n3_; (try clear hb); (try clear hb2); (try clear hk); (try clear hi); (try clear ho0)) | ((with_reducible refine gate_callee (f := 8) rfl ?_); refine goesL_ (some 25) rfl rfl Try.func8 (by kernel_rfl) rfl #[.slice A0 l0.length c0] rfl (by (try simp only [List.map_toArray, List.map_cons, List.map_nil]); first | done | rfl | (simp only [List.length_drop, List.length_take]; rfl)) ?_; (with_reducible refine (annuityref23_Sort.calls k _ _ l0 t236 _ ?side1 ?side2 A10.out).mono ?_); (case side1 => repeat (first | exact (Kd.C_below HR0.out HB.out) | (with_reducible refine Kd.C_alloc ?_ _) | (with_reducible refine Kd.C_drewN ?_ _) | (with_reducible refine Kd.C_drew ?_))); (case side2 => exact HC0.out); rintro e w27 ⟨v237, rfl, ho0, hb⟩; refine ⟨_, rfl, ?_⟩; have n0_ := Aside0.mk (Kd.R_elder' (by exact rq HO232.out) (Kd.R_base ho0) hb); have n1_ := Aside0.mk (Kd.R_elder' (by exact rq HO235.out) (Kd.R_base ho0) hb); have n2_ := Aside0.mk (Kd.R_lower (Kd.R_newB (Kd.R_new' (Kd.R_new' ho0 (Kd.R_lt (by exact rq HO232.out))) (Kd.R_lt (by exact rq HO235.out))) (g := gb225) (Up.up BK225.out)) (below_size (by exact h1q HB.out GE225.out))); have n3_ := Aside0.mk (blk_below (g := gb225) (Up.up BK225.out) hb); have n4_ := Aside0.mk (below_step (by exact h1q HB.out GE225.out) hb); clear HO232; clear HO235; clear BK225; clear HB; have HO232 := n0_; have HO235 := n1_; have HO238 := n2_; have BK225 := n3_; have HB := n4_; clear n0_ n1_ n2_ n3_ n4_; (try clear hb); (try clear hb2); (try clear hk); (try clear hi); (try clear ho0)))
        have n0_ := Aside0.mk (Kd.R_drew HO232.out)
        have n1_ := Aside0.mk (Kd.R_drew HO235.out)
        have n2_ := Aside0.mk (Kd.R_drew HO238.out)
        have n3_ := Aside0.mk (blk_drew BK225.out)
        have n4_ := Aside0.mk (below_drew1 HB.out)
        clear HO232
        clear HO235
        clear HO238
        clear BK225
        clear HB
        have HO232 := n0_
        have HO235 := n1_
        have HO238 := n2_
        have BK225 := n3_
        have HB := n4_
        clear n0_ n1_ n2_ n3_ n4_
        refine start_ (n := 10) (S := fun w' => w'.cell? ⟨gb225, 0, none⟩ = some (.int .i64 a1_0) ∧ w'.cell? ⟨gb225, 1, none⟩ = some (.int .i64 a1_1) ∧ w'.cell? ⟨gb225, 2, none⟩ = some (.int .u32 a1_2) ∧ w'.cell? ⟨gb225, 3, none⟩ = some (.int .i64 a1_3) ∧ w'.cell? ⟨gb225, 4, none⟩ = some (.int .i64 a1_4) ∧ w'.cell? ⟨gb225, 5, none⟩ = some (.float .f64 a1_5) ∧ w'.cell? ⟨gb225, 6, none⟩ = some (.float .f64 a1_6) ∧ w'.cell? ⟨gb225, 7, none⟩ = some (.bool a1_7) ∧ w'.cell? ⟨gb225, 8, none⟩ = some (.int .i64 a1_8) ∧ w'.cell? ⟨gb225, 9, none⟩ = some (.int .i64 a1_9) ∧ w'.cell? ⟨gb225, 10, none⟩ = some (.int .i64 a1_10)) (ds := []) #[false, false, false, false, false, false, false, false, false, false] (by kernel_rfl) rfl rfl ⟨(blk_cell BK225.out 0).trans rfl, (blk_cell BK225.out 1).trans rfl, (blk_cell BK225.out 2).trans rfl, (blk_cell BK225.out 3).trans rfl, (blk_cell BK225.out 4).trans rfl, (blk_cell BK225.out 5).trans rfl, (blk_cell BK225.out 6).trans rfl, (blk_cell BK225.out 7).trans rfl, (blk_cell BK225.out 8).trans rfl, (blk_cell BK225.out 9).trans rfl, (blk_cell BK225.out 10).trans rfl⟩ (fun hHeld => ?_); refine with_tabW annuitylaw23_OrderTells.tab5 annuitylaw23_OrderTells.bits5 (fun HT_ HW_ => ?_)
        generalize w27.drew = w28 at HO232 HO235 HO238 BK225 HB hHeld ⊢
        refine pure_ (i := 1) (N := some 28) (v := ?_) (a' := ?_) #[false, true, false, false, false, false, false, false, false, false] rfl rfl (any_of HT_.out (by kernel_rfl)) (fun _ _ _ h => h) (Or.inl ⟨by rfl, ?_⟩) ?_ ?_
        rotate_left
        ·intro w'
         go_simp
         with_reducible rfl
        rotate_left
        ·simp only [Act.put, List.setIfInBounds_toArray, List.set_cons_zero, List.set_cons_succ, i64_w, i32_w]
         rfl
        refine take_ (i := 3) (N := some 30) (v := ?_) (a' := ?_) #[false, true, false, true, false, false, false, false, false, false] rfl rfl (take_ofW HT_.out HW_.out (by kernel_rfl)) (fun _ _ _ h => h) (Or.inl ⟨by rfl, ?_⟩) hHeld ?_ ?_
        rotate_left
        ·rintro w' ⟨s0, s1, s2, s3, s4, s5, s6, s7, s8, s9, s10⟩
         go_simp
         with_reducible rfl
        rotate_left
        ·simp only [Act.put, List.setIfInBounds_toArray, List.set_cons_zero, List.set_cons_succ, i64_w, i32_w]
         rfl
        refine one_ (i := 0) (N := some 27) #[true, true, false, true, false, false, false, false, false, false] rfl rfl (one_of HT_.out (by kernel_rfl)) (by decide) (fun K hK => ?_)
        refine Kd.R_lit_step k26 _ 26 ?hg (N := 27) ?hd (xs := ([] : List (S26))) (inner := []) (ok := fun _ => True) (okp := fun _ => True) ?hr ?hp (fun _ hk => hk) trivial (Below.refl _ _) (Nat.le_refl _) (by simp) ?_; (case hd => rfl); (case hg => rfl); (case hr => first | (go_simp; done) | (go_simp; rfl)); (case hp => exact (Reps.none _ _))
        intro v240 w29 ho30 hb hg_ hnew_
        clear hg_ hnew_
        (first | rw [← Ny239.out] at ho30 | (simp only [Int.reduceToNat] at ho30; rw [← Ny239.out] at ho30))
        have n0_ := Aside0.mk (Kd.R_elder' (by exact rq HO232.out) (Kd.R_base ho30) hb)
        have n1_ := Aside0.mk (Kd.R_elder' (by exact rq HO235.out) (Kd.R_base ho30) hb)
        have n2_ := Aside0.mk (Kd.R_elder' (by exact rq HO238.out) (Kd.R_base ho30) hb)
        have n3_ := Aside0.mk (Kd.R_lower (Kd.R_newB (Kd.R_new' (Kd.R_new' (Kd.R_new' ho30 (Kd.R_lt (by exact rq HO232.out))) (Kd.R_lt (by exact rq HO235.out))) (Kd.R_lt (by exact rq HO238.out))) (g := gb225) (Up.up BK225.out)) (below_size (by exact h1q HB.out GE225.out)))
        have n4_ := Aside0.mk (blk_below (g := gb225) (Up.up BK225.out) hb)
        have n5_ := Aside0.mk (below_step (by exact h1q HB.out GE225.out) hb)
        clear HO232
        clear HO235
        clear HO238
        clear BK225
        clear HB
        have HO232 := n0_
        have HO235 := n1_
        have HO238 := n2_
        have HO241 := n3_
        have BK225 := n4_
        have HB := n5_
        clear n0_ n1_ n2_ n3_ n4_ n5_
        clear hb ho30
        obtain ⟨Ao32, co32, eo32⟩ := Kd.R_slice HO238.out
        (first | subst eo32 | (injection eo32 with f1_ f2_ f3_; have f4_ := f1_.symm; have f5_ := f3_.symm; clear f1_ f2_ f3_; subst f4_; subst f5_))
        refine hK.out _ _ ⟨(blk_cell BK225.out 0).trans rfl, (blk_cell BK225.out 1).trans rfl, (blk_cell BK225.out 2).trans rfl, (blk_cell BK225.out 3).trans rfl, (blk_cell BK225.out 4).trans rfl, (blk_cell BK225.out 5).trans rfl, (blk_cell BK225.out 6).trans rfl, (blk_cell BK225.out 7).trans rfl, (blk_cell BK225.out 8).trans rfl, (blk_cell BK225.out 9).trans rfl, (blk_cell BK225.out 10).trans rfl⟩ (fun hHeld => ?_)
        clear hK K
        refine norm_ (a' := ?_) ?_ ?_
        rotate_left
        ·show Act.put _ (some 27) _ = _
         simp only [Act.put, List.setIfInBounds_toArray, List.set_cons_zero, List.set_cons_succ, i64_w, i32_w]
         rfl
        refine one_ (i := 2) (N := some 29) #[true, true, true, true, false, false, false, false, false, false] rfl rfl (one_of HT_.out (by kernel_rfl)) (by decide) (fun K hK => ?_)
        refine Kd.R_append_rows_step k26 (w0 := w) w.heap.size (by rfl) (.tmp 27) (.tmp 28) 22 26 (.agg #[(.int .i64 0), (.int .i64 0), (.int .u32 0), (.int .i64 0), (.int .i64 0), (.float .f64 0), (.float .f64 0), (.bool false), (.int .i64 0), (.int .i64 0), (.int .i64 0)]) 88 rfl Try.underlying22 info26 rfl (by decide) (by omega) v240 y239 t236 _ _ _ (fun k_ => some k_ ≠ (.slice Ao25 y230.length co25 : Value).ownBlock ∧ some k_ ≠ (v234 : Value).ownBlock ∧ some k_ ≠ (.slice Ao32 t236.length co32 : Value).ownBlock ∧ k_ ≠ gb225) (fun _ => False) rfl rfl ?aO ?aR (fun _ _ h => h) (fun _ h => h.elim) ?aF ?aB ?aS ?aL ?_
        (case aR => repeat (first | exact (Kd.R_reads' HO238.out).2.2 | (with_reducible refine Kd.C_alloc ?_ _) | (with_reducible refine Kd.C_drewN ?_ _) | (with_reducible refine Kd.C_drew ?_)))
        (case aB => exact (by exact h1q HB.out GE225.out))
        (case aF => exact (fun k_ hk => ⟨Kd.fresh' (Kd.R_lt (by exact rq HO232.out)) k_ hk, Kd.fresh' (Kd.R_lt (by exact rq HO235.out)) k_ hk, Kd.fresh' (Kd.R_lt (by exact rq HO238.out)) k_ hk, Kd.freshB (g := gb225) (Up.up BK225.out) k_ hk⟩))
        (case aO => exact (by (with_reducible repeat (first | apply Kd.R_alloc | apply Kd.R_drewN | apply Kd.R_drew)); exact Kd.R_mono HO241.out (fun _ hk => ⟨hk.1.1.1.2, ⟨hk.1.1.2, ⟨hk.1.2, hk.2⟩⟩⟩)))
        (case aS => exact (below_size (by exact h1q HB.out GE225.out)))
        (case aL => have := LMc11.out; omega)
        intro v243 w31 ho hb hg hat
        rw [← Ny242.out] at ho
        have n0_ := Aside0.mk (blk_grown (g := gb225) (Up.up BK225.out) hg (Kd.R_away HO241.out (fun _ hk => hk.2)))
        have n1_ := Aside0.mk (Kd.R_after (ok := (fun k_ => some k_ ≠ (v234 : Value).ownBlock ∧ some k_ ≠ (.slice Ao32 t236.length co32 : Value).ownBlock ∧ k_ ≠ gb225)) (by (with_reducible repeat (first | apply Kd.R_alloc | apply Kd.R_drewN | apply Kd.R_drew)); exact Kd.R_mono HO232.out (fun _ hk => ⟨⟨hk.1.1.2, ⟨hk.1.2, hk.1.1.1⟩⟩, hk.2⟩)) hg hat)
        have n2_ := Aside0.mk (Kd.R_after (ok := (fun k_ => some k_ ≠ (.slice Ao25 y230.length co25 : Value).ownBlock ∧ some k_ ≠ (.slice Ao32 t236.length co32 : Value).ownBlock ∧ k_ ≠ gb225)) (by (with_reducible repeat (first | apply Kd.R_alloc | apply Kd.R_drewN | apply Kd.R_drew)); exact Kd.R_mono HO235.out (fun _ hk => ⟨⟨hk.1.1.1.2, ⟨hk.1.2, hk.1.1.2⟩⟩, hk.2⟩)) hg hat)
        have n3_ := Aside0.mk (Kd.R_after (ok := (fun k_ => some k_ ≠ (.slice Ao25 y230.length co25 : Value).ownBlock ∧ some k_ ≠ (v234 : Value).ownBlock ∧ k_ ≠ gb225)) (by (with_reducible repeat (first | apply Kd.R_alloc | apply Kd.R_drewN | apply Kd.R_drew)); exact Kd.R_mono HO238.out (fun _ hk => ⟨⟨hk.1.1.1.2, ⟨hk.1.1.2, hk.1.2⟩⟩, hk.2⟩)) hg hat)
        have n4_ := Aside0.mk (hb)
        have n5_ := Aside0.mk (ho)
        clear BK225
        clear HO232
        clear HO235
        clear HO238
        clear HB
        clear HO241
        have BK225 := n0_
        have HO232 := n1_
        have HO235 := n2_
        have HO238 := n3_
        have HB := n4_
        have HO244 := n5_
        clear n0_ n1_ n2_ n3_ n4_ n5_
        clear ho hb hg hat
        obtain ⟨Ao33, co33, eo33⟩ := Kd.R_slice HO244.out
        (first | subst eo33 | (injection eo33 with f1_ f2_ f3_; have f4_ := f1_.symm; have f5_ := f3_.symm; clear f1_ f2_ f3_; subst f4_; subst f5_))
        refine hK.out _ _ ⟨(blk_cell BK225.out 0).trans rfl, (blk_cell BK225.out 1).trans rfl, (blk_cell BK225.out 2).trans rfl, (blk_cell BK225.out 3).trans rfl, (blk_cell BK225.out 4).trans rfl, (blk_cell BK225.out 5).trans rfl, (blk_cell BK225.out 6).trans rfl, (blk_cell BK225.out 7).trans rfl, (blk_cell BK225.out 8).trans rfl, (blk_cell BK225.out 9).trans rfl, (blk_cell BK225.out 10).trans rfl⟩ (fun hHeld => ?_)
        clear hK K
        refine norm_ (a' := ?_) ?_ ?_
        rotate_left
        ·show Act.put _ (some 29) _ = _
         simp only [Act.put, List.setIfInBounds_toArray, List.set_cons_zero, List.set_cons_succ, i64_w, i32_w]
         rfl
        refine one_ (i := 4) (N := some 31) #[true, true, true, true, true, false, false, false, false, false] rfl rfl (one_of HT_.out (by kernel_rfl)) (by decide) (fun K hK => ?_)
        refine goes_ Try.func9 (by kernel_rfl) rfl #[.slice Ao33 y242.length co33, .agg #[.int .i64 a1_0, .int .i64 a1_1, .int .u32 a1_2, .int .i64 a1_3, .int .i64 a1_4, .float .f64 a1_5, .float .f64 a1_6, .bool a1_7, .int .i64 a1_8, .int .i64 a1_9, .int .i64 a1_10]] (by rfl) rfl rfl (by (try simp only [List.map_toArray, List.map_cons, List.map_nil]); first | done | rfl | (simp only [List.length_drop, List.length_take]; rfl)) ?_
        with_reducible refine (order_Put.calls k _ _ y242 a1_0 a1_1 a1_2 a1_3 a1_4 a1_5 a1_6 a1_7 a1_8 a1_9 a1_10 t245 t248 _ ?side1 ?side2 A12.out).mono ?_
        (case side1 => repeat (first | exact (Kd.R_reads' HO244.out).2.2 | (with_reducible refine Kd.C_alloc ?_ _) | (with_reducible refine Kd.C_drewN ?_ _) | (with_reducible refine Kd.C_drew ?_)))
        (case side2 => exact (Kd.R_reads' HO244.out).2.1)
        rintro e w34 ⟨v246, rfl, ho0, hb⟩
        refine ⟨_, rfl, ?_⟩
        have n0_ := Aside0.mk (Kd.R_elder' (by exact rq HO232.out) (Kd.R_base ho0) hb)
        have n1_ := Aside0.mk (Kd.R_elder' (by exact rq HO235.out) (Kd.R_base ho0) hb)
        have n2_ := Aside0.mk (Kd.R_elder' (by exact rq HO238.out) (Kd.R_base ho0) hb)
        have n3_ := Aside0.mk (Kd.R_elder' (by exact rq HO244.out) (Kd.R_base ho0) hb)
        have n4_ := Aside0.mk (Kd.R_lower (Kd.R_newB (Kd.R_new' (Kd.R_new' (Kd.R_new' (Kd.R_new' ho0 (Kd.R_lt (by exact rq HO232.out))) (Kd.R_lt (by exact rq HO235.out))) (Kd.R_lt (by exact rq HO238.out))) (Kd.R_lt (by exact rq HO244.out))) (g := gb225) (Up.up BK225.out)) (below_size (by exact h1q HB.out GE225.out)))
        have n5_ := Aside0.mk (blk_below (g := gb225) (Up.up BK225.out) hb)
        have n6_ := Aside0.mk (below_step (by exact h1q HB.out GE225.out) hb)
        clear HO232
        clear HO235
        clear HO238
        clear HO244
        clear BK225
        clear HB
        have HO232 := n0_
        have HO235 := n1_
        have HO238 := n2_
        have HO244 := n3_
        have HO247 := n4_
        have BK225 := n5_
        have HB := n6_
        clear n0_ n1_ n2_ n3_ n4_ n5_ n6_
        (try clear hb)
        (try clear hb2)
        (try clear hk)
        (try clear hi)
        (try clear ho0)
        refine hK.out _ _ ⟨(blk_cell BK225.out 0).trans rfl, (blk_cell BK225.out 1).trans rfl, (blk_cell BK225.out 2).trans rfl, (blk_cell BK225.out 3).trans rfl, (blk_cell BK225.out 4).trans rfl, (blk_cell BK225.out 5).trans rfl, (blk_cell BK225.out 6).trans rfl, (blk_cell BK225.out 7).trans rfl, (blk_cell BK225.out 8).trans rfl, (blk_cell BK225.out 9).trans rfl, (blk_cell BK225.out 10).trans rfl⟩ (fun hHeld => ?_)
        clear hK K
        refine norm_ (a' := ?_) ?_ ?_
        rotate_left
        ·show Act.put _ (some 31) _ = _
         simp only [Act.put, List.setIfInBounds_toArray, List.set_cons_zero, List.set_cons_succ, i64_w, i32_w]
         rfl
        refine pure_ (i := 5) (N := some 26) (v := ?_) (a' := ?_) #[true, true, true, true, true, true, false, false, false, false] rfl rfl (any_of HT_.out (by kernel_rfl)) (fun _ _ _ h => h) (Or.inl ⟨by rfl, ?_⟩) ?_ ?_
        rotate_left
        ·intro w'
         go_simp
         with_reducible rfl
        rotate_left
        ·simp only [Act.put, List.setIfInBounds_toArray, List.set_cons_zero, List.set_cons_succ, i64_w, i32_w]
         rfl
        refine pure_ (i := 6) (N := some 32) (v := ?_) (a' := ?_) #[true, true, true, true, true, true, true, false, false, false] rfl rfl (any_of HT_.out (by kernel_rfl)) (fun _ _ _ h => h) (Or.inl ⟨by rfl, ?_⟩) ?_ ?_
        rotate_left
        ·intro w'
         go_simp
         with_reducible rfl
        rotate_left
        ·simp only [Act.put, List.setIfInBounds_toArray, List.set_cons_zero, List.set_cons_succ, i64_w, i32_w]
         rfl
        refine pure_ (i := 7) (N := some 33) (v := ?_) (a' := ?_) #[true, true, true, true, true, true, true, true, false, false] rfl rfl (any_of HT_.out (by kernel_rfl)) (fun _ _ _ h => h) (Or.inl ⟨by rfl, ?_⟩) ?_ ?_
        rotate_left
        ·intro w'
         go_simp
         with_reducible rfl
        rotate_left
        ·simp only [Act.put, List.setIfInBounds_toArray, List.set_cons_zero, List.set_cons_succ, i64_w, i32_w]
         rfl
        refine pure_ (i := 8) (N := some 10) (v := ?_) (a' := ?_) #[true, true, true, true, true, true, true, true, true, false] rfl rfl (any_of HT_.out (by kernel_rfl)) (fun _ _ _ h => h) (Or.inl ⟨by rfl, ?_⟩) ?_ ?_
        rotate_left
        ·intro w'
         go_simp
         with_reducible rfl
        rotate_left
        ·simp only [Act.put, List.setIfInBounds_toArray, List.set_cons_zero, List.set_cons_succ, i64_w, i32_w]
         rfl
        refine pure_ (i := 9) (N := some 11) (v := ?_) (a' := ?_) #[true, true, true, true, true, true, true, true, true, true] rfl rfl (any_of HT_.out (by kernel_rfl)) (fun _ _ _ h => h) (Or.inl ⟨by rfl, ?_⟩) ?_ ?_
        rotate_left
        ·intro w'
         go_simp
         with_reducible rfl
        rotate_left
        ·simp only [Act.put, List.setIfInBounds_toArray, List.set_cons_zero, List.set_cons_succ, i64_w, i32_w]
         rfl
        refine done_ (done_of HT_.out (by kernel_rfl)) ?_
        have hcz35_0 : w34.cell? ⟨gb225, 0, none⟩ = some (.int .i64 a1_0) := (blk_cell BK225.out 0).trans rfl
        have hcz35_1 : w34.cell? ⟨gb225, 1, none⟩ = some (.int .i64 a1_1) := (blk_cell BK225.out 1).trans rfl
        have hcz35_2 : w34.cell? ⟨gb225, 2, none⟩ = some (.int .u32 a1_2) := (blk_cell BK225.out 2).trans rfl
        have hcz35_3 : w34.cell? ⟨gb225, 3, none⟩ = some (.int .i64 a1_3) := (blk_cell BK225.out 3).trans rfl
        have hcz35_4 : w34.cell? ⟨gb225, 4, none⟩ = some (.int .i64 a1_4) := (blk_cell BK225.out 4).trans rfl
        have hcz35_5 : w34.cell? ⟨gb225, 5, none⟩ = some (.float .f64 a1_5) := (blk_cell BK225.out 5).trans rfl
        have hcz35_6 : w34.cell? ⟨gb225, 6, none⟩ = some (.float .f64 a1_6) := (blk_cell BK225.out 6).trans rfl
        have hcz35_7 : w34.cell? ⟨gb225, 7, none⟩ = some (.bool a1_7) := (blk_cell BK225.out 7).trans rfl
        have hcz35_8 : w34.cell? ⟨gb225, 8, none⟩ = some (.int .i64 a1_8) := (blk_cell BK225.out 8).trans rfl
        have hcz35_9 : w34.cell? ⟨gb225, 9, none⟩ = some (.int .i64 a1_9) := (blk_cell BK225.out 9).trans rfl
        have hcz35_10 : w34.cell? ⟨gb225, 10, none⟩ = some (.int .i64 a1_10) := (blk_cell BK225.out 10).trans rfl
        have hfz35_0 := blk_frozen BK225.out 0
        have hfz35_1 := blk_frozen BK225.out 1
        have hfz35_2 := blk_frozen BK225.out 2
        have hfz35_3 := blk_frozen BK225.out 3
        have hfz35_4 := blk_frozen BK225.out 4
        have hfz35_5 := blk_frozen BK225.out 5
        have hfz35_6 := blk_frozen BK225.out 6
        have hfz35_7 := blk_frozen BK225.out 7
        have hfz35_8 := blk_frozen BK225.out 8
        have hfz35_9 := blk_frozen BK225.out 9
        have hfz35_10 := blk_frozen BK225.out 10
        try go_wp2_with (first | ((with_reducible refine gate_callee (f := 10) rfl ?_); refine goesL_ (some 37) rfl rfl Try.func10 (by kernel_rfl) rfl #[.slice Ao32 t236.length co32, .agg #[.int .i64 a1_0, .int .i64 a1_1, .int .u32 a1_2, .int .i64 a1_3, .int .i64 a1_4, .float .f64 a1_5, .float .f64 a1_6, .bool a1_7, .int .i64 a1_8, .int .i64 a1_9, .int .i64 a1_10]] rfl (by (try simp only [List.map_toArray, List.map_cons, List.map_nil]); first | done | rfl | (simp only [List.length_drop, List.length_take]; rfl)) ?_; (with_reducible refine (annuityref23_Put.calls k _ _ t236 a1_0 a1_1 a1_2 a1_3 a1_4 a1_5 a1_6 a1_7 a1_8 a1_9 a1_10 t249 t252 _ ?side1 ?side2 A13.out).mono ?_); (case side1 => repeat (first | exact (Kd.R_reads' HO238.out).2.2 | (with_reducible refine Kd.C_alloc ?_ _) | (with_reducible refine Kd.C_drewN ?_ _) | (with_reducible refine Kd.C_drew ?_))); (case side2 => exact (Kd.R_reads' HO238.out).2.1); rintro e w36 ⟨v250, rfl, ho0, hb⟩; refine ⟨_, rfl, ?_⟩; have n0_ := Aside0.mk (Kd.R_elder' (by exact rq HO232.out) (Kd.R_base ho0) hb); have n1_ := Aside0.mk (Kd.R_elder' (by exact rq HO235.out) (Kd.R_base ho0) hb); have n2_ := Aside0.mk (Kd.R_elder' (by exact rq HO238.out) (Kd.R_base ho0) hb); have n3_ := Aside0.mk (Kd.R_elder' (by exact rq HO244.out) (Kd.R_base ho0) hb); have n4_ := Aside0.mk (Kd.R_elder' (by exact rq HO247.out) (Kd.R_base ho0) hb); have n5_ := Aside0.mk (Kd.R_lower (Kd.R_newB (Kd.R_new' (Kd.R_new' (Kd.R_new' (Kd.R_new' (Kd.R_new' ho0 (Kd.R_lt (by exact rq HO232.out))) (Kd.R_lt (by exact rq HO235.out))) (Kd.R_lt (by exact rq HO238.out))) (Kd.R_lt (by exact rq HO244.out))) (Kd.R_lt (by exact rq HO247.out))) (g := gb225) (Up.up BK225.out)) (below_size (by exact h1q HB.out GE225.out))); have n6_ := Aside0.mk (blk_below (g := gb225) (Up.up BK225.out) hb); have n7_ := Aside0.mk (below_step (by exact h1q HB.out GE225.out) hb); clear HO232; clear HO235; clear HO238; clear HO244; clear HO247; clear BK225; clear HB; have HO232 := n0_; have HO235 := n1_; have HO238 := n2_; have HO244 := n3_; have HO247 := n4_; have HO251 := n5_; have BK225 := n6_; have HB := n7_; clear n0_ n1_ n2_ n3_ n4_ n5_ n6_ n7_; (try clear hb); (try clear hb2); (try clear hk); (try clear hi); (try clear ho0); obtain ⟨Ao37, co37, eo37⟩ := Kd.R_slice HO235.out; subst eo37) | ((with_reducible refine gate_callee (f := 11) rfl ?_); refine goesL_ (some 42) rfl rfl Try.func11 (by kernel_rfl) rfl #[.slice Ao37 t233.length co37, .slice Ao32 t236.length co32] rfl (by (try simp only [List.map_toArray, List.map_cons, List.map_nil]); first | done | rfl | (simp only [List.length_drop, List.length_take]; rfl)) ?_; (with_reducible refine (annuitykeep_Events.calls k _ _ t233 _ _ t236 true _ ?side1 ?side2 ?side3 ?side4 A14.out).mono ?_); (case side1 => repeat (first | exact (Kd.R_reads' HO235.out).2.2 | (with_reducible refine Kd.C_alloc ?_ _) | (with_reducible refine Kd.C_drewN ?_ _) | (with_reducible refine Kd.C_drew ?_))); (case side2 => exact (Kd.R_reads' HO235.out).2.1); (case side3 => repeat (first | exact (Kd.R_reads' HO238.out).2.2 | (with_reducible refine Kd.C_alloc ?_ _) | (with_reducible refine Kd.C_drewN ?_ _) | (with_reducible refine Kd.C_drew ?_))); (case side4 => exact (Kd.R_reads' HO238.out).2.1); rintro e w38 ⟨rfl, hb⟩; refine ⟨_, rfl, ?_⟩; have n0_ := Aside0.mk (Kd.R_below (by exact rq HO232.out) hb); have n1_ := Aside0.mk (Kd.R_below (by exact rq HO235.out) hb); have n2_ := Aside0.mk (Kd.R_below (by exact rq HO238.out) hb); have n3_ := Aside0.mk (Kd.R_below (by exact rq HO244.out) hb); have n4_ := Aside0.mk (Kd.R_below (by exact rq HO247.out) hb); have n5_ := Aside0.mk (Kd.R_below (by exact rq HO251.out) hb); have n6_ := Aside0.mk (blk_below (g := gb225) (Up.up BK225.out) hb); have n7_ := Aside0.mk (below_step (by exact h1q HB.out GE225.out) hb); clear HO232; clear HO235; clear HO238; clear HO244; clear HO247; clear HO251; clear BK225; clear HB; have HO232 := n0_; have HO235 := n1_; have HO238 := n2_; have HO244 := n3_; have HO247 := n4_; have HO251 := n5_; have BK225 := n6_; have HB := n7_; clear n0_ n1_ n2_ n3_ n4_ n5_ n6_ n7_; (try clear hb); (try clear hb2); (try clear hk); (try clear hi); obtain ⟨Ao39, co39, eo39⟩ := Kd.R_slice HO247.out; subst eo39; obtain ⟨Ao40, co40, eo40⟩ := Kd.R_slice HO251.out; subst eo40) | (go_at_call 11; (with_reducible refine (annuitykeep_Events.calls k _ _ t245 _ _ t249 true _ ?side1 ?side2 ?side3 ?side4 A16.out).mono ?_); (case side1 => repeat (first | exact (Kd.R_reads' HO247.out).2.2 | (with_reducible refine Kd.C_alloc ?_ _) | (with_reducible refine Kd.C_drewN ?_ _) | (with_reducible refine Kd.C_drew ?_))); (case side2 => exact (Kd.R_reads' HO247.out).2.1); (case side3 => repeat (first | exact (Kd.R_reads' HO251.out).2.2 | (with_reducible refine Kd.C_alloc ?_ _) | (with_reducible refine Kd.C_drewN ?_ _) | (with_reducible refine Kd.C_drew ?_))); (case side4 => exact (Kd.R_reads' HO251.out).2.1); rintro e w41 ⟨rfl, hb⟩; have n0_ := Aside0.mk (Kd.R_below (by exact rq HO232.out) hb); have n1_ := Aside0.mk (Kd.R_below (by exact rq HO235.out) hb); have n2_ := Aside0.mk (Kd.R_below (by exact rq HO238.out) hb); have n3_ := Aside0.mk (Kd.R_below (by exact rq HO244.out) hb); have n4_ := Aside0.mk (Kd.R_below (by exact rq HO247.out) hb); have n5_ := Aside0.mk (Kd.R_below (by exact rq HO251.out) hb); have n6_ := Aside0.mk (blk_below (g := gb225) (Up.up BK225.out) hb); have n7_ := Aside0.mk (below_step (by exact h1q HB.out GE225.out) hb); clear HO232; clear HO235; clear HO238; clear HO244; clear HO247; clear HO251; clear BK225; clear HB; have HO232 := n0_; have HO235 := n1_; have HO238 := n2_; have HO244 := n3_; have HO247 := n4_; have HO251 := n5_; have BK225 := n6_; have HB := n7_; clear n0_ n1_ n2_ n3_ n4_ n5_ n6_ n7_; (try clear hb); (try clear hb2); (try clear hk); (try clear hi)) | (go_at_call 11; (with_reducible refine (annuitykeep_Events.calls k _ _ y230 _ _ l0 true _ ?side1 ?side2 ?side3 ?side4 A19.out).mono ?_); (case side1 => repeat (first | exact (Kd.R_reads' HO232.out).2.2 | (with_reducible refine Kd.C_alloc ?_ _) | (with_reducible refine Kd.C_drewN ?_ _) | (with_reducible refine Kd.C_drew ?_))); (case side2 => exact (Kd.R_reads' HO232.out).2.1); (case side3 => repeat (first | exact (Kd.C_below HR0.out HB.out) | (with_reducible refine Kd.C_alloc ?_ _) | (with_reducible refine Kd.C_drewN ?_ _) | (with_reducible refine Kd.C_drew ?_))); (case side4 => exact HC0.out); rintro e w42 ⟨rfl, hb⟩; have n0_ := Aside0.mk (Kd.R_below (by exact rq HO232.out) hb); have n1_ := Aside0.mk (Kd.R_below (by exact rq HO235.out) hb); have n2_ := Aside0.mk (Kd.R_below (by exact rq HO238.out) hb); have n3_ := Aside0.mk (Kd.R_below (by exact rq HO244.out) hb); have n4_ := Aside0.mk (Kd.R_below (by exact rq HO247.out) hb); have n5_ := Aside0.mk (Kd.R_below (by exact rq HO251.out) hb); have n6_ := Aside0.mk (blk_below (g := gb225) (Up.up BK225.out) hb); have n7_ := Aside0.mk (below_step (by exact h1q HB.out GE225.out) hb); clear HO232; clear HO235; clear HO238; clear HO244; clear HO247; clear HO251; clear BK225; clear HB; have HO232 := n0_; have HO235 := n1_; have HO238 := n2_; have HO244 := n3_; have HO247 := n4_; have HO251 := n5_; have BK225 := n6_; have HB := n7_; clear n0_ n1_ n2_ n3_ n4_ n5_ n6_ n7_; (try clear hb); (try clear hb2); (try clear hk); (try clear hi)))
        go_loopg [14] k (fun kq v14 w' => ∃ (x14_1 : Int), v14 = .int .i64 x14_1 ∧ Aside0 (annuitylaw23_OrderTells.l0 kq l0 a2 y230 x14_1 a1_0 a1_1 a1_2 a1_3 a1_4 a1_5 a1_6 a1_7 a1_8 a1_9 a1_10 = some r) ∧ Aside0 (kq ≤ k) ∧ Aside0 (Kd.R k26 26 w' w.heap.size (fun k_ => k_ ≠ gb225) (.slice Ao25 y230.length co25) y230) ∧ Aside0 (w'.heap[gb225]? = some (.cells #[.int .i64 a1_0, .int .i64 a1_1, .int .u32 a1_2, .int .i64 a1_3, .int .i64 a1_4, .float .f64 a1_5, .float .f64 a1_6, .bool a1_7, .int .i64 a1_8, .int .i64 a1_9, .int .i64 a1_10] 26 (0, 0))) ∧ Aside0 (Below w.heap.size w w'))
        case atStart => exact ⟨(0), (by first | rfl | (simp; done) | (simp [*]; done)), H', ⟨Nat.le_refl _⟩, ⟨by (with_reducible repeat (first | apply Kd.R_alloc | apply Kd.R_drewN | apply Kd.R_drew)); exact Kd.R_mono HO232.out (fun _ hk => hk.1.1.1.2.2)⟩, ⟨by exact bb BK225.out⟩, ⟨by exact h1q HB.out GE225.out⟩⟩
        case round =>
         clear H'
         try clear c4
         try clear c4b0 c4b1
         try clear c8
         try clear c11
         try clear c15
         try clear c17
         try clear c18
         try clear c18b0 c18b1
         try clear c20
         try clear hcz35_0
         try clear hcz35_1
         try clear hcz35_10
         try clear hcz35_2
         try clear hcz35_3
         try clear hcz35_4
         try clear hcz35_5
         try clear hcz35_6
         try clear hcz35_7
         try clear hcz35_8
         try clear hcz35_9
         try clear hfz35_0
         try clear hfz35_1
         try clear hfz35_10
         try clear hfz35_2
         try clear hfz35_3
         try clear hfz35_4
         try clear hfz35_5
         try clear hfz35_6
         try clear hfz35_7
         try clear hfz35_8
         try clear hfz35_9
         obtain ⟨x14_1, rfl, HA, HK1, HO_7, BK225, HB⟩ := hrel
         rcases gk with _ | k1
         ·exact absurd HA.out (by simp [annuitylaw23_OrderTells.l0])
         have H := HA.out
         clear HA
         simp only [annuitylaw23_OrderTells.l0] at H
         by_cases c43 : x14_1 < (l0.length : Int)
         ·rw [if_pos c43] at H
          have c43b0 : decide (x14_1 < (l0.length : Int)) = true := decide_eq_true c43
          clear c43
          by_cases c44 : 0 ≤ x14_1
          ·rw [if_pos c44] at H
           have c44b0 : decide (0 ≤ x14_1) = true := decide_eq_true c44
           clear c44
           replace H := Option.bind_eq_some_iff.mp H
           obtain ⟨t257, A450, H⟩ := H
           replace H : ((annuityref23_Compare.f k1 ((rd_T26 l0 x14_1).f0) ((rd_T26 l0 x14_1).f1) ((rd_T26 l0 x14_1).f2) ((rd_T26 l0 x14_1).f3) ((rd_T26 l0 x14_1).f4) ((rd_T26 l0 x14_1).f5) ((rd_T26 l0 x14_1).f6) ((rd_T26 l0 x14_1).f7) ((rd_T26 l0 x14_1).f8) ((rd_T26 l0 x14_1).f9) ((rd_T26 l0 x14_1).f10) a1_0 a1_1 a1_2 a1_3 a1_4 a1_5 a1_6 a1_7 a1_8 a1_9 a1_10).bind fun t259 => (if t257 = t259 then ((order_Compare.f k1 a1_0 a1_1 a1_2 a1_3 a1_4 a1_5 a1_6 a1_7 a1_8 a1_9 a1_10 ((rd_T26 l0 x14_1).f0) ((rd_T26 l0 x14_1).f1) ((rd_T26 l0 x14_1).f2) ((rd_T26 l0 x14_1).f3) ((rd_T26 l0 x14_1).f4) ((rd_T26 l0 x14_1).f5) ((rd_T26 l0 x14_1).f6) ((rd_T26 l0 x14_1).f7) ((rd_T26 l0 x14_1).f8) ((rd_T26 l0 x14_1).f9) ((rd_T26 l0 x14_1).f10)).bind fun t261 => ((annuityref23_Compare.f k1 a1_0 a1_1 a1_2 a1_3 a1_4 a1_5 a1_6 a1_7 a1_8 a1_9 a1_10 ((rd_T26 l0 x14_1).f0) ((rd_T26 l0 x14_1).f1) ((rd_T26 l0 x14_1).f2) ((rd_T26 l0 x14_1).f3) ((rd_T26 l0 x14_1).f4) ((rd_T26 l0 x14_1).f5) ((rd_T26 l0 x14_1).f6) ((rd_T26 l0 x14_1).f7) ((rd_T26 l0 x14_1).f8) ((rd_T26 l0 x14_1).f9) ((rd_T26 l0 x14_1).f10)).bind fun t263 => (if t261 = t263 then (annuitylaw23_OrderTells.l0 k1 l0 a2 y230 (wrap64 (x14_1 + 1)) a1_0 a1_1 a1_2 a1_3 a1_4 a1_5 a1_6 a1_7 a1_8 a1_9 a1_10) else (none)))) else (none))) = some r := H
           have A45 := Aside0.mk A450
           clear A450
           replace H := Option.bind_eq_some_iff.mp H
           obtain ⟨t259, A460, H⟩ := H
           replace H : (if t257 = t259 then ((order_Compare.f k1 a1_0 a1_1 a1_2 a1_3 a1_4 a1_5 a1_6 a1_7 a1_8 a1_9 a1_10 ((rd_T26 l0 x14_1).f0) ((rd_T26 l0 x14_1).f1) ((rd_T26 l0 x14_1).f2) ((rd_T26 l0 x14_1).f3) ((rd_T26 l0 x14_1).f4) ((rd_T26 l0 x14_1).f5) ((rd_T26 l0 x14_1).f6) ((rd_T26 l0 x14_1).f7) ((rd_T26 l0 x14_1).f8) ((rd_T26 l0 x14_1).f9) ((rd_T26 l0 x14_1).f10)).bind fun t261 => ((annuityref23_Compare.f k1 a1_0 a1_1 a1_2 a1_3 a1_4 a1_5 a1_6 a1_7 a1_8 a1_9 a1_10 ((rd_T26 l0 x14_1).f0) ((rd_T26 l0 x14_1).f1) ((rd_T26 l0 x14_1).f2) ((rd_T26 l0 x14_1).f3) ((rd_T26 l0 x14_1).f4) ((rd_T26 l0 x14_1).f5) ((rd_T26 l0 x14_1).f6) ((rd_T26 l0 x14_1).f7) ((rd_T26 l0 x14_1).f8) ((rd_T26 l0 x14_1).f9) ((rd_T26 l0 x14_1).f10)).bind fun t263 => (if t261 = t263 then (annuitylaw23_OrderTells.l0 k1 l0 a2 y230 (wrap64 (x14_1 + 1)) a1_0 a1_1 a1_2 a1_3 a1_4 a1_5 a1_6 a1_7 a1_8 a1_9 a1_10) else (none)))) else (none)) = some r := H
           have A46 := Aside0.mk A460
           clear A460
           by_cases c47 : t257 = t259
           ·rw [if_pos c47] at H
            have c47b0 : (t257 == t259) = true := beq_iff_eq.mpr c47
            have c47b1 : (t257 != t259) = false := bne_eq_false_iff_eq.mpr c47
            clear c47
            replace H := Option.bind_eq_some_iff.mp H
            obtain ⟨t261, A480, H⟩ := H
            replace H : ((annuityref23_Compare.f k1 a1_0 a1_1 a1_2 a1_3 a1_4 a1_5 a1_6 a1_7 a1_8 a1_9 a1_10 ((rd_T26 l0 x14_1).f0) ((rd_T26 l0 x14_1).f1) ((rd_T26 l0 x14_1).f2) ((rd_T26 l0 x14_1).f3) ((rd_T26 l0 x14_1).f4) ((rd_T26 l0 x14_1).f5) ((rd_T26 l0 x14_1).f6) ((rd_T26 l0 x14_1).f7) ((rd_T26 l0 x14_1).f8) ((rd_T26 l0 x14_1).f9) ((rd_T26 l0 x14_1).f10)).bind fun t263 => (if t261 = t263 then (annuitylaw23_OrderTells.l0 k1 l0 a2 y230 (wrap64 (x14_1 + 1)) a1_0 a1_1 a1_2 a1_3 a1_4 a1_5 a1_6 a1_7 a1_8 a1_9 a1_10) else (none))) = some r := H
            have A48 := Aside0.mk A480
            clear A480
            replace H := Option.bind_eq_some_iff.mp H
            obtain ⟨t263, A490, H⟩ := H
            replace H : (if t261 = t263 then (annuitylaw23_OrderTells.l0 k1 l0 a2 y230 (wrap64 (x14_1 + 1)) a1_0 a1_1 a1_2 a1_3 a1_4 a1_5 a1_6 a1_7 a1_8 a1_9 a1_10) else (none)) = some r := H
            have A49 := Aside0.mk A490
            clear A490
            by_cases c50 : t261 = t263
            ·rw [if_pos c50] at H
             have c50b0 : (t261 == t263) = true := beq_iff_eq.mpr c50
             have c50b1 : (t261 != t263) = false := bne_eq_false_iff_eq.mpr c50
             clear c50
             have H' := Aside0.mk H
             clear H
             try go_wp2
             have n0_ := Aside0.mk (Kd.R_drew HO_7.out)
             have n1_ := Aside0.mk (blk_drew BK225.out)
             have n2_ := Aside0.mk (below_drew1 HB.out)
             clear HO_7
             clear BK225
             clear HB
             have HO_7 := n0_
             have BK225 := n1_
             have HB := n2_
             clear n0_ n1_ n2_
             have p256 : 0 ≤ (x14_1 : Int) := yd
             have q256 : x14_1 < (l0.length : Int) := yd
             obtain ⟨ad256, e256, hx256_0, hx256_1, hx256_2, hx256_3, hx256_4, hx256_5, hx256_6, hx256_7, hx256_8, hx256_9, hx256_10⟩ := at_T26 HR0.out x14_1 p256 q256
             have hw256_10 := hx256_10
             have hw256_9 := hx256_9
             have hw256_8 := hx256_8
             have hw256_7 := hx256_7
             have hw256_6 := hx256_6
             have hw256_5 := hx256_5
             have hw256_4 := hx256_4
             have hw256_3 := hx256_3
             have hw256_2 := hx256_2
             have hw256_1 := hx256_1
             have hw256_0 := hx256_0
             cases e256
             replace hx256_0 := hxb HB.out hx256_0
             replace hx256_1 := hxb HB.out hx256_1
             replace hx256_2 := hxb HB.out hx256_2
             replace hx256_3 := hxb HB.out hx256_3
             replace hx256_4 := hxb HB.out hx256_4
             replace hx256_5 := hxb HB.out hx256_5
             replace hx256_6 := hxb HB.out hx256_6
             replace hx256_7 := hxb HB.out hx256_7
             replace hx256_8 := hxb HB.out hx256_8
             replace hx256_9 := hxb HB.out hx256_9
             replace hx256_10 := hxb HB.out hx256_10
             replace p256 := eq_true p256
             replace q256 := eq_true q256
             have p258 : 0 ≤ (x14_1 : Int) := yd
             have q258 : x14_1 < (l0.length : Int) := yd
             obtain ⟨ad258, e258, hx258_0, hx258_1, hx258_2, hx258_3, hx258_4, hx258_5, hx258_6, hx258_7, hx258_8, hx258_9, hx258_10⟩ := at_T26 HR0.out x14_1 p258 q258
             have hw258_10 := hx258_10
             have hw258_9 := hx258_9
             have hw258_8 := hx258_8
             have hw258_7 := hx258_7
             have hw258_6 := hx258_6
             have hw258_5 := hx258_5
             have hw258_4 := hx258_4
             have hw258_3 := hx258_3
             have hw258_2 := hx258_2
             have hw258_1 := hx258_1
             have hw258_0 := hx258_0
             obtain rfl : ad256 = ad258 := (by injection e258)
             replace hx258_0 := hxb HB.out hx258_0
             replace hx258_1 := hxb HB.out hx258_1
             replace hx258_2 := hxb HB.out hx258_2
             replace hx258_3 := hxb HB.out hx258_3
             replace hx258_4 := hxb HB.out hx258_4
             replace hx258_5 := hxb HB.out hx258_5
             replace hx258_6 := hxb HB.out hx258_6
             replace hx258_7 := hxb HB.out hx258_7
             replace hx258_8 := hxb HB.out hx258_8
             replace hx258_9 := hxb HB.out hx258_9
             replace hx258_10 := hxb HB.out hx258_10
             replace p258 := eq_true p258
             replace q258 := eq_true q258
             have p260 : 0 ≤ (x14_1 : Int) := yd
             have q260 : x14_1 < (l0.length : Int) := yd
             obtain ⟨ad260, e260, hx260_0, hx260_1, hx260_2, hx260_3, hx260_4, hx260_5, hx260_6, hx260_7, hx260_8, hx260_9, hx260_10⟩ := at_T26 HR0.out x14_1 p260 q260
             have hw260_10 := hx260_10
             have hw260_9 := hx260_9
             have hw260_8 := hx260_8
             have hw260_7 := hx260_7
             have hw260_6 := hx260_6
             have hw260_5 := hx260_5
             have hw260_4 := hx260_4
             have hw260_3 := hx260_3
             have hw260_2 := hx260_2
             have hw260_1 := hx260_1
             have hw260_0 := hx260_0
             obtain rfl : ad256 = ad260 := (by injection e260)
             replace hx260_0 := hxb HB.out hx260_0
             replace hx260_1 := hxb HB.out hx260_1
             replace hx260_2 := hxb HB.out hx260_2
             replace hx260_3 := hxb HB.out hx260_3
             replace hx260_4 := hxb HB.out hx260_4
             replace hx260_5 := hxb HB.out hx260_5
             replace hx260_6 := hxb HB.out hx260_6
             replace hx260_7 := hxb HB.out hx260_7
             replace hx260_8 := hxb HB.out hx260_8
             replace hx260_9 := hxb HB.out hx260_9
             replace hx260_10 := hxb HB.out hx260_10
             replace p260 := eq_true p260
             replace q260 := eq_true q260
             have p262 : 0 ≤ (x14_1 : Int) := yd
             have q262 : x14_1 < (l0.length : Int) := yd
             obtain ⟨ad262, e262, hx262_0, hx262_1, hx262_2, hx262_3, hx262_4, hx262_5, hx262_6, hx262_7, hx262_8, hx262_9, hx262_10⟩ := at_T26 HR0.out x14_1 p262 q262
             have hw262_10 := hx262_10
             have hw262_9 := hx262_9
             have hw262_8 := hx262_8
             have hw262_7 := hx262_7
             have hw262_6 := hx262_6
             have hw262_5 := hx262_5
             have hw262_4 := hx262_4
             have hw262_3 := hx262_3
             have hw262_2 := hx262_2
             have hw262_1 := hx262_1
             have hw262_0 := hx262_0
             obtain rfl : ad256 = ad262 := (by injection e262)
             replace hx262_0 := hxb HB.out hx262_0
             replace hx262_1 := hxb HB.out hx262_1
             replace hx262_2 := hxb HB.out hx262_2
             replace hx262_3 := hxb HB.out hx262_3
             replace hx262_4 := hxb HB.out hx262_4
             replace hx262_5 := hxb HB.out hx262_5
             replace hx262_6 := hxb HB.out hx262_6
             replace hx262_7 := hxb HB.out hx262_7
             replace hx262_8 := hxb HB.out hx262_8
             replace hx262_9 := hxb HB.out hx262_9
             replace hx262_10 := hxb HB.out hx262_10
             replace p262 := eq_true p262
             replace q262 := eq_true q262
             refine start_ (n := 28) (S := fun w' => w'.cell? ⟨gb225, 0, none⟩ = some (.int .i64 a1_0) ∧ w'.cell? ⟨gb225, 1, none⟩ = some (.int .i64 a1_1) ∧ w'.cell? ⟨gb225, 2, none⟩ = some (.int .u32 a1_2) ∧ w'.cell? ⟨gb225, 3, none⟩ = some (.int .i64 a1_3) ∧ w'.cell? ⟨gb225, 4, none⟩ = some (.int .i64 a1_4) ∧ w'.cell? ⟨gb225, 5, none⟩ = some (.float .f64 a1_5) ∧ w'.cell? ⟨gb225, 6, none⟩ = some (.float .f64 a1_6) ∧ w'.cell? ⟨gb225, 7, none⟩ = some (.bool a1_7) ∧ w'.cell? ⟨gb225, 8, none⟩ = some (.int .i64 a1_8) ∧ w'.cell? ⟨gb225, 9, none⟩ = some (.int .i64 a1_9) ∧ w'.cell? ⟨gb225, 10, none⟩ = some (.int .i64 a1_10) ∧ w'.cell? (ad256.add ((x14_1).toNat * 11)) = some (.int .i64 ((rd_T26 l0 x14_1).f0)) ∧ w'.cell? ⟨(ad256.add ((x14_1).toNat * 11)).block, (ad256.add ((x14_1).toNat * 11)).off + 1, none⟩ = some (.int .i64 ((rd_T26 l0 x14_1).f1)) ∧ w'.cell? ⟨(ad256.add ((x14_1).toNat * 11)).block, (ad256.add ((x14_1).toNat * 11)).off + 2, none⟩ = some (.int .u32 ((rd_T26 l0 x14_1).f2)) ∧ w'.cell? ⟨(ad256.add ((x14_1).toNat * 11)).block, (ad256.add ((x14_1).toNat * 11)).off + 3, none⟩ = some (.int .i64 ((rd_T26 l0 x14_1).f3)) ∧ w'.cell? ⟨(ad256.add ((x14_1).toNat * 11)).block, (ad256.add ((x14_1).toNat * 11)).off + 4, none⟩ = some (.int .i64 ((rd_T26 l0 x14_1).f4)) ∧ w'.cell? ⟨(ad256.add ((x14_1).toNat * 11)).block, (ad256.add ((x14_1).toNat * 11)).off + 5, none⟩ = some (.float .f64 ((rd_T26 l0 x14_1).f5)) ∧ w'.cell? ⟨(ad256.add ((x14_1).toNat * 11)).block, (ad256.add ((x14_1).toNat * 11)).off + 6, none⟩ = some (.float .f64 ((rd_T26 l0 x14_1).f6)) ∧ w'.cell? ⟨(ad256.add ((x14_1).toNat * 11)).block, (ad256.add ((x14_1).toNat * 11)).off + 7, none⟩ = some (.bool ((rd_T26 l0 x14_1).f7)) ∧ w'.cell? ⟨(ad256.add ((x14_1).toNat * 11)).block, (ad256.add ((x14_1).toNat * 11)).off + 8, none⟩ = some (.int .i64 ((rd_T26 l0 x14_1).f8)) ∧ w'.cell? ⟨(ad256.add ((x14_1).toNat * 11)).block, (ad256.add ((x14_1).toNat * 11)).off + 9, none⟩ = some (.int .i64 ((rd_T26 l0 x14_1).f9)) ∧ w'.cell? ⟨(ad256.add ((x14_1).toNat * 11)).block, (ad256.add ((x14_1).toNat * 11)).off + 10, none⟩ = some (.int .i64 ((rd_T26 l0 x14_1).f10)) ∧ w'.cell? (ad256.add ((x14_1).toNat * 11)) = some (.int .i64 ((rd_T26 l0 x14_1).f0)) ∧ w'.cell? ⟨(ad256.add ((x14_1).toNat * 11)).block, (ad256.add ((x14_1).toNat * 11)).off + 1, none⟩ = some (.int .i64 ((rd_T26 l0 x14_1).f1)) ∧ w'.cell? ⟨(ad256.add ((x14_1).toNat * 11)).block, (ad256.add ((x14_1).toNat * 11)).off + 2, none⟩ = some (.int .u32 ((rd_T26 l0 x14_1).f2)) ∧ w'.cell? ⟨(ad256.add ((x14_1).toNat * 11)).block, (ad256.add ((x14_1).toNat * 11)).off + 3, none⟩ = some (.int .i64 ((rd_T26 l0 x14_1).f3)) ∧ w'.cell? ⟨(ad256.add ((x14_1).toNat * 11)).block, (ad256.add ((x14_1).toNat * 11)).off + 4, none⟩ = some (.int .i64 ((rd_T26 l0 x14_1).f4)) ∧ w'.cell? ⟨(ad256.add ((x14_1).toNat * 11)).block, (ad256.add ((x14_1).toNat * 11)).off + 5, none⟩ = some (.float .f64 ((rd_T26 l0 x14_1).f5)) ∧ w'.cell? ⟨(ad256.add ((x14_1).toNat * 11)).block, (ad256.add ((x14_1).toNat * 11)).off + 6, none⟩ = some (.float .f64 ((rd_T26 l0 x14_1).f6)) ∧ w'.cell? ⟨(ad256.add ((x14_1).toNat * 11)).block, (ad256.add ((x14_1).toNat * 11)).off + 7, none⟩ = some (.bool ((rd_T26 l0 x14_1).f7)) ∧ w'.cell? ⟨(ad256.add ((x14_1).toNat * 11)).block, (ad256.add ((x14_1).toNat * 11)).off + 8, none⟩ = some (.int .i64 ((rd_T26 l0 x14_1).f8)) ∧ w'.cell? ⟨(ad256.add ((x14_1).toNat * 11)).block, (ad256.add ((x14_1).toNat * 11)).off + 9, none⟩ = some (.int .i64 ((rd_T26 l0 x14_1).f9)) ∧ w'.cell? ⟨(ad256.add ((x14_1).toNat * 11)).block, (ad256.add ((x14_1).toNat * 11)).off + 10, none⟩ = some (.int .i64 ((rd_T26 l0 x14_1).f10)) ∧ w'.cell? (ad256.add ((x14_1).toNat * 11)) = some (.int .i64 ((rd_T26 l0 x14_1).f0)) ∧ w'.cell? ⟨(ad256.add ((x14_1).toNat * 11)).block, (ad256.add ((x14_1).toNat * 11)).off + 1, none⟩ = some (.int .i64 ((rd_T26 l0 x14_1).f1)) ∧ w'.cell? ⟨(ad256.add ((x14_1).toNat * 11)).block, (ad256.add ((x14_1).toNat * 11)).off + 2, none⟩ = some (.int .u32 ((rd_T26 l0 x14_1).f2)) ∧ w'.cell? ⟨(ad256.add ((x14_1).toNat * 11)).block, (ad256.add ((x14_1).toNat * 11)).off + 3, none⟩ = some (.int .i64 ((rd_T26 l0 x14_1).f3)) ∧ w'.cell? ⟨(ad256.add ((x14_1).toNat * 11)).block, (ad256.add ((x14_1).toNat * 11)).off + 4, none⟩ = some (.int .i64 ((rd_T26 l0 x14_1).f4)) ∧ w'.cell? ⟨(ad256.add ((x14_1).toNat * 11)).block, (ad256.add ((x14_1).toNat * 11)).off + 5, none⟩ = some (.float .f64 ((rd_T26 l0 x14_1).f5)) ∧ w'.cell? ⟨(ad256.add ((x14_1).toNat * 11)).block, (ad256.add ((x14_1).toNat * 11)).off + 6, none⟩ = some (.float .f64 ((rd_T26 l0 x14_1).f6)) ∧ w'.cell? ⟨(ad256.add ((x14_1).toNat * 11)).block, (ad256.add ((x14_1).toNat * 11)).off + 7, none⟩ = some (.bool ((rd_T26 l0 x14_1).f7)) ∧ w'.cell? ⟨(ad256.add ((x14_1).toNat * 11)).block, (ad256.add ((x14_1).toNat * 11)).off + 8, none⟩ = some (.int .i64 ((rd_T26 l0 x14_1).f8)) ∧ w'.cell? ⟨(ad256.add ((x14_1).toNat * 11)).block, (ad256.add ((x14_1).toNat * 11)).off + 9, none⟩ = some (.int .i64 ((rd_T26 l0 x14_1).f9)) ∧ w'.cell? ⟨(ad256.add ((x14_1).toNat * 11)).block, (ad256.add ((x14_1).toNat * 11)).off + 10, none⟩ = some (.int .i64 ((rd_T26 l0 x14_1).f10)) ∧ w'.cell? (ad256.add ((x14_1).toNat * 11)) = some (.int .i64 ((rd_T26 l0 x14_1).f0)) ∧ w'.cell? ⟨(ad256.add ((x14_1).toNat * 11)).block, (ad256.add ((x14_1).toNat * 11)).off + 1, none⟩ = some (.int .i64 ((rd_T26 l0 x14_1).f1)) ∧ w'.cell? ⟨(ad256.add ((x14_1).toNat * 11)).block, (ad256.add ((x14_1).toNat * 11)).off + 2, none⟩ = some (.int .u32 ((rd_T26 l0 x14_1).f2)) ∧ w'.cell? ⟨(ad256.add ((x14_1).toNat * 11)).block, (ad256.add ((x14_1).toNat * 11)).off + 3, none⟩ = some (.int .i64 ((rd_T26 l0 x14_1).f3)) ∧ w'.cell? ⟨(ad256.add ((x14_1).toNat * 11)).block, (ad256.add ((x14_1).toNat * 11)).off + 4, none⟩ = some (.int .i64 ((rd_T26 l0 x14_1).f4)) ∧ w'.cell? ⟨(ad256.add ((x14_1).toNat * 11)).block, (ad256.add ((x14_1).toNat * 11)).off + 5, none⟩ = some (.float .f64 ((rd_T26 l0 x14_1).f5)) ∧ w'.cell? ⟨(ad256.add ((x14_1).toNat * 11)).block, (ad256.add ((x14_1).toNat * 11)).off + 6, none⟩ = some (.float .f64 ((rd_T26 l0 x14_1).f6)) ∧ w'.cell? ⟨(ad256.add ((x14_1).toNat * 11)).block, (ad256.add ((x14_1).toNat * 11)).off + 7, none⟩ = some (.bool ((rd_T26 l0 x14_1).f7)) ∧ w'.cell? ⟨(ad256.add ((x14_1).toNat * 11)).block, (ad256.add ((x14_1).toNat * 11)).off + 8, none⟩ = some (.int .i64 ((rd_T26 l0 x14_1).f8)) ∧ w'.cell? ⟨(ad256.add ((x14_1).toNat * 11)).block, (ad256.add ((x14_1).toNat * 11)).off + 9, none⟩ = some (.int .i64 ((rd_T26 l0 x14_1).f9)) ∧ w'.cell? ⟨(ad256.add ((x14_1).toNat * 11)).block, (ad256.add ((x14_1).toNat * 11)).off + 10, none⟩ = some (.int .i64 ((rd_T26 l0 x14_1).f10))) (ds := []) #[false, false, false, false, false, false, false, false, false, false, false, false, false, false, false, false, false, false, false, false, false, false, false, false, false, false, false, false] (by kernel_rfl) rfl rfl ⟨(blk_cell BK225.out 0).trans rfl, (blk_cell BK225.out 1).trans rfl, (blk_cell BK225.out 2).trans rfl, (blk_cell BK225.out 3).trans rfl, (blk_cell BK225.out 4).trans rfl, (blk_cell BK225.out 5).trans rfl, (blk_cell BK225.out 6).trans rfl, (blk_cell BK225.out 7).trans rfl, (blk_cell BK225.out 8).trans rfl, (blk_cell BK225.out 9).trans rfl, (blk_cell BK225.out 10).trans rfl, (hxb HB.out hw256_0), (hxb HB.out hw256_1), (hxb HB.out hw256_2), (hxb HB.out hw256_3), (hxb HB.out hw256_4), (hxb HB.out hw256_5), (hxb HB.out hw256_6), (hxb HB.out hw256_7), (hxb HB.out hw256_8), (hxb HB.out hw256_9), (hxb HB.out hw256_10), (hxb HB.out hw258_0), (hxb HB.out hw258_1), (hxb HB.out hw258_2), (hxb HB.out hw258_3), (hxb HB.out hw258_4), (hxb HB.out hw258_5), (hxb HB.out hw258_6), (hxb HB.out hw258_7), (hxb HB.out hw258_8), (hxb HB.out hw258_9), (hxb HB.out hw258_10), (hxb HB.out hw260_0), (hxb HB.out hw260_1), (hxb HB.out hw260_2), (hxb HB.out hw260_3), (hxb HB.out hw260_4), (hxb HB.out hw260_5), (hxb HB.out hw260_6), (hxb HB.out hw260_7), (hxb HB.out hw260_8), (hxb HB.out hw260_9), (hxb HB.out hw260_10), (hxb HB.out hw262_0), (hxb HB.out hw262_1), (hxb HB.out hw262_2), (hxb HB.out hw262_3), (hxb HB.out hw262_4), (hxb HB.out hw262_5), (hxb HB.out hw262_6), (hxb HB.out hw262_7), (hxb HB.out hw262_8), (hxb HB.out hw262_9), (hxb HB.out hw262_10)⟩ (fun hHeld => ?_); refine with_tabW annuitylaw23_OrderTells.tab12 annuitylaw23_OrderTells.bits12 (fun HT_ HW_ => ?_)
             generalize wr.drew = w51 at HO_7 BK225 HB hx256_0 hx256_1 hx256_10 hx256_2 hx256_3 hx256_4 hx256_5 hx256_6 hx256_7 hx256_8 hx256_9 hx258_0 hx258_1 hx258_10 hx258_2 hx258_3 hx258_4 hx258_5 hx258_6 hx258_7 hx258_8 hx258_9 hx260_0 hx260_1 hx260_10 hx260_2 hx260_3 hx260_4 hx260_5 hx260_6 hx260_7 hx260_8 hx260_9 hx262_0 hx262_1 hx262_10 hx262_2 hx262_3 hx262_4 hx262_5 hx262_6 hx262_7 hx262_8 hx262_9 hHeld ⊢
             refine pure_ (i := 0) (N := some 67) (v := ?_) (a' := ?_) #[true, false, false, false, false, false, false, false, false, false, false, false, false, false, false, false, false, false, false, false, false, false, false, false, false, false, false, false] rfl rfl (any_of HT_.out (by kernel_rfl)) (fun _ _ _ h => h) (Or.inl ⟨by rfl, ?_⟩) ?_ ?_
             rotate_left
             ·intro w'
              go_simp
              with_reducible rfl
             rotate_left
             ·simp only [Act.put, List.setIfInBounds_toArray, List.set_cons_zero, List.set_cons_succ, i64_w, i32_w]
              rfl
             refine pure_ (i := 1) (N := some 68) (v := ?_) (a' := ?_) #[true, true, false, false, false, false, false, false, false, false, false, false, false, false, false, false, false, false, false, false, false, false, false, false, false, false, false, false] rfl rfl (any_of HT_.out (by kernel_rfl)) (fun _ _ _ h => h) (Or.inl ⟨by rfl, ?_⟩) ?_ ?_
             rotate_left
             ·intro w'
              go_simp
              with_reducible rfl
             rotate_left
             ·simp only [Act.put, List.setIfInBounds_toArray, List.set_cons_zero, List.set_cons_succ, i64_w, i32_w]
              rfl
             refine pure_ (i := 2) (N := some 69) (v := ?_) (a' := ?_) #[true, true, true, false, false, false, false, false, false, false, false, false, false, false, false, false, false, false, false, false, false, false, false, false, false, false, false, false] rfl rfl (any_of HT_.out (by kernel_rfl)) (fun _ _ _ h => h) (Or.inl ⟨by rfl, ?_⟩) ?_ ?_
             rotate_left
             ·intro w'
              go_simp
              with_reducible rfl
             rotate_left
             ·simp only [Act.put, List.setIfInBounds_toArray, List.set_cons_zero, List.set_cons_succ, i64_w, i32_w]
              rfl
             refine pure_ (i := 6) (N := some 73) (v := ?_) (a' := ?_) #[true, true, true, false, false, false, true, false, false, false, false, false, false, false, false, false, false, false, false, false, false, false, false, false, false, false, false, false] rfl rfl (any_of HT_.out (by kernel_rfl)) (fun _ _ _ h => h) (Or.inl ⟨by rfl, ?_⟩) ?_ ?_
             rotate_left
             ·intro w'
              go_simp
              with_reducible rfl
             rotate_left
             ·simp only [Act.put, List.setIfInBounds_toArray, List.set_cons_zero, List.set_cons_succ, i64_w, i32_w]
              rfl
             refine pure_ (i := 7) (N := some 74) (v := ?_) (a' := ?_) #[true, true, true, false, false, false, true, true, false, false, false, false, false, false, false, false, false, false, false, false, false, false, false, false, false, false, false, false] rfl rfl (any_of HT_.out (by kernel_rfl)) (fun _ _ _ h => h) (Or.inl ⟨by rfl, ?_⟩) ?_ ?_
             rotate_left
             ·intro w'
              go_simp
              with_reducible rfl
             rotate_left
             ·simp only [Act.put, List.setIfInBounds_toArray, List.set_cons_zero, List.set_cons_succ, i64_w, i32_w]
              rfl
             refine pure_ (i := 8) (N := some 75) (v := ?_) (a' := ?_) #[true, true, true, false, false, false, true, true, true, false, false, false, false, false, false, false, false, false, false, false, false, false, false, false, false, false, false, false] rfl rfl (any_of HT_.out (by kernel_rfl)) (fun _ _ _ h => h) (Or.inl ⟨by rfl, ?_⟩) ?_ ?_
             rotate_left
             ·intro w'
              go_simp
              with_reducible rfl
             rotate_left
             ·simp only [Act.put, List.setIfInBounds_toArray, List.set_cons_zero, List.set_cons_succ, i64_w, i32_w]
              rfl
             refine take_ (i := 3) (N := some 70) (v := ?_) (a' := ?_) #[true, true, true, true, false, false, true, true, true, false, false, false, false, false, false, false, false, false, false, false, false, false, false, false, false, false, false, false] rfl rfl (take_ofW HT_.out HW_.out (by kernel_rfl)) (fun _ _ _ h => h) (Or.inl ⟨by rfl, ?_⟩) hHeld ?_ ?_
             rotate_left
             ·rintro w' ⟨s0, s1, s2, s3, s4, s5, s6, s7, s8, s9, s10, s11, s12, s13, s14, s15, s16, s17, s18, s19, s20, s21, s22, s23, s24, s25, s26, s27, s28, s29, s30, s31, s32, s33, s34, s35, s36, s37, s38, s39, s40, s41, s42, s43, s44, s45, s46, s47, s48, s49, s50, s51, s52, s53, s54⟩
              go_simp
              with_reducible rfl
             rotate_left
             ·simp only [Act.put, List.setIfInBounds_toArray, List.set_cons_zero, List.set_cons_succ, i64_w, i32_w]
              rfl
             refine take_ (i := 4) (N := some 71) (v := ?_) (a' := ?_) #[true, true, true, true, true, false, true, true, true, false, false, false, false, false, false, false, false, false, false, false, false, false, false, false, false, false, false, false] rfl rfl (take_ofW HT_.out HW_.out (by kernel_rfl)) (fun _ _ _ h => h) (Or.inl ⟨by rfl, ?_⟩) hHeld ?_ ?_
             rotate_left
             ·rintro w' ⟨s0, s1, s2, s3, s4, s5, s6, s7, s8, s9, s10, s11, s12, s13, s14, s15, s16, s17, s18, s19, s20, s21, s22, s23, s24, s25, s26, s27, s28, s29, s30, s31, s32, s33, s34, s35, s36, s37, s38, s39, s40, s41, s42, s43, s44, s45, s46, s47, s48, s49, s50, s51, s52, s53, s54⟩
              go_simp
              with_reducible rfl
             rotate_left
             ·simp only [Act.put, List.setIfInBounds_toArray, List.set_cons_zero, List.set_cons_succ, i64_w, i32_w]
              rfl
             refine take_ (i := 9) (N := some 76) (v := ?_) (a' := ?_) #[true, true, true, true, true, false, true, true, true, true, false, false, false, false, false, false, false, false, false, false, false, false, false, false, false, false, false, false] rfl rfl (take_ofW HT_.out HW_.out (by kernel_rfl)) (fun _ _ _ h => h) (Or.inl ⟨by rfl, ?_⟩) hHeld ?_ ?_
             rotate_left
             ·rintro w' ⟨s0, s1, s2, s3, s4, s5, s6, s7, s8, s9, s10, s11, s12, s13, s14, s15, s16, s17, s18, s19, s20, s21, s22, s23, s24, s25, s26, s27, s28, s29, s30, s31, s32, s33, s34, s35, s36, s37, s38, s39, s40, s41, s42, s43, s44, s45, s46, s47, s48, s49, s50, s51, s52, s53, s54⟩
              go_simp
              with_reducible rfl
             rotate_left
             ·simp only [Act.put, List.setIfInBounds_toArray, List.set_cons_zero, List.set_cons_succ, i64_w, i32_w]
              rfl
             refine take_ (i := 10) (N := some 77) (v := ?_) (a' := ?_) #[true, true, true, true, true, false, true, true, true, true, true, false, false, false, false, false, false, false, false, false, false, false, false, false, false, false, false, false] rfl rfl (take_ofW HT_.out HW_.out (by kernel_rfl)) (fun _ _ _ h => h) (Or.inl ⟨by rfl, ?_⟩) hHeld ?_ ?_
             rotate_left
             ·rintro w' ⟨s0, s1, s2, s3, s4, s5, s6, s7, s8, s9, s10, s11, s12, s13, s14, s15, s16, s17, s18, s19, s20, s21, s22, s23, s24, s25, s26, s27, s28, s29, s30, s31, s32, s33, s34, s35, s36, s37, s38, s39, s40, s41, s42, s43, s44, s45, s46, s47, s48, s49, s50, s51, s52, s53, s54⟩
              go_simp
              with_reducible rfl
             rotate_left
             ·simp only [Act.put, List.setIfInBounds_toArray, List.set_cons_zero, List.set_cons_succ, i64_w, i32_w]
              rfl
             refine one_ (i := 5) (N := some 72) #[true, true, true, true, true, true, true, true, true, true, true, false, false, false, false, false, false, false, false, false, false, false, false, false, false, false, false, false] rfl rfl (one_of HT_.out (by kernel_rfl)) (by decide) (fun K hK => ?_)
             refine goes_ Try.func12 (by kernel_rfl) rfl #[.agg #[.int .i64 ((rd_T26 l0 x14_1).f0), .int .i64 ((rd_T26 l0 x14_1).f1), .int .u32 ((rd_T26 l0 x14_1).f2), .int .i64 ((rd_T26 l0 x14_1).f3), .int .i64 ((rd_T26 l0 x14_1).f4), .float .f64 ((rd_T26 l0 x14_1).f5), .float .f64 ((rd_T26 l0 x14_1).f6), .bool ((rd_T26 l0 x14_1).f7), .int .i64 ((rd_T26 l0 x14_1).f8), .int .i64 ((rd_T26 l0 x14_1).f9), .int .i64 ((rd_T26 l0 x14_1).f10)], .agg #[.int .i64 a1_0, .int .i64 a1_1, .int .u32 a1_2, .int .i64 a1_3, .int .i64 a1_4, .float .f64 a1_5, .float .f64 a1_6, .bool a1_7, .int .i64 a1_8, .int .i64 a1_9, .int .i64 a1_10]] (by rfl) rfl rfl (by (try simp only [List.map_toArray, List.map_cons, List.map_nil]); first | done | rfl | (simp only [List.length_drop, List.length_take]; rfl)) ?_
             with_reducible refine (order_Compare.calls k1 ((rd_T26 l0 x14_1).f0) ((rd_T26 l0 x14_1).f1) ((rd_T26 l0 x14_1).f2) ((rd_T26 l0 x14_1).f3) ((rd_T26 l0 x14_1).f4) ((rd_T26 l0 x14_1).f5) ((rd_T26 l0 x14_1).f6) ((rd_T26 l0 x14_1).f7) ((rd_T26 l0 x14_1).f8) ((rd_T26 l0 x14_1).f9) ((rd_T26 l0 x14_1).f10) a1_0 a1_1 a1_2 a1_3 a1_4 a1_5 a1_6 a1_7 a1_8 a1_9 a1_10 t257 _ A45.out).mono ?_
             rintro e w52 ⟨rfl, hb⟩
             refine ⟨_, rfl, ?_⟩
             have n0_ := Aside0.mk (Kd.R_below (by exact rq HO_7.out) hb)
             have n1_ := Aside0.mk (blk_below (g := gb225) (Up.up BK225.out) hb)
             have n2_ := Aside0.mk (below_step (by exact h1q HB.out GE225.out) hb)
             clear HO_7
             clear BK225
             clear HB
             have HO_7 := n0_
             have BK225 := n1_
             have HB := n2_
             clear n0_ n1_ n2_
             (try clear hb)
             (try clear hb2)
             (try clear hk)
             (try clear hi)
             refine hK.out _ _ ⟨(blk_cell BK225.out 0).trans rfl, (blk_cell BK225.out 1).trans rfl, (blk_cell BK225.out 2).trans rfl, (blk_cell BK225.out 3).trans rfl, (blk_cell BK225.out 4).trans rfl, (blk_cell BK225.out 5).trans rfl, (blk_cell BK225.out 6).trans rfl, (blk_cell BK225.out 7).trans rfl, (blk_cell BK225.out 8).trans rfl, (blk_cell BK225.out 9).trans rfl, (blk_cell BK225.out 10).trans rfl, (hxb HB.out hw256_0), (hxb HB.out hw256_1), (hxb HB.out hw256_2), (hxb HB.out hw256_3), (hxb HB.out hw256_4), (hxb HB.out hw256_5), (hxb HB.out hw256_6), (hxb HB.out hw256_7), (hxb HB.out hw256_8), (hxb HB.out hw256_9), (hxb HB.out hw256_10), (hxb HB.out hw258_0), (hxb HB.out hw258_1), (hxb HB.out hw258_2), (hxb HB.out hw258_3), (hxb HB.out hw258_4), (hxb HB.out hw258_5), (hxb HB.out hw258_6), (hxb HB.out hw258_7), (hxb HB.out hw258_8), (hxb HB.out hw258_9), (hxb HB.out hw258_10), (hxb HB.out hw260_0), (hxb HB.out hw260_1), (hxb HB.out hw260_2), (hxb HB.out hw260_3), (hxb HB.out hw260_4), (hxb HB.out hw260_5), (hxb HB.out hw260_6), (hxb HB.out hw260_7), (hxb HB.out hw260_8), (hxb HB.out hw260_9), (hxb HB.out hw260_10), (hxb HB.out hw262_0), (hxb HB.out hw262_1), (hxb HB.out hw262_2), (hxb HB.out hw262_3), (hxb HB.out hw262_4), (hxb HB.out hw262_5), (hxb HB.out hw262_6), (hxb HB.out hw262_7), (hxb HB.out hw262_8), (hxb HB.out hw262_9), (hxb HB.out hw262_10)⟩ (fun hHeld => ?_)
             clear hK K
             refine norm_ (a' := ?_) ?_ ?_
             rotate_left
             ·show Act.put _ (some 72) _ = _
              simp only [Act.put, List.setIfInBounds_toArray, List.set_cons_zero, List.set_cons_succ, i64_w, i32_w]
              rfl
             refine one_ (i := 11) (N := some 78) #[true, true, true, true, true, true, true, true, true, true, true, true, false, false, false, false, false, false, false, false, false, false, false, false, false, false, false, false] rfl rfl (one_of HT_.out (by kernel_rfl)) (by decide) (fun K hK => ?_)
             refine goes_ Try.func13 (by kernel_rfl) rfl #[.agg #[.int .i64 ((rd_T26 l0 x14_1).f0), .int .i64 ((rd_T26 l0 x14_1).f1), .int .u32 ((rd_T26 l0 x14_1).f2), .int .i64 ((rd_T26 l0 x14_1).f3), .int .i64 ((rd_T26 l0 x14_1).f4), .float .f64 ((rd_T26 l0 x14_1).f5), .float .f64 ((rd_T26 l0 x14_1).f6), .bool ((rd_T26 l0 x14_1).f7), .int .i64 ((rd_T26 l0 x14_1).f8), .int .i64 ((rd_T26 l0 x14_1).f9), .int .i64 ((rd_T26 l0 x14_1).f10)], .agg #[.int .i64 a1_0, .int .i64 a1_1, .int .u32 a1_2, .int .i64 a1_3, .int .i64 a1_4, .float .f64 a1_5, .float .f64 a1_6, .bool a1_7, .int .i64 a1_8, .int .i64 a1_9, .int .i64 a1_10]] (by rfl) rfl rfl (by (try simp only [List.map_toArray, List.map_cons, List.map_nil]); first | done | rfl | (simp only [List.length_drop, List.length_take]; rfl)) ?_
             with_reducible refine (annuityref23_Compare.calls k1 ((rd_T26 l0 x14_1).f0) ((rd_T26 l0 x14_1).f1) ((rd_T26 l0 x14_1).f2) ((rd_T26 l0 x14_1).f3) ((rd_T26 l0 x14_1).f4) ((rd_T26 l0 x14_1).f5) ((rd_T26 l0 x14_1).f6) ((rd_T26 l0 x14_1).f7) ((rd_T26 l0 x14_1).f8) ((rd_T26 l0 x14_1).f9) ((rd_T26 l0 x14_1).f10) a1_0 a1_1 a1_2 a1_3 a1_4 a1_5 a1_6 a1_7 a1_8 a1_9 a1_10 t259 _ A46.out).mono ?_
             rintro e w53 ⟨rfl, hb⟩
             refine ⟨_, rfl, ?_⟩
             have n0_ := Aside0.mk (Kd.R_below (by exact rq HO_7.out) hb)
             have n1_ := Aside0.mk (blk_below (g := gb225) (Up.up BK225.out) hb)
             have n2_ := Aside0.mk (below_step (by exact h1q HB.out GE225.out) hb)
             clear HO_7
             clear BK225
             clear HB
             have HO_7 := n0_
             have BK225 := n1_
             have HB := n2_
             clear n0_ n1_ n2_
             (try clear hb)
             (try clear hb2)
             (try clear hk)
             (try clear hi)
             refine hK.out _ _ ⟨(blk_cell BK225.out 0).trans rfl, (blk_cell BK225.out 1).trans rfl, (blk_cell BK225.out 2).trans rfl, (blk_cell BK225.out 3).trans rfl, (blk_cell BK225.out 4).trans rfl, (blk_cell BK225.out 5).trans rfl, (blk_cell BK225.out 6).trans rfl, (blk_cell BK225.out 7).trans rfl, (blk_cell BK225.out 8).trans rfl, (blk_cell BK225.out 9).trans rfl, (blk_cell BK225.out 10).trans rfl, (hxb HB.out hw256_0), (hxb HB.out hw256_1), (hxb HB.out hw256_2), (hxb HB.out hw256_3), (hxb HB.out hw256_4), (hxb HB.out hw256_5), (hxb HB.out hw256_6), (hxb HB.out hw256_7), (hxb HB.out hw256_8), (hxb HB.out hw256_9), (hxb HB.out hw256_10), (hxb HB.out hw258_0), (hxb HB.out hw258_1), (hxb HB.out hw258_2), (hxb HB.out hw258_3), (hxb HB.out hw258_4), (hxb HB.out hw258_5), (hxb HB.out hw258_6), (hxb HB.out hw258_7), (hxb HB.out hw258_8), (hxb HB.out hw258_9), (hxb HB.out hw258_10), (hxb HB.out hw260_0), (hxb HB.out hw260_1), (hxb HB.out hw260_2), (hxb HB.out hw260_3), (hxb HB.out hw260_4), (hxb HB.out hw260_5), (hxb HB.out hw260_6), (hxb HB.out hw260_7), (hxb HB.out hw260_8), (hxb HB.out hw260_9), (hxb HB.out hw260_10), (hxb HB.out hw262_0), (hxb HB.out hw262_1), (hxb HB.out hw262_2), (hxb HB.out hw262_3), (hxb HB.out hw262_4), (hxb HB.out hw262_5), (hxb HB.out hw262_6), (hxb HB.out hw262_7), (hxb HB.out hw262_8), (hxb HB.out hw262_9), (hxb HB.out hw262_10)⟩ (fun hHeld => ?_)
             clear hK K
             refine norm_ (a' := ?_) ?_ ?_
             rotate_left
             ·show Act.put _ (some 78) _ = _
              simp only [Act.put, List.setIfInBounds_toArray, List.set_cons_zero, List.set_cons_succ, i64_w, i32_w]
              rfl
             refine pure_ (i := 12) (N := some 79) (v := ?_) (a' := ?_) #[true, true, true, true, true, true, true, true, true, true, true, true, true, false, false, false, false, false, false, false, false, false, false, false, false, false, false, false] rfl rfl (any_of HT_.out (by kernel_rfl)) (fun _ _ _ h => h) (Or.inl ⟨by rfl, ?_⟩) ?_ ?_
             rotate_left
             ·intro w'
              go_simp
              with_reducible rfl
             rotate_left
             ·simp only [Act.put, List.setIfInBounds_toArray, List.set_cons_zero, List.set_cons_succ, i64_w, i32_w]
              rfl
             refine pure_ (i := 13) (N := some 80) (v := ?_) (a' := ?_) #[true, true, true, true, true, true, true, true, true, true, true, true, true, true, false, false, false, false, false, false, false, false, false, false, false, false, false, false] rfl rfl (any_of HT_.out (by kernel_rfl)) (fun _ _ _ h => h) (Or.inl ⟨by rfl, ?_⟩) ?_ ?_
             rotate_left
             ·intro w'
              go_simp
              with_reducible rfl
             rotate_left
             ·simp only [Act.put, List.setIfInBounds_toArray, List.set_cons_zero, List.set_cons_succ, i64_w, i32_w]
              rfl
             refine pure_ (i := 15) (N := some 82) (v := ?_) (a' := ?_) #[true, true, true, true, true, true, true, true, true, true, true, true, true, true, false, true, false, false, false, false, false, false, false, false, false, false, false, false] rfl rfl (any_of HT_.out (by kernel_rfl)) (fun _ _ _ h => h) (Or.inl ⟨by rfl, ?_⟩) ?_ ?_
             rotate_left
             ·intro w'
              go_simp
              with_reducible rfl
             rotate_left
             ·simp only [Act.put, List.setIfInBounds_toArray, List.set_cons_zero, List.set_cons_succ, i64_w, i32_w]
              rfl
             refine pure_ (i := 16) (N := some 83) (v := ?_) (a' := ?_) #[true, true, true, true, true, true, true, true, true, true, true, true, true, true, false, true, true, false, false, false, false, false, false, false, false, false, false, false] rfl rfl (any_of HT_.out (by kernel_rfl)) (fun _ _ _ h => h) (Or.inl ⟨by rfl, ?_⟩) ?_ ?_
             rotate_left
             ·intro w'
              go_simp
              with_reducible rfl
             rotate_left
             ·simp only [Act.put, List.setIfInBounds_toArray, List.set_cons_zero, List.set_cons_succ, i64_w, i32_w]
              rfl
             refine pure_ (i := 17) (N := some 84) (v := ?_) (a' := ?_) #[true, true, true, true, true, true, true, true, true, true, true, true, true, true, false, true, true, true, false, false, false, false, false, false, false, false, false, false] rfl rfl (any_of HT_.out (by kernel_rfl)) (fun _ _ _ h => h) (Or.inl ⟨by rfl, ?_⟩) ?_ ?_
             rotate_left
             ·intro w'
              go_simp
              with_reducible rfl
             rotate_left
             ·simp only [Act.put, List.setIfInBounds_toArray, List.set_cons_zero, List.set_cons_succ, i64_w, i32_w]
              rfl
             refine pure_ (i := 21) (N := some 88) (v := ?_) (a' := ?_) #[true, true, true, true, true, true, true, true, true, true, true, true, true, true, false, true, true, true, false, false, false, true, false, false, false, false, false, false] rfl rfl (any_of HT_.out (by kernel_rfl)) (fun _ _ _ h => h) (Or.inl ⟨by rfl, ?_⟩) ?_ ?_
             rotate_left
             ·intro w'
              go_simp
              with_reducible rfl
             rotate_left
             ·simp only [Act.put, List.setIfInBounds_toArray, List.set_cons_zero, List.set_cons_succ, i64_w, i32_w]
              rfl
             refine pure_ (i := 22) (N := some 89) (v := ?_) (a' := ?_) #[true, true, true, true, true, true, true, true, true, true, true, true, true, true, false, true, true, true, false, false, false, true, true, false, false, false, false, false] rfl rfl (any_of HT_.out (by kernel_rfl)) (fun _ _ _ h => h) (Or.inl ⟨by rfl, ?_⟩) ?_ ?_
             rotate_left
             ·intro w'
              go_simp
              with_reducible rfl
             rotate_left
             ·simp only [Act.put, List.setIfInBounds_toArray, List.set_cons_zero, List.set_cons_succ, i64_w, i32_w]
              rfl
             refine pure_ (i := 23) (N := some 90) (v := ?_) (a' := ?_) #[true, true, true, true, true, true, true, true, true, true, true, true, true, true, false, true, true, true, false, false, false, true, true, true, false, false, false, false] rfl rfl (any_of HT_.out (by kernel_rfl)) (fun _ _ _ h => h) (Or.inl ⟨by rfl, ?_⟩) ?_ ?_
             rotate_left
             ·intro w'
              go_simp
              with_reducible rfl
             rotate_left
             ·simp only [Act.put, List.setIfInBounds_toArray, List.set_cons_zero, List.set_cons_succ, i64_w, i32_w]
              rfl
             refine take_ (i := 14) (N := some 81) (v := ?_) (a' := ?_) #[true, true, true, true, true, true, true, true, true, true, true, true, true, true, true, true, true, true, false, false, false, true, true, true, false, false, false, false] rfl rfl (take_ofW HT_.out HW_.out (by kernel_rfl)) (fun _ _ _ h => h) (Or.inl ⟨by rfl, ?_⟩) hHeld ?_ ?_
             rotate_left
             ·rintro w' ⟨s0, s1, s2, s3, s4, s5, s6, s7, s8, s9, s10, s11, s12, s13, s14, s15, s16, s17, s18, s19, s20, s21, s22, s23, s24, s25, s26, s27, s28, s29, s30, s31, s32, s33, s34, s35, s36, s37, s38, s39, s40, s41, s42, s43, s44, s45, s46, s47, s48, s49, s50, s51, s52, s53, s54⟩
              go_simp
              with_reducible rfl
             rotate_left
             ·simp only [Act.put, List.setIfInBounds_toArray, List.set_cons_zero, List.set_cons_succ, i64_w, i32_w]
              rfl
             refine take_ (i := 18) (N := some 85) (v := ?_) (a' := ?_) #[true, true, true, true, true, true, true, true, true, true, true, true, true, true, true, true, true, true, true, false, false, true, true, true, false, false, false, false] rfl rfl (take_ofW HT_.out HW_.out (by kernel_rfl)) (fun _ _ _ h => h) (Or.inl ⟨by rfl, ?_⟩) hHeld ?_ ?_
             rotate_left
             ·rintro w' ⟨s0, s1, s2, s3, s4, s5, s6, s7, s8, s9, s10, s11, s12, s13, s14, s15, s16, s17, s18, s19, s20, s21, s22, s23, s24, s25, s26, s27, s28, s29, s30, s31, s32, s33, s34, s35, s36, s37, s38, s39, s40, s41, s42, s43, s44, s45, s46, s47, s48, s49, s50, s51, s52, s53, s54⟩
              go_simp
              with_reducible rfl
             rotate_left
             ·simp only [Act.put, List.setIfInBounds_toArray, List.set_cons_zero, List.set_cons_succ, i64_w, i32_w]
              rfl
             refine take_ (i := 20) (N := some 87) (v := ?_) (a' := ?_) #[true, true, true, true, true, true, true, true, true, true, true, true, true, true, true, true, true, true, true, false, true, true, true, true, false, false, false, false] rfl rfl (take_ofW HT_.out HW_.out (by kernel_rfl)) (fun _ _ _ h => h) (Or.inl ⟨by rfl, ?_⟩) hHeld ?_ ?_
             rotate_left
             ·rintro w' ⟨s0, s1, s2, s3, s4, s5, s6, s7, s8, s9, s10, s11, s12, s13, s14, s15, s16, s17, s18, s19, s20, s21, s22, s23, s24, s25, s26, s27, s28, s29, s30, s31, s32, s33, s34, s35, s36, s37, s38, s39, s40, s41, s42, s43, s44, s45, s46, s47, s48, s49, s50, s51, s52, s53, s54⟩
              go_simp
              with_reducible rfl
             rotate_left
             ·simp only [Act.put, List.setIfInBounds_toArray, List.set_cons_zero, List.set_cons_succ, i64_w, i32_w]
              rfl
             refine take_ (i := 24) (N := some 91) (v := ?_) (a' := ?_) #[true, true, true, true, true, true, true, true, true, true, true, true, true, true, true, true, true, true, true, false, true, true, true, true, true, false, false, false] rfl rfl (take_ofW HT_.out HW_.out (by kernel_rfl)) (fun _ _ _ h => h) (Or.inl ⟨by rfl, ?_⟩) hHeld ?_ ?_
             rotate_left
             ·rintro w' ⟨s0, s1, s2, s3, s4, s5, s6, s7, s8, s9, s10, s11, s12, s13, s14, s15, s16, s17, s18, s19, s20, s21, s22, s23, s24, s25, s26, s27, s28, s29, s30, s31, s32, s33, s34, s35, s36, s37, s38, s39, s40, s41, s42, s43, s44, s45, s46, s47, s48, s49, s50, s51, s52, s53, s54⟩
              go_simp
              with_reducible rfl
             rotate_left
             ·simp only [Act.put, List.setIfInBounds_toArray, List.set_cons_zero, List.set_cons_succ, i64_w, i32_w]
              rfl
             refine one_ (i := 19) (N := some 86) #[true, true, true, true, true, true, true, true, true, true, true, true, true, true, true, true, true, true, true, true, true, true, true, true, true, false, false, false] rfl rfl (one_of HT_.out (by kernel_rfl)) (by decide) (fun K hK => ?_)
             refine goes_ Try.func12 (by kernel_rfl) rfl #[.agg #[.int .i64 a1_0, .int .i64 a1_1, .int .u32 a1_2, .int .i64 a1_3, .int .i64 a1_4, .float .f64 a1_5, .float .f64 a1_6, .bool a1_7, .int .i64 a1_8, .int .i64 a1_9, .int .i64 a1_10], .agg #[.int .i64 ((rd_T26 l0 x14_1).f0), .int .i64 ((rd_T26 l0 x14_1).f1), .int .u32 ((rd_T26 l0 x14_1).f2), .int .i64 ((rd_T26 l0 x14_1).f3), .int .i64 ((rd_T26 l0 x14_1).f4), .float .f64 ((rd_T26 l0 x14_1).f5), .float .f64 ((rd_T26 l0 x14_1).f6), .bool ((rd_T26 l0 x14_1).f7), .int .i64 ((rd_T26 l0 x14_1).f8), .int .i64 ((rd_T26 l0 x14_1).f9), .int .i64 ((rd_T26 l0 x14_1).f10)]] (by rfl) rfl rfl (by (try simp only [List.map_toArray, List.map_cons, List.map_nil]); first | done | rfl | (simp only [List.length_drop, List.length_take]; rfl)) ?_
             with_reducible refine (order_Compare.calls k1 a1_0 a1_1 a1_2 a1_3 a1_4 a1_5 a1_6 a1_7 a1_8 a1_9 a1_10 ((rd_T26 l0 x14_1).f0) ((rd_T26 l0 x14_1).f1) ((rd_T26 l0 x14_1).f2) ((rd_T26 l0 x14_1).f3) ((rd_T26 l0 x14_1).f4) ((rd_T26 l0 x14_1).f5) ((rd_T26 l0 x14_1).f6) ((rd_T26 l0 x14_1).f7) ((rd_T26 l0 x14_1).f8) ((rd_T26 l0 x14_1).f9) ((rd_T26 l0 x14_1).f10) t261 _ A48.out).mono ?_
             rintro e w54 ⟨rfl, hb⟩
             refine ⟨_, rfl, ?_⟩
             have n0_ := Aside0.mk (Kd.R_below (by exact rq HO_7.out) hb)
             have n1_ := Aside0.mk (blk_below (g := gb225) (Up.up BK225.out) hb)
             have n2_ := Aside0.mk (below_step (by exact h1q HB.out GE225.out) hb)
             clear HO_7
             clear BK225
             clear HB
             have HO_7 := n0_
             have BK225 := n1_
             have HB := n2_
             clear n0_ n1_ n2_
             (try clear hb)
             (try clear hb2)
             (try clear hk)
             (try clear hi)
             refine hK.out _ _ ⟨(blk_cell BK225.out 0).trans rfl, (blk_cell BK225.out 1).trans rfl, (blk_cell BK225.out 2).trans rfl, (blk_cell BK225.out 3).trans rfl, (blk_cell BK225.out 4).trans rfl, (blk_cell BK225.out 5).trans rfl, (blk_cell BK225.out 6).trans rfl, (blk_cell BK225.out 7).trans rfl, (blk_cell BK225.out 8).trans rfl, (blk_cell BK225.out 9).trans rfl, (blk_cell BK225.out 10).trans rfl, (hxb HB.out hw256_0), (hxb HB.out hw256_1), (hxb HB.out hw256_2), (hxb HB.out hw256_3), (hxb HB.out hw256_4), (hxb HB.out hw256_5), (hxb HB.out hw256_6), (hxb HB.out hw256_7), (hxb HB.out hw256_8), (hxb HB.out hw256_9), (hxb HB.out hw256_10), (hxb HB.out hw258_0), (hxb HB.out hw258_1), (hxb HB.out hw258_2), (hxb HB.out hw258_3), (hxb HB.out hw258_4), (hxb HB.out hw258_5), (hxb HB.out hw258_6), (hxb HB.out hw258_7), (hxb HB.out hw258_8), (hxb HB.out hw258_9), (hxb HB.out hw258_10), (hxb HB.out hw260_0), (hxb HB.out hw260_1), (hxb HB.out hw260_2), (hxb HB.out hw260_3), (hxb HB.out hw260_4), (hxb HB.out hw260_5), (hxb HB.out hw260_6), (hxb HB.out hw260_7), (hxb HB.out hw260_8), (hxb HB.out hw260_9), (hxb HB.out hw260_10), (hxb HB.out hw262_0), (hxb HB.out hw262_1), (hxb HB.out hw262_2), (hxb HB.out hw262_3), (hxb HB.out hw262_4), (hxb HB.out hw262_5), (hxb HB.out hw262_6), (hxb HB.out hw262_7), (hxb HB.out hw262_8), (hxb HB.out hw262_9), (hxb HB.out hw262_10)⟩ (fun hHeld => ?_)
             clear hK K
             refine norm_ (a' := ?_) ?_ ?_
             rotate_left
             ·show Act.put _ (some 86) _ = _
              simp only [Act.put, List.setIfInBounds_toArray, List.set_cons_zero, List.set_cons_succ, i64_w, i32_w]
              rfl
             refine one_ (i := 25) (N := some 92) #[true, true, true, true, true, true, true, true, true, true, true, true, true, true, true, true, true, true, true, true, true, true, true, true, true, true, false, false] rfl rfl (one_of HT_.out (by kernel_rfl)) (by decide) (fun K hK => ?_)
             refine goes_ Try.func13 (by kernel_rfl) rfl #[.agg #[.int .i64 a1_0, .int .i64 a1_1, .int .u32 a1_2, .int .i64 a1_3, .int .i64 a1_4, .float .f64 a1_5, .float .f64 a1_6, .bool a1_7, .int .i64 a1_8, .int .i64 a1_9, .int .i64 a1_10], .agg #[.int .i64 ((rd_T26 l0 x14_1).f0), .int .i64 ((rd_T26 l0 x14_1).f1), .int .u32 ((rd_T26 l0 x14_1).f2), .int .i64 ((rd_T26 l0 x14_1).f3), .int .i64 ((rd_T26 l0 x14_1).f4), .float .f64 ((rd_T26 l0 x14_1).f5), .float .f64 ((rd_T26 l0 x14_1).f6), .bool ((rd_T26 l0 x14_1).f7), .int .i64 ((rd_T26 l0 x14_1).f8), .int .i64 ((rd_T26 l0 x14_1).f9), .int .i64 ((rd_T26 l0 x14_1).f10)]] (by rfl) rfl rfl (by (try simp only [List.map_toArray, List.map_cons, List.map_nil]); first | done | rfl | (simp only [List.length_drop, List.length_take]; rfl)) ?_
             with_reducible refine (annuityref23_Compare.calls k1 a1_0 a1_1 a1_2 a1_3 a1_4 a1_5 a1_6 a1_7 a1_8 a1_9 a1_10 ((rd_T26 l0 x14_1).f0) ((rd_T26 l0 x14_1).f1) ((rd_T26 l0 x14_1).f2) ((rd_T26 l0 x14_1).f3) ((rd_T26 l0 x14_1).f4) ((rd_T26 l0 x14_1).f5) ((rd_T26 l0 x14_1).f6) ((rd_T26 l0 x14_1).f7) ((rd_T26 l0 x14_1).f8) ((rd_T26 l0 x14_1).f9) ((rd_T26 l0 x14_1).f10) t263 _ A49.out).mono ?_
             rintro e w55 ⟨rfl, hb⟩
             refine ⟨_, rfl, ?_⟩
             have n0_ := Aside0.mk (Kd.R_below (by exact rq HO_7.out) hb)
             have n1_ := Aside0.mk (blk_below (g := gb225) (Up.up BK225.out) hb)
             have n2_ := Aside0.mk (below_step (by exact h1q HB.out GE225.out) hb)
             clear HO_7
             clear BK225
             clear HB
             have HO_7 := n0_
             have BK225 := n1_
             have HB := n2_
             clear n0_ n1_ n2_
             (try clear hb)
             (try clear hb2)
             (try clear hk)
             (try clear hi)
             refine hK.out _ _ ⟨(blk_cell BK225.out 0).trans rfl, (blk_cell BK225.out 1).trans rfl, (blk_cell BK225.out 2).trans rfl, (blk_cell BK225.out 3).trans rfl, (blk_cell BK225.out 4).trans rfl, (blk_cell BK225.out 5).trans rfl, (blk_cell BK225.out 6).trans rfl, (blk_cell BK225.out 7).trans rfl, (blk_cell BK225.out 8).trans rfl, (blk_cell BK225.out 9).trans rfl, (blk_cell BK225.out 10).trans rfl, (hxb HB.out hw256_0), (hxb HB.out hw256_1), (hxb HB.out hw256_2), (hxb HB.out hw256_3), (hxb HB.out hw256_4), (hxb HB.out hw256_5), (hxb HB.out hw256_6), (hxb HB.out hw256_7), (hxb HB.out hw256_8), (hxb HB.out hw256_9), (hxb HB.out hw256_10), (hxb HB.out hw258_0), (hxb HB.out hw258_1), (hxb HB.out hw258_2), (hxb HB.out hw258_3), (hxb HB.out hw258_4), (hxb HB.out hw258_5), (hxb HB.out hw258_6), (hxb HB.out hw258_7), (hxb HB.out hw258_8), (hxb HB.out hw258_9), (hxb HB.out hw258_10), (hxb HB.out hw260_0), (hxb HB.out hw260_1), (hxb HB.out hw260_2), (hxb HB.out hw260_3), (hxb HB.out hw260_4), (hxb HB.out hw260_5), (hxb HB.out hw260_6), (hxb HB.out hw260_7), (hxb HB.out hw260_8), (hxb HB.out hw260_9), (hxb HB.out hw260_10), (hxb HB.out hw262_0), (hxb HB.out hw262_1), (hxb HB.out hw262_2), (hxb HB.out hw262_3), (hxb HB.out hw262_4), (hxb HB.out hw262_5), (hxb HB.out hw262_6), (hxb HB.out hw262_7), (hxb HB.out hw262_8), (hxb HB.out hw262_9), (hxb HB.out hw262_10)⟩ (fun hHeld => ?_)
             clear hK K
             refine norm_ (a' := ?_) ?_ ?_
             rotate_left
             ·show Act.put _ (some 92) _ = _
              simp only [Act.put, List.setIfInBounds_toArray, List.set_cons_zero, List.set_cons_succ, i64_w, i32_w]
              rfl
             refine pure_ (i := 26) (N := some 93) (v := ?_) (a' := ?_) #[true, true, true, true, true, true, true, true, true, true, true, true, true, true, true, true, true, true, true, true, true, true, true, true, true, true, true, false] rfl rfl (any_of HT_.out (by kernel_rfl)) (fun _ _ _ h => h) (Or.inl ⟨by rfl, ?_⟩) ?_ ?_
             rotate_left
             ·intro w'
              go_simp
              with_reducible rfl
             rotate_left
             ·simp only [Act.put, List.setIfInBounds_toArray, List.set_cons_zero, List.set_cons_succ, i64_w, i32_w]
              rfl
             refine pure_ (i := 27) (N := some 94) (v := ?_) (a' := ?_) #[true, true, true, true, true, true, true, true, true, true, true, true, true, true, true, true, true, true, true, true, true, true, true, true, true, true, true, true] rfl rfl (any_of HT_.out (by kernel_rfl)) (fun _ _ _ h => h) (Or.inl ⟨by rfl, ?_⟩) ?_ ?_
             rotate_left
             ·intro w'
              go_simp
              with_reducible rfl
             rotate_left
             ·simp only [Act.put, List.setIfInBounds_toArray, List.set_cons_zero, List.set_cons_succ, i64_w, i32_w]
              rfl
             refine done_ (done_of HT_.out (by kernel_rfl)) ?_
             try go_wp2
             go_roundg k1
             case measure => have := HK1.out; omega
             case rel => exact ⟨(wrap64 (x14_1 + 1)), (by first | rfl | (simp; done) | (simp [*]; done)), H', ⟨by have := HK1.out; omega⟩, ⟨by exact rq HO_7.out⟩, ⟨by exact bb BK225.out⟩, ⟨by exact h1q HB.out GE225.out⟩⟩
            ·rw [if_neg c50] at H
             exact absurd H (by simp)
           ·rw [if_neg c47] at H
            have c47b0 : (t257 == t259) = false := beq_eq_false_iff_ne.mpr c47
            have c47b1 : (t257 != t259) = true := bne_iff_ne.mpr c47
            exact absurd H (by simp)
          ·rw [if_neg c44] at H
           exact absurd H (by simp)
         ·rw [if_neg c43] at H
          have c43b0 : decide (x14_1 < (l0.length : Int)) = false := decide_eq_false c43
          clear c43
          replace H := Option.bind_eq_some_iff.mp H
          obtain ⟨t264, A560, H⟩ := H
          replace H : ((annuityref23_Find.f k1 l0 a2).bind fun t265 => (if t264 = t265 then ((order_Last.f k1 y230).bind fun t266 => ((annuityref23_Last.f k1 l0).bind fun t267 => (if t266 = t267 then ((order_Rank.f k1 (wrap64 (a2))).bind fun t268 => ((annuityref23_Rank.f k1 (wrap64 (a2))).bind fun t269 => (if t268 = t269 then ((order_Rank.f k1 a1_0).bind fun t270 => ((annuityref23_Rank.f k1 a1_0).bind fun t271 => (if t270 = t271 then ((annuitylaw23_wakes.f k1).bind fun t272 => (some t272)) else (none)))) else (none)))) else (none)))) else (none))) = some r := H
          have A56 := Aside0.mk A560
          clear A560
          replace H := Option.bind_eq_some_iff.mp H
          obtain ⟨t265, A570, H⟩ := H
          replace H : (if t264 = t265 then ((order_Last.f k1 y230).bind fun t266 => ((annuityref23_Last.f k1 l0).bind fun t267 => (if t266 = t267 then ((order_Rank.f k1 (wrap64 (a2))).bind fun t268 => ((annuityref23_Rank.f k1 (wrap64 (a2))).bind fun t269 => (if t268 = t269 then ((order_Rank.f k1 a1_0).bind fun t270 => ((annuityref23_Rank.f k1 a1_0).bind fun t271 => (if t270 = t271 then ((annuitylaw23_wakes.f k1).bind fun t272 => (some t272)) else (none)))) else (none)))) else (none)))) else (none)) = some r := H
          have A57 := Aside0.mk A570
          clear A570
          by_cases c58 : t264 = t265
          ·rw [if_pos c58] at H
           have c58b0 : (t264 == t265) = true := beq_iff_eq.mpr c58
           have c58b1 : (t264 != t265) = false := bne_eq_false_iff_eq.mpr c58
           clear c58
           replace H := Option.bind_eq_some_iff.mp H
           obtain ⟨t266, A590, H⟩ := H
           replace H : ((annuityref23_Last.f k1 l0).bind fun t267 => (if t266 = t267 then ((order_Rank.f k1 (wrap64 (a2))).bind fun t268 => ((annuityref23_Rank.f k1 (wrap64 (a2))).bind fun t269 => (if t268 = t269 then ((order_Rank.f k1 a1_0).bind fun t270 => ((annuityref23_Rank.f k1 a1_0).bind fun t271 => (if t270 = t271 then ((annuitylaw23_wakes.f k1).bind fun t272 => (some t272)) else (none)))) else (none)))) else (none))) = some r := H
           have A59 := Aside0.mk A590
           clear A590
           replace H := Option.bind_eq_some_iff.mp H
           obtain ⟨t267, A600, H⟩ := H
           replace H : (if t266 = t267 then ((order_Rank.f k1 (wrap64 (a2))).bind fun t268 => ((annuityref23_Rank.f k1 (wrap64 (a2))).bind fun t269 => (if t268 = t269 then ((order_Rank.f k1 a1_0).bind fun t270 => ((annuityref23_Rank.f k1 a1_0).bind fun t271 => (if t270 = t271 then ((annuitylaw23_wakes.f k1).bind fun t272 => (some t272)) else (none)))) else (none)))) else (none)) = some r := H
           have A60 := Aside0.mk A600
           clear A600
           by_cases c61 : t266 = t267
           ·rw [if_pos c61] at H
            have c61b0 : (t266 == t267) = true := beq_iff_eq.mpr c61
            have c61b1 : (t266 != t267) = false := bne_eq_false_iff_eq.mpr c61
            clear c61
            replace H := Option.bind_eq_some_iff.mp H
            obtain ⟨t268, A620, H⟩ := H
            replace H : ((annuityref23_Rank.f k1 (wrap64 (a2))).bind fun t269 => (if t268 = t269 then ((order_Rank.f k1 a1_0).bind fun t270 => ((annuityref23_Rank.f k1 a1_0).bind fun t271 => (if t270 = t271 then ((annuitylaw23_wakes.f k1).bind fun t272 => (some t272)) else (none)))) else (none))) = some r := H
            have A62 := Aside0.mk A620
            clear A620
            replace H := Option.bind_eq_some_iff.mp H
            obtain ⟨t269, A630, H⟩ := H
            replace H : (if t268 = t269 then ((order_Rank.f k1 a1_0).bind fun t270 => ((annuityref23_Rank.f k1 a1_0).bind fun t271 => (if t270 = t271 then ((annuitylaw23_wakes.f k1).bind fun t272 => (some t272)) else (none)))) else (none)) = some r := H
            have A63 := Aside0.mk A630
            clear A630
            by_cases c64 : t268 = t269
            ·rw [if_pos c64] at H
             have c64b0 : (t268 == t269) = true := beq_iff_eq.mpr c64
             have c64b1 : (t268 != t269) = false := bne_eq_false_iff_eq.mpr c64
             clear c64
             replace H := Option.bind_eq_some_iff.mp H
             obtain ⟨t270, A650, H⟩ := H
             replace H : ((annuityref23_Rank.f k1 a1_0).bind fun t271 => (if t270 = t271 then ((annuitylaw23_wakes.f k1).bind fun t272 => (some t272)) else (none))) = some r := H
             have A65 := Aside0.mk A650
             clear A650
             replace H := Option.bind_eq_some_iff.mp H
             obtain ⟨t271, A660, H⟩ := H
             replace H : (if t270 = t271 then ((annuitylaw23_wakes.f k1).bind fun t272 => (some t272)) else (none)) = some r := H
             have A66 := Aside0.mk A660
             clear A660
             by_cases c67 : t270 = t271
             ·rw [if_pos c67] at H
              have c67b0 : (t270 == t271) = true := beq_iff_eq.mpr c67
              have c67b1 : (t270 != t271) = false := bne_eq_false_iff_eq.mpr c67
              clear c67
              replace H := Option.bind_eq_some_iff.mp H
              obtain ⟨t272, A680, H⟩ := H
              replace H : (some t272) = some r := H
              have A68 := Aside0.mk A680
              clear A680
              obtain rfl := Option.some.inj H
              try go_wp2
              have n0_ := Aside0.mk (Kd.R_drew HO_7.out)
              have n1_ := Aside0.mk (blk_drew BK225.out)
              have n2_ := Aside0.mk (below_drew1 HB.out)
              clear HO_7
              clear BK225
              clear HB
              have HO_7 := n0_
              have BK225 := n1_
              have HB := n2_
              clear n0_ n1_ n2_
              refine start_ (n := 36) (S := fun w' => w'.cell? ⟨gb225, 0, none⟩ = some (.int .i64 a1_0) ∧ w'.cell? ⟨gb225, 1, none⟩ = some (.int .i64 a1_1) ∧ w'.cell? ⟨gb225, 2, none⟩ = some (.int .u32 a1_2) ∧ w'.cell? ⟨gb225, 3, none⟩ = some (.int .i64 a1_3) ∧ w'.cell? ⟨gb225, 4, none⟩ = some (.int .i64 a1_4) ∧ w'.cell? ⟨gb225, 5, none⟩ = some (.float .f64 a1_5) ∧ w'.cell? ⟨gb225, 6, none⟩ = some (.float .f64 a1_6) ∧ w'.cell? ⟨gb225, 7, none⟩ = some (.bool a1_7) ∧ w'.cell? ⟨gb225, 8, none⟩ = some (.int .i64 a1_8) ∧ w'.cell? ⟨gb225, 9, none⟩ = some (.int .i64 a1_9) ∧ w'.cell? ⟨gb225, 10, none⟩ = some (.int .i64 a1_10)) (ds := []) #[false, false, false, false, false, false, false, false, false, false, false, false, false, false, false, false, false, false, false, false, false, false, false, false, false, false, false, false, false, false, false, false, false, false, false, false] (by kernel_rfl) rfl rfl ⟨(blk_cell BK225.out 0).trans rfl, (blk_cell BK225.out 1).trans rfl, (blk_cell BK225.out 2).trans rfl, (blk_cell BK225.out 3).trans rfl, (blk_cell BK225.out 4).trans rfl, (blk_cell BK225.out 5).trans rfl, (blk_cell BK225.out 6).trans rfl, (blk_cell BK225.out 7).trans rfl, (blk_cell BK225.out 8).trans rfl, (blk_cell BK225.out 9).trans rfl, (blk_cell BK225.out 10).trans rfl⟩ (fun hHeld => ?_); refine with_tabW annuitylaw23_OrderTells.tab14 annuitylaw23_OrderTells.bits14 (fun HT_ HW_ => ?_)
              generalize wr.drew = w69 at HO_7 BK225 HB hHeld ⊢
              refine pure_ (i := 0) (N := some 95) (v := ?_) (a' := ?_) #[true, false, false, false, false, false, false, false, false, false, false, false, false, false, false, false, false, false, false, false, false, false, false, false, false, false, false, false, false, false, false, false, false, false, false, false] rfl rfl (any_of HT_.out (by kernel_rfl)) (fun _ _ _ h => h) (Or.inl ⟨by rfl, ?_⟩) ?_ ?_
              rotate_left
              ·intro w'
               go_simp
               with_reducible rfl
              rotate_left
              ·simp only [Act.put, List.setIfInBounds_toArray, List.set_cons_zero, List.set_cons_succ, i64_w, i32_w]
               rfl
              refine pure_ (i := 1) (N := some 96) (v := ?_) (a' := ?_) #[true, true, false, false, false, false, false, false, false, false, false, false, false, false, false, false, false, false, false, false, false, false, false, false, false, false, false, false, false, false, false, false, false, false, false, false] rfl rfl (any_of HT_.out (by kernel_rfl)) (fun _ _ _ h => h) (Or.inl ⟨by rfl, ?_⟩) ?_ ?_
              rotate_left
              ·intro w'
               go_simp
               with_reducible rfl
              rotate_left
              ·simp only [Act.put, List.setIfInBounds_toArray, List.set_cons_zero, List.set_cons_succ, i64_w, i32_w]
               rfl
              refine pure_ (i := 3) (N := some 98) (v := ?_) (a' := ?_) #[true, true, false, true, false, false, false, false, false, false, false, false, false, false, false, false, false, false, false, false, false, false, false, false, false, false, false, false, false, false, false, false, false, false, false, false] rfl rfl (any_of HT_.out (by kernel_rfl)) (fun _ _ _ h => h) (Or.inl ⟨by rfl, ?_⟩) ?_ ?_
              rotate_left
              ·intro w'
               go_simp
               with_reducible rfl
              rotate_left
              ·simp only [Act.put, List.setIfInBounds_toArray, List.set_cons_zero, List.set_cons_succ, i64_w, i32_w]
               rfl
              refine pure_ (i := 4) (N := some 99) (v := ?_) (a' := ?_) #[true, true, false, true, true, false, false, false, false, false, false, false, false, false, false, false, false, false, false, false, false, false, false, false, false, false, false, false, false, false, false, false, false, false, false, false] rfl rfl (any_of HT_.out (by kernel_rfl)) (fun _ _ _ h => h) (Or.inl ⟨by rfl, ?_⟩) ?_ ?_
              rotate_left
              ·intro w'
               go_simp
               with_reducible rfl
              rotate_left
              ·simp only [Act.put, List.setIfInBounds_toArray, List.set_cons_zero, List.set_cons_succ, i64_w, i32_w]
               rfl
              refine one_ (i := 2) (N := some 97) #[true, true, true, true, true, false, false, false, false, false, false, false, false, false, false, false, false, false, false, false, false, false, false, false, false, false, false, false, false, false, false, false, false, false, false, false] rfl rfl (one_of HT_.out (by kernel_rfl)) (by decide) (fun K hK => ?_)
              refine goes_ Try.func14 (by kernel_rfl) rfl #[.slice Ao25 y230.length co25, .int .u32 a2] (by rfl) rfl rfl (by (try simp only [List.map_toArray, List.map_cons, List.map_nil]); first | done | rfl | (simp only [List.length_drop, List.length_take]; rfl)) ?_
              with_reducible refine (order_Find.calls k1 _ _ y230 a2 t264 _ ?side1 ?side2 A56.out).mono ?_
              (case side1 => repeat (first | exact (Kd.R_reads' HO_7.out).2.2 | (with_reducible refine Kd.C_alloc ?_ _) | (with_reducible refine Kd.C_drewN ?_ _) | (with_reducible refine Kd.C_drew ?_)))
              (case side2 => exact (Kd.R_reads' HO_7.out).2.1)
              rintro e w70 ⟨rfl, hb⟩
              refine ⟨_, rfl, ?_⟩
              have n0_ := Aside0.mk (Kd.R_below (by exact rq HO_7.out) hb)
              have n1_ := Aside0.mk (blk_below (g := gb225) (Up.up BK225.out) hb)
              have n2_ := Aside0.mk (below_step (by exact h1q HB.out GE225.out) hb)
              clear HO_7
              clear BK225
              clear HB
              have HO_7 := n0_
              have BK225 := n1_
              have HB := n2_
              clear n0_ n1_ n2_
              (try clear hb)
              (try clear hb2)
              (try clear hk)
              (try clear hi)
              refine hK.out _ _ ⟨(blk_cell BK225.out 0).trans rfl, (blk_cell BK225.out 1).trans rfl, (blk_cell BK225.out 2).trans rfl, (blk_cell BK225.out 3).trans rfl, (blk_cell BK225.out 4).trans rfl, (blk_cell BK225.out 5).trans rfl, (blk_cell BK225.out 6).trans rfl, (blk_cell BK225.out 7).trans rfl, (blk_cell BK225.out 8).trans rfl, (blk_cell BK225.out 9).trans rfl, (blk_cell BK225.out 10).trans rfl⟩ (fun hHeld => ?_)
              clear hK K
              refine norm_ (a' := ?_) ?_ ?_
              rotate_left
              ·show Act.put _ (some 97) _ = _
               simp only [Act.put, List.setIfInBounds_toArray, List.set_cons_zero, List.set_cons_succ, i64_w, i32_w]
               rfl
              refine one_ (i := 5) (N := some 100) #[true, true, true, true, true, true, false, false, false, false, false, false, false, false, false, false, false, false, false, false, false, false, false, false, false, false, false, false, false, false, false, false, false, false, false, false] rfl rfl (one_of HT_.out (by kernel_rfl)) (by decide) (fun K hK => ?_)
              refine goes_ Try.func15 (by kernel_rfl) rfl #[.slice A0 l0.length c0, .int .u32 a2] (by rfl) rfl rfl (by (try simp only [List.map_toArray, List.map_cons, List.map_nil]); first | done | rfl | (simp only [List.length_drop, List.length_take]; rfl)) ?_
              with_reducible refine (annuityref23_Find.calls k1 _ _ l0 a2 t265 _ ?side1 ?side2 A57.out).mono ?_
              (case side1 => repeat (first | exact (Kd.C_below HR0.out HB.out) | (with_reducible refine Kd.C_alloc ?_ _) | (with_reducible refine Kd.C_drewN ?_ _) | (with_reducible refine Kd.C_drew ?_)))
              (case side2 => exact HC0.out)
              rintro e w' ⟨rfl, ⟨nd, rfl⟩⟩
              refine ⟨_, rfl, ?_⟩
              refine hK.out _ _ ⟨(blk_cell BK225.out 0).trans rfl, (blk_cell BK225.out 1).trans rfl, (blk_cell BK225.out 2).trans rfl, (blk_cell BK225.out 3).trans rfl, (blk_cell BK225.out 4).trans rfl, (blk_cell BK225.out 5).trans rfl, (blk_cell BK225.out 6).trans rfl, (blk_cell BK225.out 7).trans rfl, (blk_cell BK225.out 8).trans rfl, (blk_cell BK225.out 9).trans rfl, (blk_cell BK225.out 10).trans rfl⟩ (fun hHeld => ?_)
              clear hK K
              refine norm_ (a' := ?_) ?_ ?_
              rotate_left
              ·show Act.put _ (some 100) _ = _
               simp only [Act.put, List.setIfInBounds_toArray, List.set_cons_zero, List.set_cons_succ, i64_w, i32_w]
               rfl
              refine pure_ (i := 6) (N := some 101) (v := ?_) (a' := ?_) #[true, true, true, true, true, true, true, false, false, false, false, false, false, false, false, false, false, false, false, false, false, false, false, false, false, false, false, false, false, false, false, false, false, false, false, false] rfl rfl (any_of HT_.out (by kernel_rfl)) (fun _ _ _ h => h) (Or.inl ⟨by rfl, ?_⟩) ?_ ?_
              rotate_left
              ·intro w'
               go_simp
               with_reducible rfl
              rotate_left
              ·simp only [Act.put, List.setIfInBounds_toArray, List.set_cons_zero, List.set_cons_succ, i64_w, i32_w]
               rfl
              refine pure_ (i := 7) (N := some 102) (v := ?_) (a' := ?_) #[true, true, true, true, true, true, true, true, false, false, false, false, false, false, false, false, false, false, false, false, false, false, false, false, false, false, false, false, false, false, false, false, false, false, false, false] rfl rfl (any_of HT_.out (by kernel_rfl)) (fun _ _ _ h => h) (Or.inl ⟨by rfl, ?_⟩) ?_ ?_
              rotate_left
              ·intro w'
               go_simp
               with_reducible rfl
              rotate_left
              ·simp only [Act.put, List.setIfInBounds_toArray, List.set_cons_zero, List.set_cons_succ, i64_w, i32_w]
               rfl
              refine pure_ (i := 8) (N := some 103) (v := ?_) (a' := ?_) #[true, true, true, true, true, true, true, true, true, false, false, false, false, false, false, false, false, false, false, false, false, false, false, false, false, false, false, false, false, false, false, false, false, false, false, false] rfl rfl (any_of HT_.out (by kernel_rfl)) (fun _ _ _ h => h) (Or.inl ⟨by rfl, ?_⟩) ?_ ?_
              rotate_left
              ·intro w'
               go_simp
               with_reducible rfl
              rotate_left
              ·simp only [Act.put, List.setIfInBounds_toArray, List.set_cons_zero, List.set_cons_succ, i64_w, i32_w]
               rfl
              refine pure_ (i := 10) (N := some 105) (v := ?_) (a' := ?_) #[true, true, true, true, true, true, true, true, true, false, true, false, false, false, false, false, false, false, false, false, false, false, false, false, false, false, false, false, false, false, false, false, false, false, false, false] rfl rfl (any_of HT_.out (by kernel_rfl)) (fun _ _ _ h => h) (Or.inl ⟨by rfl, ?_⟩) ?_ ?_
              rotate_left
              ·intro w'
               go_simp
               with_reducible rfl
              rotate_left
              ·simp only [Act.put, List.setIfInBounds_toArray, List.set_cons_zero, List.set_cons_succ, i64_w, i32_w]
               rfl
              refine one_ (i := 9) (N := some 104) #[true, true, true, true, true, true, true, true, true, true, true, false, false, false, false, false, false, false, false, false, false, false, false, false, false, false, false, false, false, false, false, false, false, false, false, false] rfl rfl (one_of HT_.out (by kernel_rfl)) (by decide) (fun K hK => ?_)
              refine goes_ Try.func16 (by kernel_rfl) rfl #[.slice Ao25 y230.length co25] (by rfl) rfl rfl (by (try simp only [List.map_toArray, List.map_cons, List.map_nil]); first | done | rfl | (simp only [List.length_drop, List.length_take]; rfl)) ?_
              with_reducible refine (order_Last.calls k1 _ _ y230 t266 _ ?side1 ?side2 A59.out).mono ?_
              (case side1 => repeat (first | exact (Kd.R_reads' HO_7.out).2.2 | (with_reducible refine Kd.C_alloc ?_ _) | (with_reducible refine Kd.C_drewN ?_ _) | (with_reducible refine Kd.C_drew ?_)))
              (case side2 => exact (Kd.R_reads' HO_7.out).2.1)
              rintro e w71 ⟨rfl, hb⟩
              refine ⟨_, rfl, ?_⟩
              have n0_ := Aside0.mk (Kd.R_below (by exact rq HO_7.out) hb)
              have n1_ := Aside0.mk (blk_below (g := gb225) (Up.up BK225.out) hb)
              have n2_ := Aside0.mk (below_step (by exact h1q HB.out GE225.out) hb)
              clear HO_7
              clear BK225
              clear HB
              have HO_7 := n0_
              have BK225 := n1_
              have HB := n2_
              clear n0_ n1_ n2_
              (try clear hb)
              (try clear hb2)
              (try clear hk)
              (try clear hi)
              refine hK.out _ _ ⟨(blk_cell BK225.out 0).trans rfl, (blk_cell BK225.out 1).trans rfl, (blk_cell BK225.out 2).trans rfl, (blk_cell BK225.out 3).trans rfl, (blk_cell BK225.out 4).trans rfl, (blk_cell BK225.out 5).trans rfl, (blk_cell BK225.out 6).trans rfl, (blk_cell BK225.out 7).trans rfl, (blk_cell BK225.out 8).trans rfl, (blk_cell BK225.out 9).trans rfl, (blk_cell BK225.out 10).trans rfl⟩ (fun hHeld => ?_)
              clear hK K
              refine norm_ (a' := ?_) ?_ ?_
              rotate_left
              ·show Act.put _ (some 104) _ = _
               simp only [Act.put, List.setIfInBounds_toArray, List.set_cons_zero, List.set_cons_succ, i64_w, i32_w]
               rfl
              refine one_ (i := 11) (N := some 106) #[true, true, true, true, true, true, true, true, true, true, true, true, false, false, false, false, false, false, false, false, false, false, false, false, false, false, false, false, false, false, false, false, false, false, false, false] rfl rfl (one_of HT_.out (by kernel_rfl)) (by decide) (fun K hK => ?_)
              refine goes_ Try.func17 (by kernel_rfl) rfl #[.slice A0 l0.length c0] (by rfl) rfl rfl (by (try simp only [List.map_toArray, List.map_cons, List.map_nil]); first | done | rfl | (simp only [List.length_drop, List.length_take]; rfl)) ?_
              with_reducible refine (annuityref23_Last.calls k1 _ _ l0 t267 _ ?side1 ?side2 A60.out).mono ?_
              (case side1 => repeat (first | exact (Kd.C_below HR0.out HB.out) | (with_reducible refine Kd.C_alloc ?_ _) | (with_reducible refine Kd.C_drewN ?_ _) | (with_reducible refine Kd.C_drew ?_)))
              (case side2 => exact HC0.out)
              rintro e w' ⟨rfl, ⟨nd, rfl⟩⟩
              refine ⟨_, rfl, ?_⟩
              refine hK.out _ _ ⟨(blk_cell BK225.out 0).trans rfl, (blk_cell BK225.out 1).trans rfl, (blk_cell BK225.out 2).trans rfl, (blk_cell BK225.out 3).trans rfl, (blk_cell BK225.out 4).trans rfl, (blk_cell BK225.out 5).trans rfl, (blk_cell BK225.out 6).trans rfl, (blk_cell BK225.out 7).trans rfl, (blk_cell BK225.out 8).trans rfl, (blk_cell BK225.out 9).trans rfl, (blk_cell BK225.out 10).trans rfl⟩ (fun hHeld => ?_)
              clear hK K
              refine norm_ (a' := ?_) ?_ ?_
              rotate_left
              ·show Act.put _ (some 106) _ = _
               simp only [Act.put, List.setIfInBounds_toArray, List.set_cons_zero, List.set_cons_succ, i64_w, i32_w]
               rfl
              refine pure_ (i := 12) (N := some 107) (v := ?_) (a' := ?_) #[true, true, true, true, true, true, true, true, true, true, true, true, true, false, false, false, false, false, false, false, false, false, false, false, false, false, false, false, false, false, false, false, false, false, false, false] rfl rfl (any_of HT_.out (by kernel_rfl)) (fun _ _ _ h => h) (Or.inl ⟨by rfl, ?_⟩) ?_ ?_
              rotate_left
              ·intro w'
               go_simp
               with_reducible rfl
              rotate_left
              ·simp only [Act.put, List.setIfInBounds_toArray, List.set_cons_zero, List.set_cons_succ, i64_w, i32_w]
               rfl
              refine pure_ (i := 13) (N := some 108) (v := ?_) (a' := ?_) #[true, true, true, true, true, true, true, true, true, true, true, true, true, true, false, false, false, false, false, false, false, false, false, false, false, false, false, false, false, false, false, false, false, false, false, false] rfl rfl (any_of HT_.out (by kernel_rfl)) (fun _ _ _ h => h) (Or.inl ⟨by rfl, ?_⟩) ?_ ?_
              rotate_left
              ·intro w'
               go_simp
               with_reducible rfl
              rotate_left
              ·simp only [Act.put, List.setIfInBounds_toArray, List.set_cons_zero, List.set_cons_succ, i64_w, i32_w]
               rfl
              refine pure_ (i := 14) (N := some 109) (v := ?_) (a' := ?_) #[true, true, true, true, true, true, true, true, true, true, true, true, true, true, true, false, false, false, false, false, false, false, false, false, false, false, false, false, false, false, false, false, false, false, false, false] rfl rfl (any_of HT_.out (by kernel_rfl)) (fun _ _ _ h => h) (Or.inl ⟨by rfl, ?_⟩) ?_ ?_
              rotate_left
              ·intro w'
               go_simp
               with_reducible rfl
              rotate_left
              ·simp only [Act.put, List.setIfInBounds_toArray, List.set_cons_zero, List.set_cons_succ, i64_w, i32_w]
               rfl
              refine pure_ (i := 15) (N := some 110) (v := ?_) (a' := ?_) #[true, true, true, true, true, true, true, true, true, true, true, true, true, true, true, true, false, false, false, false, false, false, false, false, false, false, false, false, false, false, false, false, false, false, false, false] rfl rfl (any_of HT_.out (by kernel_rfl)) (fun _ _ _ h => h) (Or.inl ⟨by rfl, ?_⟩) ?_ ?_
              rotate_left
              ·intro w'
               go_simp
               with_reducible rfl
              rotate_left
              ·simp only [Act.put, List.setIfInBounds_toArray, List.set_cons_zero, List.set_cons_succ, i64_w, i32_w]
               rfl
              refine pure_ (i := 16) (N := some 111) (v := ?_) (a' := ?_) #[true, true, true, true, true, true, true, true, true, true, true, true, true, true, true, true, true, false, false, false, false, false, false, false, false, false, false, false, false, false, false, false, false, false, false, false] rfl rfl (any_of HT_.out (by kernel_rfl)) (fun _ _ _ h => h) (Or.inl ⟨by rfl, ?_⟩) ?_ ?_
              rotate_left
              ·intro w'
               go_simp
               with_reducible rfl
              rotate_left
              ·simp only [Act.put, List.setIfInBounds_toArray, List.set_cons_zero, List.set_cons_succ, i64_w, i32_w]
               rfl
              refine pure_ (i := 18) (N := some 113) (v := ?_) (a' := ?_) #[true, true, true, true, true, true, true, true, true, true, true, true, true, true, true, true, true, false, true, false, false, false, false, false, false, false, false, false, false, false, false, false, false, false, false, false] rfl rfl (any_of HT_.out (by kernel_rfl)) (fun _ _ _ h => h) (Or.inl ⟨by rfl, ?_⟩) ?_ ?_
              rotate_left
              ·intro w'
               go_simp
               with_reducible rfl
              rotate_left
              ·simp only [Act.put, List.setIfInBounds_toArray, List.set_cons_zero, List.set_cons_succ, i64_w, i32_w]
               rfl
              refine pure_ (i := 19) (N := some 114) (v := ?_) (a' := ?_) #[true, true, true, true, true, true, true, true, true, true, true, true, true, true, true, true, true, false, true, true, false, false, false, false, false, false, false, false, false, false, false, false, false, false, false, false] rfl rfl (any_of HT_.out (by kernel_rfl)) (fun _ _ _ h => h) (Or.inl ⟨by rfl, ?_⟩) ?_ ?_
              rotate_left
              ·intro w'
               go_simp
               with_reducible rfl
              rotate_left
              ·simp only [Act.put, List.setIfInBounds_toArray, List.set_cons_zero, List.set_cons_succ, i64_w, i32_w]
               rfl
              refine one_ (i := 17) (N := some 112) #[true, true, true, true, true, true, true, true, true, true, true, true, true, true, true, true, true, true, true, true, false, false, false, false, false, false, false, false, false, false, false, false, false, false, false, false] rfl rfl (one_of HT_.out (by kernel_rfl)) (by decide) (fun K hK => ?_)
              refine goes_ Try.func18 (by kernel_rfl) rfl #[.int .i64 (wrap64 (a2))] (by rfl) rfl rfl (by (try simp only [List.map_toArray, List.map_cons, List.map_nil]); first | done | rfl | (simp only [List.length_drop, List.length_take]; rfl)) ?_
              with_reducible refine (order_Rank.calls k1 (wrap64 (a2)) t268 _ A62.out).mono ?_
              rintro e w72 ⟨rfl, hb⟩
              refine ⟨_, rfl, ?_⟩
              have n0_ := Aside0.mk (Kd.R_below (by exact rq HO_7.out) hb)
              have n1_ := Aside0.mk (blk_below (g := gb225) (Up.up BK225.out) hb)
              have n2_ := Aside0.mk (below_step (by exact h1q HB.out GE225.out) hb)
              clear HO_7
              clear BK225
              clear HB
              have HO_7 := n0_
              have BK225 := n1_
              have HB := n2_
              clear n0_ n1_ n2_
              (try clear hb)
              (try clear hb2)
              (try clear hk)
              (try clear hi)
              refine hK.out _ _ ⟨(blk_cell BK225.out 0).trans rfl, (blk_cell BK225.out 1).trans rfl, (blk_cell BK225.out 2).trans rfl, (blk_cell BK225.out 3).trans rfl, (blk_cell BK225.out 4).trans rfl, (blk_cell BK225.out 5).trans rfl, (blk_cell BK225.out 6).trans rfl, (blk_cell BK225.out 7).trans rfl, (blk_cell BK225.out 8).trans rfl, (blk_cell BK225.out 9).trans rfl, (blk_cell BK225.out 10).trans rfl⟩ (fun hHeld => ?_)
              clear hK K
              refine norm_ (a' := ?_) ?_ ?_
              rotate_left
              ·show Act.put _ (some 112) _ = _
               simp only [Act.put, List.setIfInBounds_toArray, List.set_cons_zero, List.set_cons_succ, i64_w, i32_w]
               rfl
              refine one_ (i := 20) (N := some 115) #[true, true, true, true, true, true, true, true, true, true, true, true, true, true, true, true, true, true, true, true, true, false, false, false, false, false, false, false, false, false, false, false, false, false, false, false] rfl rfl (one_of HT_.out (by kernel_rfl)) (by decide) (fun K hK => ?_)
              refine goes_ Try.func19 (by kernel_rfl) rfl #[.int .i64 (wrap64 (a2))] (by rfl) rfl rfl (by (try simp only [List.map_toArray, List.map_cons, List.map_nil]); first | done | rfl | (simp only [List.length_drop, List.length_take]; rfl)) ?_
              with_reducible refine (annuityref23_Rank.calls k1 (wrap64 (a2)) t269 _ A63.out).mono ?_
              rintro e w73 ⟨rfl, hb⟩
              refine ⟨_, rfl, ?_⟩
              have n0_ := Aside0.mk (Kd.R_below (by exact rq HO_7.out) hb)
              have n1_ := Aside0.mk (blk_below (g := gb225) (Up.up BK225.out) hb)
              have n2_ := Aside0.mk (below_step (by exact h1q HB.out GE225.out) hb)
              clear HO_7
              clear BK225
              clear HB
              have HO_7 := n0_
              have BK225 := n1_
              have HB := n2_
              clear n0_ n1_ n2_
              (try clear hb)
              (try clear hb2)
              (try clear hk)
              (try clear hi)
              refine hK.out _ _ ⟨(blk_cell BK225.out 0).trans rfl, (blk_cell BK225.out 1).trans rfl, (blk_cell BK225.out 2).trans rfl, (blk_cell BK225.out 3).trans rfl, (blk_cell BK225.out 4).trans rfl, (blk_cell BK225.out 5).trans rfl, (blk_cell BK225.out 6).trans rfl, (blk_cell BK225.out 7).trans rfl, (blk_cell BK225.out 8).trans rfl, (blk_cell BK225.out 9).trans rfl, (blk_cell BK225.out 10).trans rfl⟩ (fun hHeld => ?_)
              clear hK K
              refine norm_ (a' := ?_) ?_ ?_
              rotate_left
              ·show Act.put _ (some 115) _ = _
               simp only [Act.put, List.setIfInBounds_toArray, List.set_cons_zero, List.set_cons_succ, i64_w, i32_w]
               rfl
              refine pure_ (i := 21) (N := some 116) (v := ?_) (a' := ?_) #[true, true, true, true, true, true, true, true, true, true, true, true, true, true, true, true, true, true, true, true, true, true, false, false, false, false, false, false, false, false, false, false, false, false, false, false] rfl rfl (any_of HT_.out (by kernel_rfl)) (fun _ _ _ h => h) (Or.inl ⟨by rfl, ?_⟩) ?_ ?_
              rotate_left
              ·intro w'
               go_simp
               with_reducible rfl
              rotate_left
              ·simp only [Act.put, List.setIfInBounds_toArray, List.set_cons_zero, List.set_cons_succ, i64_w, i32_w]
               rfl
              refine pure_ (i := 22) (N := some 117) (v := ?_) (a' := ?_) #[true, true, true, true, true, true, true, true, true, true, true, true, true, true, true, true, true, true, true, true, true, true, true, false, false, false, false, false, false, false, false, false, false, false, false, false] rfl rfl (any_of HT_.out (by kernel_rfl)) (fun _ _ _ h => h) (Or.inl ⟨by rfl, ?_⟩) ?_ ?_
              rotate_left
              ·intro w'
               go_simp
               with_reducible rfl
              rotate_left
              ·simp only [Act.put, List.setIfInBounds_toArray, List.set_cons_zero, List.set_cons_succ, i64_w, i32_w]
               rfl
              refine pure_ (i := 23) (N := some 118) (v := ?_) (a' := ?_) #[true, true, true, true, true, true, true, true, true, true, true, true, true, true, true, true, true, true, true, true, true, true, true, true, false, false, false, false, false, false, false, false, false, false, false, false] rfl rfl (any_of HT_.out (by kernel_rfl)) (fun _ _ _ h => h) (Or.inl ⟨by rfl, ?_⟩) ?_ ?_
              rotate_left
              ·intro w'
               go_simp
               with_reducible rfl
              rotate_left
              ·simp only [Act.put, List.setIfInBounds_toArray, List.set_cons_zero, List.set_cons_succ, i64_w, i32_w]
               rfl
              refine pure_ (i := 24) (N := some 119) (v := ?_) (a' := ?_) #[true, true, true, true, true, true, true, true, true, true, true, true, true, true, true, true, true, true, true, true, true, true, true, true, true, false, false, false, false, false, false, false, false, false, false, false] rfl rfl (any_of HT_.out (by kernel_rfl)) (fun _ _ _ h => h) (Or.inl ⟨by rfl, ?_⟩) ?_ ?_
              rotate_left
              ·intro w'
               go_simp
               with_reducible rfl
              rotate_left
              ·simp only [Act.put, List.setIfInBounds_toArray, List.set_cons_zero, List.set_cons_succ, i64_w, i32_w]
               rfl
              refine pure_ (i := 27) (N := some 122) (v := ?_) (a' := ?_) #[true, true, true, true, true, true, true, true, true, true, true, true, true, true, true, true, true, true, true, true, true, true, true, true, true, false, false, true, false, false, false, false, false, false, false, false] rfl rfl (any_of HT_.out (by kernel_rfl)) (fun _ _ _ h => h) (Or.inl ⟨by rfl, ?_⟩) ?_ ?_
              rotate_left
              ·intro w'
               go_simp
               with_reducible rfl
              rotate_left
              ·simp only [Act.put, List.setIfInBounds_toArray, List.set_cons_zero, List.set_cons_succ, i64_w, i32_w]
               rfl
              refine take_ (i := 25) (N := some 120) (v := ?_) (a' := ?_) #[true, true, true, true, true, true, true, true, true, true, true, true, true, true, true, true, true, true, true, true, true, true, true, true, true, true, false, true, false, false, false, false, false, false, false, false] rfl rfl (take_ofW HT_.out HW_.out (by kernel_rfl)) (fun _ _ _ h => h) (Or.inl ⟨by rfl, ?_⟩) hHeld ?_ ?_
              rotate_left
              ·rintro w' ⟨s0, s1, s2, s3, s4, s5, s6, s7, s8, s9, s10⟩
               go_simp
               with_reducible rfl
              rotate_left
              ·simp only [Act.put, List.setIfInBounds_toArray, List.set_cons_zero, List.set_cons_succ, i64_w, i32_w]
               rfl
              refine take_ (i := 28) (N := some 123) (v := ?_) (a' := ?_) #[true, true, true, true, true, true, true, true, true, true, true, true, true, true, true, true, true, true, true, true, true, true, true, true, true, true, false, true, true, false, false, false, false, false, false, false] rfl rfl (take_ofW HT_.out HW_.out (by kernel_rfl)) (fun _ _ _ h => h) (Or.inl ⟨by rfl, ?_⟩) hHeld ?_ ?_
              rotate_left
              ·rintro w' ⟨s0, s1, s2, s3, s4, s5, s6, s7, s8, s9, s10⟩
               go_simp
               with_reducible rfl
              rotate_left
              ·simp only [Act.put, List.setIfInBounds_toArray, List.set_cons_zero, List.set_cons_succ, i64_w, i32_w]
               rfl
              refine one_ (i := 26) (N := some 121) #[true, true, true, true, true, true, true, true, true, true, true, true, true, true, true, true, true, true, true, true, true, true, true, true, true, true, true, true, true, false, false, false, false, false, false, false] rfl rfl (one_of HT_.out (by kernel_rfl)) (by decide) (fun K hK => ?_)
              refine goes_ Try.func18 (by kernel_rfl) rfl #[.int .i64 a1_0] (by rfl) rfl rfl (by (try simp only [List.map_toArray, List.map_cons, List.map_nil]); first | done | rfl | (simp only [List.length_drop, List.length_take]; rfl)) ?_
              with_reducible refine (order_Rank.calls k1 a1_0 t270 _ A65.out).mono ?_
              rintro e w74 ⟨rfl, hb⟩
              refine ⟨_, rfl, ?_⟩
              have n0_ := Aside0.mk (Kd.R_below (by exact rq HO_7.out) hb)
              have n1_ := Aside0.mk (blk_below (g := gb225) (Up.up BK225.out) hb)
              have n2_ := Aside0.mk (below_step (by exact h1q HB.out GE225.out) hb)
              clear HO_7
              clear BK225
              clear HB
              have HO_7 := n0_
              have BK225 := n1_
              have HB := n2_
              clear n0_ n1_ n2_
              (try clear hb)
              (try clear hb2)
              (try clear hk)
              (try clear hi)
              refine hK.out _ _ ⟨(blk_cell BK225.out 0).trans rfl, (blk_cell BK225.out 1).trans rfl, (blk_cell BK225.out 2).trans rfl, (blk_cell BK225.out 3).trans rfl, (blk_cell BK225.out 4).trans rfl, (blk_cell BK225.out 5).trans rfl, (blk_cell BK225.out 6).trans rfl, (blk_cell BK225.out 7).trans rfl, (blk_cell BK225.out 8).trans rfl, (blk_cell BK225.out 9).trans rfl, (blk_cell BK225.out 10).trans rfl⟩ (fun hHeld => ?_)
              clear hK K
              refine norm_ (a' := ?_) ?_ ?_
              rotate_left
              ·show Act.put _ (some 121) _ = _
               simp only [Act.put, List.setIfInBounds_toArray, List.set_cons_zero, List.set_cons_succ, i64_w, i32_w]
               rfl
              refine one_ (i := 29) (N := some 124) #[true, true, true, true, true, true, true, true, true, true, true, true, true, true, true, true, true, true, true, true, true, true, true, true, true, true, true, true, true, true, false, false, false, false, false, false] rfl rfl (one_of HT_.out (by kernel_rfl)) (by decide) (fun K hK => ?_)
              refine goes_ Try.func19 (by kernel_rfl) rfl #[.int .i64 a1_0] (by rfl) rfl rfl (by (try simp only [List.map_toArray, List.map_cons, List.map_nil]); first | done | rfl | (simp only [List.length_drop, List.length_take]; rfl)) ?_
              with_reducible refine (annuityref23_Rank.calls k1 a1_0 t271 _ A66.out).mono ?_
              rintro e w75 ⟨rfl, hb⟩
              refine ⟨_, rfl, ?_⟩
              have n0_ := Aside0.mk (Kd.R_below (by exact rq HO_7.out) hb)
              have n1_ := Aside0.mk (blk_below (g := gb225) (Up.up BK225.out) hb)
              have n2_ := Aside0.mk (below_step (by exact h1q HB.out GE225.out) hb)
              clear HO_7
              clear BK225
              clear HB
              have HO_7 := n0_
              have BK225 := n1_
              have HB := n2_
              clear n0_ n1_ n2_
              (try clear hb)
              (try clear hb2)
              (try clear hk)
              (try clear hi)
              refine hK.out _ _ ⟨(blk_cell BK225.out 0).trans rfl, (blk_cell BK225.out 1).trans rfl, (blk_cell BK225.out 2).trans rfl, (blk_cell BK225.out 3).trans rfl, (blk_cell BK225.out 4).trans rfl, (blk_cell BK225.out 5).trans rfl, (blk_cell BK225.out 6).trans rfl, (blk_cell BK225.out 7).trans rfl, (blk_cell BK225.out 8).trans rfl, (blk_cell BK225.out 9).trans rfl, (blk_cell BK225.out 10).trans rfl⟩ (fun hHeld => ?_)
              clear hK K
              refine norm_ (a' := ?_) ?_ ?_
              rotate_left
              ·show Act.put _ (some 124) _ = _
               simp only [Act.put, List.setIfInBounds_toArray, List.set_cons_zero, List.set_cons_succ, i64_w, i32_w]
               rfl
              refine pure_ (i := 30) (N := some 125) (v := ?_) (a' := ?_) #[true, true, true, true, true, true, true, true, true, true, true, true, true, true, true, true, true, true, true, true, true, true, true, true, true, true, true, true, true, true, true, false, false, false, false, false] rfl rfl (any_of HT_.out (by kernel_rfl)) (fun _ _ _ h => h) (Or.inl ⟨by rfl, ?_⟩) ?_ ?_
              rotate_left
              ·intro w'
               go_simp
               with_reducible rfl
              rotate_left
              ·simp only [Act.put, List.setIfInBounds_toArray, List.set_cons_zero, List.set_cons_succ, i64_w, i32_w]
               rfl
              refine pure_ (i := 31) (N := some 126) (v := ?_) (a' := ?_) #[true, true, true, true, true, true, true, true, true, true, true, true, true, true, true, true, true, true, true, true, true, true, true, true, true, true, true, true, true, true, true, true, false, false, false, false] rfl rfl (any_of HT_.out (by kernel_rfl)) (fun _ _ _ h => h) (Or.inl ⟨by rfl, ?_⟩) ?_ ?_
              rotate_left
              ·intro w'
               go_simp
               with_reducible rfl
              rotate_left
              ·simp only [Act.put, List.setIfInBounds_toArray, List.set_cons_zero, List.set_cons_succ, i64_w, i32_w]
               rfl
              refine pure_ (i := 32) (N := some 127) (v := ?_) (a' := ?_) #[true, true, true, true, true, true, true, true, true, true, true, true, true, true, true, true, true, true, true, true, true, true, true, true, true, true, true, true, true, true, true, true, true, false, false, false] rfl rfl (any_of HT_.out (by kernel_rfl)) (fun _ _ _ h => h) (Or.inl ⟨by rfl, ?_⟩) ?_ ?_
              rotate_left
              ·intro w'
               go_simp
               with_reducible rfl
              rotate_left
              ·simp only [Act.put, List.setIfInBounds_toArray, List.set_cons_zero, List.set_cons_succ, i64_w, i32_w]
               rfl
              refine one_ (i := 33) (N := some 128) #[true, true, true, true, true, true, true, true, true, true, true, true, true, true, true, true, true, true, true, true, true, true, true, true, true, true, true, true, true, true, true, true, true, true, false, false] rfl rfl (one_of HT_.out (by kernel_rfl)) (by decide) (fun K hK => ?_)
              refine goes_ Try.func6 (by kernel_rfl) rfl #[] (by rfl) rfl rfl (by (try simp only [List.map_toArray, List.map_cons, List.map_nil]); first | done | rfl | (simp only [List.length_drop, List.length_take]; rfl)) ?_
              with_reducible refine (annuitylaw23_wakes.calls k1  t272 _ A68.out).mono ?_
              rintro e w76 ⟨rfl, hb⟩
              refine ⟨_, rfl, ?_⟩
              have n0_ := Aside0.mk (Kd.R_below (by exact rq HO_7.out) hb)
              have n1_ := Aside0.mk (blk_below (g := gb225) (Up.up BK225.out) hb)
              have n2_ := Aside0.mk (below_step (by exact h1q HB.out GE225.out) hb)
              clear HO_7
              clear BK225
              clear HB
              have HO_7 := n0_
              have BK225 := n1_
              have HB := n2_
              clear n0_ n1_ n2_
              (try clear hb)
              (try clear hb2)
              (try clear hk)
              (try clear hi)
              refine hK.out _ _ ⟨(blk_cell BK225.out 0).trans rfl, (blk_cell BK225.out 1).trans rfl, (blk_cell BK225.out 2).trans rfl, (blk_cell BK225.out 3).trans rfl, (blk_cell BK225.out 4).trans rfl, (blk_cell BK225.out 5).trans rfl, (blk_cell BK225.out 6).trans rfl, (blk_cell BK225.out 7).trans rfl, (blk_cell BK225.out 8).trans rfl, (blk_cell BK225.out 9).trans rfl, (blk_cell BK225.out 10).trans rfl⟩ (fun hHeld => ?_)
              clear hK K
              refine norm_ (a' := ?_) ?_ ?_
              rotate_left
              ·show Act.put _ (some 128) _ = _
               simp only [Act.put, List.setIfInBounds_toArray, List.set_cons_zero, List.set_cons_succ, i64_w, i32_w]
               rfl
              refine pure_ (i := 34) (N := some 129) (v := ?_) (a' := ?_) #[true, true, true, true, true, true, true, true, true, true, true, true, true, true, true, true, true, true, true, true, true, true, true, true, true, true, true, true, true, true, true, true, true, true, true, false] rfl rfl (any_of HT_.out (by kernel_rfl)) (fun _ _ _ h => h) (Or.inl ⟨by rfl, ?_⟩) ?_ ?_
              rotate_left
              ·intro w'
               go_simp
               with_reducible rfl
              rotate_left
              ·simp only [Act.put, List.setIfInBounds_toArray, List.set_cons_zero, List.set_cons_succ, i64_w, i32_w]
               rfl
              refine pure_ (i := 35) (N := some 6) (v := ?_) (a' := ?_) #[true, true, true, true, true, true, true, true, true, true, true, true, true, true, true, true, true, true, true, true, true, true, true, true, true, true, true, true, true, true, true, true, true, true, true, true] rfl rfl (any_of HT_.out (by kernel_rfl)) (fun _ _ _ h => h) (Or.inl ⟨by rfl, ?_⟩) ?_ ?_
              rotate_left
              ·intro w'
               go_simp
               with_reducible rfl
              rotate_left
              ·simp only [Act.put, List.setIfInBounds_toArray, List.set_cons_zero, List.set_cons_succ, i64_w, i32_w]
               rfl
              refine done_ (done_of HT_.out (by kernel_rfl)) ?_
              try go_wp2
              go_ret
              exact ⟨by first | rfl | (simp [errW_none, errW_some] <;> rfl) | (simp [*, errW_none, errW_some] <;> rfl), by exact h1q HB.out GE225.out⟩
             ·rw [if_neg c67] at H
              have c67b0 : (t270 == t271) = false := beq_eq_false_iff_ne.mpr c67
              have c67b1 : (t270 != t271) = true := bne_iff_ne.mpr c67
              exact absurd H (by simp)
            ·rw [if_neg c64] at H
             have c64b0 : (t268 == t269) = false := beq_eq_false_iff_ne.mpr c64
             have c64b1 : (t268 != t269) = true := bne_iff_ne.mpr c64
             exact absurd H (by simp)
           ·rw [if_neg c61] at H
            have c61b0 : (t266 == t267) = false := beq_eq_false_iff_ne.mpr c61
            have c61b1 : (t266 != t267) = true := bne_iff_ne.mpr c61
            exact absurd H (by simp)
          ·rw [if_neg c58] at H
           have c58b0 : (t264 == t265) = false := beq_eq_false_iff_ne.mpr c58
           have c58b1 : (t264 != t265) = true := bne_iff_ne.mpr c58
           exact absurd H (by simp)
       ·replace c20 := Bool.eq_false_iff.mpr c20
        subst c20
        have H1 : (none) = some r := by rw [if_neg (show ¬ (false = true) by decide)] at H; exact H
        clear H
        have H := H1
        clear H1
        exact absurd H (by simp)
      ·rw [if_neg c18] at H
       exact absurd H (by simp)
     ·replace c17 := Bool.eq_false_iff.mpr c17
      subst c17
      have H1 : (none) = some r := by rw [if_neg (show ¬ (false = true) by decide)] at H; exact H
      clear H
      have H := H1
      clear H1
      exact absurd H (by simp)
    ·replace c15 := Bool.eq_false_iff.mpr c15
     subst c15
     have H1 : (none) = some r := by rw [if_neg (show ¬ (false = true) by decide)] at H; exact H
     clear H
     have H := H1
     clear H1
     exact absurd H (by simp)
   ·rw [if_neg c11] at H
    exact absurd H (by simp)
  ·rw [if_neg c8] at H
   exact absurd H (by simp)

/-- What is known of an element that came in. -/
def annuitylaw23_OrderTells.wf26 (x : S26) : Prop := (Lit.int .i64 x.f0).wf = true ∧ (Lit.int .i64 x.f1).wf = true ∧ (Lit.int .u32 x.f2).wf = true ∧ (Lit.int .i64 x.f3).wf = true ∧ (Lit.int .i64 x.f4).wf = true ∧ (Lit.int .i64 x.f8).wf = true ∧ (Lit.int .i64 x.f9).wf = true ∧ (Lit.int .i64 x.f10).wf = true
/-- THE ONE PURE STATEMENT of annuitylaw23_OrderTells: yours. -/
def annuitylaw23_OrderTells.Pure : Prop := ∀ (l0 : List (S26)) (a1_0 : Int) (a1_1 : Int) (a1_2 : Int) (a1_3 : Int) (a1_4 : Int) (a1_5 : Nat) (a1_6 : Nat) (a1_7 : Bool) (a1_8 : Int) (a1_9 : Int) (a1_10 : Int) (a2 : Int), l0.length ≤ maxLen → l0.length * 88 ≤ 140737488351232 → (∀ x ∈ l0, annuitylaw23_OrderTells.wf26 x) → (Lit.int .i64 a1_0).wf = true → (Lit.int .i64 a1_1).wf = true → (Lit.int .u32 a1_2).wf = true → (Lit.int .i64 a1_3).wf = true → (Lit.int .i64 a1_4).wf = true → (Lit.int .i64 a1_8).wf = true → (Lit.int .i64 a1_9).wf = true → (Lit.int .i64 a1_10).wf = true → (Lit.int .u32 a2).wf = true → ∃ k, annuitylaw23_OrderTells.f k l0 a1_0 a1_1 a1_2 a1_3 a1_4 a1_5 a1_6 a1_7 a1_8 a1_9 a1_10 a2 = some true
theorem annuitylaw23_OrderTells.walk (P : annuitylaw23_OrderTells.Pure) (a0 : Option Addr) (cap0 : Nat) (l0 : List S26) (a1_0 : Int) (a1_1 : Int) (a1_2 : Int) (a1_3 : Int) (a1_4 : Int) (a1_5 : Nat) (a1_6 : Nat) (a1_7 : Bool) (a1_8 : Int) (a1_9 : Int) (a1_10 : Int) (a2 : Int) (w : World) (hr0 : Kd.C k26 w a0 l0.length l0) (hc0 : l0.length ≤ cap0) (hm0 : l0.length ≤ maxLen) (y0 : l0.length * 88 ≤ 140737488351232) (hw0 : ∀ x ∈ l0, annuitylaw23_OrderTells.wf26 x) (w1_0 : (Lit.int .i64 a1_0).wf = true) (w1_1 : (Lit.int .i64 a1_1).wf = true) (w1_2 : (Lit.int .u32 a1_2).wf = true) (w1_3 : (Lit.int .i64 a1_3).wf = true) (w1_4 : (Lit.int .i64 a1_4).wf = true) (w1_8 : (Lit.int .i64 a1_8).wf = true) (w1_9 : (Lit.int .i64 a1_9).wf = true) (w1_10 : (Lit.int .i64 a1_10).wf = true) (w2 : (Lit.int .u32 a2).wf = true) :
  Calls Try.prog 3 #[.slice a0 l0.length cap0, .agg #[.int .i64 a1_0, .int .i64 a1_1, .int .u32 a1_2, .int .i64 a1_3, .int .i64 a1_4, .float .f64 a1_5, .float .f64 a1_6, .bool a1_7, .int .i64 a1_8, .int .i64 a1_9, .int .i64 a1_10], .int .u32 a2] w fun e w' => e = .returned (.bool true) ∧ Below w.heap.size w w' := by
 obtain ⟨k, h⟩ := P l0 a1_0 a1_1 a1_2 a1_3 a1_4 a1_5 a1_6 a1_7 a1_8 a1_9 a1_10 a2 hm0 y0 hw0 w1_0 w1_1 w1_2 w1_3 w1_4 w1_8 w1_9 w1_10 w2
 refine (annuitylaw23_OrderTells.calls k _ _ l0 a1_0 a1_1 a1_2 a1_3 a1_4 a1_5 a1_6 a1_7 a1_8 a1_9 a1_10 a2 true w hr0 hc0 h).mono ?_
 rintro e w' ⟨rfl, hd⟩
 exact ⟨rfl, hd⟩

end Go.Proofs.Ytjdhhbjnihhncaa.P
