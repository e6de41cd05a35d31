/- Functions of the program as plain Lean functions, and proofs that its calls come to just their answers, where they tell one (written by a program of this session). -/
import Derived.Test.YtakcepffodipfaaZaa
import Derived.Test.YtakcepffodipfaaPx0
import Derived.Test.YtakcepffodipfaaPx1
namespace Go.Proofs.Ytakcepffodipfaa.P
open Go.RowKit Go.Proofs.YtakcepffodipfaaW.PrintWords Go.Proofs.YtakcepffodipfaaW.PrintLast Go.Proofs.YtakcepffodipfaaW.PrintMore
attribute [local go_sem] max2_int min2_int max_two min_two max_three min_three max_four min_four   -- for this text's walks alone
set_option linter.unusedVariables false
set_option linter.unusedSimpArgs false

-- NOT PRINTED: function 62 (loan_does_1)

-- NOT PRINTED: function 63 (loan_stop)

-- NOT PRINTED: function 49 (loan_does)

-- NOT PRINTED: function 52 (money_Sum_1)

-- NOT PRINTED: function 53 (money_add)

/-! ### money_Sum: function 39 -/
/-- Is it money? -/
def isMoney (a : Int) : Bool := decide (-10000000000000 ≤ a ∧ a ≤ 10000000000000)
theorem money_Good.some_ (a : Int) : money_Good.f a = some (isMoney a) := by
 unfold money_Good.f isMoney
 by_cases h : a ≥ -10000000000000
 ·rw [if_pos h]; simp [h]
 ·rw [if_neg h]; simp; omega
/-- All of a list, one behind the other. -/
def money_Sum.go : List Int → Int → Int × Int
 | [], s => (s, 0)
 | a :: l, s => if isMoney s && (isMoney a && isMoney (s + a)) then money_Sum.go l (s + a) else (0, 14)
def money_Sum.f (l0 : List Int) : Option (Int × Int) := if l0.length ≤ 140737488351232 then some (money_Sum.go l0 0) else none
set_option maxHeartbeats 8000000 in
set_option maxRecDepth 100000 in
theorem money_Sum.add_ok (a b : Int) (w : World) (h1 : isMoney a = true) (h2 : isMoney b = true) (h3 : isMoney (a + b) = true) :
  Calls Try.prog 53 #[.int .i64 a, .int .i64 b] w fun e w' => e = .returned (.int .i64 (a + b)) ∧ Drawn0 w w' := by
 have bd1 : -10000000000000 ≤ a ∧ a ≤ 10000000000000 := by simpa [isMoney] using h1
 have bd2 : -10000000000000 ≤ b ∧ b ≤ 10000000000000 := by simpa [isMoney] using h2
 have g1 := Aside0.mk ((money_Good.some_ a).trans (by rw [h1])); have g2 := Aside0.mk ((money_Good.some_ b).trans (by rw [h2])); have g3 := Aside0.mk ((money_Good.some_ (a + b)).trans (by rw [h3]))
 clear h1 h2 h3
 obtain ⟨q1, q2⟩ := bd1
 obtain ⟨q3, q4⟩ := bd2
 go_enter Try.func53, Try.ntmps53
 go_wp2_with fail
 refine (money_Good.calls a true _ g1.out).mono ?_
 rintro e w' ⟨rfl, ⟨nd, rfl⟩⟩
 go_wp2_with fail
 refine (money_Good.calls b true _ g2.out).mono ?_
 rintro e w' ⟨rfl, ⟨nd, rfl⟩⟩
 go_wp2_with fail
 refine (money_Good.calls (a + b) true _ g3.out).mono ?_
 rintro e w' ⟨rfl, ⟨nd, rfl⟩⟩
 go_wp2
 go_ret
 exact ⟨rfl, by repeat (first | exact Drawn0.refl _ | apply Drawn0.step)⟩
set_option maxHeartbeats 8000000 in
set_option maxRecDepth 100000 in
theorem money_Sum.add_bad (a b : Int) (w : World) (h : (isMoney a && (isMoney b && isMoney (a + b))) = false) :
  Calls Try.prog 53 #[.int .i64 a, .int .i64 b] w fun e w' => e = .panicked [{ v := .iface 89 (.agg #[]), recovered := false }] ∧ Drawn0 w w' := by
 cases h1 : isMoney a with
 | false =>
  have g1 := Aside0.mk ((money_Good.some_ a).trans (by rw [h1]))
  clear h h1
  go_enter Try.func53, Try.ntmps53
  go_wp2_with fail
  refine (money_Good.calls a false _ g1.out).mono ?_
  rintro e w' ⟨rfl, ⟨nd, rfl⟩⟩
  go_wp2
  exact ⟨rfl, rfl, by repeat (first | exact Drawn0.refl _ | apply Drawn0.step)⟩
 | true =>
  have g1 := Aside0.mk ((money_Good.some_ a).trans (by rw [h1]))
  have bd1 : -10000000000000 ≤ a ∧ a ≤ 10000000000000 := by simpa [isMoney] using h1
  rw [h1, Bool.true_and] at h
  clear h1
  obtain ⟨q1, q2⟩ := bd1
  cases h2 : isMoney b with
  | false =>
   have g2 := Aside0.mk ((money_Good.some_ b).trans (by rw [h2]))
   clear h h2
   go_enter Try.func53, Try.ntmps53
   go_wp2_with fail
   refine (money_Good.calls a true _ g1.out).mono ?_
   rintro e w' ⟨rfl, ⟨nd, rfl⟩⟩
   go_wp2_with fail
   refine (money_Good.calls b false _ g2.out).mono ?_
   rintro e w' ⟨rfl, ⟨nd, rfl⟩⟩
   go_wp2
   exact ⟨rfl, rfl, by repeat (first | exact Drawn0.refl _ | apply Drawn0.step)⟩
  | true =>
   have g2 := Aside0.mk ((money_Good.some_ b).trans (by rw [h2]))
   have bd2 : -10000000000000 ≤ b ∧ b ≤ 10000000000000 := by simpa [isMoney] using h2
   rw [h2, Bool.true_and] at h
   have g3 := Aside0.mk ((money_Good.some_ (a + b)).trans (by rw [h]))
   clear h h2
   obtain ⟨q3, q4⟩ := bd2
   go_enter Try.func53, Try.ntmps53
   go_wp2_with fail
   refine (money_Good.calls a true _ g1.out).mono ?_
   rintro e w' ⟨rfl, ⟨nd, rfl⟩⟩
   go_wp2_with fail
   refine (money_Good.calls b true _ g2.out).mono ?_
   rintro e w' ⟨rfl, ⟨nd, rfl⟩⟩
   go_wp2_with fail
   refine (money_Good.calls (a + b) false _ g3.out).mono ?_
   rintro e w' ⟨rfl, ⟨nd, rfl⟩⟩
   go_wp2
   exact ⟨rfl, rfl, by repeat (first | exact Drawn0.refl _ | apply Drawn0.step)⟩
set_option maxHeartbeats 8000000 in
set_option maxRecDepth 100000 in
theorem money_Sum.idle (p q : Addr) (w : World) :
  CallsD Try.prog 52 #[.pointer (some p), .pointer (some q)] .returning w fun e u' w' => e = .returned (.tuple #[]) ∧ u' = .returning ∧ w' = w := by
 refine callsD_of_wpS Try.func52 rfl fun c₀ cs hu => ?_
 apply wpS_seq
 apply wpS_region
 simp [wpOpsS, go_sem, recoverD, hu, Try.ntmps52, Exit.thenS]
 refine wpS_of_wp ?_
 go_wp2
 cases c₀
 simp_all [bodyPostS, results, Try.results52]
set_option maxHeartbeats 8000000 in
set_option maxRecDepth 100000 in
theorem money_Sum.caught (g : Nat) (x y : Int) (w : World) (h1 : w.heap[g]? = some (.cells #[.int .i64 x] 2 (0, 0))) (h2 : w.heap[g + 1]? = some (.cells #[.int .i64 y] 25 (0, 0))) :
  CallsD Try.prog 52 #[.pointer (some ⟨g, 0, none⟩), .pointer (some ⟨g + 1, 0, none⟩)] (.panicking [{ v := .iface 89 (.agg #[]), recovered := false }]) w fun e u' w' =>
   e = .returned (.tuple #[]) ∧ u' = .panicking [{ v := .iface 89 (.agg #[]), recovered := true }] ∧
   w'.heap[g]? = some (.cells #[.int .i64 0] 2 (0, 0)) ∧ w'.heap[g + 1]? = some (.cells #[.int .i64 14] 25 (0, 0)) ∧ ∀ W, Below g W w → Below g W w' := by
 have hl := blk_lt h2
 have c1 : w.cell? ⟨g, 0, none⟩ = some (.int .i64 x) := (blk_cell h1 0).trans rfl
 have c2 : w.cell? ⟨g + 1, 0, none⟩ = some (.int .i64 y) := (blk_cell h2 0).trans rfl
 have f1 := blk_frozen h1 0
 have f2 := blk_frozen h2 0
 have k1 := blk_alloc h1 (Obj.cells #[] 89)
 have k2 := blk_far (blk_alloc h2 (Obj.cells #[] 89)) (p := ⟨g, 0, none⟩) (by simp) (.int .i64 0)
 have d1 : (w.alloc (Obj.cells #[] 89)).cell? ⟨g, 0, none⟩ = some (.int .i64 x) := (blk_cell k1 0).trans rfl
 have d2 : ((w.alloc (Obj.cells #[] 89)).setCell ⟨g, 0, none⟩ (.int .i64 0)).cell? ⟨g + 1, 0, none⟩ = some (.int .i64 y) := (blk_cell k2 0).trans rfl
 have e1 := blk_frozen k1 0
 have e2 := blk_frozen k2 0
 have K1 := Aside0.mk k1; have K2 := Aside0.mk k2
 clear h1 h2 k1 k2 c1 c2 f1 f2
 have hta : ∀ (v : Value) (W : World), (Instr.typeAssert (.iface 89 v) 20 89 true).run Try.prog W = .ok (.tuple #[v, .bool true]) W := fun v W => by rfl
 refine callsD_of_wpS Try.func52 rfl fun c₀ cs hu => ?_
 apply wpS_seq
 apply wpS_region
 simp [wpOpsS, go_sem, recoverD, hu, Try.ntmps52, Exit.thenS]
 refine wpS_of_wp ?_
 go_wp2
 cases c₀
 simp only at hu
 subst hu
 refine ⟨rfl, _, rfl, _, results_none rfl _ _ _, rfl, rfl, blk_far (blk_put K1.out 0 _ rfl) (by simp) _, blk_put K2.out 0 _ rfl, fun W hb => ?_⟩
 exact ((hb.alloc (by omega) _).setCell (Nat.le_refl _) _).setCell (by simp) _
set_option maxHeartbeats 8000000 in
set_option maxRecDepth 100000 in
theorem money_Sum.calls (A0 : Option Addr) (c0 : Nat) (l0 : List Int) (r1 : Int) (r2 : Int) (w : World) (hr0 : Kd.C (Kd.int .i64) w A0 l0.length l0) (hc0 : l0.length ≤ c0) (h : money_Sum.f l0 = some (r1, r2)) :
  Calls Try.prog 39 #[.slice A0 l0.length c0] w fun e w' => e = .returned (.tuple #[.int .i64 r1, .int .i64 r2]) ∧ Below w.heap.size w w' := by
 have HR0 := Aside0.mk hr0
 have HC0 := Aside0.mk hc0
 have hlen : l0.length ≤ 140737488351232 := by
  by_cases c : l0.length ≤ 140737488351232
  ·exact c
  ·rw [money_Sum.f, if_neg c] at h; cases h
 rw [money_Sum.f, if_pos hlen] at h
 have HG := Aside0.mk (Option.some.inj h)
 clear hr0 hc0 h
 have hmf : ∀ (fn : Fn) (first cap : Array Value) (w : World), (Instr.makeFunc fn first cap).run Try.prog w = .ok (.func fn first cap) w := fun _ _ _ _ => rfl
 go_enter_defers Try.func39, Try.ntmps39
 go_wp2
 go_loopw [5, 9] (fun v5 v9 wr => ∃ (j : Nat) (s : Int), j ≤ l0.length ∧ v9 = .int .i64 j ∧ Aside0 (money_Sum.go (l0.drop j) s = (r1, r2)) ∧ Aside0 (wr.heap[w.heap.size]? = some (.cells #[.int .i64 s] 2 (0, 0))) ∧ Aside0 (wr.heap[w.heap.size + 1]? = some (.cells #[.int .i64 0] 25 (0, 0))) ∧ Aside0 (Below w.heap.size w wr)) (fun _ v9 _ => l0.length - (intOf v9).toNat)
 case atStart =>
  have k0 := blk_new w (Obj.cells #[.int .i64 0] 2)
  exact ⟨0, 0, Nat.zero_le _, rfl, by rw [List.drop_zero]; exact HG, ⟨blk_alloc k0 _⟩, ⟨by have := blk_new (w.alloc (Obj.cells #[.int .i64 0] 2)) (Obj.cells #[.int .i64 0] 25); simpa using this⟩, ⟨((Below.refl _ _).alloc (Nat.le_refl _) _).alloc (by simp) _⟩⟩
 case round =>
  obtain ⟨j, s, hj, rfl, HS, B1, B2, HB⟩ := hrel
  have lt1 := blk_lt B1.out
  have lt2 := blk_lt B2.out
  by_cases hlt : j < l0.length
  ·have hd : l0.drop j = rd l0 j :: l0.drop (j + 1) := by
    rw [List.drop_eq_getElem_cons hlt]; congr 1; unfold rd; simp [List.getD_eq_getElem?_getD, hlt]
   have h0 := HS.out
   rw [hd, money_Sum.go] at h0
   obtain ⟨ad, ea, hx⟩ := Kd.at_int (Kd.C_below HR0.out HB.out) j (by omega) (by omega)
   cases ea
   simp only [Int.toNat_natCast] at hx
   have hc1 : wr.cell? ⟨w.heap.size, 0, none⟩ = some (.int .i64 s) := (blk_cell B1.out 0).trans rfl
   have hf1 := blk_frozen B1.out 0
   by_cases hg : (isMoney s && (isMoney (rd l0 j) && isMoney (s + rd l0 j))) = true
   ·rw [if_pos hg] at h0
    have HN := Aside0.mk h0
    have H1 := Aside0.mk hg
    clear h0 hg HS hd
    go_wp2_with fail
    have hg := H1.out
    simp only [Bool.and_eq_true] at hg
    refine (money_Sum.add_ok s (rd l0 j) _ hg.1 hg.2.1 hg.2.2).mono ?_
    clear hg
    rintro e w' ⟨rfl, ⟨nd, rfl⟩⟩
    go_wp2
    go_roundw
    case measure => simp [intOf]; omega
    case rel => exact ⟨j + 1, s + rd l0 j, by omega, by go_num, HN, ⟨blk_put (blk_drewN B1.out _) 0 _ rfl⟩, ⟨blk_far (blk_drewN B2.out _) (by simp) _⟩, ⟨(pw_below_drewN HB.out _).setCell (Nat.le_refl _) _⟩⟩
   ·rw [if_neg hg] at h0
    have HN := Aside0.mk h0
    have H1 := Aside0.mk (Bool.eq_false_iff.2 hg)
    clear h0 hg HS hd
    go_wp2_with fail
    refine (money_Sum.add_bad s (rd l0 j) _ H1.out).mono ?_
    rintro e w' ⟨rfl, ⟨nd, rfl⟩⟩
    go_wp2
    refine leaves_cons (f := 52) (args := #[.pointer (some ⟨w.heap.size, 0, none⟩), .pointer (some ⟨w.heap.size + 1, 0, none⟩)]) (by simp) (by simp [go_sem]) ?_
    refine (money_Sum.caught w.heap.size s 0 _ (blk_drewN B1.out _) (blk_drewN B2.out _)).mono ?_
    rintro e u' w'' ⟨rfl, rfl, b1, b2, hb⟩
    have g1 : w''.cell? ⟨w.heap.size, 0, none⟩ = some (.int .i64 0) := (blk_cell b1 0).trans rfl
    have g2 : w''.cell? ⟨w.heap.size + 1, 0, none⟩ = some (.int .i64 14) := (blk_cell b2 0).trans rfl
    have hn := HN.out
    simp only [Prod.mk.injEq] at hn
    obtain ⟨rfl, rfl⟩ := hn
    simp [Leaves, settle, results, Try.results39, go_sem, g1, g2]
    exact hb w (pw_below_drewN HB.out _)
  ·have h0 := HS.out
   rw [List.drop_of_length_le (by omega), money_Sum.go] at h0
   simp only [Prod.mk.injEq] at h0
   obtain ⟨rfl, rfl⟩ := h0
   have hc1 : wr.cell? ⟨w.heap.size, 0, none⟩ = some (.int .i64 s) := (blk_cell B1.out 0).trans rfl
   have hf1 := blk_frozen B1.out 0
   have k2 := blk_far B2.out (p := ⟨w.heap.size, 0, none⟩) (by simp) (.int .i64 s)
   have hc2 : (wr.setCell ⟨w.heap.size, 0, none⟩ (.int .i64 s)).cell? ⟨w.heap.size + 1, 0, none⟩ = some (.int .i64 0) := (blk_cell k2 0).trans rfl
   have hf2 := blk_frozen k2 0
   have K2 := Aside0.mk k2
   clear k2
   go_wp2
   refine leaves_cons (f := 52) (args := #[.pointer (some ⟨w.heap.size, 0, none⟩), .pointer (some ⟨w.heap.size + 1, 0, none⟩)]) (by simp) (by simp [go_sem]) ?_
   refine (money_Sum.idle _ _ _).mono ?_
   rintro e u' w'' ⟨rfl, rfl, rfl⟩
   have k1 := blk_far (blk_put (cs' := #[.int .i64 s]) B1.out 0 (.int .i64 s) rfl) (p := ⟨w.heap.size + 1, 0, none⟩) (by simp) (.int .i64 0)
   have k3 := blk_put (cs' := #[.int .i64 0]) K2.out 0 (.int .i64 0) rfl
   have g1 := (blk_cell k1 0).trans rfl
   have g2 := (blk_cell k3 0).trans rfl
   simp [Leaves, settle, results, Try.results39, go_sem, g1, g2]
   exact (HB.out.setCell (Nat.le_refl _) _).setCell (by simp) _

/-! ### money_Add: function 69 -/
def money_Add.f (a0 : Int) (a1 : Int) : Option (Int × Int) := (money_Sum.f (([a0, a1] : List Int))).bind fun bt114 => (some (bt114.1, bt114.2))
set_option maxHeartbeats 8000000 in
set_option maxRecDepth 100000 in
theorem money_Add.calls (a0 : Int) (a1 : Int) (r1 : Int) (r2 : Int) (w : World) (h : money_Add.f a0 a1 = some (r1, r2)) :
  Calls Try.prog 69 #[.int .i64 a0, .int .i64 a1] w fun e w' => e = .returned (.tuple #[.int .i64 r1, .int .i64 r2]) ∧ Below w.heap.size w w' := by
 have HB := Aside0.mk (Below.refl w.heap.size w)
 have H : ((money_Sum.f (([a0, a1] : List Int))).bind fun bt114 => (some (bt114.1, bt114.2))) = some (r1, r2) := h
 clear h
 obtain ⟨y111, hy111⟩ : ∃ y_ : List Int, y_ = (([a0, a1] : List Int)) := ⟨_, rfl⟩
 replace H : ((money_Sum.f y111).bind fun bt114 => (some (bt114.1, bt114.2))) = some (r1, r2) := by first | (rw [hy111]; with_reducible exact H) | (have H2_ := (Option.bind_some _ _).symm.trans H; rw [hy111]; with_reducible exact H2_) | (have H2_ := (Option.bind_some _ _).symm.trans H; with_reducible exact H2_) | with_reducible exact H | (rw [hy111]; exact H) | exact H
 have Ny111 := Aside0.mk hy111
 clear hy111
 replace H := Option.bind_eq_some_iff.mp H
 obtain ⟨⟨t114, t115⟩, A30, H⟩ := H
 replace H : (some (t114, t115)) = some (r1, r2) := H
 have A3 := Aside0.mk A30
 clear A30
 simp only [Option.some.injEq, Prod.mk.injEq] at H
 obtain ⟨rfl, rfl⟩ := H
 go_enter Try.func69, Try.ntmps69
 go_wp2_with (first | ((with_reducible refine gate_dst (N := 8) rfl ?_); refine Kd.R_lit (Kd.int .i64) _ 2 ?hg (N := 8) ?hd (xs := ([a0, a1] : List Int)) (inner := [.int .i64 a0, .int .i64 a1]) (ok := fun _ => True) (okp := fun _ => True) ?hr ?hp (fun _ hk => hk) trivial (Below.refl _ _) (Nat.le_refl _) (by simp) ?_; (case hd => rfl); (case hg => rfl); (case hr => first | (go_simp; done) | (go_simp; rfl)); (case hp => exact (Reps.one (show Kd.M (Kd.int .i64) _ _ _ a0 [.int .i64 a0] from rfl) (Reps.one (show Kd.M (Kd.int .i64) _ _ _ a1 [.int .i64 a1] from rfl) (Reps.none _ _)))); intro v112 w4 ho5 hb hg_ hnew_; clear hg_ hnew_; (first | rw [← Ny111.out] at ho5 | (simp only [Int.reduceToNat] at ho5; rw [← Ny111.out] at ho5)); have n0_ := Aside0.mk (Kd.R_lower ho5 (below_size (by exact h0q HB.out))); have n1_ := Aside0.mk (below_step (by exact h0q HB.out) hb); clear HB; have HO113 := n0_; have HB := n1_; clear n0_ n1_; clear hb ho5; obtain ⟨Ao6, co6, eo6⟩ := Kd.R_slice HO113.out; subst eo6) | ((with_reducible refine gate_callee (f := 39) rfl ?_); refine goesL_ (some 9) rfl rfl Try.func39 (by kernel_rfl) rfl #[.slice Ao6 y111.length co6] rfl (by (try simp only [List.map_toArray, List.map_cons, List.map_nil]); first | done | rfl | (simp only [List.length_drop, List.length_take]; rfl)) ?_; (with_reducible refine (money_Sum.calls _ _ y111 t114 t115 _ ?side1 ?side2 A3.out).mono ?_); (case side1 => repeat (first | exact (Kd.R_reads' HO113.out).2.2 | (with_reducible refine Kd.C_alloc ?_ _) | (with_reducible refine Kd.C_drewN ?_ _) | (with_reducible refine Kd.C_drew ?_))); (case side2 => exact (Kd.R_reads' HO113.out).2.1); rintro e w7 ⟨rfl, hb⟩; refine ⟨_, rfl, ?_⟩; have n0_ := Aside0.mk (Kd.R_below (by exact rq HO113.out) hb); have n1_ := Aside0.mk (below_step (by exact h0q HB.out) hb); clear HO113; clear HB; have HO113 := n0_; have HB := n1_; clear n0_ n1_; (try clear hb); (try clear hb2); (try clear hk); (try clear hi)))
 go_ret2
 exact ⟨by first | rfl | (simp [errW_none, errW_some] <;> rfl) | (simp [*, errW_none, errW_some] <;> rfl), by exact h0q HB.out⟩

-- NOT PRINTED: function 64 (loan_sum)

/-! ### accrue_Whole: function 65 -/
def accrue_Whole.f (a0 : Int) : Option (Int) := if a0 ≤ 9223372036854775807 then some (if a0 < 0 then 0 else a0 / 1000000) else none
set_option maxHeartbeats 8000000 in
set_option maxRecDepth 100000 in
theorem accrue_Whole.calls (a0 : Int) (r : Int) (w : World) (h : accrue_Whole.f a0 = some r) :
  Calls Try.prog 65 #[.int .i64 a0] w fun e w' => e = .returned (.int .i64 r) ∧ Drawn0 w w' := by
 have hb : a0 ≤ 9223372036854775807 := by
  by_cases c : a0 ≤ 9223372036854775807
  ·exact c
  ·rw [accrue_Whole.f, if_neg c] at h; cases h
 rw [accrue_Whole.f, if_pos hb] at h
 obtain rfl := Option.some.inj h
 clear h
 by_cases c : a0 < 0
 ·have c1 : decide (a0 < 0) = true := decide_eq_true c
  rw [if_pos c]
  go_enter Try.func65, Try.ntmps65
  go_wp2
  go_ret
  refine ⟨?_, Drawn0.refl _⟩
  simp [c]
 ·have c1 : decide (a0 < 0) = false := decide_eq_false c
  rw [if_neg c]
  go_enter Try.func65, Try.ntmps65
  go_wp2
  go_ret
  refine ⟨?_, Drawn0.refl _⟩
  simp [c]

-- NOT PRINTED: function 51 (loan_owes)

-- NOT PRINTED: function 50 (loan_Owes_1)

-- NOT PRINTED: function 38 (loan_Owes)

end Go.Proofs.Ytakcepffodipfaa.P
