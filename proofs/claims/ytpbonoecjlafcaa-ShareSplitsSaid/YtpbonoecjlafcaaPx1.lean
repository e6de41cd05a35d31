/- Functions of the program as plain Lean functions, and proofs that its calls come to just their answers, where they tell one (written by a program of this session). -/
import Derived.Test.YtpbonoecjlafcaaPx0
import Derived.Test.YtpbonoecjlafcaaShelf
namespace Go.Proofs.Ytpbonoecjlafcaa.P
open Go.RowKit Go.Proofs.YtpbonoecjlafcaaW.PrintWords Go.Proofs.YtpbonoecjlafcaaW.PrintLast Go.Proofs.YtpbonoecjlafcaaW.PrintMore
attribute [local go_sem] max2_int min2_int max_two min_two max_three min_three max_four min_four   -- for this text's walks alone
set_option linter.unusedVariables false
set_option linter.unusedSimpArgs false

-- NOT PRINTED: function 23 (money_Sum_1)

/-! ### money_Good: function 25 -/
def money_Good.f (a0 : Int) : Option (Bool) := if a0 ≥ (-10000000000000) then (some (decide (a0 ≤ 10000000000000))) else (some false)
set_option maxHeartbeats 8000000 in
set_option maxRecDepth 100000 in
theorem money_Good.calls (a0 : Int) (r : Bool) (w : World) (h : money_Good.f a0 = some r) :
    Calls Try.prog 25 #[.int .i64 a0] w fun e w' => e = .returned (.bool r) ∧ Drawn0 w w' := by
  have H : (if a0 ≥ (-10000000000000) then (some (decide (a0 ≤ 10000000000000))) else (some false)) = some r := h
  clear h
  by_cases c2 : a0 ≥ (-10000000000000)
  · rw [if_pos c2] at H
    have c2b0 : decide ((-10000000000000) ≤ a0) = true := decide_eq_true c2
    clear c2
    obtain rfl := Option.some.inj H
    go_enter Try.func25, Try.ntmps25
    go_wp2
    go_ret
    exact ⟨by first | rfl | (simp; done) | (simp [*]; done), by repeat (first | exact Drawn0.refl _ | apply Drawn0.step)⟩
  · rw [if_neg c2] at H
    have c2b0 : decide ((-10000000000000) ≤ a0) = false := decide_eq_false c2
    clear c2
    obtain rfl := Option.some.inj H
    go_enter Try.func25, Try.ntmps25
    go_wp2
    go_ret
    exact ⟨by first | rfl | (simp; done) | (simp [*]; done), by repeat (first | exact Drawn0.refl _ | apply Drawn0.step)⟩

-- NOT PRINTED: function 24 (money_add)

/-! ### money_Sum: function 15 -/
/-- Is it money? -/
def isMoney (a : Int) : Bool := decide (-10000000000000 ≤ a ∧ a ≤ 10000000000000)
theorem money_Good.some_ (a : Int) : money_Good.f a = some (isMoney a) := by
  unfold money_Good.f isMoney
  by_cases h : a ≥ -10000000000000
  · rw [if_pos h]; simp [h]
  · rw [if_neg h]; simp; omega
/-- All of a list, one behind the other. -/
def money_Sum.go : List Int → Int → Int × Int
  | [], s => (s, 0)
  | a :: l, s => if isMoney s && (isMoney a && isMoney (s + a)) then money_Sum.go l (s + a) else (0, 14)
def money_Sum.f (l0 : List Int) : Option (Int × Int) := if l0.length ≤ 140737488351232 then some (money_Sum.go l0 0) else none
set_option maxHeartbeats 8000000 in
set_option maxRecDepth 100000 in
theorem money_Sum.add_ok (a b : Int) (w : World) (h1 : isMoney a = true) (h2 : isMoney b = true) (h3 : isMoney (a + b) = true) :
    Calls Try.prog 24 #[.int .i64 a, .int .i64 b] w fun e w' => e = .returned (.int .i64 (a + b)) ∧ Drawn0 w w' := by
  have bd1 : -10000000000000 ≤ a ∧ a ≤ 10000000000000 := by simpa [isMoney] using h1
  have bd2 : -10000000000000 ≤ b ∧ b ≤ 10000000000000 := by simpa [isMoney] using h2
  have g1 := Aside0.mk ((money_Good.some_ a).trans (by rw [h1])); have g2 := Aside0.mk ((money_Good.some_ b).trans (by rw [h2])); have g3 := Aside0.mk ((money_Good.some_ (a + b)).trans (by rw [h3]))
  clear h1 h2 h3
  obtain ⟨q1, q2⟩ := bd1
  obtain ⟨q3, q4⟩ := bd2
  go_enter Try.func24, Try.ntmps24
  go_wp2_with fail
  refine (money_Good.calls a true _ g1.out).mono ?_
  rintro e w' ⟨rfl, ⟨nd, rfl⟩⟩
  go_wp2_with fail
  refine (money_Good.calls b true _ g2.out).mono ?_
  rintro e w' ⟨rfl, ⟨nd, rfl⟩⟩
  go_wp2_with fail
  refine (money_Good.calls (a + b) true _ g3.out).mono ?_
  rintro e w' ⟨rfl, ⟨nd, rfl⟩⟩
  go_wp2
  go_ret
  exact ⟨rfl, by repeat (first | exact Drawn0.refl _ | apply Drawn0.step)⟩
set_option maxHeartbeats 8000000 in
set_option maxRecDepth 100000 in
theorem money_Sum.add_bad (a b : Int) (w : World) (h : (isMoney a && (isMoney b && isMoney (a + b))) = false) :
    Calls Try.prog 24 #[.int .i64 a, .int .i64 b] w fun e w' => e = .panicked [{ v := .iface 62 (.agg #[]), recovered := false }] ∧ Drawn0 w w' := by
  cases h1 : isMoney a with
  | false =>
    have g1 := Aside0.mk ((money_Good.some_ a).trans (by rw [h1]))
    clear h h1
    go_enter Try.func24, Try.ntmps24
    go_wp2_with fail
    refine (money_Good.calls a false _ g1.out).mono ?_
    rintro e w' ⟨rfl, ⟨nd, rfl⟩⟩
    go_wp2
    exact ⟨rfl, rfl, by repeat (first | exact Drawn0.refl _ | apply Drawn0.step)⟩
  | true =>
    have g1 := Aside0.mk ((money_Good.some_ a).trans (by rw [h1]))
    have bd1 : -10000000000000 ≤ a ∧ a ≤ 10000000000000 := by simpa [isMoney] using h1
    rw [h1, Bool.true_and] at h
    clear h1
    obtain ⟨q1, q2⟩ := bd1
    cases h2 : isMoney b with
    | false =>
      have g2 := Aside0.mk ((money_Good.some_ b).trans (by rw [h2]))
      clear h h2
      go_enter Try.func24, Try.ntmps24
      go_wp2_with fail
      refine (money_Good.calls a true _ g1.out).mono ?_
      rintro e w' ⟨rfl, ⟨nd, rfl⟩⟩
      go_wp2_with fail
      refine (money_Good.calls b false _ g2.out).mono ?_
      rintro e w' ⟨rfl, ⟨nd, rfl⟩⟩
      go_wp2
      exact ⟨rfl, rfl, by repeat (first | exact Drawn0.refl _ | apply Drawn0.step)⟩
    | true =>
      have g2 := Aside0.mk ((money_Good.some_ b).trans (by rw [h2]))
      have bd2 : -10000000000000 ≤ b ∧ b ≤ 10000000000000 := by simpa [isMoney] using h2
      rw [h2, Bool.true_and] at h
      have g3 := Aside0.mk ((money_Good.some_ (a + b)).trans (by rw [h]))
      clear h h2
      obtain ⟨q3, q4⟩ := bd2
      go_enter Try.func24, Try.ntmps24
      go_wp2_with fail
      refine (money_Good.calls a true _ g1.out).mono ?_
      rintro e w' ⟨rfl, ⟨nd, rfl⟩⟩
      go_wp2_with fail
      refine (money_Good.calls b true _ g2.out).mono ?_
      rintro e w' ⟨rfl, ⟨nd, rfl⟩⟩
      go_wp2_with fail
      refine (money_Good.calls (a + b) false _ g3.out).mono ?_
      rintro e w' ⟨rfl, ⟨nd, rfl⟩⟩
      go_wp2
      exact ⟨rfl, rfl, by repeat (first | exact Drawn0.refl _ | apply Drawn0.step)⟩
set_option maxHeartbeats 8000000 in
set_option maxRecDepth 100000 in
theorem money_Sum.idle (p q : Addr) (w : World) :
    CallsD Try.prog 23 #[.pointer (some p), .pointer (some q)] .returning w fun e u' w' => e = .returned (.tuple #[]) ∧ u' = .returning ∧ w' = w := by
  refine callsD_of_wpS Try.func23 rfl fun c₀ cs hu => ?_
  apply wpS_seq
  apply wpS_region
  simp [wpOpsS, go_sem, recoverD, hu, Try.ntmps23, Exit.thenS]
  refine wpS_of_wp ?_
  go_wp2
  cases c₀
  simp_all [bodyPostS, results, Try.results23]
set_option maxHeartbeats 8000000 in
set_option maxRecDepth 100000 in
theorem money_Sum.caught (g : Nat) (x y : Int) (w : World) (h1 : w.heap[g]? = some (.cells #[.int .i64 x] 2 (0, 0))) (h2 : w.heap[g + 1]? = some (.cells #[.int .i64 y] 24 (0, 0))) :
    CallsD Try.prog 23 #[.pointer (some ⟨g, 0, none⟩), .pointer (some ⟨g + 1, 0, none⟩)] (.panicking [{ v := .iface 62 (.agg #[]), recovered := false }]) w fun e u' w' =>
      e = .returned (.tuple #[]) ∧ u' = .panicking [{ v := .iface 62 (.agg #[]), recovered := true }] ∧
      w'.heap[g]? = some (.cells #[.int .i64 0] 2 (0, 0)) ∧ w'.heap[g + 1]? = some (.cells #[.int .i64 14] 24 (0, 0)) ∧ ∀ W, Below g W w → Below g W w' := by
  have hl := blk_lt h2
  have c1 : w.cell? ⟨g, 0, none⟩ = some (.int .i64 x) := (blk_cell h1 0).trans rfl
  have c2 : w.cell? ⟨g + 1, 0, none⟩ = some (.int .i64 y) := (blk_cell h2 0).trans rfl
  have f1 := blk_frozen h1 0
  have f2 := blk_frozen h2 0
  have k1 := blk_alloc h1 (Obj.cells #[] 62)
  have k2 := blk_far (blk_alloc h2 (Obj.cells #[] 62)) (p := ⟨g, 0, none⟩) (by simp) (.int .i64 0)
  have d1 : (w.alloc (Obj.cells #[] 62)).cell? ⟨g, 0, none⟩ = some (.int .i64 x) := (blk_cell k1 0).trans rfl
  have d2 : ((w.alloc (Obj.cells #[] 62)).setCell ⟨g, 0, none⟩ (.int .i64 0)).cell? ⟨g + 1, 0, none⟩ = some (.int .i64 y) := (blk_cell k2 0).trans rfl
  have e1 := blk_frozen k1 0
  have e2 := blk_frozen k2 0
  have K1 := Aside0.mk k1; have K2 := Aside0.mk k2
  clear h1 h2 k1 k2 c1 c2 f1 f2
  have hta : ∀ (v : Value) (W : World), (Instr.typeAssert (.iface 62 v) 20 62 true).run Try.prog W = .ok (.tuple #[v, .bool true]) W := fun v W => by rfl
  refine callsD_of_wpS Try.func23 rfl fun c₀ cs hu => ?_
  apply wpS_seq
  apply wpS_region
  simp [wpOpsS, go_sem, recoverD, hu, Try.ntmps23, Exit.thenS]
  refine wpS_of_wp ?_
  go_wp2
  cases c₀
  simp only at hu
  subst hu
  refine ⟨rfl, _, rfl, _, results_none rfl _ _ _, rfl, rfl, blk_far (blk_put K1.out 0 _ rfl) (by simp) _, blk_put K2.out 0 _ rfl, fun W hb => ?_⟩
  exact ((hb.alloc (by omega) _).setCell (Nat.le_refl _) _).setCell (by simp) _
set_option maxHeartbeats 8000000 in
set_option maxRecDepth 100000 in
theorem money_Sum.calls (A0 : Option Addr) (c0 : Nat) (l0 : List Int) (r1 : Int) (r2 : Int) (w : World) (hr0 : Kd.C (Kd.int .i64) w A0 l0.length l0) (hc0 : l0.length ≤ c0) (h : money_Sum.f l0 = some (r1, r2)) :
    Calls Try.prog 15 #[.slice A0 l0.length c0] w fun e w' => e = .returned (.tuple #[.int .i64 r1, .int .i64 r2]) ∧ Below w.heap.size w w' := by
  have HR0 := Aside0.mk hr0
  have HC0 := Aside0.mk hc0
  have hlen : l0.length ≤ 140737488351232 := by
    by_cases c : l0.length ≤ 140737488351232
    · exact c
    · rw [money_Sum.f, if_neg c] at h; cases h
  rw [money_Sum.f, if_pos hlen] at h
  have HG := Aside0.mk (Option.some.inj h)
  clear hr0 hc0 h
  have hmf : ∀ (fn : Fn) (first cap : Array Value) (w : World), (Instr.makeFunc fn first cap).run Try.prog w = .ok (.func fn first cap) w := fun _ _ _ _ => rfl
  go_enter_defers Try.func15, Try.ntmps15
  go_wp2
  go_loopw [5, 9] (fun v5 v9 wr => ∃ (j : Nat) (s : Int), j ≤ l0.length ∧ v9 = .int .i64 j ∧ Aside0 (money_Sum.go (l0.drop j) s = (r1, r2)) ∧ Aside0 (wr.heap[w.heap.size]? = some (.cells #[.int .i64 s] 2 (0, 0))) ∧ Aside0 (wr.heap[w.heap.size + 1]? = some (.cells #[.int .i64 0] 24 (0, 0))) ∧ Aside0 (Below w.heap.size w wr)) (fun _ v9 _ => l0.length - (intOf v9).toNat)
  case atStart =>
    have k0 := blk_new w (Obj.cells #[.int .i64 0] 2)
    exact ⟨0, 0, Nat.zero_le _, rfl, by rw [List.drop_zero]; exact HG, ⟨blk_alloc k0 _⟩, ⟨by have := blk_new (w.alloc (Obj.cells #[.int .i64 0] 2)) (Obj.cells #[.int .i64 0] 24); simpa using this⟩, ⟨((Below.refl _ _).alloc (Nat.le_refl _) _).alloc (by simp) _⟩⟩
  case round =>
    obtain ⟨j, s, hj, rfl, HS, B1, B2, HB⟩ := hrel
    have lt1 := blk_lt B1.out
    have lt2 := blk_lt B2.out
    by_cases hlt : j < l0.length
    · have hd : l0.drop j = rd l0 j :: l0.drop (j + 1) := by
        rw [List.drop_eq_getElem_cons hlt]; congr 1; unfold rd; simp [List.getD_eq_getElem?_getD, hlt]
      have h0 := HS.out
      rw [hd, money_Sum.go] at h0
      obtain ⟨ad, ea, hx⟩ := Kd.at_int (Kd.C_below HR0.out HB.out) j (by omega) (by omega)
      cases ea
      simp only [Int.toNat_natCast] at hx
      have hc1 : wr.cell? ⟨w.heap.size, 0, none⟩ = some (.int .i64 s) := (blk_cell B1.out 0).trans rfl
      have hf1 := blk_frozen B1.out 0
      by_cases hg : (isMoney s && (isMoney (rd l0 j) && isMoney (s + rd l0 j))) = true
      · rw [if_pos hg] at h0
        have HN := Aside0.mk h0
        have H1 := Aside0.mk hg
        clear h0 hg HS hd
        go_wp2_with fail
        have hg := H1.out
        simp only [Bool.and_eq_true] at hg
        refine (money_Sum.add_ok s (rd l0 j) _ hg.1 hg.2.1 hg.2.2).mono ?_
        clear hg
        rintro e w' ⟨rfl, ⟨nd, rfl⟩⟩
        go_wp2
        go_roundw
        case measure => simp [intOf]; omega
        case rel => exact ⟨j + 1, s + rd l0 j, by omega, by go_num, HN, ⟨blk_put (blk_drewN B1.out _) 0 _ rfl⟩, ⟨blk_far (blk_drewN B2.out _) (by simp) _⟩, ⟨(pw_below_drewN HB.out _).setCell (Nat.le_refl _) _⟩⟩
      · rw [if_neg hg] at h0
        have HN := Aside0.mk h0
        have H1 := Aside0.mk (Bool.eq_false_iff.2 hg)
        clear h0 hg HS hd
        go_wp2_with fail
        refine (money_Sum.add_bad s (rd l0 j) _ H1.out).mono ?_
        rintro e w' ⟨rfl, ⟨nd, rfl⟩⟩
        go_wp2
        refine leaves_cons (f := 23) (args := #[.pointer (some ⟨w.heap.size, 0, none⟩), .pointer (some ⟨w.heap.size + 1, 0, none⟩)]) (by simp) (by simp [go_sem]) ?_
        refine (money_Sum.caught w.heap.size s 0 _ (blk_drewN B1.out _) (blk_drewN B2.out _)).mono ?_
        rintro e u' w'' ⟨rfl, rfl, b1, b2, hb⟩
        have g1 : w''.cell? ⟨w.heap.size, 0, none⟩ = some (.int .i64 0) := (blk_cell b1 0).trans rfl
        have g2 : w''.cell? ⟨w.heap.size + 1, 0, none⟩ = some (.int .i64 14) := (blk_cell b2 0).trans rfl
        have hn := HN.out
        simp only [Prod.mk.injEq] at hn
        obtain ⟨rfl, rfl⟩ := hn
        simp [Leaves, settle, results, Try.results15, go_sem, g1, g2]
        exact hb w (pw_below_drewN HB.out _)
    · have h0 := HS.out
      rw [List.drop_of_length_le (by omega), money_Sum.go] at h0
      simp only [Prod.mk.injEq] at h0
      obtain ⟨rfl, rfl⟩ := h0
      have hc1 : wr.cell? ⟨w.heap.size, 0, none⟩ = some (.int .i64 s) := (blk_cell B1.out 0).trans rfl
      have hf1 := blk_frozen B1.out 0
      have k2 := blk_far B2.out (p := ⟨w.heap.size, 0, none⟩) (by simp) (.int .i64 s)
      have hc2 : (wr.setCell ⟨w.heap.size, 0, none⟩ (.int .i64 s)).cell? ⟨w.heap.size + 1, 0, none⟩ = some (.int .i64 0) := (blk_cell k2 0).trans rfl
      have hf2 := blk_frozen k2 0
      have K2 := Aside0.mk k2
      clear k2
      go_wp2
      refine leaves_cons (f := 23) (args := #[.pointer (some ⟨w.heap.size, 0, none⟩), .pointer (some ⟨w.heap.size + 1, 0, none⟩)]) (by simp) (by simp [go_sem]) ?_
      refine (money_Sum.idle _ _ _).mono ?_
      rintro e u' w'' ⟨rfl, rfl, rfl⟩
      have k1 := blk_far (blk_put (cs' := #[.int .i64 s]) B1.out 0 (.int .i64 s) rfl) (p := ⟨w.heap.size + 1, 0, none⟩) (by simp) (.int .i64 0)
      have k3 := blk_put (cs' := #[.int .i64 0]) K2.out 0 (.int .i64 0) rfl
      have g1 := (blk_cell k1 0).trans rfl
      have g2 := (blk_cell k3 0).trans rfl
      simp [Leaves, settle, results, Try.results15, go_sem, g1, g2]
      exact (HB.out.setCell (Nat.le_refl _) _).setCell (by simp) _

-- NOT PRINTED: function 34 (slices_IndexFunc_int64_int64)

-- NOT PRINTED: function 26 (slices_ContainsFunc_int64_int64)

-- NOT PRINTED: function 27 (share_good_1)

-- NOT PRINTED: function 16 (share_good)

/-! ### bits_Mul64: function 28 -/
def bits_Mul64.f (a0 : Int) (a1 : Int) : Option (Int × Int) := if 0 ≤ a0 ∧ a0 < 18446744073709551616 ∧ 0 ≤ a1 ∧ a1 < 18446744073709551616 then some (a0 * a1 / 18446744073709551616, a0 * a1 % 18446744073709551616) else none
theorem bits_Mul64.calls (a0 : Int) (a1 : Int) (r1 : Int) (r2 : Int) (w : World) (h : bits_Mul64.f a0 a1 = some (r1, r2)) :
    Calls Try.prog 28 #[.int .u64 a0, .int .u64 a1] w fun e w' => e = .returned (.tuple #[.int .u64 r1, .int .u64 r2]) ∧ Drawn0 w w' := by
  unfold bits_Mul64.f at h
  by_cases c : 0 ≤ a0 ∧ a0 < 18446744073709551616 ∧ 0 ≤ a1 ∧ a1 < 18446744073709551616
  · rw [if_pos c] at h
    simp only [Option.some.injEq, Prod.mk.injEq] at h
    obtain ⟨rfl, rfl⟩ := h
    obtain ⟨x, rfl⟩ : ∃ x : Nat, a0 = x := ⟨a0.toNat, by omega⟩
    obtain ⟨y, rfl⟩ : ∃ y : Nat, a1 = y := ⟨a1.toNat, by omega⟩
    refine (Try.bits_Mul64 x y (by omega) (by omega) w).mono ?_
    rintro e w' ⟨rfl, rfl⟩
    refine ⟨?_, Drawn0.refl _⟩
    simp only [Int.natCast_ediv, Int.natCast_emod, Int.natCast_mul]
    rfl
  · rw [if_neg c] at h; cases h

/-! ### money_Mul: function 17 -/
def money_Mul.f (a0 : Int) (a1 : Int) : Option (Int × Int) := (bits_Mul64.f a0 a1).bind fun bt104 => (some (bt104.1, bt104.2))
set_option maxHeartbeats 8000000 in
set_option maxRecDepth 100000 in
theorem money_Mul.calls (a0 : Int) (a1 : Int) (r1 : Int) (r2 : Int) (w : World) (h : money_Mul.f a0 a1 = some (r1, r2)) :
    Calls Try.prog 17 #[.int .u64 a0, .int .u64 a1] w fun e w' => e = .returned (.tuple #[.int .u64 r1, .int .u64 r2]) ∧ Drawn0 w w' := by
  have H : ((bits_Mul64.f a0 a1).bind fun bt104 => (some (bt104.1, bt104.2))) = some (r1, r2) := h
  clear h
  replace H := Option.bind_eq_some_iff.mp H
  obtain ⟨⟨t104, t105⟩, A30, H⟩ := H
  replace H : (some (t104, t105)) = some (r1, r2) := H
  have A3 := Aside0.mk A30
  clear A30
  simp only [Option.some.injEq, Prod.mk.injEq] at H
  obtain ⟨rfl, rfl⟩ := H
  go_enter Try.func17, Try.ntmps17
  go_wp2_with (first | ((with_reducible refine gate_callee (f := 28) rfl ?_); refine goesL_ (some 8) rfl rfl Try.func28 (by kernel_rfl) rfl #[.int .u64 a0, .int .u64 a1] rfl (by (try simp only [List.map_toArray, List.map_cons, List.map_nil]); first | done | rfl | (simp only [List.length_drop, List.length_take]; rfl)) ?_; (with_reducible refine (bits_Mul64.calls a0 a1 t104 t105 _ A3.out).mono ?_); rintro e w' ⟨rfl, ⟨nd, rfl⟩⟩; refine ⟨_, rfl, ?_⟩))
  go_ret2
  exact ⟨by first | rfl | (simp; done) | (simp [*]; done), by repeat (first | exact Drawn0.refl _ | apply Drawn0.step)⟩

/-! ### bits_Len64: function 38 -/
def bits_Len64.f (a0 : Int) : Option (Int) := if 0 ≤ a0 ∧ a0 ≤ 18446744073709551615 then some (Lib.bitLen a0.toNat : Int) else none
theorem bits_Len64.calls (a0 : Int) (r : Int) (w : World) (h : bits_Len64.f a0 = some r) :
    Calls Try.prog 38 #[.int .u64 a0] w fun e w' => e = .returned (.int .i64 r) ∧ Drawn0 w w' := by
  unfold bits_Len64.f at h
  by_cases c : 0 ≤ a0 ∧ a0 ≤ 18446744073709551615
  · rw [if_pos c] at h
    obtain rfl := Option.some.inj h
    refine (Try.bits_Len64 a0 w c.1 c.2).mono ?_
    rintro e w' ⟨rfl, rfl⟩
    exact ⟨rfl, Drawn0.refl _⟩
  · rw [if_neg c] at h; cases h

/-! ### bits_LeadingZeros64: function 35 -/
def bits_LeadingZeros64.f (a0 : Int) : Option (Int) := if 0 ≤ a0 ∧ a0 ≤ 18446744073709551615 then some (64 - (Lib.bitLen a0.toNat : Int)) else none
theorem bits_LeadingZeros64.calls (a0 : Int) (r : Int) (w : World) (h : bits_LeadingZeros64.f a0 = some r) :
    Calls Try.prog 35 #[.int .u64 a0] w fun e w' => e = .returned (.int .i64 r) ∧ Drawn0 w w' := by
  unfold bits_LeadingZeros64.f at h
  by_cases c : 0 ≤ a0 ∧ a0 ≤ 18446744073709551615
  · rw [if_pos c] at h
    obtain rfl := Option.some.inj h
    refine (Try.bits_LeadingZeros64 a0 w c.1 c.2).mono ?_
    rintro e w' ⟨rfl, rfl⟩
    exact ⟨rfl, Drawn0.refl _⟩
  · rw [if_neg c] at h; cases h

end Go.Proofs.Ytpbonoecjlafcaa.P
