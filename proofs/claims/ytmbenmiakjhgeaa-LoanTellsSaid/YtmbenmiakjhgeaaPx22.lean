/- Functions of the program as plain Lean functions, and proofs that its calls come to just their answers, where they tell one (written by a program of this session). -/
import Derived.Test.YtmbenmiakjhgeaaPx0
import Derived.Test.YtmbenmiakjhgeaaPx17
import Derived.Test.YtmbenmiakjhgeaaPx20
namespace Go.Proofs.Ytmbenmiakjhgeaa.P
open Go.RowKit Go.Proofs.YtmbenmiakjhgeaaW.PrintWords Go.Proofs.YtmbenmiakjhgeaaW.PrintLast Go.Proofs.YtmbenmiakjhgeaaW.PrintMore
attribute [local go_sem] max2_int min2_int max_two min_two max_three min_three max_four min_four   -- for this text's walks alone
set_option linter.unusedVariables false
set_option linter.unusedSimpArgs false

/-! ### accrue_Add: function 48 -/
set_option maxHeartbeats 8000000 in
set_option maxRecDepth 100000 in
theorem accrue_Add.prod_ok (a b : Int) (w : World) (ha : 0 ≤ a ∧ a < 18446744073709551616) (hb : 0 ≤ b ∧ b < 18446744073709551616) (hp : a * b ≤ 1000000000000000000) :
    Calls Try.prog 60 #[.int .u64 a, .int .u64 b] w fun e w' => e = .returned (.int .u64 (a * b)) ∧ Drawn0 w w' := by
  have h0 : 0 ≤ a * b := Int.mul_nonneg ha.1 hb.1
  have g := Aside0.mk (show money_Mul.f a b = some (0, a * b) by
    unfold money_Mul.f bits_Mul64.f
    rw [if_pos ⟨ha.1, ha.2, hb.1, hb.2⟩, Option.bind_some]
    simp only [Option.some.injEq, Prod.mk.injEq]
    omega)
  obtain ⟨p, hp'⟩ : ∃ p, a * b = p := ⟨_, rfl⟩
  rw [hp'] at g hp h0
  rw [hp']
  clear hp' ha hb
  have c1 : decide (1000000000000000000 < p) = false := decide_eq_false (by omega)
  go_enter Try.func60, Try.ntmps60
  go_wp2_with (go_at_call 64; (with_reducible refine (money_Mul.calls a b 0 p _ g.out).mono ?_); rintro e w' ⟨rfl, ⟨nd, rfl⟩⟩)
  go_ret
  exact ⟨rfl, by repeat (first | exact Drawn0.refl _ | apply Drawn0.step)⟩
set_option maxHeartbeats 8000000 in
set_option maxRecDepth 100000 in
theorem accrue_Add.prod_bad (a b : Int) (w : World) (ha : 0 ≤ a ∧ a < 18446744073709551616) (hb : 0 ≤ b ∧ b < 18446744073709551616) (hp : 1000000000000000000 < a * b) :
    Calls Try.prog 60 #[.int .u64 a, .int .u64 b] w fun e w' => e = .panicked [{ v := .iface 81 (.agg #[]), recovered := false }] ∧ Drawn0 w w' := by
  have g := Aside0.mk (show money_Mul.f a b = some (a * b / 18446744073709551616, a * b % 18446744073709551616) by
    unfold money_Mul.f bits_Mul64.f
    rw [if_pos ⟨ha.1, ha.2, hb.1, hb.2⟩, Option.bind_some])
  obtain ⟨p, hp'⟩ : ∃ p, a * b = p := ⟨_, rfl⟩
  rw [hp'] at g hp
  obtain ⟨hi, lo, e1, e2, c⟩ : ∃ hi lo : Int, p / 18446744073709551616 = hi ∧ p % 18446744073709551616 = lo ∧ (0 < hi ∨ ¬ 0 < hi ∧ 1000000000000000000 < lo) := ⟨_, _, rfl, rfl, by omega⟩
  rw [e1, e2] at g
  clear hp' ha hb e1 e2 hp
  rcases c with c | ⟨c, c'⟩
  · have c1 : decide (0 < hi) = true := decide_eq_true c
    clear c
    go_enter Try.func60, Try.ntmps60
    go_wp2_with (go_at_call 64; (with_reducible refine (money_Mul.calls a b hi lo _ g.out).mono ?_); rintro e w' ⟨rfl, ⟨nd, rfl⟩⟩)
    exact ⟨rfl, rfl, by repeat (first | exact Drawn0.refl _ | apply Drawn0.step)⟩
  · have c1 : decide (0 < hi) = false := decide_eq_false c
    have c2 : decide (1000000000000000000 < lo) = true := decide_eq_true c'
    clear c c'
    go_enter Try.func60, Try.ntmps60
    go_wp2_with (go_at_call 64; (with_reducible refine (money_Mul.calls a b hi lo _ g.out).mono ?_); rintro e w' ⟨rfl, ⟨nd, rfl⟩⟩)
    exact ⟨rfl, rfl, by repeat (first | exact Drawn0.refl _ | apply Drawn0.step)⟩
def accrue_Add.f (k : Nat) (a0 : Int) (a1 : Int) (a2 : Int) (a3 : Int) : Option (Int × Int) := (accrue_Daily.f k a1 a2).bind fun b =>
  if ¬ b.2 = 0 then some (0, 1) else if a0 < 0 then some (0, 1) else if a0 > 1000000000000000000 then some (0, 1) else if a3 < 0 then some (0, 1) else if a3 > 87658 then some (0, 1)
  else if 0 ≤ b.1 ∧ b.1 < 9223372036854775808 then (if b.1 * a3 > 1000000000000000000 then some (0, 14) else if a0 + b.1 * a3 > 1000000000000000000 then some (0, 14) else some (a0 + b.1 * a3, 0)) else none
theorem accrue_Add.mono : ∀ a0 a1 a2 a3 k, LeO (accrue_Add.f k a0 a1 a2 a3) (accrue_Add.f (k + 1) a0 a1 a2 a3) := by
  intro a0 a1 a2 a3 k
  unfold accrue_Add.f
  exact LeO.bind (accrue_Daily.mono _ _ _) (fun _ => LeO.refl _)
set_option maxHeartbeats 8000000 in
set_option maxRecDepth 100000 in
theorem accrue_Add.idle (p q : Addr) (w : World) :
    CallsD Try.prog 59 #[.pointer (some p), .pointer (some q)] .returning w fun e u' w' => e = .returned (.tuple #[]) ∧ u' = .returning ∧ w' = w := by
  refine callsD_of_wpS Try.func59 rfl fun c₀ cs hu => ?_
  apply wpS_seq
  apply wpS_region
  simp [wpOpsS, go_sem, recoverD, hu, Try.ntmps59, Exit.thenS]
  refine wpS_of_wp ?_
  go_wp2
  cases c₀
  simp_all [bodyPostS, results, Try.results59]
set_option maxHeartbeats 8000000 in
set_option maxRecDepth 100000 in
theorem accrue_Add.caught (g : Nat) (x y : Int) (w : World) (h1 : w.heap[g]? = some (.cells #[.int .i64 x] 2 (0, 0))) (h2 : w.heap[g + 1]? = some (.cells #[.int .i64 y] 25 (0, 0))) :
    CallsD Try.prog 59 #[.pointer (some ⟨g, 0, none⟩), .pointer (some ⟨g + 1, 0, none⟩)] (.panicking [{ v := .iface 81 (.agg #[]), recovered := false }]) w fun e u' w' =>
      e = .returned (.tuple #[]) ∧ u' = .panicking [{ v := .iface 81 (.agg #[]), recovered := true }] ∧
      w'.heap[g]? = some (.cells #[.int .i64 0] 2 (0, 0)) ∧ w'.heap[g + 1]? = some (.cells #[.int .i64 14] 25 (0, 0)) ∧ ∀ W, Below g W w → Below g W w' := by
  have hl := blk_lt h2
  have c1 : w.cell? ⟨g, 0, none⟩ = some (.int .i64 x) := (blk_cell h1 0).trans rfl
  have c2 : w.cell? ⟨g + 1, 0, none⟩ = some (.int .i64 y) := (blk_cell h2 0).trans rfl
  have f1 := blk_frozen h1 0
  have f2 := blk_frozen h2 0
  have k1 := blk_alloc h1 (Obj.cells #[] 81)
  have k2 := blk_far (blk_alloc h2 (Obj.cells #[] 81)) (p := ⟨g, 0, none⟩) (by simp) (.int .i64 0)
  have d1 : (w.alloc (Obj.cells #[] 81)).cell? ⟨g, 0, none⟩ = some (.int .i64 x) := (blk_cell k1 0).trans rfl
  have d2 : ((w.alloc (Obj.cells #[] 81)).setCell ⟨g, 0, none⟩ (.int .i64 0)).cell? ⟨g + 1, 0, none⟩ = some (.int .i64 y) := (blk_cell k2 0).trans rfl
  have e1 := blk_frozen k1 0
  have e2 := blk_frozen k2 0
  have K1 := Aside0.mk k1; have K2 := Aside0.mk k2
  clear h1 h2 k1 k2 c1 c2 f1 f2
  have hta : ∀ (v : Value) (W : World), (Instr.typeAssert (.iface 81 v) 20 81 true).run Try.prog W = .ok (.tuple #[v, .bool true]) W := fun v W => by rfl
  refine callsD_of_wpS Try.func59 rfl fun c₀ cs hu => ?_
  apply wpS_seq
  apply wpS_region
  simp [wpOpsS, go_sem, recoverD, hu, Try.ntmps59, Exit.thenS]
  refine wpS_of_wp ?_
  go_wp2
  cases c₀
  simp only at hu
  subst hu
  refine ⟨rfl, _, rfl, _, results_none rfl _ _ _, rfl, rfl, blk_far (blk_put K1.out 0 _ rfl) (by simp) _, blk_put K2.out 0 _ rfl, fun W hb => ?_⟩
  exact ((hb.alloc (by omega) _).setCell (Nat.le_refl _) _).setCell (by simp) _
set_option maxHeartbeats 8000000 in
set_option maxRecDepth 100000 in
theorem accrue_Add.early (k : Nat) (a0 : Int) (a1 : Int) (a2 : Int) (a3 : Int) (d e : Int) (w : World) (h : accrue_Daily.f k a1 a2 = some (d, e))
    (hb : (e != 0) = true ∨ (e != 0) = false ∧ decide (a0 < 0) = true ∨ (e != 0) = false ∧ decide (a0 < 0) = false ∧ decide (1000000000000000000 < a0) = true ∨ (e != 0) = false ∧ decide (a0 < 0) = false ∧ decide (1000000000000000000 < a0) = false ∧ decide (a3 < 0) = true ∨
      (e != 0) = false ∧ decide (a0 < 0) = false ∧ decide (1000000000000000000 < a0) = false ∧ decide (a3 < 0) = false ∧ decide (87658 < a3) = true) :
    Calls Try.prog 48 #[.int .i64 a0, .int .i64 a1, .int .i64 a2, .int .i64 a3] w fun e w' => e = .returned (.tuple #[.int .i64 0, .int .i64 1]) ∧ Below w.heap.size w w' := by
  have A := Aside0.mk h
  clear h
  rcases hb with b1 | ⟨b1, b2⟩ | ⟨b1, b2, b3⟩ | ⟨b1, b2, b3, b4⟩ | ⟨b1, b2, b3, b4, b5⟩
  all_goals
    go_enter_defers Try.func48, Try.ntmps48
    go_wp2_with (go_at_call 58; (with_reducible refine (accrue_Daily.calls k a1 a2 d e _ A.out).mono ?_); rintro e w' ⟨rfl, ⟨nd, rfl⟩⟩)
    simp [bodyPostD, Leaves, settle, results, Try.results48, go_sem]
    exact (((pw_below_drewN (((Below.refl _ _).alloc (Nat.le_refl _) _).alloc (by simp) _) nd).setCell (by simp) _).setCell (Nat.le_refl _) _).setCell (by simp) _
set_option maxHeartbeats 8000000 in
set_option maxRecDepth 100000 in
theorem accrue_Add.late (k : Nat) (a0 : Int) (a1 : Int) (a2 : Int) (a3 : Int) (d : Int) (r1 r2 : Int) (w : World) (h : accrue_Daily.f k a1 a2 = some (d, 0))
    (h0 : 0 ≤ a0) (h1 : a0 ≤ 1000000000000000000) (h3 : 0 ≤ a3) (h4 : a3 ≤ 87658) (hd : 0 ≤ d) (hd' : d < 9223372036854775808)
    (hr : (if d * a3 > 1000000000000000000 then (0, 14) else if a0 + d * a3 > 1000000000000000000 then (0, 14) else (a0 + d * a3, 0)) = (r1, r2)) :
    Calls Try.prog 48 #[.int .i64 a0, .int .i64 a1, .int .i64 a2, .int .i64 a3] w fun e w' => e = .returned (.tuple #[.int .i64 r1, .int .i64 r2]) ∧ Below w.heap.size w w' := by
  have A := Aside0.mk h
  clear h
  have hmf : ∀ (fn : Fn) (first cap : Array Value) (w : World), (Instr.makeFunc fn first cap).run Try.prog w = .ok (.func fn first cap) w := fun _ _ _ _ => rfl
  have hp0 : 0 ≤ d * a3 := Int.mul_nonneg hd h3
  have q1 : decide (a0 < 0) = false := decide_eq_false (by omega)
  have q2 : decide (1000000000000000000 < a0) = false := decide_eq_false (by omega)
  have q3 : decide (a3 < 0) = false := decide_eq_false (by omega)
  have q4 : decide (87658 < a3) = false := decide_eq_false (by omega)
  have K1 := Aside0.mk (blk_alloc (blk_new w (Obj.cells #[.int .i64 0] 2)) (Obj.cells #[.int .i64 0] 25))
  have K2 : Aside0 (((w.alloc (Obj.cells #[.int .i64 0] 2)).alloc (Obj.cells #[.int .i64 0] 25)).heap[w.heap.size + 1]? = some (.cells #[.int .i64 0] 25 (0, 0))) := ⟨by have := blk_new (w.alloc (Obj.cells #[.int .i64 0] 2)) (Obj.cells #[.int .i64 0] 25); simpa using this⟩
  have KB : Aside0 (Below w.heap.size w ((w.alloc (Obj.cells #[.int .i64 0] 2)).alloc (Obj.cells #[.int .i64 0] 25))) := ⟨((Below.refl _ _).alloc (Nat.le_refl _) _).alloc (by simp) _⟩
  by_cases c1 : d * a3 > 1000000000000000000
  · rw [if_pos c1] at hr
    simp only [Prod.mk.injEq] at hr
    obtain ⟨rfl, rfl⟩ := hr
    go_enter_defers Try.func48, Try.ntmps48
    go_wp2_with (go_at_call 58; (with_reducible refine (accrue_Daily.calls k a1 a2 d 0 _ A.out).mono ?_); rintro e w' ⟨rfl, ⟨nd, rfl⟩⟩)
    refine (accrue_Add.prod_bad d a3 _ ⟨hd, by omega⟩ ⟨h3, by omega⟩ c1).mono ?_
    rintro e w' ⟨rfl, ⟨nd', rfl⟩⟩
    go_wp2
    refine leaves_cons (f := 59) (args := #[.pointer (some ⟨w.heap.size, 0, none⟩), .pointer (some ⟨w.heap.size + 1, 0, none⟩)]) (by simp) (by simp [go_sem]) ?_
    refine (accrue_Add.caught w.heap.size 0 0 _ (blk_drewN (blk_far (blk_drewN K1.out _) (by simp) _) _) (blk_drewN (blk_put (blk_drewN K2.out _) 0 _ rfl) _)).mono ?_
    rintro e u' w'' ⟨rfl, rfl, b1, b2, hb⟩
    have g1 : w''.cell? ⟨w.heap.size, 0, none⟩ = some (.int .i64 0) := (blk_cell b1 0).trans rfl
    have g2 : w''.cell? ⟨w.heap.size + 1, 0, none⟩ = some (.int .i64 14) := (blk_cell b2 0).trans rfl
    simp [Leaves, settle, results, Try.results48, go_sem, g1, g2]
    exact hb w (pw_below_drewN ((pw_below_drewN KB.out _).setCell (by simp) _) _)
  · rw [if_neg c1] at hr
    obtain ⟨p, hp⟩ : ∃ p, d * a3 = p := ⟨_, rfl⟩
    have hpp : d * a3 ≤ 1000000000000000000 := by omega
    have hk := Aside0.mk hp
    rw [hp] at hr hp0 c1
    clear hp
    by_cases c2 : a0 + p > 1000000000000000000
    · rw [if_pos c2] at hr
      simp only [Prod.mk.injEq] at hr
      obtain ⟨rfl, rfl⟩ := hr
      have q5 : decide (1000000000000000000 < a0 + p) = true := decide_eq_true c2
      go_enter_defers Try.func48, Try.ntmps48
      go_wp2_with (go_at_call 58; (with_reducible refine (accrue_Daily.calls k a1 a2 d 0 _ A.out).mono ?_); rintro e w' ⟨rfl, ⟨nd, rfl⟩⟩)
      refine (accrue_Add.prod_ok d a3 _ ⟨hd, by omega⟩ ⟨h3, by omega⟩ hpp).mono ?_
      rintro e w' ⟨rfl, ⟨nd', rfl⟩⟩
      rw [hk.out]
      go_wp2
      refine leaves_cons (f := 59) (args := #[.pointer (some ⟨w.heap.size, 0, none⟩), .pointer (some ⟨w.heap.size + 1, 0, none⟩)]) (by simp) (by simp [go_sem]) ?_
      have k1 := blk_put (cs' := #[.int .i64 (a0 + p)]) (blk_drewN (blk_far (blk_drewN K1.out nd) (p := ⟨w.heap.size + 1, 0, none⟩) (by simp) (.int .i64 0)) nd') 0 (.int .i64 (a0 + p)) rfl
      have k2 := blk_far (blk_drewN (blk_put (cs' := #[.int .i64 0]) (blk_drewN K2.out nd) 0 (.int .i64 0) rfl) nd') (p := ⟨w.heap.size, 0, none⟩) (by simp) (.int .i64 (a0 + p))
      refine (accrue_Add.caught w.heap.size (a0 + p) 0 _ k1 k2).mono ?_
      rintro e u' w'' ⟨rfl, rfl, b1, b2, hb⟩
      have g1 : w''.cell? ⟨w.heap.size, 0, none⟩ = some (.int .i64 0) := (blk_cell b1 0).trans rfl
      have g2 : w''.cell? ⟨w.heap.size + 1, 0, none⟩ = some (.int .i64 14) := (blk_cell b2 0).trans rfl
      simp [Leaves, settle, results, Try.results48, go_sem, g1, g2]
      exact hb w ((pw_below_drewN ((pw_below_drewN KB.out _).setCell (by simp) _) _).setCell (Nat.le_refl _) _)
    · rw [if_neg c2] at hr
      simp only [Prod.mk.injEq] at hr
      obtain ⟨rfl, rfl⟩ := hr
      have q5 : decide (1000000000000000000 < a0 + p) = false := decide_eq_false c2
      go_enter_defers Try.func48, Try.ntmps48
      go_wp2_with (go_at_call 58; (with_reducible refine (accrue_Daily.calls k a1 a2 d 0 _ A.out).mono ?_); rintro e w' ⟨rfl, ⟨nd, rfl⟩⟩)
      refine (accrue_Add.prod_ok d a3 _ ⟨hd, by omega⟩ ⟨h3, by omega⟩ hpp).mono ?_
      rintro e w' ⟨rfl, ⟨nd', rfl⟩⟩
      rw [hk.out]
      go_wp2
      refine leaves_cons (f := 59) (args := #[.pointer (some ⟨w.heap.size, 0, none⟩), .pointer (some ⟨w.heap.size + 1, 0, none⟩)]) (by simp) (by simp [go_sem]) ?_
      refine (accrue_Add.idle _ _ _).mono ?_
      rintro e u' w'' ⟨rfl, rfl, rfl⟩
      have k1 := blk_put (cs' := #[.int .i64 (a0 + p)]) (blk_drewN (blk_far (blk_drewN K1.out nd) (p := ⟨w.heap.size + 1, 0, none⟩) (by simp) (.int .i64 0)) nd') 0 (.int .i64 (a0 + p)) rfl
      have k2 := blk_far (blk_drewN (blk_put (cs' := #[.int .i64 0]) (blk_drewN K2.out nd) 0 (.int .i64 0) rfl) nd') (p := ⟨w.heap.size, 0, none⟩) (by simp) (.int .i64 (a0 + p))
      have k3 := blk_far (blk_put (cs' := #[.int .i64 (a0 + p)]) k1 0 (.int .i64 (a0 + p)) rfl) (p := ⟨w.heap.size + 1, 0, none⟩) (by simp) (.int .i64 0)
      have k4 := blk_put (cs' := #[.int .i64 0]) (blk_far k2 (p := ⟨w.heap.size, 0, none⟩) (by simp) (.int .i64 (a0 + p))) 0 (.int .i64 0) rfl
      have g1 := (blk_cell k3 0).trans rfl
      have g2 := (blk_cell k4 0).trans rfl
      simp [Leaves, settle, results, Try.results48, go_sem, g1, g2]
      refine Below.setCell (Below.setCell (Below.setCell (pw_below_drewN (Below.setCell (pw_below_drewN KB.out _) ?_ _) _) ?_ _) ?_ _) ?_ _ <;> simp
theorem accrue_Add.calls (k : Nat) (a0 : Int) (a1 : Int) (a2 : Int) (a3 : Int) (r1 : Int) (r2 : Int) (w : World) (h : accrue_Add.f k a0 a1 a2 a3 = some (r1, r2)) :
    Calls Try.prog 48 #[.int .i64 a0, .int .i64 a1, .int .i64 a2, .int .i64 a3] w fun e w' => e = .returned (.tuple #[.int .i64 r1, .int .i64 r2]) ∧ Below w.heap.size w w' := by
  unfold accrue_Add.f at h
  obtain ⟨⟨d, e⟩, hd, h⟩ := Option.bind_eq_some_iff.mp h
  simp only at h
  by_cases c1 : e = 0
  · have b1 : (e != 0) = false := by simp [c1]
    rw [if_neg (by simp [c1])] at h
    by_cases c2 : a0 < 0
    · rw [if_pos c2] at h
      simp only [Option.some.injEq, Prod.mk.injEq] at h
      obtain ⟨rfl, rfl⟩ := h
      exact accrue_Add.early k a0 a1 a2 a3 d e w hd (.inr (.inl ⟨b1, decide_eq_true c2⟩))
    rw [if_neg c2] at h
    by_cases c3 : a0 > 1000000000000000000
    · rw [if_pos c3] at h
      simp only [Option.some.injEq, Prod.mk.injEq] at h
      obtain ⟨rfl, rfl⟩ := h
      exact accrue_Add.early k a0 a1 a2 a3 d e w hd (.inr (.inr (.inl ⟨b1, decide_eq_false c2, decide_eq_true c3⟩)))
    rw [if_neg c3] at h
    by_cases c4 : a3 < 0
    · rw [if_pos c4] at h
      simp only [Option.some.injEq, Prod.mk.injEq] at h
      obtain ⟨rfl, rfl⟩ := h
      exact accrue_Add.early k a0 a1 a2 a3 d e w hd (.inr (.inr (.inr (.inl ⟨b1, decide_eq_false c2, decide_eq_false c3, decide_eq_true c4⟩))))
    rw [if_neg c4] at h
    by_cases c5 : a3 > 87658
    · rw [if_pos c5] at h
      simp only [Option.some.injEq, Prod.mk.injEq] at h
      obtain ⟨rfl, rfl⟩ := h
      exact accrue_Add.early k a0 a1 a2 a3 d e w hd (.inr (.inr (.inr (.inr ⟨b1, decide_eq_false c2, decide_eq_false c3, decide_eq_false c4, decide_eq_true c5⟩))))
    rw [if_neg c5] at h
    by_cases c6 : 0 ≤ d ∧ d < 9223372036854775808
    · rw [if_pos c6] at h
      subst c1
      refine accrue_Add.late k a0 a1 a2 a3 d r1 r2 w hd (by omega) (by omega) (by omega) (by omega) c6.1 c6.2 ?_
      by_cases e1 : d * a3 > 1000000000000000000
      · rw [if_pos e1] at h ⊢; exact Option.some.inj h
      · rw [if_neg e1] at h ⊢
        by_cases e2 : a0 + d * a3 > 1000000000000000000
        · rw [if_pos e2] at h ⊢; exact Option.some.inj h
        · rw [if_neg e2] at h ⊢; exact Option.some.inj h
    · rw [if_neg c6] at h; cases h
  · rw [if_pos c1] at h
    simp only [Option.some.injEq, Prod.mk.injEq] at h
    obtain ⟨rfl, rfl⟩ := h
    exact accrue_Add.early k a0 a1 a2 a3 d e w hd (.inl (by simp [c1]))

end Go.Proofs.Ytmbenmiakjhgeaa.P
