/- Functions of the program as plain Lean functions, and proofs that its calls come to just their answers, where they tell one (written by a program of this session). -/
import Derived.Test.YtgobgjokelbngaaPx0
import Derived.Test.YtgobgjokelbngaaPx19
import Derived.Test.YtgobgjokelbngaaPx29
namespace Go.Proofs.Ytgobgjokelbngaa.P
open Go.RowKit Go.Proofs.YtgobgjokelbngaaW.PrintWords Go.Proofs.YtgobgjokelbngaaW.PrintLast Go.Proofs.YtgobgjokelbngaaW.PrintMore
attribute [local go_sem] max2_int min2_int max_two min_two max_three min_three max_four min_four   -- for this text's walks alone
set_option linter.unusedVariables false
set_option linter.unusedSimpArgs false

/-! ### level_Of: function 39 -/
/-- Does a payment pay off? -/
def level_Of.en (k : Nat) (a0 : Int) (a1 : Int) (a2 : Int) (pay : Int) : Option (Bool) := (level_left.f k a0 pay a1 a2).bind fun r => if r.2 = 0 then some (r.1 == 0) else some false
def level_Of.l0 : Nat → Int → Int → Int → Int → Int → Option (Int × Int)
  | 0, _, _, _, _, _ => none
  | k + 1, x0, x1, x2, x9, x10 => if x9 < x10 then ((level_Of.en k x0 x1 x2 (wrap64 (Int.tdiv (wrap64 (x9 + x10)) 2))).bind fun t => (if t = true then (level_Of.l0 k x0 x1 x2 x9 (wrap64 (Int.tdiv (wrap64 (x9 + x10)) 2))) else (level_Of.l0 k x0 x1 x2 (wrap64 ((wrap64 (Int.tdiv (wrap64 (x9 + x10)) 2)) + 1)) x10))) else (some (x9, 0))
def level_Of.f (k : Nat) (a0 : Int) (a1 : Int) (a2 : Int) : Option (Int × Int) := (level_may.f a0 0 a1 a2).bind fun m => if m = true then (if a2 < 1 then (some (0, 1)) else ((level_Of.en k a0 a1 a2 10000000000000).bind fun t => (if t = true then (level_Of.l0 k a0 a1 a2 0 10000000000000) else (some (0, 14))))) else (some (0, 1))
theorem level_Of.en_mono (a0 a1 a2 pay : Int) (k : Nat) : LeO (level_Of.en k a0 a1 a2 pay) (level_Of.en (k + 1) a0 a1 a2 pay) := by
  unfold level_Of.en
  exact LeO.bind (level_left.mono _ _ _ _ _) (fun _ => LeO.refl _)
theorem level_Of.mono_l : ∀ k, (∀ y0 y1 y2 y3 y4, LeO (level_Of.l0 k y0 y1 y2 y3 y4) (level_Of.l0 (k + 1) y0 y1 y2 y3 y4))
  | 0 => fun _ _ _ _ _ r h => by simp [level_Of.l0] at h
  | k + 1 => by
    have ih := level_Of.mono_l k
    intro y0 y1 y2 y3 y4
    unfold level_Of.l0
    exact LeO.ite (LeO.bind (level_Of.en_mono _ _ _ _ _) (fun _ => LeO.ite (ih _ _ _ _ _) (ih _ _ _ _ _))) (LeO.refl _)
theorem level_Of.mono : ∀ a0 a1 a2 k, LeO (level_Of.f k a0 a1 a2) (level_Of.f (k + 1) a0 a1 a2) := by
  intro a0 a1 a2 k
  unfold level_Of.f
  exact LeO.bind (LeO.refl _) (fun _ => LeO.ite (LeO.ite (LeO.refl _) (LeO.bind (level_Of.en_mono _ _ _ _ _) (fun _ => LeO.ite (level_Of.mono_l k _ _ _ _ _) (LeO.refl _)))) (LeO.refl _))
set_option maxHeartbeats 8000000 in
set_option maxRecDepth 100000 in
theorem level_Of.enough (k : Nat) (a0 a1 a2 pay : Int) (g : Nat) (r : Bool) (w : World) (h : level_Of.en k a0 a1 a2 pay = some r)
    (h1 : w.heap[g]? = some (.cells #[.int .i64 a0] 2 (0, 0))) (h2 : w.heap[g + 1]? = some (.cells #[.int .i64 a1] 3 (0, 0))) (h3 : w.heap[g + 2]? = some (.cells #[.int .i64 a2] 3 (0, 0))) :
    Calls Try.prog 77 #[.int .i64 pay, .pointer (some ⟨g, 0, none⟩), .pointer (some ⟨g + 1, 0, none⟩), .pointer (some ⟨g + 2, 0, none⟩)] w fun e w' => e = .returned (.bool r) ∧ Below w.heap.size w w' := by
  unfold level_Of.en at h
  obtain ⟨⟨x, e⟩, hl, h⟩ := Option.bind_eq_some_iff.mp h
  have A := Aside0.mk hl
  clear hl
  have c1 : w.cell? ⟨g, 0, none⟩ = some (.int .i64 a0) := (blk_cell h1 0).trans rfl
  have c2 : w.cell? ⟨g + 1, 0, none⟩ = some (.int .i64 a1) := (blk_cell h2 0).trans rfl
  have c3 : w.cell? ⟨g + 2, 0, none⟩ = some (.int .i64 a2) := (blk_cell h3 0).trans rfl
  have f1 := blk_frozen h1 0
  have f2 := blk_frozen h2 0
  have f3 := blk_frozen h3 0
  clear h1 h2 h3
  simp only at h
  by_cases c : e = 0
  · rw [if_pos c] at h
    subst c
    obtain rfl := Option.some.inj h
    clear h
    go_enter Try.func77, Try.ntmps77
    go_wp2_with (go_at_call 78; (with_reducible refine (level_left.calls k a0 pay a1 a2 x 0 _ A.out).mono ?_); rintro e w1 ⟨rfl, hb⟩)
    go_ret
    exact ⟨by first | rfl | (simp; done), hb⟩
  · rw [if_neg c] at h
    have c4 : (e == 0) = false := beq_eq_false_iff_ne.mpr c
    obtain rfl := Option.some.inj h
    clear h
    go_enter Try.func77, Try.ntmps77
    go_wp2_with (go_at_call 78; (with_reducible refine (level_left.calls k a0 pay a1 a2 x e _ A.out).mono ?_); rintro e w1 ⟨rfl, hb⟩)
    go_ret
    exact ⟨by first | rfl | (simp; done), hb⟩

theorem level_Of.kept {w w' : World} {i : Nat} {o : Obj} (hb : Below w.heap.size w w') (h : w.heap[i]? = some o) : w'.heap[i]? = some o :=
  (hb.block i (blk_lt h)).trans h
set_option maxHeartbeats 8000000 in
set_option maxRecDepth 100000 in
theorem level_Of.calls (k : Nat) (a0 : Int) (a1 : Int) (a2 : Int) (r1 : Int) (r2 : Int) (w : World) (h : level_Of.f k a0 a1 a2 = some (r1, r2)) :
    Calls Try.prog 39 #[.int .i64 a0, .int .i64 a1, .int .i64 a2] w fun e w' => e = .returned (.tuple #[.int .i64 r1, .int .i64 r2]) ∧ Below w.heap.size w w' := by
  unfold level_Of.f at h
  obtain ⟨m, hm, h⟩ := Option.bind_eq_some_iff.mp h
  have M := Aside0.mk hm
  have H := Aside0.mk h
  clear hm h
  have hmf : ∀ (fn : Fn) (first cap : Array Value) (w : World), (Instr.makeFunc fn first cap).run Try.prog w = .ok (.func fn first cap) w := fun _ _ _ _ => rfl
  go_enter Try.func39, Try.ntmps39
  go_upto_region 1 with (fail)
  obtain ⟨W, hW⟩ : ∃ W, W = ((w.alloc (Obj.cells #[.int .i64 a0] 2)).alloc (Obj.cells #[.int .i64 a1] 3)).alloc (Obj.cells #[.int .i64 a2] 3) := ⟨_, rfl⟩
  have B0 : Aside0 (W.heap[w.heap.size]? = some (.cells #[.int .i64 a0] 2 (0, 0))) := ⟨by rw [hW]; exact blk_alloc (blk_alloc (blk_new w _) _) _⟩
  have B1 : Aside0 (W.heap[w.heap.size + 1]? = some (.cells #[.int .i64 a1] 3 (0, 0))) := ⟨by
    have := blk_alloc (blk_new (w.alloc (Obj.cells #[.int .i64 a0] 2)) (Obj.cells #[.int .i64 a1] 3)) (Obj.cells #[.int .i64 a2] 3)
    rw [hW]; simpa using this⟩
  have B2 : Aside0 (W.heap[w.heap.size + 2]? = some (.cells #[.int .i64 a2] 3 (0, 0))) := ⟨by
    have := blk_new ((w.alloc (Obj.cells #[.int .i64 a0] 2)).alloc (Obj.cells #[.int .i64 a1] 3)) (Obj.cells #[.int .i64 a2] 3)
    rw [hW]; simpa using this⟩
  have HB : Aside0 (Below w.heap.size w W) := ⟨by rw [hW]; exact (((Below.refl _ _).alloc (Nat.le_refl _) _).alloc (by simp) _).alloc (by simp; omega) _⟩
  rw [← hW]
  clear hW h
  rw [show w.heap.size + 1 + 1 = w.heap.size + 2 from rfl]
  have c0 : W.cell? ⟨w.heap.size, 0, none⟩ = some (.int .i64 a0) := (blk_cell B0.out 0).trans rfl
  have c1 : W.cell? ⟨w.heap.size + 1, 0, none⟩ = some (.int .i64 a1) := (blk_cell B1.out 0).trans rfl
  have c2 : W.cell? ⟨w.heap.size + 2, 0, none⟩ = some (.int .i64 a2) := (blk_cell B2.out 0).trans rfl
  have f0 := blk_frozen B0.out 0
  have f1 := blk_frozen B1.out 0
  have f2 := blk_frozen B2.out 0
  cases m with
  | false =>
    have h := H.out
    rw [if_neg (show ¬ (false = true) by decide)] at h
    simp only [Option.some.injEq, Prod.mk.injEq] at h
    obtain ⟨rfl, rfl⟩ := h
    clear H
    go_wp2_with (go_at_call 76; (with_reducible refine (level_may.calls a0 0 a1 a2 false _ M.out).mono ?_); rintro e w' ⟨rfl, ⟨nd, rfl⟩⟩)
    go_ret2
    exact ⟨rfl, pw_below_drewN HB.out _⟩
  | true =>
    have h := H.out
    rw [if_pos rfl] at h
    by_cases c : a2 < 1
    · rw [if_pos c] at h
      have c' : decide (a2 < 1) = true := decide_eq_true c
      simp only [Option.some.injEq, Prod.mk.injEq] at h
      obtain ⟨rfl, rfl⟩ := h
      clear H c
      go_wp2_with (go_at_call 76; (with_reducible refine (level_may.calls a0 0 a1 a2 true _ M.out).mono ?_); rintro e w' ⟨rfl, ⟨nd, rfl⟩⟩)
      go_ret2
      exact ⟨rfl, pw_below_drewN HB.out _⟩
    · rw [if_neg c] at h
      have c' : decide (a2 < 1) = false := decide_eq_false c
      obtain ⟨t, A0, h⟩ := Option.bind_eq_some_iff.mp h
      have A := Aside0.mk A0
      have H1 := Aside0.mk h
      clear H c A0 h
      cases t with
      | false =>
        have h := H1.out
        rw [if_neg (show ¬ (false = true) by decide)] at h
        simp only [Option.some.injEq, Prod.mk.injEq] at h
        obtain ⟨rfl, rfl⟩ := h
        clear H1
        go_wp2_with (first | (go_at_call 76; (with_reducible refine (level_may.calls a0 0 a1 a2 true _ M.out).mono ?_); rintro e w' ⟨rfl, ⟨nd, rfl⟩⟩) | (go_at_call 77; (with_reducible refine (level_Of.enough k a0 a1 a2 10000000000000 w.heap.size false _ A.out (blk_drewN B0.out _) (blk_drewN B1.out _) (blk_drewN B2.out _)).mono ?_); rintro e w1 ⟨rfl, hb⟩))
        go_ret2
        exact ⟨rfl, below_step (pw_below_drewN HB.out _) hb⟩
      | true =>
        have h := H1.out
        rw [if_pos rfl] at h
        have H2 := Aside0.mk h
        clear H1 h
        go_wp2_with (first | (go_at_call 76; (with_reducible refine (level_may.calls a0 0 a1 a2 true _ M.out).mono ?_); rintro e w' ⟨rfl, ⟨nd, rfl⟩⟩) | (go_at_call 77; (with_reducible refine (level_Of.enough k a0 a1 a2 10000000000000 w.heap.size true _ A.out (blk_drewN B0.out _) (blk_drewN B1.out _) (blk_drewN B2.out _)).mono ?_); rintro e w1 ⟨rfl, hb⟩))
        have C0 : Aside0 (w1.heap[w.heap.size]? = some (.cells #[.int .i64 a0] 2 (0, 0))) := ⟨level_Of.kept hb (blk_drewN B0.out _)⟩
        have C1 : Aside0 (w1.heap[w.heap.size + 1]? = some (.cells #[.int .i64 a1] 3 (0, 0))) := ⟨level_Of.kept hb (blk_drewN B1.out _)⟩
        have C2 : Aside0 (w1.heap[w.heap.size + 2]? = some (.cells #[.int .i64 a2] 3 (0, 0))) := ⟨level_Of.kept hb (blk_drewN B2.out _)⟩
        have HC : Aside0 (Below w.heap.size w w1) := ⟨below_step (pw_below_drewN HB.out _) hb⟩
        clear hb f0 f1 f2 c0 c1 c2 B0 B1 B2 HB A M c'
        go_loopg [9, 10] k (fun kq v9 v10 wr => ∃ (x9 x10 : Int), v9 = .int .i64 x9 ∧ v10 = .int .i64 x10 ∧ Aside0 (level_Of.l0 kq a0 a1 a2 x9 x10 = some (r1, r2)) ∧ Aside0 (kq ≤ k) ∧ Aside0 (wr.heap[w.heap.size]? = some (.cells #[.int .i64 a0] 2 (0, 0))) ∧ Aside0 (wr.heap[w.heap.size + 1]? = some (.cells #[.int .i64 a1] 3 (0, 0))) ∧ Aside0 (wr.heap[w.heap.size + 2]? = some (.cells #[.int .i64 a2] 3 (0, 0))) ∧ Aside0 (Below w.heap.size w wr))
        case atStart => exact ⟨0, 10000000000000, rfl, rfl, H2, ⟨Nat.le_refl _⟩, C0, C1, C2, HC⟩
        case round =>
          clear C0 C1 C2 HC H2
          obtain ⟨x9, x10, rfl, rfl, HA, HK, B0, B1, B2, HB⟩ := hrel
          cases gk with
          | zero => exact absurd HA.out (by simp [level_Of.l0])
          | succ kq =>
            have h := HA.out
            simp only [level_Of.l0] at h
            clear HA
            by_cases cc : x9 < x10
            · rw [if_pos cc] at h
              have cc' : decide (x9 < x10) = true := decide_eq_true cc
              obtain ⟨t, A0, h⟩ := Option.bind_eq_some_iff.mp h
              have A := Aside0.mk A0
              clear cc A0
              cases t with
              | true =>
                rw [if_pos rfl] at h
                have HN := Aside0.mk h
                clear h
                go_wp2_with (go_at_call 77; (with_reducible refine (level_Of.enough kq a0 a1 a2 _ w.heap.size true _ A.out B0.out B1.out B2.out).mono ?_); rintro e w2 ⟨rfl, hb⟩)
                go_roundg kq
                case measure => have := HK.out; omega
                case rel => exact ⟨_, _, rfl, rfl, HN, ⟨by have := HK.out; omega⟩, ⟨level_Of.kept hb B0.out⟩, ⟨level_Of.kept hb B1.out⟩, ⟨level_Of.kept hb B2.out⟩, ⟨below_step HB.out hb⟩⟩
              | false =>
                rw [if_neg (show ¬ (false = true) by decide)] at h
                have HN := Aside0.mk h
                clear h
                go_wp2_with (go_at_call 77; (with_reducible refine (level_Of.enough kq a0 a1 a2 _ w.heap.size false _ A.out B0.out B1.out B2.out).mono ?_); rintro e w2 ⟨rfl, hb⟩)
                go_roundg kq
                case measure => have := HK.out; omega
                case rel => exact ⟨_, _, rfl, rfl, HN, ⟨by have := HK.out; omega⟩, ⟨level_Of.kept hb B0.out⟩, ⟨level_Of.kept hb B1.out⟩, ⟨level_Of.kept hb B2.out⟩, ⟨below_step HB.out hb⟩⟩
            · rw [if_neg cc] at h
              have cc' : decide (x9 < x10) = false := decide_eq_false cc
              simp only [Option.some.injEq, Prod.mk.injEq] at h
              obtain ⟨rfl, rfl⟩ := h
              clear cc
              go_wp2
              go_ret2
              exact ⟨rfl, HB.out⟩

end Go.Proofs.Ytgobgjokelbngaa.P
