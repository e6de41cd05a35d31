/- order.Rank: walked by hand (an array). -/
import Derived.Test.YtjdhhbjnihhncaaPx0
namespace Go.Proofs.Ytjdhhbjnihhncaa.P
open Go.RowKit Go.Proofs.YtjdhhbjnihhncaaW.PrintWords Go.Proofs.YtjdhhbjnihhncaaW.PrintLast Go.Proofs.YtjdhhbjnihhncaaW.PrintMore
attribute [local go_sem] max2_int min2_int max_two min_two max_three min_three max_four min_four   -- for this text's walks alone
set_option linter.unusedVariables false
set_option linter.unusedSimpArgs false
/-- A kind's rank. -/
def rankOf (n : Int) : Int := if n = 1 then 1 else if n = 2 then 2 else if n = 4 then 3 else if n = 5 then 4 else if n = 3 then 5 else if n = 7 then 6 else if n = 6 then 7 else if n = 8 then 8 else 9
def order_Rank.f (k : Nat) (a0 : Int) : Option Int := some (rankOf a0)
theorem rank_at (a0 : Int) (h0 : 0 ≤ a0) (h1 : a0 < 9) (h : a0.toNat < [(.int .i64 9 : Value), .int .i64 1, .int .i64 2, .int .i64 5, .int .i64 3, .int .i64 4, .int .i64 7, .int .i64 6, .int .i64 8].length) : ([(.int .i64 9), (.int .i64 1), (.int .i64 2), (.int .i64 5), (.int .i64 3), (.int .i64 4), (.int .i64 7), (.int .i64 6), (.int .i64 8)] : List Value)[a0.toNat]'h = (.int .i64 (rankOf a0)) := by
  have h : a0 = 0 ∨ a0 = 1 ∨ a0 = 2 ∨ a0 = 3 ∨ a0 = 4 ∨ a0 = 5 ∨ a0 = 6 ∨ a0 = 7 ∨ a0 = 8 := by omega
  rcases h with h | h | h | h | h | h | h | h | h <;> subst h <;> rfl
set_option maxHeartbeats 8000000 in
set_option maxRecDepth 100000 in
theorem order_Rank.callsD (k : Nat) (a0 : Int) (r : Int) (w : World) (h : order_Rank.f k a0 = some r) :
    Calls Try.prog 18 #[.int .i64 a0] w fun e w' => e = .returned (.int .i64 r) ∧ Below w.heap.size w w' ∧ w.drawn ≤ w'.drawn := by
  obtain rfl := Option.some.inj h
  clear h
  have HB := Aside0.mk (Below.refl w.heap.size w)
  by_cases c : 0 ≤ a0 ∧ a0 < 9
  · obtain ⟨c0, c1⟩ := c
    have hr := Aside0.mk (rank_at a0 c0 c1)
    have p0 : ¬ a0 < 0 := by omega
    have p1 : ¬ 9 ≤ a0 := by omega
    go_enter Try.func18, Try.ntmps18
    go_wp2
    go_ret
    exact ⟨by rw [hr.out]; rfl, below_alloc HB.out _, Nat.le_refl _⟩
  · have hr : rankOf a0 = 9 := by unfold rankOf; rw [if_neg (by omega), if_neg (by omega), if_neg (by omega), if_neg (by omega), if_neg (by omega), if_neg (by omega), if_neg (by omega), if_neg (by omega)]
    rw [hr]
    clear hr
    by_cases d : a0 < 0
    · clear c
      go_enter Try.func18, Try.ntmps18
      go_wp2
      go_ret
      exact ⟨rfl, below_alloc HB.out _, Nat.le_refl _⟩
    · have d1 : 9 ≤ a0 := by omega
      clear c
      go_enter Try.func18, Try.ntmps18
      go_wp2
      go_ret
      exact ⟨rfl, below_alloc HB.out _, Nat.le_refl _⟩
theorem order_Rank.calls (k : Nat) (a0 : Int) (r : Int) (w : World) (h : order_Rank.f k a0 = some r) :
    Calls Try.prog 18 #[.int .i64 a0] w fun e w' => e = .returned (.int .i64 r) ∧ Below w.heap.size w w' := (order_Rank.callsD k a0 r w h).mono fun _ _ h => ⟨h.1, h.2.1⟩
end Go.Proofs.Ytjdhhbjnihhncaa.P
