/- IncomeFair: who has more is asked no less, a greater family no more, who is not above the line nothing; twelve months are about a tenth of what is free; for every input. -/
import Derived.Test.YtgobgjokelbngaaPx18
import Derived.Test.YtgobgjokelbngaaIncomeEv
namespace Go.Proofs.Ytgobgjokelbngaa.Pure
set_option linter.unusedVariables false
open Go.RowKit Go.Proofs.Ytgobgjokelbngaa.P Go.Proofs.YtgobgjokelbngaaW.PrintWords Go.Proofs.YtgobgjokelbngaaW.PrintLast Go.Proofs.YtgobgjokelbngaaW.PrintMore Go.Proofs.Ytgobgjokelbngaa.PlainM
theorem line_up {l : List Int} {n m : Int} (hg : goodT l = true) (h1 : 1 ≤ n) (h : n ≤ m) (h2 : m ≤ 30) : (lineS l n).1 ≤ (lineS l m).1 := by
  obtain ⟨_, _, e1, _, _⟩ := line_bd (line_good hg h1 (by omega : n ≤ 30))
  obtain ⟨_, _, e2, _, _⟩ := line_bd (line_good hg (by omega : 1 ≤ m) h2)
  rw [e1, e2]
  obtain ⟨a1, a2, _, _, _⟩ := at_line hg h1 (by omega : n ≤ 30)
  obtain ⟨b1, b2, _, _, _⟩ := at_line hg (by omega : 1 ≤ m) h2
  have hm : mn n l.length ≤ mn m l.length := by rw [mn_is, mn_is]; split <;> split <;> omega
  unfold goodT at hg
  simp only [Bool.and_eq_true, decide_eq_true_eq] at hg
  have := upFrom_up l 0 hg.2 (mn n l.length - 1).toNat (mn m l.length - 1).toNat (by omega) (by omega)
  rw [Int.toNat_of_nonneg a1, Int.toNat_of_nonneg b1] at this
  exact rq_more _ _ 2 1 (by omega) (by omega) (by omega) (by omega)
theorem ask_good {l : List Int} {n x : Int} (hg : goodT l = true) (h1 : 1 ≤ n) (h2 : n ≤ 30) (h3 : 0 ≤ x) (h4 : x ≤ 1000000000) :
    freeS l n x = (mx (x - (lineS l n).1) 0, 0) ∧ askS l n x = (rq (mx (x - (lineS l n).1) 0) 120 2, 0) := by
  have hl := line_good hg h1 h2
  have hf : freeS l n x = (mx (x - (lineS l n).1) 0, 0) := by unfold freeS; rw [if_pos ⟨hl, h3, h4⟩]
  refine ⟨hf, ?_⟩
  have hb := free_bd (l := l) (n := n) (x := x) (by rw [hf])
  unfold askS
  rw [hf] at hb ⊢
  simp only at hb ⊢
  rw [if_pos trivial, mdS_rq _ 1 120 2 hb.1 (by omega) (by omega) (by omega) (by omega) (by omega), Int.mul_one]
theorem rq_120 (x : Int) (h : 0 ≤ x) : 120 * rq x 120 2 ≤ x + 60 ∧ x ≤ 120 * rq x 120 2 + 60 ∧ 0 ≤ rq x 120 2 ∧ rq x 120 2 ≤ x ∧ (x = 0 → rq x 120 2 = 0) := by
  rw [rq2]; split <;> omega
theorem fair_j2 (k : Nat) (hk : 200 ≤ k) (lo a b L F : Int) (h0 : 0 ≤ b) (h1 : b ≤ 1000000000) (h2 : 0 ≤ F) (h3 : F ≤ 1000000000) (h4 : lo > L ∨ a = 0) (h5 : 120 * b ≤ F + 60) (h6 : F ≤ 120 * b + 60) :
    annuitylaw17_IncomeFair.j2 (k + 1) lo a b L F false = some true := by
  simp only [annuitylaw17_IncomeFair.j2]
  rw [if_neg (by simp), wakes17 k (by omega), w64 (e := 120 * b) (by omega) (by omega), w64 (e := F + 60) (by omega) (by omega), w64 (e := 120 * b + 60) (by omega) (by omega)]
  simp only [obind]
  by_cases c : lo > L
  · rw [if_pos c, if_pos h5, if_pos (by omega)]
  · rw [if_neg c, if_pos (by omega), if_pos h5, if_pos (by omega)]
theorem fair_j1 (l : List Int) (hl : l.length ≤ 4611686018427387904) (hg : goodT l = true) (k : Nat) (hk : 200 ≤ k) (lo hi n m : Int) (h1 : 0 ≤ lo) (h2 : lo ≤ hi) (h3 : hi ≤ 1000000000) (h4 : 1 ≤ n) (h5 : n ≤ m) (h6 : m ≤ 30) :
    annuitylaw17_IncomeFair.j1 (k + 2) l lo hi n m = some true := by
  simp only [annuitylaw17_IncomeFair.j1]
  rw [income_Ask_is l n lo (k + 1) hl (by omega), income_Ask_is l n hi (k + 1) hl (by omega), income_Ask_is l m hi (k + 1) hl (by omega), income_Line_is l n (k + 1) hl (by omega), income_Free_is l n hi (k + 1) hl (by omega)]
  simp only [obind]
  obtain ⟨f1, a1⟩ := ask_good (x := lo) hg h4 (by omega : n ≤ 30) h1 (by omega)
  obtain ⟨f2, a2⟩ := ask_good (x := hi) hg h4 (by omega : n ≤ 30) (by omega) h3
  obtain ⟨f3, a3⟩ := ask_good (x := hi) hg (by omega : 1 ≤ m) h6 (by omega) h3
  have hL := line_good hg h4 (by omega : n ≤ 30)
  obtain ⟨_, _, _, b1, b2⟩ := line_bd hL
  obtain ⟨_, _, _, b3, b4⟩ := line_bd (line_good hg (by omega : 1 ≤ m) h6)
  have hup := line_up hg h4 h5 h6
  rw [a1, a2, a3, f2, hL]
  simp only
  generalize (lineS l n).1 = L at *
  generalize (lineS l m).1 = M at *
  have c1 : 0 ≤ mx (lo - L) 0 ∧ mx (lo - L) 0 ≤ mx (hi - L) 0 ∧ mx (hi - M) 0 ≤ mx (hi - L) 0 ∧ 0 ≤ mx (hi - M) 0 ∧ mx (hi - L) 0 ≤ 1000000000 ∧ (¬ lo > L → mx (lo - L) 0 = 0) := by
    rw [mx_is, mx_is, mx_is]; (repeat' split) <;> omega
  have r1 := rq_120 (mx (lo - L) 0) c1.1
  have r2 := rq_120 (mx (hi - L) 0) (by omega)
  have m1 := rq_more (mx (lo - L) 0) (mx (hi - L) 0) 120 2 (by omega) (by omega) (by omega) c1.2.1
  have m2 := rq_more (mx (hi - M) 0) (mx (hi - L) 0) 120 2 (by omega) (by omega) (by omega) c1.2.2.1
  generalize mx (lo - L) 0 = x at *
  generalize mx (hi - L) 0 = y at *
  generalize mx (hi - M) 0 = z at *
  generalize rq x 120 2 = a at *
  generalize rq y 120 2 = b at *
  generalize rq z 120 2 = c at *
  rw [if_pos trivial, if_pos trivial, if_pos trivial, if_pos trivial, if_pos trivial, if_neg (by omega), if_neg (by omega), decide_eq_false (by omega)]
  exact fair_j2 k hk lo a b L y (by omega) (by omega) (by omega) (by omega) (by omega) (by omega) (by omega)
theorem fair_j0 (l : List Int) (hl : l.length ≤ 4611686018427387904) (hg : goodT l = true) (k : Nat) (hk : 200 ≤ k) (lo hi p q : Int) (h1 : 0 ≤ lo) (h2 : lo ≤ hi) (h3 : hi ≤ 1000000000) (hp : 0 ≤ p ∧ p ≤ 255) (hq : 0 ≤ q ∧ q ≤ 255) :
    annuitylaw17_IncomeFair.j0 (k + 3) l lo hi p q = some true := by
  simp only [annuitylaw17_IncomeFair.j0]
  have a0 : mn p q = if p ≤ q then p else q := mn_is p q
  have b0 : mx p q = if p ≤ q then q else p := mx_is p q
  generalize mn p q = a at *
  generalize mx p q = b at *
  have ab : 0 ≤ a ∧ a ≤ 255 ∧ 0 ≤ b ∧ b ≤ 255 := by rw [a0, b0]; split <;> omega
  clear a0 b0
  rw [w64 (e := a) (by omega) (by omega), w64 (e := b) (by omega) (by omega), Int.tmod_eq_emod_of_nonneg (by omega), Int.tmod_eq_emod_of_nonneg (by omega), w64 (e := 1 + a % 30) (by omega) (by omega), w64 (e := 1 + b % 30) (by omega) (by omega)]
  by_cases c : 1 + a % 30 > 1 + b % 30
  · rw [if_pos c]; exact fair_j1 l hl hg k hk lo hi _ _ h1 h2 h3 (by omega) (by omega) (by omega)
  · rw [if_neg c]; exact fair_j1 l hl hg k hk lo hi _ _ h1 h2 h3 (by omega) (by omega) (by omega)
theorem IncomeFair : annuitylaw17_IncomeFair.Pure := by
  intro l n0 n1 p q hl0 hl1 hl hn0 hn1 hp hq
  have hn0 := wfu32 hn0; have hn1 := wfu32 hn1; have hp := wfu8 hp; have hq := wfu8 hq
  obtain ⟨k, hk⟩ : ∃ k : Nat, 400 + l.length ≤ k := ⟨_, Nat.le_refl _⟩
  refine ⟨k + 3, ?_⟩
  unfold annuitylaw17_IncomeFair.f
  rw [ref_TGood_is l (k + 3) (by omega) (by omega), wakes17 (k + 3) (by omega)]
  simp only [obind]
  by_cases hg : goodT l = true
  · rw [if_pos hg]
    have a0 : mn n0 n1 = if n0 ≤ n1 then n0 else n1 := mn_is n0 n1
    have b0 : mx n0 n1 = if n0 ≤ n1 then n1 else n0 := mx_is n0 n1
    generalize mn n0 n1 = a at *
    generalize mx n0 n1 = b at *
    have ab : 0 ≤ a ∧ a ≤ 4294967295 ∧ 0 ≤ b ∧ b ≤ 4294967295 := by rw [a0, b0]; split <;> omega
    clear a0 b0
    rw [w64 (e := a) (by omega) (by omega), w64 (e := b) (by omega) (by omega), Int.tmod_eq_emod_of_nonneg (by omega), Int.tmod_eq_emod_of_nonneg (by omega)]
    by_cases c : a % 1000000000 > b % 1000000000
    · rw [if_pos c]; exact fair_j0 l (by omega) hg k (by omega) _ _ p q (by omega) (by omega) (by omega) hp hq
    · rw [if_neg c]; exact fair_j0 l (by omega) hg k (by omega) _ _ p q (by omega) (by omega) (by omega) hp hq
  · rw [if_neg hg]
end Go.Proofs.Ytgobgjokelbngaa.Pure
