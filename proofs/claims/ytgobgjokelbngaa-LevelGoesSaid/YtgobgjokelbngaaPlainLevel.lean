/- Plain numbers of a loan that is paid off: a month, many months, the least payment; no program in sight. -/
import Derived.RowKit
namespace Go.Proofs.Ytgobgjokelbngaa.PlainL
set_option linter.unusedVariables false

/-- A month's interest, up. -/
def inter (b r : Int) : Int := if b * r % 12000000 > 0 then b * r / 12000000 + 1 else b * r / 12000000
/-- A balance behind a month, or that it is no money. -/
def monthS (b pay r : Int) : Int × Int := if b + inter b r > 10000000000000 then (0, 14) else (if b + inter b r - pay < 0 then 0 else b + inter b r - pay, 0)
/-- A balance behind so many months. -/
def leftS (pay r : Int) : Nat → Int → Int × Int
  | 0, b => (b, 0)
  | m + 1, b => if (monthS b pay r).2 = 0 then leftS pay r m (monthS b pay r).1 else (0, (monthS b pay r).2)
/-- Does a payment pay off? -/
def En (b pay r : Int) (n : Nat) : Prop := leftS pay r n b = (0, 0)

theorem inter_nn {b r : Int} (hb : 0 ≤ b) (hr : 0 ≤ r) : 0 ≤ inter b r := by
  have : 0 ≤ b * r / 12000000 := Int.ediv_nonneg (Int.mul_nonneg hb hr) (by omega)
  unfold inter; split <;> omega
theorem inter_mono {b b' r r' : Int} (hb : 0 ≤ b) (h : b ≤ b') (hr : 0 ≤ r) (h' : r ≤ r') : inter b r ≤ inter b' r' := by
  have hm : b * r ≤ b' * r' := Int.mul_le_mul h h' hr (by omega)
  unfold inter
  generalize b * r = x at *
  generalize b' * r' = y at *
  split <;> split <;> omega
theorem inter_le {b r : Int} (hb : 0 ≤ b) (hb' : b ≤ 10000000000000) (hr : 0 ≤ r) (hr' : r ≤ 1000000) : inter b r ≤ 1000000000000 := by
  have hm : b * r ≤ 10000000000000 * 1000000 := Int.mul_le_mul hb' hr' hr (by omega)
  unfold inter
  generalize b * r = x at *
  split <;> omega
theorem inter_zero (r : Int) : inter 0 r = 0 := by unfold inter; simp
theorem inter_norate (b : Int) : inter b 0 = 0 := by unfold inter; simp
theorem monthS_ok {b pay r : Int} (h : (monthS b pay r).2 = 0) : b + inter b r ≤ 10000000000000 ∧ monthS b pay r = (if b + inter b r - pay < 0 then 0 else b + inter b r - pay, 0) := by
  unfold monthS at h ⊢
  by_cases c : b + inter b r > 10000000000000
  · rw [if_pos c] at h; simp at h
  · rw [if_neg c]; exact ⟨by omega, rfl⟩
theorem monthS_bd {b pay r : Int} (hp : 0 ≤ pay) (h : (monthS b pay r).2 = 0) : 0 ≤ (monthS b pay r).1 ∧ (monthS b pay r).1 ≤ 10000000000000 := by
  obtain ⟨h1, h2⟩ := monthS_ok h
  rw [h2]
  simp only
  split <;> omega
theorem monthS_mono {b b' pay pay' r r' : Int} (hb : 0 ≤ b') (h : b' ≤ b) (hr : 0 ≤ r') (h' : r' ≤ r) (hp : pay ≤ pay') (hok : (monthS b pay r).2 = 0) :
    (monthS b' pay' r').2 = 0 ∧ (monthS b' pay' r').1 ≤ (monthS b pay r).1 := by
  obtain ⟨h1, h2⟩ := monthS_ok hok
  have hi := inter_mono hb h hr h'
  have h3 : monthS b' pay' r' = (if b' + inter b' r' - pay' < 0 then 0 else b' + inter b' r' - pay', 0) := by unfold monthS; rw [if_neg (by omega)]
  rw [h2, h3]
  refine ⟨rfl, ?_⟩
  simp only
  split <;> split <;> omega
theorem leftS_bd {pay r : Int} (hp : 0 ≤ pay) : ∀ (n : Nat) (b : Int), 0 ≤ b → b ≤ 10000000000000 → 0 ≤ (leftS pay r n b).1 ∧ (leftS pay r n b).1 ≤ 10000000000000
  | 0, b, h, h' => ⟨h, h'⟩
  | n + 1, b, h, h' => by
    unfold leftS
    by_cases c : (monthS b pay r).2 = 0
    · rw [if_pos c]; have := monthS_bd hp c; exact leftS_bd hp n _ this.1 this.2
    · rw [if_neg c]; simp
/-- Who pays more, owes less, at a lower rate, has no more left. -/
theorem leftS_mono {pay pay' r r' : Int} (hr : 0 ≤ r') (h' : r' ≤ r) (hp0 : 0 ≤ pay) (hp : pay ≤ pay') : ∀ (n : Nat) (b b' : Int), 0 ≤ b' → b' ≤ b → (leftS pay r n b).2 = 0 →
    (leftS pay' r' n b').2 = 0 ∧ (leftS pay' r' n b').1 ≤ (leftS pay r n b).1
  | 0, b, b', h0, h1, _ => ⟨rfl, h1⟩
  | n + 1, b, b', h0, h1, hok => by
    unfold leftS at hok ⊢
    by_cases c : (monthS b pay r).2 = 0
    · rw [if_pos c] at hok ⊢
      obtain ⟨m1, m2⟩ := monthS_mono h0 h1 hr h' hp c
      rw [if_pos m1]
      exact leftS_mono hr h' hp0 hp n _ _ (monthS_bd (by omega) m1).1 m2 hok
    · rw [if_neg c] at hok; exact absurd hok c
theorem En_mono {b b' pay pay' r r' : Int} {n : Nat} (h0 : 0 ≤ b') (h1 : b' ≤ b) (hb : b ≤ 10000000000000) (hr : 0 ≤ r') (h' : r' ≤ r) (hp0 : 0 ≤ pay) (hp : pay ≤ pay') (h : En b pay r n) : En b' pay' r' n := by
  unfold En at *
  have hok : (leftS pay r n b).2 = 0 := by rw [h]
  obtain ⟨a1, a2⟩ := leftS_mono hr h' hp0 hp n b b' h0 h1 hok
  have a3 := (leftS_bd (r := r') (show 0 ≤ pay' by omega) n b' h0 (by omega)).1
  rw [h] at a2
  exact Prod.ext (show _ = (0 : Int) by have : (leftS pay' r' n b').1 ≤ 0 := a2; omega) a1
theorem month_zero {pay r : Int} (hp : 0 ≤ pay) : monthS 0 pay r = (0, 0) := by
  unfold monthS; rw [inter_zero, if_neg (by omega)]; congr 1; split <;> omega
theorem left_zero {pay r : Int} (hp : 0 ≤ pay) : ∀ n, leftS pay r n 0 = (0, 0)
  | 0 => rfl
  | n + 1 => by unfold leftS; rw [month_zero hp, if_pos rfl]; exact left_zero hp n
theorem left_add {pay r : Int} : ∀ (n m : Nat) (b : Int), (leftS pay r n b).2 = 0 → leftS pay r (n + m) b = leftS pay r m (leftS pay r n b).1
  | 0, m, b, _ => by rw [Nat.zero_add]; rfl
  | n + 1, m, b, h => by
    rw [show n + 1 + m = n + m + 1 by omega]
    unfold leftS at h
    by_cases c : (monthS b pay r).2 = 0
    · rw [if_pos c] at h
      have e1 : leftS pay r (n + m + 1) b = leftS pay r (n + m) (monthS b pay r).1 := by show (if _ then _ else _) = _; rw [if_pos c]
      have e2 : leftS pay r (n + 1) b = leftS pay r n (monthS b pay r).1 := by show (if _ then _ else _) = _; rw [if_pos c]
      rw [e1, e2]; exact left_add n m _ h
    · rw [if_neg c] at h; exact absurd h c
/-- In more months no less is paid off. -/
theorem En_months {b pay r : Int} {n m : Nat} (hp : 0 ≤ pay) (h : n ≤ m) (he : En b pay r n) : En b pay r m := by
  unfold En at *
  rw [show m = n + (m - n) by omega, left_add n (m - n) b (by rw [he]), he]
  exact left_zero hp _
/-- All instalments together are no less than what was owed. -/
theorem left_ge {pay r : Int} (hp : 0 ≤ pay) (hr : 0 ≤ r) : ∀ (n : Nat) (b : Int), 0 ≤ b → (leftS pay r n b).2 = 0 → b ≤ (leftS pay r n b).1 + n * pay
  | 0, b, _, _ => by simp [leftS]
  | n + 1, b, hb, h => by
    unfold leftS at h ⊢
    by_cases c : (monthS b pay r).2 = 0
    · rw [if_pos c] at h ⊢
      obtain ⟨h1, h2⟩ := monthS_ok c
      have ih := left_ge hp hr n _ (monthS_bd hp c).1 h
      have hi := inter_nn hb hr
      have e : (monthS b pay r).1 ≥ b - pay := by rw [h2]; simp only; split <;> omega
      have : ((n + 1 : Nat) : Int) * pay = n * pay + pay := by rw [show ((n + 1 : Nat) : Int) = (n : Int) + 1 by omega, Int.add_mul]; omega
      omega
    · rw [if_neg c] at h; exact absurd h c
/-- Without interest: just what is owed less what is paid. -/
theorem left_plain {pay : Int} (hp : 0 ≤ pay) : ∀ (n : Nat) (b : Int), 0 ≤ b → b ≤ 10000000000000 → leftS pay 0 n b = (if b - n * pay < 0 then 0 else b - n * pay, 0)
  | 0, b, hb, _ => by simp [leftS]; omega
  | n + 1, b, hb, hb' => by
    have e0 : monthS b pay 0 = (if b - pay < 0 then 0 else b - pay, 0) := by unfold monthS; rw [inter_norate, if_neg (by omega)]; simp
    have : ((n + 1 : Nat) : Int) * pay = n * pay + pay := by rw [show ((n + 1 : Nat) : Int) = (n : Int) + 1 by omega, Int.add_mul]; omega
    have hnp : 0 ≤ (n : Int) * pay := Int.mul_nonneg (by omega) hp
    unfold leftS
    rw [e0, if_pos rfl]
    simp only
    rw [left_plain hp n _ (by split <;> omega) (by split <;> omega), this]
    congr 1
    split <;> split <;> split <;> omega
/-- The least payment. -/
structure Least (b r : Int) (n : Nat) (p : Int) : Prop where
  nn : 0 ≤ p
  le : p ≤ 10000000000000
  en : En b p r n
  least : ∀ q, 0 ≤ q → q < p → ¬ En b q r n
theorem Least.one {b r : Int} {n : Nat} {p q : Int} (h : Least b r n p) (h' : Least b r n q) : p = q := by
  rcases Int.lt_trichotomy p q with c | c | c
  · exact absurd h.en (h'.least p h.nn c)
  · exact c
  · exact absurd h'.en (h.least q h'.nn c)
end Go.Proofs.Ytgobgjokelbngaa.PlainL
