/- Plain numbers of a loan that is paid off: a month, many months, the least payment; no program in sight. -/
import Derived.RowKit
namespace Go.Proofs.Ytlhcohipnieidaa.PlainL
set_option linter.unusedVariables false

/-- A month's interest, up. -/
def inter (b r : Int) : Int := if b * r % 12000000 > 0 then b * r / 12000000 + 1 else b * r / 12000000
/-- A balance behind a month, or that it is no money. -/
def monthS (b pay r : Int) : Int × Int := if b + inter b r > 10000000000000 then (0, 14) else (if b + inter b r - pay < 0 then 0 else b + inter b r - pay, 0)
/-- A balance behind so many months. -/
def leftS (pay r : Int) : Nat → Int → Int × Int
  | 0, b => (b, 0)
  | m + 1, b => if (monthS b pay r).2 = 0 then leftS pay r m (monthS b pay r).1 else (0, (monthS b pay r).2)
/-- Does a payment pay off? -/
def En (b pay r : Int) (n : Nat) : Prop := leftS pay r n b = (0, 0)

theorem inter_nn {b r : Int} (hb : 0 ≤ b) (hr : 0 ≤ r) : 0 ≤ inter b r := by
  have : 0 ≤ b * r / 12000000 := Int.ediv_nonneg (Int.mul_nonneg hb hr) (by omega)
  unfold inter; split <;> omega
theorem inter_mono {b b' r r' : Int} (hb : 0 ≤ b) (h : b ≤ b') (hr : 0 ≤ r) (h' : r ≤ r') : inter b r ≤ inter b' r' := by
  have hm : b * r ≤ b' * r' := Int.mul_le_mul h h' hr (by omega)
  unfold inter
  generalize b * r = x at *
  generalize b' * r' = y at *
  split <;> split <;> omega
theorem inter_le {b r : Int} (hb : 0 ≤ b) (hb' : b ≤ 10000000000000) (hr : 0 ≤ r) (hr' : r ≤ 1000000) : inter b r ≤ 1000000000000 := by
  have hm : b * r ≤ 10000000000000 * 1000000 := Int.mul_le_mul hb' hr' hr (by omega)
  unfold inter
  generalize b * r = x at *
  split <;> omega
theorem monthS_ok {b pay r : Int} (h : (monthS b pay r).2 = 0) : b + inter b r ≤ 10000000000000 ∧ monthS b pay r = (if b + inter b r - pay < 0 then 0 else b + inter b r - pay, 0) := by
  unfold monthS at h ⊢
  by_cases c : b + inter b r > 10000000000000
  · rw [if_pos c] at h; simp at h
  · rw [if_neg c]; exact ⟨by omega, rfl⟩
theorem monthS_bd {b pay r : Int} (hp : 0 ≤ pay) (h : (monthS b pay r).2 = 0) : 0 ≤ (monthS b pay r).1 ∧ (monthS b pay r).1 ≤ 10000000000000 := by
  obtain ⟨h1, h2⟩ := monthS_ok h
  rw [h2]
  simp only
  split <;> omega
theorem monthS_mono {b b' pay pay' r r' : Int} (hb : 0 ≤ b') (h : b' ≤ b) (hr : 0 ≤ r') (h' : r' ≤ r) (hp : pay ≤ pay') (hok : (monthS b pay r).2 = 0) :
    (monthS b' pay' r').2 = 0 ∧ (monthS b' pay' r').1 ≤ (monthS b pay r).1 := by
  obtain ⟨h1, h2⟩ := monthS_ok hok
  have hi := inter_mono hb h hr h'
  have h3 : monthS b' pay' r' = (if b' + inter b' r' - pay' < 0 then 0 else b' + inter b' r' - pay', 0) := by unfold monthS; rw [if_neg (by omega)]
  rw [h2, h3]
  refine ⟨rfl, ?_⟩
  simp only
  split <;> split <;> omega
theorem leftS_bd {pay r : Int} (hp : 0 ≤ pay) : ∀ (n : Nat) (b : Int), 0 ≤ b → b ≤ 10000000000000 → 0 ≤ (leftS pay r n b).1 ∧ (leftS pay r n b).1 ≤ 10000000000000
  | 0, b, h, h' => ⟨h, h'⟩
  | n + 1, b, h, h' => by
    unfold leftS
    by_cases c : (monthS b pay r).2 = 0
    · rw [if_pos c]; have := monthS_bd hp c; exact leftS_bd hp n _ this.1 this.2
    · rw [if_neg c]; simp
/-- Who pays more, owes less, at a lower rate, has no more left. -/
theorem leftS_mono {pay pay' r r' : Int} (hr : 0 ≤ r') (h' : r' ≤ r) (hp0 : 0 ≤ pay) (hp : pay ≤ pay') : ∀ (n : Nat) (b b' : Int), 0 ≤ b' → b' ≤ b → (leftS pay r n b).2 = 0 →
    (leftS pay' r' n b').2 = 0 ∧ (leftS pay' r' n b').1 ≤ (leftS pay r n b).1
  | 0, b, b', h0, h1, _ => ⟨rfl, h1⟩
  | n + 1, b, b', h0, h1, hok => by
    unfold leftS at hok ⊢
    by_cases c : (monthS b pay r).2 = 0
    · rw [if_pos c] at hok ⊢
      obtain ⟨m1, m2⟩ := monthS_mono h0 h1 hr h' hp c
      rw [if_pos m1]
      exact leftS_mono hr h' hp0 hp n _ _ (monthS_bd (by omega) m1).1 m2 hok
    · rw [if_neg c] at hok; exact absurd hok c
theorem En_mono {b b' pay pay' r r' : Int} {n : Nat} (h0 : 0 ≤ b') (h1 : b' ≤ b) (hb : b ≤ 10000000000000) (hr : 0 ≤ r') (h' : r' ≤ r) (hp0 : 0 ≤ pay) (hp : pay ≤ pay') (h : En b pay r n) : En b' pay' r' n := by
  unfold En at *
  have hok : (leftS pay r n b).2 = 0 := by rw [h]
  obtain ⟨a1, a2⟩ := leftS_mono hr h' hp0 hp n b b' h0 h1 hok
  have a3 := (leftS_bd (r := r') (show 0 ≤ pay' by omega) n b' h0 (by omega)).1
  rw [h] at a2
  exact Prod.ext (show _ = (0 : Int) by have : (leftS pay' r' n b').1 ≤ 0 := a2; omega) a1
/-- The least payment. -/
structure Least (b r : Int) (n : Nat) (p : Int) : Prop where
  nn : 0 ≤ p
  le : p ≤ 10000000000000
  en : En b p r n
  least : ∀ q, 0 ≤ q → q < p → ¬ En b q r n
theorem Least.one {b r : Int} {n : Nat} {p q : Int} (h : Least b r n p) (h' : Least b r n q) : p = q := by
  rcases Int.lt_trichotomy p q with c | c | c
  · exact absurd h.en (h'.least p h.nn c)
  · exact c
  · exact absurd h'.en (h.least q h'.nn c)
end Go.Proofs.Ytlhcohipnieidaa.PlainL
