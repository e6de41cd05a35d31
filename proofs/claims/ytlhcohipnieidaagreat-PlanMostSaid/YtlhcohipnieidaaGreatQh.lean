/- Several texts as one (written by a program): what the walks and the plain laws come to, one behind the other. -/
import Derived.Test.YtlhcohipnieidaaGreatQa
import Derived.Test.YtlhcohipnieidaaGreatQg
import Derived.Test.YtlhcohipnieidaaGreatQf
import Derived.Test.YtlhcohipnieidaaGreatQe
import Derived.RowKit
import Derived.Test.YtlhcohipnieidaaGreatQb
import Derived.Test.YtlhcohipnieidaaGreatQc
import Derived.Test.YtlhcohipnieidaaGreatQd
namespace Go.Proofs.YtlhcohipnieidaaGreat.PureLo
set_option linter.unusedVariables false
set_option linter.unusedSimpArgs false
open Go.RowKit Go.Proofs.YtlhcohipnieidaaGreat.P W.PrintWords W.PrintLast W.PrintMore Go.Proofs.YtlhcohipnieidaaGreat.PlainM Go.Proofs.YtlhcohipnieidaaGreat.PureL
def mon (a : Int) : Prop := 0 ≤ a ∧ a ≤ 10000000000000
instance (a : Int) : Decidable (mon a) := by unfold mon; infer_instance
def gd (id pr it su fe ppm st cl en le fa ct : Int) : Prop :=
  (1 ≤ id ∧ id ≤ 1000) ∧ (mon pr ∧ mon fe ∧ mon le ∧ mon fa) ∧ ((0 ≤ it ∧ it ≤ 1000000000000000000) ∧ 0 ≤ su ∧ su ≤ 1000000000000000000) ∧ ((0 ≤ ppm ∧ ppm ≤ 1000000) ∧ (1 ≤ st ∧ st ≤ 5) ∧ 0 ≤ cl ∧ cl ≤ 4) ∧ (-1 ≤ en ∧ en ≤ 87658) ∧ 0 ≤ ct ∧ (cl = 0 ∨ pr = 0 ∧ it = 0 ∧ fe = 0)
instance (id pr it su fe ppm st cl en le fa ct : Int) : Decidable (gd id pr it su fe ppm st cl en le fa ct) := by unfold gd; infer_instance
theorem qWr (l : List Int) (k j : Nat) (hj : j < 4) (h4 : l.length = 4) :
    qZ4.l0 (k + 1) l 4 (j : Int) = if mon (rd l j) then qZ4.l0 k l 4 ((j + 1 : Nat) : Int) else some false := by
  simp only [qZ4.l0]
  rw [if_pos (by omega), if_pos (by omega), if_pos (by rw [h4]; omega)]
  by_cases c1 : rd l j < 0
  · rw [if_pos c1, if_neg (by unfold mon; omega)]
  · rw [if_neg c1, qXz]
    simp only [obind]
    rw [w64 (by omega) (by omega)]
    by_cases c2 : -10000000000000 ≤ rd l j ∧ rd l j ≤ 10000000000000
    · rw [decide_eq_true c2, if_pos rfl, if_pos (by unfold mon; omega)]; rfl
    · rw [decide_eq_false c2, if_neg (by simp), if_neg (by unfold mon; omega)]
theorem zWj (a b c d : Int) (k : Nat) (hk : 10 ≤ k) : qZ4.f k [a, b, c, d] = some (decide (mon a ∧ mon b ∧ mon c ∧ mon d)) := by
  obtain ⟨k, rfl⟩ : ∃ m, k = m + 5 := ⟨k - 5, by omega⟩
  unfold qZ4.f
  rw [show (([a, b, c, d] : List Int).length : Int) = 4 from rfl, show (0 : Int) = ((0 : Nat) : Int) from rfl, qWr _ (k + 4) 0 (by omega) rfl, qWr _ (k + 3) 1 (by omega) rfl, qWr _ (k + 2) 2 (by omega) rfl, qWr _ (k + 1) 3 (by omega) rfl]
  have e : qZ4.l0 (k + 1) [a, b, c, d] 4 ((3 + 1 : Nat) : Int) = some true := by simp only [qZ4.l0]; rw [if_neg (by omega)]
  rw [e, show rd [a, b, c, d] ((0 : Nat) : Int) = a from rfl, show rd [a, b, c, d] ((1 : Nat) : Int) = b from rfl, show rd [a, b, c, d] ((2 : Nat) : Int) = c from rfl, show rd [a, b, c, d] ((3 : Nat) : Int) = d from rfl]
  by_cases h1 : mon a
  · rw [if_pos h1]
    by_cases h2 : mon b
    · rw [if_pos h2]
      by_cases h3 : mon c
      · rw [if_pos h3]
        by_cases h4 : mon d
        · rw [if_pos h4, decide_eq_true ⟨h1, h2, h3, h4⟩]
        · rw [if_neg h4, decide_eq_false (fun h => h4 h.2.2.2)]
      · rw [if_neg h3, decide_eq_false (fun h => h3 h.2.2.1)]
    · rw [if_neg h2, decide_eq_false (fun h => h2 h.2.1)]
  · rw [if_neg h1, decide_eq_false (fun h => h1 h.1)]
theorem qVv (id pr it su fe ppm : Int) (sd : Bool) (st cl en le fa ct : Int) (k : Nat) (hk : 10 ≤ k) :
    qQu.f k id pr it su fe ppm sd st cl en le fa ct = some (decide (gd id pr it su fe ppm st cl en le fa ct)) := by
  obtain ⟨k, rfl⟩ : ∃ m, k = m + 4 := ⟨k - 4, by omega⟩
  have e2 : ∀ k, qQu.j2 (k + 1) true id pr it su fe ppm sd st cl en le fa ct = some false := fun k => by simp only [qQu.j2, if_true]
  have e1 : ∀ k, qQu.j1 (k + 1) true id pr it su fe ppm sd st cl en le fa ct = some false := fun k => by simp only [qQu.j1, if_true]
  have e0 : ∀ k, qQu.j0 (k + 1) true id pr it su fe ppm sd st cl en le fa ct = some false := fun k => by simp only [qQu.j0, if_true]
  have F : ¬ gd id pr it su fe ppm st cl en le fa ct → some false = some (decide (gd id pr it su fe ppm st cl en le fa ct)) := fun h => by rw [decide_eq_false h]
  unfold qQu.f
  by_cases h1 : id < 1
  · rw [if_pos h1, e0]; exact F (fun h => by unfold gd at h; omega)
  rw [if_neg h1]
  by_cases h2 : id > 1000
  · rw [if_pos h2, e0]; exact F (fun h => by unfold gd at h; omega)
  rw [if_neg h2, zWj _ _ _ _ _ (by omega)]
  simp only [obind]
  by_cases h3 : mon pr ∧ mon fe ∧ mon le ∧ mon fa
  case neg => rw [decide_eq_false h3]; simp only [Bool.not_false]; rw [e0]; exact F (fun h => h3 h.2.1)
  rw [decide_eq_true h3]
  simp only [Bool.not_true, qQu.j0]
  rw [if_neg (by simp)]
  by_cases h4 : it < 0
  · rw [if_pos h4, e1]; exact F (fun h => by unfold gd at h; omega)
  rw [if_neg h4]
  by_cases h5 : it > 1000000000000000000
  · rw [if_pos h5, e1]; exact F (fun h => by unfold gd at h; omega)
  rw [if_neg h5]
  by_cases h6 : su < 0
  · rw [if_pos h6, e1]; exact F (fun h => by unfold gd at h; omega)
  rw [if_neg h6]
  by_cases h7 : su > 1000000000000000000
  · rw [decide_eq_true h7, e1]; exact F (fun h => by unfold gd at h; omega)
  rw [decide_eq_false h7]
  simp only [qQu.j1]
  rw [if_neg (by simp)]
  by_cases h8 : ppm < 0
  · rw [if_pos h8, e2]; exact F (fun h => by unfold gd at h; omega)
  rw [if_neg h8]
  by_cases h9 : ppm > 1000000
  · rw [if_pos h9, e2]; exact F (fun h => by unfold gd at h; omega)
  rw [if_neg h9]
  by_cases h10 : st < 1
  · rw [if_pos h10, e2]; exact F (fun h => by unfold gd at h; omega)
  rw [if_neg h10]
  by_cases h11 : st > 5
  · rw [if_pos h11, e2]; exact F (fun h => by unfold gd at h; omega)
  rw [if_neg h11]
  by_cases h12 : cl < 0
  · rw [if_pos h12, e2]; exact F (fun h => by unfold gd at h; omega)
  rw [if_neg h12]
  by_cases h13 : cl > 4
  · rw [decide_eq_true h13, e2]; exact F (fun h => by unfold gd at h; omega)
  rw [decide_eq_false h13]
  simp only [qQu.j2]
  rw [if_neg (by simp)]
  by_cases h14 : en < -1
  · rw [if_pos h14]; exact F (fun h => by unfold gd at h; omega)
  rw [if_neg h14]
  by_cases h15 : en > 87658
  · rw [if_pos h15]; exact F (fun h => by unfold gd at h; omega)
  rw [if_neg h15]
  by_cases h16 : ct < 0
  · rw [if_pos h16]; exact F (fun h => by unfold gd at h; omega)
  rw [if_neg h16]
  have G : ∀ {b : Bool}, (b = true ↔ (cl = 0 ∨ pr = 0 ∧ it = 0 ∧ fe = 0)) → some b = some (decide (gd id pr it su fe ppm st cl en le fa ct)) := fun {b} h => by
    have e : (gd id pr it su fe ppm st cl en le fa ct) ↔ (cl = 0 ∨ pr = 0 ∧ it = 0 ∧ fe = 0) :=
      ⟨fun h => h.2.2.2.2.2.2, fun h => ⟨by omega, h3, ⟨by omega, by omega⟩, ⟨by omega, by omega, by omega⟩, by omega, by omega, h⟩⟩
    cases b with
    | true => rw [decide_eq_true (e.mpr (h.mp rfl))]
    | false => rw [decide_eq_false (fun c => by have := h.mpr (e.mp c); cases this)]
  by_cases h17 : cl = 0
  · rw [if_pos h17]; exact G ⟨fun _ => .inl h17, fun _ => rfl⟩
  rw [if_neg h17]
  by_cases h18 : pr = 0
  case neg => rw [if_neg h18]; exact G ⟨fun h => by simp at h, fun h => by omega⟩
  rw [if_pos h18]
  by_cases h19 : it = 0
  case neg => rw [if_neg h19]; exact G ⟨fun h => by simp at h, fun h => by omega⟩
  rw [if_pos h19]
  exact G ⟨fun h => .inr ⟨h18, h19, by simpa using h⟩, fun h => by simp; omega⟩
theorem qK0 (a b : Int) (ha : 0 ≤ a) (ha' : a ≤ 10000000000000) (hb : 0 ≤ b) (hb' : b ≤ 10000000000000) : addS a b = if a + b > 10000000000000 then (0, 14) else (a + b, 0) := by
  unfold addS isMoney
  by_cases c : a + b > 10000000000000
  · rw [if_pos c, if_neg (by simp; omega)]
  · rw [if_neg c, if_pos (by simp; omega)]
theorem zYn (a b : Int) (ha : 0 ≤ a) (ha' : a ≤ 10000000000000) (hb : 0 ≤ b) (hb' : b ≤ 10000000000000) : qZ1.f a b = some (if a + b > 10000000000000 then (0, 14) else (a + b, 0)) := by
  rw [qWm, qK0 a b ha ha' hb hb']
def owesS (id pr it su fe ppm st cl en le fa ct : Int) : Int × Int :=
  if gd id pr it su fe ppm st cl en le fa ct then (if pr + fe > 10000000000000 then (0, 14) else if pr + fe + it / 1000000 > 10000000000000 then (0, 14) else (pr + fe + it / 1000000, 0)) else (0, 1)
theorem zQm (id pr it su fe ppm : Int) (sd : Bool) (st cl en le fa ct : Int) (k : Nat) (hk : 10 ≤ k) : qYj.f k id pr it su fe ppm sd st cl en le fa ct = some (owesS id pr it su fe ppm st cl en le fa ct) := by
  unfold qYj.f owesS
  rw [qVv _ _ _ _ _ _ _ _ _ _ _ _ _ k hk]
  simp only [obind, decide_eq_true_eq]
  by_cases g : gd id pr it su fe ppm st cl en le fa ct
  · rw [if_pos g, if_pos g]
    have g' := g
    unfold gd mon at g'
    rw [if_pos g'.2.2.1.1, zYn pr fe (by omega) (by omega) (by omega) (by omega)]
    simp only [obind]
    by_cases c : pr + fe > 10000000000000
    · rw [if_pos c, if_pos c, if_neg (by simp)]
    · rw [if_neg c, if_neg c, if_pos rfl, zYn (pr + fe) (it / 1000000) (by omega) (by omega) (by omega) (by omega)]
      simp only [obind]
      by_cases d : pr + fe + it / 1000000 > 10000000000000
      · rw [if_pos d, if_neg (by simp)]
      · rw [if_neg d, if_pos rfl]
  · rw [if_neg g, if_neg g]
theorem qJq (a : Int) : qQe.f a = some (decide (mon a)) := by
  unfold qQe.f
  by_cases c : a ≥ 0
  · rw [if_pos c, qX7]; simp only [obind]; congr 1; rw [decide_eq_decide]; unfold mon; omega
  · rw [if_neg c, decide_eq_false (by unfold mon; omega)]
theorem qJu (a : Int) : qQk.f a = some (decide (0 ≤ a ∧ a ≤ 1000000000000000000)) := by
  unfold qQk.f
  by_cases c : a ≥ 0
  · rw [if_pos c]; congr 1; rw [decide_eq_decide]; omega
  · rw [if_neg c, decide_eq_false (by omega)]
theorem zQj (id pr it su fe ppm : Int) (sd : Bool) (st cl en le fa ct : Int) :
    qYe.f id pr it su fe ppm sd st cl en le fa ct = some (decide (gd id pr it su fe ppm st cl en le fa ct)) := by
  have F : ¬ gd id pr it su fe ppm st cl en le fa ct → some false = some (decide (gd id pr it su fe ppm st cl en le fa ct)) := fun h => by rw [decide_eq_false h]
  unfold qYe.f
  by_cases h1 : id < 1
  · rw [if_pos h1]; exact F (fun h => by unfold gd at h; omega)
  rw [if_neg h1]
  by_cases h2 : id > 1000
  · rw [if_pos h2]; exact F (fun h => by unfold gd at h; omega)
  rw [if_neg h2]
  simp only [qJq, qJu, obind, decide_eq_true_eq]
  by_cases a1 : mon pr
  case neg => rw [if_neg a1]; exact F (fun h => a1 h.2.1.1)
  rw [if_pos a1]
  by_cases a2 : mon fe
  case neg => rw [if_neg a2]; exact F (fun h => a2 h.2.1.2.1)
  rw [if_pos a2]
  by_cases a3 : 0 ≤ it ∧ it ≤ 1000000000000000000
  case neg => rw [if_neg a3]; exact F (fun h => a3 h.2.2.1.1)
  rw [if_pos a3]
  by_cases a4 : 0 ≤ su ∧ su ≤ 1000000000000000000
  case neg => rw [if_neg a4]; exact F (fun h => a4 h.2.2.1.2)
  rw [if_pos a4]
  by_cases h8 : ppm < 0
  · rw [if_pos h8]; exact F (fun h => by unfold gd at h; omega)
  rw [if_neg h8]
  by_cases h9 : ppm > 1000000
  · rw [if_pos h9]; exact F (fun h => by unfold gd at h; omega)
  rw [if_neg h9]
  by_cases h10 : st < 1
  · rw [if_pos h10]; exact F (fun h => by unfold gd at h; omega)
  rw [if_neg h10]
  by_cases h11 : st > 5
  · rw [if_pos h11]; exact F (fun h => by unfold gd at h; omega)
  rw [if_neg h11]
  by_cases h12 : cl < 0
  · rw [if_pos h12]; exact F (fun h => by unfold gd at h; omega)
  rw [if_neg h12]
  by_cases h13 : cl > 4
  · rw [if_pos h13]; exact F (fun h => by unfold gd at h; omega)
  rw [if_neg h13]
  by_cases h14 : en < -1
  · rw [if_pos h14]; exact F (fun h => by unfold gd at h; omega)
  rw [if_neg h14]
  by_cases h15 : en > 87658
  · rw [if_pos h15]; exact F (fun h => by unfold gd at h; omega)
  rw [if_neg h15]
  by_cases a5 : mon le
  case neg => rw [if_neg a5]; exact F (fun h => a5 h.2.1.2.2.1)
  rw [if_pos a5]
  by_cases a6 : mon fa
  case neg => rw [if_neg a6]; exact F (fun h => a6 h.2.1.2.2.2)
  rw [if_pos a6]
  by_cases h16 : ct < 0
  · rw [if_pos h16]; exact F (fun h => by unfold gd at h; omega)
  rw [if_neg h16]
  have G : ∀ {b : Bool}, (b = true ↔ (cl = 0 ∨ pr = 0 ∧ it = 0 ∧ fe = 0)) → some b = some (decide (gd id pr it su fe ppm st cl en le fa ct)) := fun {b} h => by
    have e : (gd id pr it su fe ppm st cl en le fa ct) ↔ (cl = 0 ∨ pr = 0 ∧ it = 0 ∧ fe = 0) :=
      ⟨fun h => h.2.2.2.2.2.2, fun h => ⟨by omega, ⟨a1, a2, a5, a6⟩, ⟨a3, a4⟩, ⟨by omega, by omega, by omega⟩, by omega, by omega, h⟩⟩
    cases b with
    | true => rw [decide_eq_true (e.mpr (h.mp rfl))]
    | false => rw [decide_eq_false (fun c => by have := h.mpr (e.mp c); cases this)]
  by_cases h17 : cl = 0
  · rw [if_pos h17]; exact G ⟨fun _ => .inl h17, fun _ => rfl⟩
  rw [if_neg h17]
  by_cases h18 : pr = 0
  case neg => rw [if_neg h18]; exact G ⟨fun h => by simp at h, fun h => by omega⟩
  rw [if_pos h18]
  by_cases h19 : it = 0
  case neg => rw [if_neg h19]; exact G ⟨fun h => by simp at h, fun h => by omega⟩
  rw [if_pos h19]
  exact G ⟨fun h => .inr ⟨h18, h19, by simpa using h⟩, fun h => by simp; omega⟩
theorem qKm (a b : Int) (ha : 0 ≤ a) (ha' : a ≤ 10000000000000) (hb : 0 ≤ b) (hb' : b ≤ 10000000000000) : qZh.f a b = some (if a + b > 10000000000000 then (0, 14) else (a + b, 0)) := by
  rw [qVz, qK0 a b ha ha' hb hb']
theorem qJ3 (a : Int) (h : 0 ≤ a) (h' : a ≤ 1000000000000000000) : qZy.f a = some (a / 1000000) := by rw [qJ0 a (by omega), if_neg (by omega)]
theorem qJ8 (id pr it su fe ppm : Int) (sd : Bool) (st cl en le fa ct : Int) : qZk.f id pr it su fe ppm sd st cl en le fa ct = some (owesS id pr it su fe ppm st cl en le fa ct) := by
  unfold qZk.f owesS
  rw [zQj]
  simp only [obind, decide_eq_true_eq]
  by_cases g : gd id pr it su fe ppm st cl en le fa ct
  · rw [if_pos g, if_pos g]
    have g' := g
    unfold gd mon at g'
    rw [qKm pr fe (by omega) (by omega) (by omega) (by omega)]
    simp only [obind]
    by_cases c : pr + fe > 10000000000000
    · rw [if_pos c, if_pos c, if_neg (by simp)]
    · rw [if_neg c, if_neg c, if_pos rfl, qJ3 it (by omega) (by omega)]
      simp only [obind]
      rw [qKm (pr + fe) (it / 1000000) (by omega) (by omega) (by omega) (by omega)]
      simp only [obind]
  · rw [if_neg g, if_neg g]
end Go.Proofs.YtlhcohipnieidaaGreat.PureLo
namespace Go.Proofs.YtlhcohipnieidaaGreat.P
open Go.RowKit W.PrintWords W.PrintLast W.PrintMore
attribute [local go_sem] qXg qXd qXq qXr qY2 qY1 qXe qXf
set_option linter.unusedVariables false
set_option linter.unusedSimpArgs false
end Go.Proofs.YtlhcohipnieidaaGreat.P
namespace Go.Proofs.YtlhcohipnieidaaGreat.Plain
open Go Go.RowKit
theorem w64 {e : Int} (h : -9223372036854775808 ≤ e) (h' : e ≤ 9223372036854775807) : wrap64 e = e := by unfold wrap64; omega
theorem obind {α β : Type} (a : α) (f : α → Option β) : (some a).bind f = f a := (Option.bind_some a f).trans (Eq.refl (f a))
theorem qXs {x n : Int} (h : 0 ≤ x) : Int.tdiv x n = x / n := Int.tdiv_eq_ediv_of_nonneg h
theorem qWl {x n : Int} (h : 0 ≤ x) : Int.tmod x n = x % n := Int.tmod_eq_emod_of_nonneg h
theorem qWa (x n : Int) : Int.tmod x n = 0 ↔ x % n = 0 := by
  rw [← Int.dvd_iff_tmod_eq_zero, ← Int.dvd_iff_emod_eq_zero]
def lg (y : Int) : Bool := decide (y % 4 = 0 ∧ y % 100 ≠ 0 ∨ y % 400 = 0)
def dd (y m : Int) : Int := if m < 1 then 0 else if m > 12 then 0 else if m = 2 then (if lg y = true then 29 else 28) else if m = 4 then 30 else if m = 6 then 30 else if m = 9 then 30 else if m = 11 then 30 else 31
def dm (m : Nat) : Int := dd (1960 + (m : Int) / 12) (1 + (m : Int) % 12)
def st : Nat → Int
  | 0 => 0
  | m + 1 => st m + dm m
def yr (y : Int) : Int := (y - 1960) * 365 + ((y - 1) / 4 - (y - 1) / 100 + (y - 1) / 400) - 474
theorem dd_le (y m : Int) : dd y m ≤ 31 := by unfold dd; (repeat' split) <;> omega
theorem dd_nn (y m : Int) : 0 ≤ dd y m := by unfold dd; (repeat' split) <;> omega
theorem dd_ge (y m : Int) (h : 1 ≤ m) (h' : m ≤ 12) : 28 ≤ dd y m := by unfold dd; (repeat' split) <;> omega
theorem dm_le (m : Nat) : dm m ≤ 31 := dd_le _ _
theorem dm_ge (m : Nat) : 28 ≤ dm m := dd_ge _ _ (by omega) (by omega)
theorem zVy (y : Int) : yr (y + 1) = yr y + 365 + (if lg y = true then 1 else 0) := by
  unfold yr lg
  by_cases h : y % 4 = 0 ∧ y % 100 ≠ 0 ∨ y % 400 = 0
  · rw [if_pos (by simpa using h)]; omega
  · rw [if_neg (by simpa using h)]; omega
theorem dm_at (n j : Nat) (h : j < 12) : dm (12 * n + j) = dd (1960 + n) (1 + j) := by
  unfold dm
  have h1 : ((12 * n + j : Nat) : Int) / 12 = n := by omega
  have h2 : ((12 * n + j : Nat) : Int) % 12 = j := by omega
  rw [h1, h2]
theorem st_12 : ∀ n : Nat, st (12 * n) = yr (1960 + n)
  | 0 => by decide +kernel
  | n + 1 => by
    have e : 12 * (n + 1) = 12 * n + 1 + 1 + 1 + 1 + 1 + 1 + 1 + 1 + 1 + 1 + 1 + 1 := by omega
    rw [e]
    have f : ((n + 1 : Nat) : Int) = (n : Int) + 1 := by omega
    rw [show (1960 + ((n + 1 : Nat) : Int)) = (1960 + (n : Int)) + 1 by omega, zVy, ← st_12 n]
    simp only [st]
    have a0 := dm_at n 0 (by omega); have a1 := dm_at n 1 (by omega); have a2 := dm_at n 2 (by omega); have a3 := dm_at n 3 (by omega)
    have a4 := dm_at n 4 (by omega); have a5 := dm_at n 5 (by omega); have a6 := dm_at n 6 (by omega); have a7 := dm_at n 7 (by omega)
    have a8 := dm_at n 8 (by omega); have a9 := dm_at n 9 (by omega); have a10 := dm_at n 10 (by omega); have a11 := dm_at n 11 (by omega)
    simp only [Nat.add_assoc, Nat.reduceAdd, Nat.add_zero] at *
    rw [a0, a1, a2, a3, a4, a5, a6, a7, a8, a9, a10, a11]
    simp only [dd]
    simp
    split <;> omega
theorem st_lt (m : Nat) : st m + 28 ≤ st (m + 1) := by have := dm_ge m; simp only [st]; omega
theorem st_add (m d : Nat) : st m + 28 * d ≤ st (m + d) := by
  induction d with
  | zero => simp
  | succ d ih => have := st_lt (m + d); rw [← Nat.add_assoc]; omega
theorem qWn {a b : Nat} (h : a ≤ b) : st a ≤ st b := by
  have := st_add a (b - a); rw [show a + (b - a) = b by omega] at this; omega
theorem st_nn (m : Nat) : 0 ≤ st m := by have := qWn (Nat.zero_le m); simpa [st] using this
theorem zYi : st 2880 = 87659 := by
  rw [show 2880 = 12 * 240 by rfl, st_12]; decide +kernel
theorem st_up (m : Nat) (h : m ≤ 2880) : st m ≤ 87659 := by have := qWn h; rw [zYi] at this; exact this
theorem mo_ex (n : Int) (h0 : 0 ≤ n) (h1 : n ≤ 87658) : ∃ m : Nat, m < 2880 ∧ st m ≤ n ∧ n < st (m + 1) := by
  have key : ∀ k : Nat, n < st k → ∃ m : Nat, m < k ∧ st m ≤ n ∧ n < st (m + 1) := by
    intro k
    induction k with
    | zero => intro h; simp [st] at h; omega
    | succ k ih =>
      intro h
      by_cases c : n < st k
      · obtain ⟨m, hm, h'⟩ := ih c; exact ⟨m, by omega, h'⟩
      · exact ⟨k, by omega, by omega, h⟩
  exact key 2880 (by rw [zYi]; omega)
end Go.Proofs.YtlhcohipnieidaaGreat.Plain
namespace Go.Proofs.YtlhcohipnieidaaGreat.PureD
open Go.RowKit Go.Proofs.YtlhcohipnieidaaGreat.P W.PrintWords W.PrintLast W.PrintMore Go.Proofs.YtlhcohipnieidaaGreat.Plain
theorem qK7 (y : Int) : qXx.f y = some (lg y) := by
  unfold qXx.f lg
  simp only [qWa]
  by_cases h : y % 4 = 0
  · rw [if_pos h]
    by_cases h1 : y % 100 = 0
    · rw [if_pos h1]
      by_cases h2 : y % 400 = 0
      · simp [h, h1, h2, (qWa y 400).2 h2]
      · have : ¬ Int.tmod y 400 = 0 := fun e => h2 ((qWa y 400).1 e)
        simp [h, h1, h2, this]
    · rw [if_neg h1]; simp [h, h1]
  · rw [if_neg h]
    have : ¬ y % 400 = 0 := by omega
    simp [h, this]
theorem zQa (y : Int) : qYl.f y = some (lg y) := by
  unfold qYl.f lg
  simp only [qWa]
  have e400 : (Int.tmod y 400 == 0) = decide (y % 400 = 0) := by
    by_cases h2 : y % 400 = 0
    · simp [h2, (qWa y 400).2 h2]
    · have : ¬ Int.tmod y 400 = 0 := fun e => h2 ((qWa y 400).1 e)
      simp [h2, this]
  rw [e400]
  by_cases h : y % 4 = 0
  · rw [if_pos h]
    by_cases h1 : y % 100 = 0
    · rw [if_pos h1]; simp [h, h1]
    · rw [if_neg h1]; simp [h, h1]
  · rw [if_neg h]; simp [h]
theorem zXe {m : Int} (h : ¬ m < 1) (h' : ¬ m > 12) : m = 1 ∨ m = 2 ∨ m = 3 ∨ m = 4 ∨ m = 5 ∨ m = 6 ∨ m = 7 ∨ m = 8 ∨ m = 9 ∨ m = 10 ∨ m = 11 ∨ m = 12 := by omega
theorem qXy (y m : Int) : qYc.f y m = some (dd y m) := by
  unfold qYc.f dd
  rw [qK7]
  simp only [obind]
  by_cases h1 : m < 1
  · rw [if_pos h1, if_pos h1]
  by_cases h2 : m > 12
  · rw [if_neg h1, if_neg h1, if_pos h2, if_pos h2]
  rcases zXe h1 h2 with rfl | rfl | rfl | rfl | rfl | rfl | rfl | rfl | rfl | rfl | rfl | rfl <;> cases lg y <;> rfl
theorem qWd (k : Nat) (y m : Int) (hk : 3 ≤ k) : qQn.f k y m = some (dd y m) := by
  obtain ⟨k, rfl⟩ : ∃ j, k = j + 2 := ⟨k - 2, by omega⟩
  unfold qQn.f
  simp only [qQn.j0, qQn.j1, zQa, obind]
  unfold dd
  by_cases h1 : m < 1
  · rw [if_pos h1]
    have e : ∀ j : Int, 1 ≤ j → ¬ m = j := fun j hj => by omega
    simp [e]
  by_cases h2 : m > 12
  · rw [if_neg h1, if_pos h2]
    have e : ∀ j : Int, j ≤ 12 → ¬ m = j := fun j hj => by omega
    simp [e]
  rcases zXe h1 h2 with rfl | rfl | rfl | rfl | rfl | rfl | rfl | rfl | rfl | rfl | rfl | rfl <;> cases lg y <;> rfl
theorem qX0 (y : Int) (h : 1960 ≤ y) (h' : y ≤ 2200) : qYb.f y = some (yr y) := by
  unfold qYb.f qYb.longs yr
  simp (disch := omega) only [w64, qXs]
  rfl
theorem zQ0 (n : Nat) : yr (1960 + n) = st (12 * n) := (st_12 n).symm
theorem qK1 (n M : Nat) (d : Int) (hn : n < 240) (hM : M < 12) (h1 : 1 ≤ d) (h2 : d ≤ 31) : ∀ (i j k : Nat), j + i = M → i < k →
    qYd.l0 k (1960 + n) (1 + M) d (st (12 * n + j)) (1 + j) = some (st (12 * n + M) + d - 1, 0) := by
  intro i
  have hs : ∀ j : Nat, j ≤ 12 → 0 ≤ st (12 * n + j) ∧ st (12 * n + j) ≤ 87659 := fun j hj => ⟨st_nn _, st_up _ (by omega)⟩
  induction i with
  | zero =>
    intro j k hj hk
    obtain ⟨k, rfl⟩ : ∃ m, k = m + 1 := ⟨k - 1, by omega⟩
    obtain rfl : j = M := by omega
    have := hs j (by omega)
    simp only [qYd.l0]
    rw [if_neg (by omega)]
    simp (disch := omega) only [w64]
  | succ i ih =>
    intro j k hj hk
    obtain ⟨k, rfl⟩ : ∃ m, k = m + 1 := ⟨k - 1, by omega⟩
    have a := hs j (by omega); have b := hs (j + 1) (by omega)
    have e : st (12 * n + (j + 1)) = st (12 * n + j) + dd (1960 + n) (1 + j) := by rw [← dm_at n j (by omega)]; rfl
    simp only [qYd.l0]
    rw [if_pos (by omega), qXy]
    simp only [obind]
    rw [← e, w64 (by omega) (by omega), w64 (by omega) (by omega)]
    have := ih (j + 1) k (by omega) (by omega)
    rw [show (1 + (j : Int)) + 1 = 1 + ((j + 1 : Nat) : Int) by omega] 
    exact this
theorem zZy (n M k : Nat) (d : Int) (hn : n < 240) (hM : M < 12) (h1 : 1 ≤ d) (h2 : d ≤ dd (1960 + n) (1 + M)) (hk : 20 ≤ k) :
    qYd.f k (1960 + n) (1 + M) d = some (st (12 * n + M) + d - 1, 0) := by
  have := dd_le (1960 + n) (1 + M)
  obtain ⟨k, rfl⟩ : ∃ m, k = m + 1 := ⟨k - 1, by omega⟩
  unfold qYd.f
  rw [if_neg (by omega), if_neg (by omega), if_neg (by omega), qXy]
  simp only [obind]
  rw [decide_eq_false (by omega)]
  simp only [qYd.j0]
  rw [if_neg (by simp), qX0 _ (by omega) (by omega)]
  simp only [obind]
  rw [zQ0]
  have := qK1 n M d hn hM h1 (by omega) M 0 k (by omega) (by omega)
  simpa using this
theorem qJj (m : Nat) (hm : m ≤ 2880) : ∀ (i j k : Nat), j + i = m → i + 3 < k → qQ8.l0 k m (st j) j = some (st m) := by
  intro i
  induction i with
  | zero =>
    intro j k hj hk
    obtain ⟨k, rfl⟩ : ∃ m, k = m + 1 := ⟨k - 1, by omega⟩
    obtain rfl : j = m := by omega
    simp only [qQ8.l0]
    rw [if_neg (by omega)]
  | succ i ih =>
    intro j k hj hk
    obtain ⟨k, rfl⟩ : ∃ m, k = m + 1 := ⟨k - 1, by omega⟩
    simp only [qQ8.l0]
    have a := st_nn j; have b := st_up (j + 1) (by omega); have c := st_lt j
    rw [if_pos (by omega), qXs (by omega), qWl (by omega), w64 (e := (j : Int) / 12) (by omega) (by omega), w64 (e := 1960 + _) (by omega) (by omega), w64 (e := 1 + _) (by omega) (by omega), qWd _ _ _ (by omega)]
    simp only [obind]
    have e : st j + dd (1960 + (j : Int) / 12) (1 + (j : Int) % 12) = st (j + 1) := rfl
    rw [e, w64 (by omega) (by omega), w64 (by omega) (by omega)]
    exact ih (j + 1) k (by omega) (by omega)
theorem qJn (m k : Nat) (hm : m ≤ 2880) (hk : 2890 ≤ k) : qQ8.f k m = some (st m) := by
  unfold qQ8.f
  exact qJj m hm m 0 k (by omega) (by omega)
theorem st_366 (a : Nat) (ha : a ≤ 240) : st (12 * a) ≤ 366 * a := by
  rw [st_12]; unfold yr; omega
theorem qXc (n : Int) : qZm.f n = some (decide (0 ≤ n ∧ n ≤ 87658)) := by
  unfold qZm.f
  by_cases h : n ≥ 0
  · rw [if_pos h]; simp [h]
  · rw [if_neg h]; simp; omega
theorem qV3 (n : Int) : qYo.f n = some (decide (0 ≤ n ∧ n ≤ 87658)) := by
  unfold qYo.f
  by_cases h : n ≥ 0
  · rw [if_pos h]; simp [h]
  · rw [if_neg h]; simp; omega
def civ (m : Nat) (n : Int) : Int × Int × Int × Int := (1960 + (m : Int) / 12, 1 + (m : Int) % 12, n - st m + 1, 0)
theorem qVi (a M : Nat) (n : Int) (ha : a < 240) (hM : M < 12) (h1 : st (12 * a + M) ≤ n) (h2 : n < st (12 * a + M + 1)) : ∀ (i j k : Nat), j + i = M → i < k →
    qZa.l1 k (n - st (12 * a + j)) (1960 + a) (1 + j) = some (1960 + (a : Int), 1 + (M : Int), n - st (12 * a + M) + 1, 0) := by
  intro i
  have hu : n < 87659 := by have := st_up (12 * a + M + 1) (by omega); omega
  induction i with
  | zero =>
    intro j k hj hk
    obtain ⟨k, rfl⟩ : ∃ m, k = m + 1 := ⟨k - 1, by omega⟩
    obtain rfl : j = M := by omega
    have e : st (12 * a + j + 1) = st (12 * a + j) + dd (1960 + a) (1 + j) := by rw [← dm_at a j (by omega)]; rfl
    have := st_nn (12 * a + j)
    simp only [qZa.l1, qXy, obind]
    rw [if_neg (by omega)]
    simp (disch := omega) only [w64]
  | succ i ih =>
    intro j k hj hk
    obtain ⟨k, rfl⟩ : ∃ m, k = m + 1 := ⟨k - 1, by omega⟩
    have e : st (12 * a + j + 1) = st (12 * a + j) + dd (1960 + a) (1 + j) := by rw [← dm_at a j (by omega)]; rfl
    have := st_nn (12 * a + j)
    have := qWn (show 12 * a + j + 1 ≤ 12 * a + M by omega)
    have := dd_nn (1960 + a) (1 + j)
    simp only [qZa.l1, qXy, obind]
    rw [if_pos (by omega), w64 (by omega) (by omega), w64 (by omega) (by omega)]
    have := ih (j + 1) k (by omega) (by omega)
    rw [show n - st (12 * a + j) - dd (1960 + ↑a) (1 + ↑j) = n - st (12 * a + (j + 1)) by rw [← Nat.add_assoc]; omega, show (1 + (j : Int)) + 1 = 1 + ((j + 1 : Nat) : Int) by omega] 
    exact this
theorem qVj (m : Nat) (n : Int) (hm : m < 2880) (h1 : st m ≤ n) (h2 : n < st (m + 1)) : ∀ (i a k : Nat), a + i = m / 12 → i + 20 < k →
    qZa.l0 k n (1960 + a) = some (civ m n) := by
  have hu : n < 87659 := by have := st_up (m + 1) (by omega); omega
  have hl : 0 ≤ n := by have := st_nn m; omega
  intro i
  induction i with
  | zero =>
    intro a k ha hk
    obtain ⟨k, rfl⟩ : ∃ m, k = m + 2 := ⟨k - 2, by omega⟩
    obtain rfl : a = m / 12 := by omega
    have hj : qZa.j1 (k + 1) n (1960 + ((m / 12 : Nat) : Int)) = some (civ m n) := by
      simp only [qZa.j1]
      rw [qX0 _ (by omega) (by omega)]
      simp only [obind]
      rw [zQ0]
      have a := st_nn (12 * (m / 12)); have b := qWn (show 12 * (m / 12) ≤ m by omega)
      rw [w64 (by omega) (by omega)]
      have e : 12 * (m / 12) + m % 12 = m := by omega
      have := qVi (m / 12) (m % 12) n (by omega) (by omega) (by rw [e]; exact h1) (by rw [e]; exact h2) (m % 12) 0 k (by omega) (by omega)
      rw [e] at this
      unfold civ
      simpa using this
    simp only [qZa.l0]
    by_cases c : 1960 + ((m / 12 : Nat) : Int) < 2199
    · rw [if_pos c, w64 (by omega) (by omega), qX0 _ (by omega) (by omega)]
      simp only [obind]
      rw [show 1960 + ((m / 12 : Nat) : Int) + 1 = 1960 + ((m / 12 + 1 : Nat) : Int) by omega, zQ0]
      have := qWn (show m + 1 ≤ 12 * (m / 12 + 1) by omega)
      rw [if_neg (by omega)]
      exact hj
    · rw [if_neg c]; exact hj
  | succ i ih =>
    intro a k ha hk
    obtain ⟨k, rfl⟩ : ∃ m, k = m + 1 := ⟨k - 1, by omega⟩
    simp only [qZa.l0]
    rw [if_pos (by omega), w64 (by omega) (by omega), qX0 _ (by omega) (by omega)]
    simp only [obind]
    rw [show 1960 + (a : Int) + 1 = 1960 + ((a + 1 : Nat) : Int) by omega, zQ0]
    have := qWn (show 12 * (a + 1) ≤ m by omega)
    rw [if_pos (by omega)]
    exact ih (a + 1) k (by omega) (by omega)
theorem qWe (m k : Nat) (n : Int) (hm : m < 2880) (h1 : st m ≤ n) (h2 : n < st (m + 1)) (hk : 300 ≤ k) : qZa.f k n = some (civ m n) := by
  have hu : n < 87659 := by have := st_up (m + 1) (by omega); omega
  have hl : 0 ≤ n := by have := st_nn m; omega
  unfold qZa.f
  rw [qXc, decide_eq_true (by omega)]
  simp only [obind, if_true]
  rw [qXs (by omega), w64 (e := n / 366) (by omega) (by omega), w64 (by omega) (by omega)]
  obtain ⟨a, ha⟩ : ∃ a : Nat, n / 366 = a := ⟨(n / 366).toNat, by omega⟩
  rw [ha]
  have h3 := st_366 a (by omega)
  have h4 : a ≤ m / 12 := by
    apply Nat.le_of_not_lt; intro h
    have := qWn (show m + 1 ≤ 12 * a by omega)
    omega
  exact qVj m n hm h1 h2 (m / 12 - a) a k (by omega) (by omega)
theorem qKv (n : Int) (k : Nat) (h : n < 0 ∨ 87658 < n) : qZa.f k n = some (0, 0, 0, 15) := by
  unfold qZa.f
  rw [qXc, decide_eq_false (by omega)]
  rfl
theorem qV4 (m : Nat) (n : Int) (hm : m < 2880) (h1 : st m ≤ n) (h2 : n < st (m + 1)) : ∀ (i j k : Nat), j + i = m → i + 5 < k →
    qQ6.l0 k (n - st j) j = some (civ m n) := by
  have hu : n < 87659 := by have := st_up (m + 1) (by omega); omega
  have hl : 0 ≤ n := by have := st_nn m; omega
  intro i
  induction i with
  | zero =>
    intro j k hj hk
    obtain ⟨k, rfl⟩ : ∃ m, k = m + 1 := ⟨k - 1, by omega⟩
    obtain rfl : j = m := by omega
    have e : st (j + 1) = st j + dd (1960 + (j : Int) / 12) (1 + (j : Int) % 12) := rfl
    have := st_nn j
    simp only [qQ6.l0]
    rw [qXs (by omega), qWl (by omega), w64 (e := (j : Int) / 12) (by omega) (by omega), w64 (e := 1960 + _) (by omega) (by omega), w64 (e := 1 + _) (by omega) (by omega), qWd _ _ _ (by omega)]
    simp only [obind]
    rw [if_neg (by omega), w64 (by omega) (by omega)]
    rfl
  | succ i ih =>
    intro j k hj hk
    obtain ⟨k, rfl⟩ : ∃ m, k = m + 1 := ⟨k - 1, by omega⟩
    have e : st (j + 1) = st j + dd (1960 + (j : Int) / 12) (1 + (j : Int) % 12) := rfl
    have := st_nn j
    have := qWn (show j + 1 ≤ m by omega)
    simp only [qQ6.l0]
    rw [qXs (by omega), qWl (by omega), w64 (e := (j : Int) / 12) (by omega) (by omega), w64 (e := 1960 + _) (by omega) (by omega), w64 (e := 1 + _) (by omega) (by omega), qWd _ _ _ (by omega)]
    simp only [obind]
    have hd := dd_nn (1960 + (j : Int) / 12) (1 + (j : Int) % 12)
    rw [if_pos (by omega), w64 (by omega) (by omega), w64 (by omega) (by omega), show n - st j - dd (1960 + (j : Int) / 12) (1 + (j : Int) % 12) = n - st (j + 1) by omega]
    exact ih (j + 1) k (by omega) (by omega)
theorem qVh (m k : Nat) (n : Int) (hm : m < 2880) (h1 : st m ≤ n) (h2 : n < st (m + 1)) (hk : 2890 ≤ k) : qQ6.f k n = some (civ m n) := by
  have hu : n < 87659 := by have := st_up (m + 1) (by omega); omega
  have hl : 0 ≤ n := by have := st_nn m; omega
  unfold qQ6.f
  rw [qV3, decide_eq_true (by omega)]
  simp only [obind, if_true]
  have := qV4 m n hm h1 h2 m 0 k (by omega) (by omega)
  simpa [st] using this
theorem qJi (n : Int) (k : Nat) (h : n < 0 ∨ 87658 < n) : qQ6.f k n = some (0, 0, 0, 15) := by
  unfold qQ6.f
  rw [qV3, decide_eq_false (by omega)]
  rfl
theorem mo_or (n : Int) : (n < 0 ∨ 87658 < n) ∨ ∃ m : Nat, m < 2880 ∧ st m ≤ n ∧ n < st (m + 1) := by
  by_cases h : n < 0 ∨ 87658 < n
  · exact .inl h
  · exact .inr (mo_ex n (by omega) (by omega))
theorem mo_bd {m : Nat} {n : Int} (hm : m < 2880) (h1 : st m ≤ n) (h2 : n < st (m + 1)) : 0 ≤ n ∧ n ≤ 87658 := by
  have := st_up (m + 1) (by omega); have := st_nn m; omega
theorem qW6 (m k : Nat) (n : Int) (hm : m < 2880) (h1 : st m ≤ n) (h2 : n < st (m + 1)) (hk : 300 ≤ k) : qYt.f k n = some ((m : Int), 0) := by
  unfold qYt.f
  rw [qWe m k n hm h1 h2 hk]
  simp only [obind, civ, if_true]
  simp (disch := omega) only [w64]
  congr 2; omega
def inMonth (m : Nat) (d : Int) : Int := st m + (if d ≤ dm m then d else dm m) - 1
theorem mn_is (a b : Int) : mn a b = if a ≤ b then a else b := by unfold mn; split <;> split <;> omega
theorem qWc (m a k : Nat) (n x : Int) (hm : m < 2880) (h1 : st m ≤ n) (h2 : n < st (m + 1)) (ha : a < 2880) (hx : (m : Int) + x = a) (hk : 310 ≤ k) :
    qZn.f k n x = some (inMonth a (n - st m + 1), 0) := by
  obtain ⟨k, rfl⟩ : ∃ j, k = j + 2 := ⟨k - 2, by omega⟩
  have := mo_bd hm h1 h2
  unfold qZn.f
  rw [qWe m _ n hm h1 h2 (by omega)]
  simp only [obind, civ, if_true]
  rw [if_neg (by omega), decide_eq_false (by omega)]
  simp only [qZn.j0]
  rw [if_neg (by simp)]
  simp (disch := omega) only [w64]
  rw [show (1960 + (m : Int) / 12 - 1960) * 12 + (1 + (m : Int) % 12) - 1 + x = a by omega, if_neg (by omega), decide_eq_false (by omega)]
  simp only [qZn.j1]
  rw [if_neg (by simp), qXs (by omega), qWl (by omega)]
  simp (disch := omega) only [w64, qXy, obind]
  have e : 12 * (a / 12) + a % 12 = a := by omega
  have ed : dd (1960 + (a : Int) / 12) ((a : Int) % 12 + 1) = dm a := by unfold dm; rw [Int.add_comm 1]
  rw [ed, mn_is]
  have g := dm_ge a
  have g2 : 1 ≤ (if n - st m + 1 ≤ dm a then n - st m + 1 else dm a) := by split <;> omega
  have g3 : (if n - st m + 1 ≤ dm a then n - st m + 1 else dm a) ≤ dm a := by split <;> omega
  have := zZy (a / 12) (a % 12) k (if n - st m + 1 ≤ dm a then n - st m + 1 else dm a) (by omega) (by omega) g2 (by
    rw [show (1960 + ((a / 12 : Nat) : Int)) = 1960 + (a : Int) / 12 by omega, show (1 + ((a % 12 : Nat) : Int)) = 1 + (a : Int) % 12 by omega]; exact g3) (by omega)
  rw [e, show (1960 + ((a / 12 : Nat) : Int)) = 1960 + (a : Int) / 12 by omega, show (1 + ((a % 12 : Nat) : Int)) = (a : Int) % 12 + 1 by omega] at this
  rw [this]
  rfl
theorem qV0 (m k : Nat) (n x : Int) (hm : m < 2880) (h1 : st m ≤ n) (h2 : n < st (m + 1)) (hx : (m : Int) + x < 0 ∨ 2880 ≤ (m : Int) + x) (hk : 310 ≤ k) :
    qZn.f k n x = some (0, 15) := by
  obtain ⟨k, rfl⟩ : ∃ j, k = j + 2 := ⟨k - 2, by omega⟩
  unfold qZn.f
  rw [qWe m _ n hm h1 h2 (by omega)]
  simp only [obind, civ, if_true, qZn.j0]
  by_cases c : x < -2880
  · rw [if_pos c]
  rw [if_neg c]
  by_cases c' : x > 2880
  · rw [decide_eq_true c', if_pos rfl]
  rw [decide_eq_false c', if_neg (by simp)]
  simp (disch := omega) only [w64]
  rw [show (1960 + (m : Int) / 12 - 1960) * 12 + (1 + (m : Int) % 12) - 1 + x = m + x by omega]
  by_cases c2 : (m : Int) + x < 0
  · rw [if_pos c2]; simp only [qZn.j1, if_true]
  · rw [if_neg c2, decide_eq_true (by omega)]; simp only [qZn.j1, if_true]
theorem qVc (n x : Int) (k : Nat) (h : n < 0 ∨ 87658 < n) (hk : 310 ≤ k) : qZn.f k n x = some (0, 15) := by
  obtain ⟨k, rfl⟩ : ∃ j, k = j + 2 := ⟨k - 2, by omega⟩
  unfold qZn.f
  rw [qKv n _ h]
  rfl
theorem zZu (m a k : Nat) (n x : Int) (hm : m < 2880) (h1 : st m ≤ n) (h2 : n < st (m + 1)) (ha : a < 2880) (hx : (m : Int) + x = a) (hk : 2900 ≤ k) :
    qQw.f k n x = some (inMonth a (n - st m + 1), 0) := by
  obtain ⟨k, rfl⟩ : ∃ j, k = j + 2 := ⟨k - 2, by omega⟩
  have := mo_bd hm h1 h2
  unfold qQw.f
  rw [qVh m _ n hm h1 h2 (by omega)]
  simp only [obind, civ, if_true]
  rw [if_neg (by omega), decide_eq_false (by omega)]
  simp only [qQw.j0]
  rw [if_neg (by simp)]
  simp (disch := omega) only [w64]
  rw [show 12 * (1960 + (m : Int) / 12 - 1960) + (1 + (m : Int) % 12) - 1 + x = a by omega, if_neg (by omega), decide_eq_false (by omega)]
  simp only [qQw.j1]
  rw [if_neg (by simp), qJn a k (by omega) (by omega), qXs (by omega), qWl (by omega)]
  simp only [obind]
  rw [w64 (e := (a : Int) / 12) (by omega) (by omega), w64 (e := 1960 + _) (by omega) (by omega), w64 (e := 1 + _) (by omega) (by omega), qWd _ _ _ (by omega)]
  have ed : dd (1960 + (a : Int) / 12) (1 + (a : Int) % 12) = dm a := by unfold dm; rfl
  have g := dm_ge a; have g' := dm_le a; have := st_nn a; have := st_up a (by omega)
  have hz : 1 ≤ mn (n - st m + 1) (dm a) ∧ mn (n - st m + 1) (dm a) ≤ 31 := by unfold mn; split <;> omega
  have hi : inMonth a (n - st m + 1) = st a + mn (n - st m + 1) (dm a) - 1 := by unfold inMonth; rw [mn_is]
  rw [ed, hi]
  simp only [obind]
  rw [w64 (e := st a + _) (by omega) (by omega), w64 (by omega) (by omega)]
theorem zZo (m k : Nat) (n x : Int) (hm : m < 2880) (h1 : st m ≤ n) (h2 : n < st (m + 1)) (hx : (m : Int) + x < 0 ∨ 2880 ≤ (m : Int) + x) (hk : 2900 ≤ k) :
    qQw.f k n x = some (0, 15) := by
  obtain ⟨k, rfl⟩ : ∃ j, k = j + 2 := ⟨k - 2, by omega⟩
  unfold qQw.f
  rw [qVh m _ n hm h1 h2 (by omega)]
  simp only [obind, civ, if_true, qQw.j0]
  by_cases c : x > 2879
  · rw [if_pos c]
  rw [if_neg c]
  by_cases c' : x < -2879
  · rw [decide_eq_true c', if_pos rfl]
  rw [decide_eq_false c', if_neg (by simp)]
  simp (disch := omega) only [w64]
  rw [show 12 * (1960 + (m : Int) / 12 - 1960) + (1 + (m : Int) % 12) - 1 + x = m + x by omega]
  by_cases c2 : (m : Int) + x < 0
  · rw [if_pos c2]; simp only [qQw.j1, if_true]
  · rw [if_neg c2, decide_eq_true (by omega)]; simp only [qQw.j1, if_true]
theorem zQh (n x : Int) (k : Nat) (h : n < 0 ∨ 87658 < n) (hk : 2900 ≤ k) : qQw.f k n x = some (0, 15) := by
  obtain ⟨k, rfl⟩ : ∃ j, k = j + 2 := ⟨k - 2, by omega⟩
  unfold qQw.f
  rw [qJi n _ h]
  rfl
theorem zXo (n x : Int) : ∃ r, ∀ k, 2900 ≤ k → qZn.f k n x = some r ∧ qQw.f k n x = some r := by
  rcases mo_or n with h | ⟨m, hm, h1, h2⟩
  · exact ⟨_, fun k hk => ⟨qVc n x k h (by omega), zQh n x k h hk⟩⟩
  · by_cases c : (m : Int) + x < 0 ∨ 2880 ≤ (m : Int) + x
    · exact ⟨_, fun k hk => ⟨qV0 m k n x hm h1 h2 c (by omega), zZo m k n x hm h1 h2 c hk⟩⟩
    · obtain ⟨a, ha⟩ : ∃ a : Nat, (m : Int) + x = a := ⟨((m : Int) + x).toNat, by omega⟩
      exact ⟨_, fun k hk => ⟨qWc m a k n x hm h1 h2 (by omega) ha (by omega), zZu m a k n x hm h1 h2 (by omega) ha hk⟩⟩
theorem qJp (l : List Int) (hl : l.length ≤ 4611686018427387904) : ∀ (d k : Nat) (i : Int), 0 ≤ i → i + d = l.length → d < k → qZc.l0 k l l i = some true := by
  intro d
  induction d with
  | zero =>
    intro k i h0 h1 hk
    obtain ⟨k, rfl⟩ : ∃ m, k = m + 1 := ⟨k - 1, by omega⟩
    simp only [qZc.l0]; rw [if_neg (by omega)]
  | succ d ih =>
    intro k i h0 h1 hk
    obtain ⟨k, rfl⟩ : ∃ m, k = m + 1 := ⟨k - 1, by omega⟩
    simp only [qZc.l0]
    rw [if_pos (by omega), if_pos h0, if_pos (by omega), if_pos trivial, w64 (by omega) (by omega)]
    exact ih k (i + 1) (by omega) (by omega) (by omega)
theorem qKc (l : List Int) (k : Nat) (hl : l.length ≤ 4611686018427387904) (hk : l.length < k) : qZc.f k l l = some true := by
  unfold qZc.f
  rw [if_pos rfl]
  exact qJp l hl l.length k 0 (by omega) (by omega) hk
def run (a n : Nat) : List Int := (List.range n).map fun i => ((a + i : Nat) : Int)
structure After (from_ : Int) (at_ : Nat) : Prop where
  is : ∀ m : Nat, m ≤ 2880 → (from_ < st m ↔ at_ ≤ m)
  le : at_ ≤ 2880
theorem mx_is (a b : Int) : mx a b = if a ≤ b then b else a := by unfold mx; split <;> split <;> omega
def wholeS (m n : Nat) (a b : Int) : Int := if inMonth n (a - st m + 1) ≤ b then (n : Int) - m else (n : Int) - m - 1
theorem qJ5 (m n k : Nat) (a b : Int) (hm : m < 2880) (h1 : st m ≤ a) (h2 : a < st (m + 1)) (hn : n < 2880) (g1 : st n ≤ b) (g2 : b < st (n + 1)) (hab : a ≤ b) (hk : 400 ≤ k) :
    qZw.f k a b = some (wholeS m n a b) := by
  obtain ⟨k, rfl⟩ : ∃ j, k = j + 1 := ⟨k - 1, by omega⟩
  have ha := mo_bd hm h1 h2; have hb := mo_bd hn g1 g2
  unfold qZw.f wholeS
  rw [qXc, qXc, decide_eq_true (by omega), decide_eq_true (by omega)]
  simp only [obind, if_true]
  rw [decide_eq_false (by omega)]
  simp only [qZw.j0]
  rw [if_neg (by simp), qW6 m k a hm h1 h2 (by omega), qW6 n k b hn g1 g2 (by omega)]
  simp only [obind]
  rw [w64 (e := (n : Int) - m) (by omega) (by omega), qWc m n k a _ hm h1 h2 hn (by omega) (by omega)]
  simp only [obind, if_true]
  rw [w64 (by omega) (by omega)]
  split <;> rfl
theorem qK8 (a b : Int) (k : Nat) (h : a < 0 ∨ 87658 < a ∨ b < 0 ∨ 87658 < b ∨ b < a) (hk : 10 ≤ k) : qZw.f k a b = some 0 := by
  obtain ⟨k, rfl⟩ : ∃ j, k = j + 1 := ⟨k - 1, by omega⟩
  unfold qZw.f
  simp only [qXc, obind, qZw.j0]
  by_cases c1 : 0 ≤ a ∧ a ≤ 87658
  · by_cases c2 : 0 ≤ b ∧ b ≤ 87658
    · rw [decide_eq_true c1, decide_eq_true c2, if_pos rfl, if_pos rfl, decide_eq_true (by omega), if_pos rfl]
    · rw [decide_eq_true c1, decide_eq_false c2, if_pos rfl, if_neg (by simp), if_pos trivial]
  · rw [decide_eq_false c1, if_neg (by simp), if_pos trivial]
end Go.Proofs.YtlhcohipnieidaaGreat.PureD
namespace Go.Proofs.YtlhcohipnieidaaGreat.P
open Go.RowKit W.PrintWords W.PrintLast W.PrintMore
attribute [local go_sem] qXg qXd qXq qXr qY2 qY1 qXe qXf
set_option linter.unusedVariables false
set_option linter.unusedSimpArgs false
end Go.Proofs.YtlhcohipnieidaaGreat.P
namespace Go.Proofs.YtlhcohipnieidaaGreat.Pure
set_option linter.unusedVariables false
open Go.RowKit Go.Proofs.YtlhcohipnieidaaGreat.P W.PrintWords W.PrintLast W.PrintMore Go.Proofs.YtlhcohipnieidaaGreat.PlainM
theorem qKl {u d y1 y0 q rh : Int} (h1 : 2147483648 ≤ y1) (h0 : 0 ≤ y0) (h0' : y0 < 4294967296) (hd : 0 ≤ d)
    (hq : (u * 4294967296 + d) / (y1 * 4294967296 + y0) ≤ q) (hqu : q ≤ 4294967297) (hr : rh = u - q * y1)
    (hgt : (u * 4294967296 + d) / (y1 * 4294967296 + y0) < q) :
    (u * 4294967296 + d) / (y1 * 4294967296 + y0) ≤ q - 1 ∧ rh + y1 = u - (q - 1) * y1 ∧ (4294967296 ≤ rh + y1 → (u * 4294967296 + d) / (y1 * 4294967296 + y0) = q - 1) := by
  have e1 : (q - 1) * y1 = q * y1 - y1 := by rw [Int.sub_mul]; omega
  refine ⟨by omega, by omega, fun hb => ?_⟩
  have : q - 1 ≤ (u * 4294967296 + d) / (y1 * 4294967296 + y0) := by
    apply (qKq (by omega)).2
    have e2 : (q - 1) * (y1 * 4294967296 + y0) = (q - 1) * y1 * 4294967296 + (q - 1) * y0 := by rw [Int.mul_add, Int.mul_assoc]
    have e3 : (q - 1) * y0 ≤ 4294967296 * y0 := Int.mul_le_mul_of_nonneg_right (by omega) h0
    rw [e2]; omega
  omega
theorem qKg {u d y1 y0 q rh : Int} (h1 : 2147483648 ≤ y1) (h0 : 0 ≤ y0) (hr : rh = u - q * y1) :
    (4294967296 * rh + d < q * y0) ↔ (u * 4294967296 + d) / (y1 * 4294967296 + y0) < q := by
  have e2 : q * (y1 * 4294967296 + y0) = q * y1 * 4294967296 + q * y0 := by rw [Int.mul_add, Int.mul_assoc]
  have := qKq (N := u * 4294967296 + d) (y := y1 * 4294967296 + y0) (q := q) (by omega)
  rw [e2] at this
  constructor
  · intro h; apply Int.lt_of_not_ge; intro c; have := this.1 c; omega
  · intro h; apply Int.lt_of_not_ge; intro c; have := this.2 (by omega); omega
theorem qW5 {u d y : Int} (hy : 0 < y) (hd : d < 4294967296) (hu : u < y) : (u * 4294967296 + d) / y < 4294967296 := by
  apply (Int.ediv_lt_iff_lt_mul hy).2; omega
theorem zZc {u d y : Int} (hy : 0 < y) (hd : 0 ≤ d) (hu : 0 ≤ u) : 0 ≤ (u * 4294967296 + d) / y := Int.ediv_nonneg (by omega) (by omega)
theorem zX9 (y s y1 y0 u d e : Int) (hy : y = y1 * 4294967296 + y0) (h1 : 2147483648 ≤ y1) (h1' : y1 < 4294967296) (h0 : 0 ≤ y0) (h0' : y0 < 4294967296) (hu : 0 ≤ u) (huy : u < y) (hd : 0 ≤ d) (hd' : d < 4294967296) :
    ∀ (n k : Nat) (q rh : Int), (u * 4294967296 + d) / y ≤ q → q ≤ 4294967297 → rh = u - q * y1 → 0 ≤ rh → rh < 4294967296 → 4294967296 ≤ rh + n * 2147483648 → 2 * n + 2 < k →
    ∃ k', k ≤ k' + 2 * n + 2 ∧ qQ2.l0 k y s y1 y0 u d e q rh = qQ2.j2 k' y s y1 y0 u d e ((u * 4294967296 + d) / y) := by
  subst hy
  intro n
  induction n with
  | zero => intro k q rh _ _ _ _ h2 h3; exfalso; simp at h3; omega
  | succ n ih =>
    intro k q rh hq hqu hr hr0 hrb hm hk
    have hqs := qW5 (d := d) (show 0 < y1 * 4294967296 + y0 by omega) hd' huy
    have hqn := zZc (show 0 < y1 * 4294967296 + y0 by omega) hd hu
    obtain ⟨k, rfl⟩ : ∃ m, k = m + 2 := ⟨k - 2, by omega⟩
    have step : ∀ (hgt : (u * 4294967296 + d) / (y1 * 4294967296 + y0) < q), ∃ k', k + 2 ≤ k' + 2 * (n + 1) + 2 ∧ qQ2.j1 (k + 1) (y1 * 4294967296 + y0) s y1 y0 u d e q rh true = qQ2.j2 k' (y1 * 4294967296 + y0) s y1 y0 u d e ((u * 4294967296 + d) / (y1 * 4294967296 + y0)) := by
      intro hgt
      obtain ⟨g1, g2, g3⟩ := qKl h1 h0 h0' hd hq hqu hr hgt
      simp only [qQ2.j1, if_true]
      rw [wu_id (n := rh + y1) (by omega) (by omega), wu_id (n := q - 1) (by omega) (by omega)]
      by_cases c : rh + y1 ≥ 4294967296
      · rw [if_pos c, ← g3 c]; exact ⟨k, by omega, rfl⟩
      · rw [if_neg c]
        obtain ⟨k', hk', he⟩ := ih k (q - 1) (rh + y1) g1 (by omega) g2 (by omega) (by omega) (by omega) (by omega)
        exact ⟨k', by omega, he⟩
    simp only [qQ2.l0]
    by_cases c : q ≥ 4294967296
    · rw [if_pos c]; exact step (by omega)
    · rw [if_neg c]
      have p1 : 0 ≤ q * y0 := Int.mul_nonneg (by omega) h0
      have p2 : q * y0 ≤ 4294967295 * 4294967295 := Int.mul_le_mul (by omega) (by omega) h0 (by omega)
      rw [wu_id (n := q * y0) p1 (by omega), wu_id (n := 4294967296 * rh) (by omega) (by omega), wu_id (n := 4294967296 * rh + d) (by omega) (by omega)]
      have t := qKg (d := d) h1 h0 hr
      by_cases c2 : 4294967296 * rh + d < q * y0
      · rw [decide_eq_true c2]; exact step (t.1 c2)
      · rw [decide_eq_false c2]
        have : (u * 4294967296 + d) / (y1 * 4294967296 + y0) = q := by
          have : ¬ (u * 4294967296 + d) / (y1 * 4294967296 + y0) < q := fun h => c2 (t.2 h)
          omega
        simp only [qQ2.j1]
        rw [if_neg (by simp), this]
        exact ⟨k, by omega, rfl⟩
theorem zXq (y s y1 y0 u d q1 : Int) (hs : 0 ≤ s) (hy : y = y1 * 4294967296 + y0) (h1 : 2147483648 ≤ y1) (h1' : y1 < 4294967296) (h0 : 0 ≤ y0) (h0' : y0 < 4294967296) (hu : 0 ≤ u) (huy : u < y) (hd : 0 ≤ d) (hd' : d < 4294967296) :
    ∀ (n k : Nat) (q rh : Int), (u * 4294967296 + d) / y ≤ q → q ≤ 4294967297 → rh = u - q * y1 → 0 ≤ rh → rh < 4294967296 → 4294967296 ≤ rh + n * 2147483648 → 2 * n + 2 < k →
    qQ2.l1 k y s y1 y0 d q1 rh u q = some (IntKind.u64.wrap (IntKind.u64.wrap (q1 * 4294967296) + (u * 4294967296 + d) / y), shr .u64 (IntKind.u64.wrap (IntKind.u64.wrap (IntKind.u64.wrap (u * 4294967296) + d) - IntKind.u64.wrap ((u * 4294967296 + d) / y * y))) s) := by
  subst hy
  intro n
  induction n with
  | zero => intro k q rh _ _ _ _ h2 h3; exfalso; simp at h3; omega
  | succ n ih =>
    intro k q rh hq hqu hr hr0 hrb hm hk
    have hqs := qW5 (d := d) (show 0 < y1 * 4294967296 + y0 by omega) hd' huy
    have hqn := zZc (show 0 < y1 * 4294967296 + y0 by omega) hd hu
    obtain ⟨k, rfl⟩ : ∃ m, k = m + 2 := ⟨k - 2, by omega⟩
    have step : ∀ (hgt : (u * 4294967296 + d) / (y1 * 4294967296 + y0) < q), qQ2.j4 (k + 1) (y1 * 4294967296 + y0) s y1 y0 d q1 rh u q true = some (IntKind.u64.wrap (IntKind.u64.wrap (q1 * 4294967296) + (u * 4294967296 + d) / (y1 * 4294967296 + y0)), shr .u64 (IntKind.u64.wrap (IntKind.u64.wrap (IntKind.u64.wrap (u * 4294967296) + d) - IntKind.u64.wrap ((u * 4294967296 + d) / (y1 * 4294967296 + y0) * (y1 * 4294967296 + y0)))) s) := by
      intro hgt
      obtain ⟨g1, g2, g3⟩ := qKl h1 h0 h0' hd hq hqu hr hgt
      simp only [qQ2.j4, if_true]
      rw [wu_id (n := rh + y1) (by omega) (by omega), wu_id (n := q - 1) (by omega) (by omega)]
      by_cases c : rh + y1 ≥ 4294967296
      · rw [if_pos c, ← g3 c, if_pos hs]
      · rw [if_neg c]
        exact ih k (q - 1) (rh + y1) g1 (by omega) g2 (by omega) (by omega) (by omega) (by omega)
    simp only [qQ2.l1]
    by_cases c : q ≥ 4294967296
    · rw [if_pos c]; exact step (by omega)
    · rw [if_neg c]
      have p1 : 0 ≤ q * y0 := Int.mul_nonneg (by omega) h0
      have p2 : q * y0 ≤ 4294967295 * 4294967295 := Int.mul_le_mul (by omega) (by omega) h0 (by omega)
      rw [wu_id (n := q * y0) p1 (by omega), wu_id (n := 4294967296 * rh) (by omega) (by omega), wu_id (n := 4294967296 * rh + d) (by omega) (by omega)]
      have t := qKg (d := d) h1 h0 hr
      by_cases c2 : 4294967296 * rh + d < q * y0
      · rw [decide_eq_true c2]; exact step (t.1 c2)
      · rw [decide_eq_false c2]
        have : (u * 4294967296 + d) / (y1 * 4294967296 + y0) = q := by
          have : ¬ (u * 4294967296 + d) / (y1 * 4294967296 + y0) < q := fun h => c2 (t.2 h)
          omega
        simp only [qQ2.j4]
        rw [if_neg (by simp), this, if_pos hs]
theorem qJm {u d y : Int} (hy : 0 < y) (hy' : y < 18446744073709551616) :
    IntKind.u64.wrap (IntKind.u64.wrap (IntKind.u64.wrap (u * 4294967296) + d) - IntKind.u64.wrap ((u * 4294967296 + d) / y * y)) = (u * 4294967296 + d) % y := by
  have e := Int.emod_add_mul_ediv (u * 4294967296 + d) y
  have m1 := Int.emod_nonneg (u * 4294967296 + d) (show y ≠ 0 by omega)
  have m2 := Int.emod_lt_of_pos (u * 4294967296 + d) hy
  rw [Int.mul_comm y] at e
  generalize (u * 4294967296 + d) / y * y = p at *
  generalize (u * 4294967296 + d) % y = r at *
  simp only [wu]
  omega
theorem zWc (y s y1 y0 u d e q1 : Int) (k : Nat) (hs : 0 ≤ s) (hy : y = y1 * 4294967296 + y0) (h1 : 2147483648 ≤ y1) (h1' : y1 < 4294967296) (h0 : 0 ≤ y0) (h0' : y0 < 4294967296) (hu : 0 ≤ u) (huy : u < y) (hd : 0 ≤ d) (hd' : d < 4294967296) (he : 0 ≤ e) (he' : e < 4294967296)
    (hq : q1 = (u * 4294967296 + d) / y) (hk : 10 ≤ k) :
    qQ2.j2 k y s y1 y0 u d e q1 = some (q1 * 4294967296 + ((u * 4294967296 + d) % y * 4294967296 + e) / y, shr .u64 (((u * 4294967296 + d) % y * 4294967296 + e) % y) s) := by
  obtain ⟨k, rfl⟩ : ∃ m, k = m + 1 := ⟨k - 1, by omega⟩
  have hy0 : 0 < y := by omega
  have hyb : y < 18446744073709551616 := by omega
  have r0 := Int.emod_nonneg (u * 4294967296 + d) (show y ≠ 0 by omega)
  have r1 := Int.emod_lt_of_pos (u * 4294967296 + d) hy0
  have q0 := qW5 hy0 hd' huy
  have q0' := zZc hy0 hd hu
  simp only [qQ2.j2]
  rw [if_neg (by omega)]
  have hr : IntKind.u64.wrap (IntKind.u64.wrap (IntKind.u64.wrap (u * 4294967296) + d) - IntKind.u64.wrap (q1 * y)) = (u * 4294967296 + d) % y := by rw [hq]; exact qJm hy0 hyb
  rw [hr]
  generalize (u * 4294967296 + d) % y = v at *
  have b := zXl h1 h1' h0 h0' r0 (by omega)
  rw [qXs r0, wu_id b.1 (by omega)]
  have pv : v / y1 * y1 ≤ v := by have := b.2.2.1; omega
  have pn : 0 ≤ v / y1 * y1 := Int.mul_nonneg b.1 (by omega)
  rw [wu_id (n := v / y1 * y1) pn (by omega), wu_id (n := v - v / y1 * y1) b.2.2.1 (by omega)]
  have hge : (v * 4294967296 + e) / y ≤ v / y1 := by
    have h2 : v * 4294967296 + e < (v / y1 + 1) * y := by
      have h3 : (v / y1 + 1) * y1 ≥ v + 1 := by
        rw [Int.add_mul]
        have := b.2.2.2
        omega
      have h4 : (v / y1 + 1) * y = (v / y1 + 1) * y1 * 4294967296 + (v / y1 + 1) * y0 := by rw [hy, Int.mul_add, Int.mul_assoc]
      have h5 : 0 ≤ (v / y1 + 1) * y0 := Int.mul_nonneg (by omega) h0
      omega
    have := (Int.ediv_lt_iff_lt_mul hy0).2 h2
    omega
  rw [zXq y s y1 y0 v e q1 hs hy h1 h1' h0 h0' r0 (by omega) he he' 2 k (v / y1) (v - v / y1 * y1) hge b.2.1 rfl b.2.2.1 (by omega) (by omega) (by omega)]
  have q2 := qW5 hy0 he' r1
  have q2' := zZc hy0 he r0
  rw [qJm hy0 hyb, wu_id (n := q1 * 4294967296) (by omega) (by omega), wu_id (n := q1 * 4294967296 + _) (by omega) (by omega)]
theorem qW9 (L : Nat) (h : L ≤ 64) : (2 : Int) ^ (64 - L) * 2 ^ L = 18446744073709551616 := by
  rw [← Int.pow_add, show 64 - L + L = 64 by omega]; rfl
theorem lead (y : Int) (h : 0 < y) (h' : y < 18446744073709551616) : ∃ L : Nat, 1 ≤ L ∧ L ≤ 64 ∧ Lib.bitLen y.toNat = L ∧ y < 2 ^ L ∧ 9223372036854775808 ≤ y * 2 ^ (64 - L) ∧ y * 2 ^ (64 - L) < 18446744073709551616 := by
  have hx : y.toNat < 2 ^ 64 := by omega
  obtain ⟨a, b, c⟩ := Lib.bitLenAux_bounds 64 y.toNat hx (by omega)
  have hle : Lib.bitLenAux 64 y.toNat ≤ 64 := by
    apply Nat.le_of_not_lt; intro hlt
    have := Nat.pow_le_pow_right (n := 2) (by decide) (show 64 ≤ Lib.bitLenAux 64 y.toNat - 1 by omega)
    omega
  refine ⟨Lib.bitLenAux 64 y.toNat, a, hle, rfl, ?_, ?_, ?_⟩
  · have : ((y.toNat : Nat) : Int) < ((2 ^ Lib.bitLenAux 64 y.toNat : Nat) : Int) := by exact_mod_cast c
    rw [Int.natCast_pow] at this
    have e : ((y.toNat : Nat) : Int) = y := by omega
    rw [e] at this; exact this
  · have h1 : ((2 ^ (Lib.bitLenAux 64 y.toNat - 1) : Nat) : Int) ≤ ((y.toNat : Nat) : Int) := by exact_mod_cast b
    rw [Int.natCast_pow] at h1
    have e : ((y.toNat : Nat) : Int) = y := by omega
    rw [e] at h1
    have h2 : (0 : Int) ≤ 2 ^ (64 - Lib.bitLenAux 64 y.toNat) := Int.le_of_lt (Int.pow_pos (by decide))
    have h3 := Int.mul_le_mul_of_nonneg_right h1 h2
    rw [show ((2 : Nat) : Int) = 2 from rfl, ← Int.pow_add, show Lib.bitLenAux 64 y.toNat - 1 + (64 - Lib.bitLenAux 64 y.toNat) = 63 by omega] at h3
    exact h3
  · have h1 : ((y.toNat : Nat) : Int) < ((2 ^ Lib.bitLenAux 64 y.toNat : Nat) : Int) := by exact_mod_cast c
    rw [Int.natCast_pow] at h1
    have e : ((y.toNat : Nat) : Int) = y := by omega
    rw [e] at h1
    have h2 : (0 : Int) < 2 ^ (64 - Lib.bitLenAux 64 y.toNat) := Int.pow_pos (by decide)
    have h3 := Int.mul_lt_mul_of_pos_right h1 h2
    rw [show ((2 : Nat) : Int) = 2 from rfl, Int.mul_comm (2 ^ _), qW9 _ hle] at h3
    exact h3
theorem zZl (x y : Int) {p : Int} (h : 0 < p) : x * p % (y * p) = x % y * p := by
  rw [Int.mul_comm x, Int.mul_comm y, Int.mul_emod_mul_of_pos _ _ h, Int.mul_comm]
theorem qKo {U R Y d f q1 v q0 r : Int} (hR : R = d * 4294967296 + f) (ea : v + Y * q1 = U * 4294967296 + d) (eb : r + Y * q0 = v * 4294967296 + f) :
    U * 18446744073709551616 + R = (q1 * 4294967296 + q0) * Y + r := by
  have h1 : (q1 * 4294967296 + q0) * Y = Y * q1 * 4294967296 + Y * q0 := by
    rw [Int.add_mul, Int.mul_comm q0, Int.mul_right_comm, Int.mul_comm q1]
  rw [h1, hR]
  generalize Y * q1 = A at *
  generalize Y * q0 = B at *
  omega
theorem zW8 {U R Y d f q1 v q0 r : Int} (hR : R = d * 4294967296 + f) (ea : v + Y * q1 = U * 4294967296 + d) (eb : r + Y * q0 = v * 4294967296 + f) (h0 : 0 ≤ r) (h1 : r < Y) :
    (U * 18446744073709551616 + R) / Y = q1 * 4294967296 + q0 := by
  rw [qKo hR ea eb]
  apply zWy (by omega)
  · omega
  · rw [Int.add_mul (q1 * 4294967296 + q0) 1]; omega
theorem zXx {U R Y d f q1 v q0 r : Int} (hR : R = d * 4294967296 + f) (ea : v + Y * q1 = U * 4294967296 + d) (eb : r + Y * q0 = v * 4294967296 + f) (h0 : 0 ≤ r) (h1 : r < Y) :
    r = (U * 18446744073709551616 + R) % Y := by
  rw [qKo hR ea eb, Int.add_comm, Int.add_mul_emod_self_right, Int.emod_eq_of_lt h0 h1]
theorem zX5 (hi lo y : Int) (k : Nat) (h0 : 0 ≤ hi) (h1 : hi < y) (hy : y < 18446744073709551616) (hl : 0 ≤ lo) (hl' : lo < 18446744073709551616) (hk : 30 ≤ k) :
    qQ2.f k hi lo y = some ((hi * 18446744073709551616 + lo) / y, (hi * 18446744073709551616 + lo) % y) := by
  unfold qQ2.f
  rw [if_neg (by omega), if_neg (by omega)]
  by_cases c : hi = 0
  · subst c
    rw [if_pos rfl, qXs hl, qWl hl]
    have : 0 ≤ lo / y := Int.ediv_nonneg hl (by omega)
    have : lo / y ≤ lo := Int.ediv_le_self _ hl
    rw [wu_id (by omega) (by omega)]
    simp
  · rw [if_neg c]
    obtain ⟨L, L1, L2, hL, hyL, n1, n2⟩ := lead y (by omega) hy
    unfold bits_LeadingZeros64.f
    rw [if_pos (by omega), hL]
    simp only [obind]
    have hs : IntKind.u64.wrap (64 - (L : Int)) = 64 - L := wu_id (by omega) (by omega)
    rw [hs, show (64 - (64 - (L : Int))) = L by omega, wu_id (n := (L : Int)) (by omega) (by omega), if_pos (by omega), if_pos (by omega)]
    have e1 : ∀ x : Int, shl .u64 x (64 - (L : Int)) = IntKind.u64.wrap (x * 2 ^ (64 - L)) := by
      intro x; unfold shl
      rw [show min (64 - (L : Int)).toNat IntKind.u64.bits = 64 - L by show min _ 64 = _; omega]
    have e2 : shr .u64 lo (L : Int) = lo / 2 ^ L := by
      unfold shr
      rw [show min ((L : Int)).toNat IntKind.u64.bits = L by show min _ 64 = _; omega]
    have e3 : ∀ x : Int, shr .u64 x (64 - (L : Int)) = x / 2 ^ (64 - L) := by
      intro x; unfold shr
      rw [show min (64 - (L : Int)).toNat IntKind.u64.bits = 64 - L by show min _ 64 = _; omega]
    have hsplit := qW9 L L2
    have pP : (0 : Int) < 2 ^ (64 - L) := Int.pow_pos (by decide)
    have pQ : (0 : Int) < 2 ^ L := Int.pow_pos (by decide)
    have hPle : (2 : Int) ^ (64 - L) < 18446744073709551616 := by
      have : (2 : Int) ^ (64 - L) * 2 ≤ 2 ^ (64 - L) * 2 ^ L := Int.mul_le_mul_of_nonneg_left (by
        have := Nat.pow_le_pow_right (n := 2) (by decide) L1
        have h : ((2 ^ 1 : Nat) : Int) ≤ ((2 ^ L : Nat) : Int) := by exact_mod_cast this
        rw [Int.natCast_pow] at h
        exact h) (Int.le_of_lt pP)
      omega

    have hiP : 0 ≤ hi * 2 ^ (64 - L) := Int.mul_nonneg h0 (Int.le_of_lt pP)
    have hiP' : hi * 2 ^ (64 - L) + 2 ^ (64 - L) ≤ y * 2 ^ (64 - L) := by
      have := Int.mul_le_mul_of_nonneg_right (show hi + 1 ≤ y by omega) (Int.le_of_lt pP)
      rw [Int.add_mul] at this; omega
    have lq0 : 0 ≤ lo / 2 ^ L := Int.ediv_nonneg hl (Int.le_of_lt pQ)
    have lq1 : lo / 2 ^ L < 2 ^ (64 - L) := by
      apply (Int.ediv_lt_iff_lt_mul pQ).2; rw [hsplit]; omega
    have lm := Int.emod_add_mul_ediv lo (2 ^ L)
    have lm0 := Int.emod_nonneg lo (show (2 : Int) ^ L ≠ 0 by omega)
    have lm1 := Int.emod_lt_of_pos lo pQ
    have hor : Go.bits .or .u64 (hi * 2 ^ (64 - L)) (lo / 2 ^ L) = hi * 2 ^ (64 - L) + lo / 2 ^ L :=
      bits_join .u64 64 (by decide) wraps_u64 (64 - L) _ _ hiP (Int.mul_emod_left _ _) (by
        have : (2 : Int) ^ 64 = 18446744073709551616 := rfl
        omega) lq0 lq1 (by
        have : (2 : Int) ^ 64 = 18446744073709551616 := rfl
        omega)

    have hlo : lo * 2 ^ (64 - L) = lo % 2 ^ L * 2 ^ (64 - L) + lo / 2 ^ L * 18446744073709551616 := by
      have h3 : (lo % 2 ^ L + 2 ^ L * (lo / 2 ^ L)) * 2 ^ (64 - L) = lo % 2 ^ L * 2 ^ (64 - L) + lo / 2 ^ L * (2 ^ (64 - L) * 2 ^ L) := by
        rw [Int.add_mul]
        congr 1
        rw [Int.mul_comm (2 ^ L), Int.mul_assoc, Int.mul_comm (2 ^ L)]
      rw [lm, hsplit] at h3; exact h3
    have rP0 : 0 ≤ lo % 2 ^ L * 2 ^ (64 - L) := Int.mul_nonneg lm0 (Int.le_of_lt pP)
    have rP1 : lo % 2 ^ L * 2 ^ (64 - L) < 18446744073709551616 := by
      have := Int.mul_lt_mul_of_pos_right lm1 pP
      rw [Int.mul_comm (2 ^ L), hsplit] at this; exact this
    have el : IntKind.u64.wrap (lo * 2 ^ (64 - L)) = lo % 2 ^ L * 2 ^ (64 - L) := by
      rw [wu, hlo]; omega
    rw [e1 y, e1 hi, e1 lo, e2, wu_id (n := y * 2 ^ (64 - L)) (by omega) n2, wu_id (n := hi * 2 ^ (64 - L)) hiP (by omega), hor, el]

    have total : (hi * 18446744073709551616 + lo) * 2 ^ (64 - L) = (hi * 2 ^ (64 - L) + lo / 2 ^ L) * 18446744073709551616 + lo % 2 ^ L * 2 ^ (64 - L) := by
      rw [Int.add_mul, hlo, Int.add_mul, Int.mul_right_comm]; omega
    have hu : hi * 2 ^ (64 - L) + lo / 2 ^ L < y * 2 ^ (64 - L) := by omega
    have hu0 : 0 ≤ hi * 2 ^ (64 - L) + lo / 2 ^ L := by omega
    have fin : ∀ v q : Int, v = (hi * 18446744073709551616 + lo) * 2 ^ (64 - L) % (y * 2 ^ (64 - L)) → q = (hi * 18446744073709551616 + lo) * 2 ^ (64 - L) / (y * 2 ^ (64 - L)) →
        some (q, shr .u64 v (64 - (L : Int))) = some ((hi * 18446744073709551616 + lo) / y, (hi * 18446744073709551616 + lo) % y) := by
      intro v q hv hq
      rw [e3, hv, hq, Int.mul_ediv_mul_of_pos_left _ _ pP, zZl _ _ pP, Int.mul_ediv_cancel _ (Int.ne_of_gt pP)]
    rw [total] at fin
    generalize hi * 2 ^ (64 - L) + lo / 2 ^ L = U at *
    generalize lo % 2 ^ L * 2 ^ (64 - L) = R at *
    generalize y * 2 ^ (64 - L) = Y at *
    rw [qWq (by omega) n2, qWq rP0 rP1, if_neg (by omega)]
    have hyy : Y = Y / 4294967296 * 4294967296 + Y % 4294967296 := by omega
    have b := zXl (u := U) (y1 := Y / 4294967296) (y0 := Y % 4294967296) (by omega) (by omega) (by omega) (by omega) hu0 (by omega)
    have y1a : 2147483648 ≤ Y / 4294967296 := by omega
    have y1b : Y / 4294967296 < 4294967296 := by omega
    have y0a : 0 ≤ Y % 4294967296 := by omega
    have y0b : Y % 4294967296 < 4294967296 := by omega
    have d0 : 0 ≤ R / 4294967296 := by omega
    have d1 : R / 4294967296 < 4294967296 := by omega
    have f0 : 0 ≤ R % 4294967296 := by omega
    have f1 : R % 4294967296 < 4294967296 := by omega
    have hR : R = R / 4294967296 * 4294967296 + R % 4294967296 := by omega
    generalize Y / 4294967296 = y1 at *
    generalize Y % 4294967296 = y0 at *
    generalize R / 4294967296 = d at *
    generalize R % 4294967296 = f at *
    have Ypos : 0 < Y := by omega
    rw [qXs hu0, wu_id b.1 (by omega)]
    have pv : U / y1 * y1 ≤ U := by have := b.2.2.1; omega
    have pn : 0 ≤ U / y1 * y1 := Int.mul_nonneg b.1 (by omega)
    rw [wu_id (n := U / y1 * y1) pn (by omega), wu_id (n := U - U / y1 * y1) b.2.2.1 (by omega)]
    have hge : (U * 4294967296 + d) / Y ≤ U / y1 := by
      have h2 : U * 4294967296 + d < (U / y1 + 1) * Y := by
        have h3 : (U / y1 + 1) * y1 ≥ U + 1 := by
          rw [Int.add_mul]
          have := b.2.2.2
          omega
        have h4 : (U / y1 + 1) * Y = (U / y1 + 1) * y1 * 4294967296 + (U / y1 + 1) * y0 := by rw [hyy, Int.mul_add, Int.mul_assoc]
        have h5 : 0 ≤ (U / y1 + 1) * y0 := Int.mul_nonneg (by omega) y0a
        omega
      have := (Int.ediv_lt_iff_lt_mul Ypos).2 h2
      omega
    obtain ⟨k', hk', he⟩ := zX9 Y (64 - L) y1 y0 U d f hyy y1a y1b y0a y0b hu0 hu d0 d1 2 k (U / y1) (U - U / y1 * y1) hge b.2.1 rfl b.2.2.1 (by omega) (by omega) (by omega)
    rw [he, zWc Y (64 - L) y1 y0 U d f _ k' (by omega) hyy y1a y1b y0a y0b hu0 hu d0 d1 f0 f1 rfl (by omega)]
    have r0 := Int.emod_nonneg (U * 4294967296 + d) (show Y ≠ 0 by omega)
    have r1 := Int.emod_lt_of_pos (U * 4294967296 + d) Ypos
    have ea := Int.emod_add_mul_ediv (U * 4294967296 + d) Y
    have s0 := Int.emod_nonneg ((U * 4294967296 + d) % Y * 4294967296 + f) (show Y ≠ 0 by omega)
    have s1 := Int.emod_lt_of_pos ((U * 4294967296 + d) % Y * 4294967296 + f) Ypos
    have eb := Int.emod_add_mul_ediv ((U * 4294967296 + d) % Y * 4294967296 + f) Y
    rw [← zW8 hR ea eb s0 s1]
    exact fin _ _ (zXx hR ea eb s0 s1) rfl
theorem qVd (a b : Int) (h1 : 0 ≤ a) (h2 : a < 18446744073709551616) (h3 : 0 ≤ b) (h4 : b < 18446744073709551616) :
    qXl.f a b = some (a * b / 18446744073709551616, a * b % 18446744073709551616) := by
  unfold qXl.f bits_Mul64.f
  rw [if_pos ⟨h1, h2, h3, h4⟩]; rfl
theorem zZ1 (a b : Int) (h1 : 0 ≤ a) (h2 : a < 18446744073709551616) (h3 : 0 ≤ b) (h4 : b < 18446744073709551616) :
    qYv.f a b = some (a * b / 18446744073709551616, a * b % 18446744073709551616) := by
  unfold qYv.f
  rw [qWq h1 h2, qWq h3 h4]
  obtain ⟨x11, x10, x01, x00, e11, e10, e01, e00, a11, b11, a10, b10, a01, b01, a00, b00, total⟩ := zZ2 (a / 4294967296) (a % 4294967296) (b / 4294967296) (b % 4294967296) (by omega) (by omega) (by omega) (by omega) (by omega) (by omega) (by omega) (by omega)
  rw [show a / 4294967296 * 4294967296 + a % 4294967296 = a by omega, show b / 4294967296 * 4294967296 + b % 4294967296 = b by omega] at total
  rw [← e11, ← e10, ← e01, ← e00, total]
  clear e11 e10 e01 e00 total
  rw [wu_id (n := x00) (by omega) (by omega), wu_id (n := x01) (by omega) (by omega), wu_id (n := x10) (by omega) (by omega), wu_id (n := x11) (by omega) (by omega)]
  rw [wu_id (n := x10 + x00 / 4294967296) (by omega) (by omega)]
  rw [qWq (x := x10 + x00 / 4294967296) (by omega) (by omega), qWq a00 (by omega)]
  rw [wu_id (n := x01 + (x10 + x00 / 4294967296) % 4294967296) (by omega) (by omega)]
  simp only [wu]
  congr 2 <;> omega
def divS (hi lo c : Int) : Int × Int × Bool := if c = 0 ∨ hi ≥ c then (0, 0, false) else ((hi * 18446744073709551616 + lo) / c, (hi * 18446744073709551616 + lo) % c, true)
theorem qVb (hi lo c : Int) (k : Nat) (h0 : 0 ≤ hi) (hl : 0 ≤ lo) (hl' : lo < 18446744073709551616) (hc : 0 ≤ c) (hc' : c < 18446744073709551616) (hk : 30 ≤ k) :
    qY6.f k hi lo c = some (divS hi lo c) := by
  unfold qY6.f divS
  by_cases c1 : c = 0
  · rw [if_pos c1, if_pos (.inl c1)]
  rw [if_neg c1]
  by_cases c2 : hi ≥ c
  · rw [if_pos c2, if_pos (.inr c2)]
  rw [if_neg c2, if_neg (by omega), zX5 hi lo c k h0 (by omega) hc' hl hl' hk]
  rfl
theorem zZv (lo c hi : Int) (hc : 0 < c) (hc' : c < 18446744073709551616) (hl : 0 ≤ lo) (hl' : lo < 18446744073709551616) : ∀ (n k : Nat) (q r : Int), n ≤ 64 → 0 ≤ q → q < 2 ^ (64 - n) → 0 ≤ r → r < c →
    q * c + r = hi * 2 ^ (64 - n) + lo / 2 ^ n → n < k →
    qQ1.l0 k lo c q r ((n : Int) - 1) = some ((hi * 18446744073709551616 + lo) / c, (hi * 18446744073709551616 + lo) % c, true) := by
  intro n
  induction n with
  | zero =>
    intro k q r _ hq hq' hr hr' he hk
    obtain ⟨k, rfl⟩ : ∃ m, k = m + 1 := ⟨k - 1, by omega⟩
    simp only [qQ1.l0]
    rw [if_neg (by simp)]
    have e : q * c + r = hi * 18446744073709551616 + lo := by
      have h1 : (2 : Int) ^ (64 - 0) = 18446744073709551616 := rfl
      have h2 : lo / 2 ^ 0 = lo := by simp
      rw [h1, h2] at he; exact he
    rw [← e]
    have h1 : (q * c + r) / c = q := by
      apply zWy hc
      · omega
      · rw [Int.add_mul]; omega
    have h2 : (q * c + r) % c = r := by rw [Int.add_comm, Int.add_mul_emod_self_right, Int.emod_eq_of_lt hr hr']
    rw [h1, h2]
  | succ n ih =>
    intro k q r hn hq hq' hr hr' he hk
    obtain ⟨k, rfl⟩ : ∃ m, k = m + 1 := ⟨k - 1, by omega⟩
    simp only [qQ1.l0]
    rw [show (((n + 1 : Nat) : Int) - 1) = n by omega, if_pos (by omega), wu_id (n := (n : Int)) (by omega) (by omega), if_pos (by omega), w64 (e := (n : Int) - 1) (by omega) (by omega)]
    have hsh : shr .u64 lo (n : Int) = lo / 2 ^ n := by
      unfold shr
      rw [show min ((n : Int)).toNat IntKind.u64.bits = n by show min _ 64 = _; omega]
    have hp : (0 : Int) < 2 ^ n := Int.pow_pos (by decide)
    have t0 : 0 ≤ lo / 2 ^ n := Int.ediv_nonneg hl (Int.le_of_lt hp)
    have t1 : lo / 2 ^ n < 18446744073709551616 := by
      have := Int.ediv_le_self (2 ^ n) hl
      omega
    have t2 : lo / 2 ^ (n + 1) = lo / 2 ^ n / 2 := by
      rw [Int.ediv_ediv_of_nonneg (Int.le_of_lt hp), Int.pow_succ]
    have t3 : hi * 2 ^ (64 - n) = 2 * (hi * 2 ^ (64 - (n + 1))) := by
      rw [show 64 - n = 64 - (n + 1) + 1 by omega, Int.pow_succ]
      rw [← Int.mul_assoc]; omega
    have t4 : (2 : Int) ^ (64 - n) = 2 * 2 ^ (64 - (n + 1)) := by
      rw [show 64 - n = 64 - (n + 1) + 1 by omega, Int.pow_succ]; omega
    have t5 : (2 : Int) ^ (64 - (n + 1)) ≤ 9223372036854775808 := by
      have := Nat.pow_le_pow_right (n := 2) (by decide) (show 64 - (n + 1) ≤ 63 by omega)
      have h : ((2 ^ (64 - (n + 1)) : Nat) : Int) ≤ ((2 ^ 63 : Nat) : Int) := by exact_mod_cast this
      rw [Int.natCast_pow] at h; exact h
    rw [hsh, and_one t0 t1]
    rw [t2] at he
    have ihn := fun q r => ih k q r (by omega)
    rw [t3, t4] at ihn
    generalize lo / 2 ^ n = t at *
    generalize hi * 2 ^ (64 - (n + 1)) = Z at *
    generalize (2 : Int) ^ (64 - (n + 1)) = p at *
    have n1 : (2 * q) * c = 2 * (q * c) := Int.mul_assoc _ _ _
    have n2 : (2 * q + 1) * c = 2 * (q * c) + c := by rw [Int.add_mul, n1]; omega
    have w1 : IntKind.u64.wrap (q * 2) = 2 * q := by rw [wu_id (by omega) (by omega)]; omega
    have w2 : IntKind.u64.wrap (2 * q + 1) = 2 * q + 1 := wu_id (by omega) (by omega)
    rw [w1, w2]
    by_cases c1 : r / 9223372036854775808 = 1
    · rw [if_pos c1]
      have w3 : IntKind.u64.wrap (IntKind.u64.wrap (IntKind.u64.wrap (r * 2) + t % 2) - c) = 2 * r + t % 2 - c := by simp only [wu]; omega
      rw [w3]
      exact ihn _ _ (by omega) (by omega) (by omega) (by omega) (by rw [n2]; omega) (by omega)
    · rw [if_neg c1]
      have w3 : IntKind.u64.wrap (IntKind.u64.wrap (r * 2) + t % 2) = 2 * r + t % 2 := by simp only [wu]; omega
      rw [w3]
      by_cases c2 : 2 * r + t % 2 ≥ c
      · rw [if_pos c2, wu_id (by omega) (by omega)]
        exact ihn _ _ (by omega) (by omega) (by omega) (by omega) (by rw [n2]; omega) (by omega)
      · rw [if_neg c2]
        exact ihn _ _ (by omega) (by omega) (by omega) (by omega) (by rw [n1]; omega) (by omega)
theorem zZq (hi lo c : Int) (k : Nat) (h0 : 0 ≤ hi) (hl : 0 ≤ lo) (hl' : lo < 18446744073709551616) (hc : 0 ≤ c) (hc' : c < 18446744073709551616) (hk : 70 ≤ k) :
    qQ1.f k hi lo c = some (divS hi lo c) := by
  obtain ⟨k, rfl⟩ : ∃ m, k = m + 1 := ⟨k - 1, by omega⟩
  unfold qQ1.f divS
  simp only [qQ1.j0]
  by_cases c1 : c = 0
  · rw [if_pos c1, if_pos trivial, if_pos (show c = 0 ∨ hi ≥ c from .inl c1)]
  rw [if_neg c1]
  by_cases c2 : hi ≥ c
  · rw [decide_eq_true c2, if_pos rfl, if_pos (.inr c2)]
  rw [decide_eq_false c2, if_neg (by simp), if_neg (by omega)]
  have := zZv lo c hi (by omega) hc' hl hl' 64 k 0 hi (by omega) (by omega) (by decide) h0 (by omega) (by
    have h1 : (2 : Int) ^ (64 - 64) = 1 := rfl
    have h2 : lo / 2 ^ 64 = 0 := Int.ediv_eq_zero_of_lt hl (by
      have : (2 : Int) ^ 64 = 18446744073709551616 := rfl
      omega)
    rw [h1, h2]; omega) (by omega)
  exact this
theorem qXz (a : Int) : qQ4.f a = some (decide (-10000000000000 ≤ a ∧ a ≤ 10000000000000)) := by
  unfold qQ4.f
  by_cases h : a ≥ -10000000000000
  · rw [if_pos h]; simp [h]
  · rw [if_neg h]; simp; omega
theorem qX7 (a : Int) : qQ3.f a = some (decide (-10000000000000 ≤ a ∧ a ≤ 10000000000000)) := by
  unfold qQ3.f
  by_cases h : a ≥ -10000000000000
  · rw [if_pos h]; simp [h]
  · rw [if_neg h]; simp; omega
def more (how r c q : Int) : Bool := if how = 1 then decide (r > 0) else if how = 2 then (if r > c - r then true else if r = c - r then decide (q % 2 = 1) else false) else false
def roundS (m : Bool) (q : Int) : Int × Int := if m = true then (if q + 1 > 10000000000000 then (0, 14) else (q + 1, 0)) else (q, 0)
def mdS (a b c how : Int) : Int × Int :=
  if a < 0 ∨ b < 0 ∨ c ≤ 0 ∨ how < 0 ∨ how > 2 then (0, 1) else if a * b / c > 10000000000000 then (0, 14)
  else roundS (more how (a * b % c) c (a * b / c)) (a * b / c)
theorem words (a b c : Int) (ha : 0 ≤ a) (hb : 0 ≤ b) (hc : 0 < c) (ha' : a ≤ 9223372036854775807) (hb' : b ≤ 9223372036854775807) :
    0 ≤ a * b / 18446744073709551616 ∧ 0 ≤ a * b % 18446744073709551616 ∧ a * b % 18446744073709551616 < 18446744073709551616 ∧ a * b / 18446744073709551616 * 18446744073709551616 + a * b % 18446744073709551616 = a * b ∧
    (a * b / 18446744073709551616 ≥ c → a * b / c > 10000000000000) ∧ 0 ≤ a * b / c ∧ 0 ≤ a * b % c ∧ a * b % c < c := by
  have h := Int.mul_nonneg ha hb
  refine ⟨by omega, by omega, by omega, by omega, fun hge => ?_, Int.ediv_nonneg h (by omega), Int.emod_nonneg _ (by omega), Int.emod_lt_of_pos _ hc⟩
  have : 10000000000001 ≤ a * b / c := by
    apply (qKq hc).2
    omega
  omega
theorem qXn (a b c how : Int) (k : Nat) (ha' : a ≤ 9223372036854775807) (hb' : b ≤ 9223372036854775807) (hc' : c ≤ 9223372036854775807) (hk : 40 ≤ k) :
    qQo.f k a b c how = some (mdS a b c how) := by
  obtain ⟨k, rfl⟩ : ∃ m, k = m + 3 := ⟨k - 3, by omega⟩
  unfold qQo.f mdS
  by_cases c0 : a < 0 ∨ b < 0 ∨ c ≤ 0 ∨ how < 0 ∨ how > 2
  · rw [if_pos c0]
    have e : qQo.j0 (k + 3) a b c how true = some (0, 1) := by simp only [qQo.j0, if_true]
    by_cases c1 : a < 0
    · rw [if_pos c1]; exact e
    by_cases c2 : b < 0
    · rw [if_neg c1, if_pos c2]; exact e
    by_cases c3 : c ≤ 0
    · rw [if_neg c1, if_neg c2, if_pos c3]; exact e
    by_cases c4 : how < 0
    · rw [if_neg c1, if_neg c2, if_neg c3, if_pos c4]; exact e
    rw [if_neg c1, if_neg c2, if_neg c3, if_neg c4, decide_eq_true (by omega)]; exact e
  · rw [if_neg c0, if_neg (by omega), if_neg (by omega), if_neg (by omega), if_neg (by omega), decide_eq_false (by omega)]
    simp only [qQo.j0]
    rw [if_neg (by simp), wu_id (n := a) (by omega) (by omega), wu_id (n := b) (by omega) (by omega), wu_id (n := c) (by omega) (by omega), qVd a b (by omega) (by omega) (by omega) (by omega)]
    simp only [obind]
    obtain ⟨g0, g1, g2, g3, g4, g5, g6, g7⟩ := words a b c (by omega) (by omega) (by omega) ha' hb'
    rw [qVb _ _ c _ g0 g1 g2 (by omega) (by omega) (by omega)]
    simp only [obind, divS]
    rw [g3]
    generalize a * b / 18446744073709551616 = hi at *
    generalize a * b % 18446744073709551616 = lo at *
    generalize a * b / c = q at *
    generalize a * b % c = r at *
    by_cases c1 : hi ≥ c
    · rw [if_pos (show c = 0 ∨ hi ≥ c from .inr c1), if_neg (by simp), if_pos (g4 c1)]
      simp only [qQo.j1, if_true]
    · rw [if_neg (show ¬ (c = 0 ∨ hi ≥ c) by omega), if_pos rfl]
      by_cases c2 : q > 10000000000000
      · rw [if_pos c2, decide_eq_true c2]
        simp only [qQo.j1, if_true]
      · rw [if_neg c2, decide_eq_false c2]
        simp only [qQo.j1]
        rw [if_neg (by simp), wu_id (n := c) (by omega) (by omega), wu_id (n := c - r) (by omega) (by omega)]
        have hj : ∀ m : Bool, qQo.j2 (k + 1) q m = some (roundS m q) := by
          intro m
          simp only [qQo.j2]
          rw [wu_id (n := q + 1) (by omega) (by omega), w64 (e := q + 1) (by omega) (by omega), w64 (e := q) (by omega) (by omega)]
          cases m
          · rw [if_neg (by simp), if_neg c2]; rfl
          · rw [if_pos rfl]; unfold roundS; rw [if_pos rfl]; split <;> rfl
        have hb1 : (Go.bits .and .u64 q 1 == 1) = decide (q % 2 = 1) := by
          rw [and_one g5 (by omega)]; by_cases h : q % 2 = 1 <;> simp [h]
        rw [hb1]
        simp only [hj]
        by_cases h1 : how = 1
        · rw [if_pos h1]; unfold more; rw [if_pos h1]
        · rw [if_neg h1]
          by_cases h2 : how = 2
          · rw [if_pos h2]
            by_cases h3 : r > c - r
            · rw [if_pos h3]; unfold more; rw [if_neg h1, if_pos h2, if_pos h3]
            · rw [if_neg h3]
              by_cases h4 : r = c - r
              · rw [if_pos h4]; unfold more; rw [if_neg h1, if_pos h2, if_neg h3, if_pos h4]
              · rw [if_neg h4]; unfold more; rw [if_neg h1, if_pos h2, if_neg h3, if_neg h4]
          · rw [if_neg h2]; unfold more; rw [if_neg h1, if_neg h2]
theorem qW2 (a b c how : Int) (k : Nat) (ha' : a ≤ 9223372036854775807) (hb' : b ≤ 9223372036854775807) (hc' : c ≤ 9223372036854775807) (hk : 80 ≤ k) :
    qQf.f k a b c how = some (mdS a b c how) := by
  obtain ⟨k, rfl⟩ : ∃ m, k = m + 4 := ⟨k - 4, by omega⟩
  unfold qQf.f mdS
  by_cases c0 : a < 0 ∨ b < 0 ∨ c ≤ 0 ∨ how < 0 ∨ how > 2
  · rw [if_pos c0]
    have e : qQf.j0 (k + 4) a b c how true = some (0, 1) := by simp only [qQf.j0, if_true]
    by_cases c1 : a < 0
    · rw [if_pos c1]; exact e
    by_cases c2 : b < 0
    · rw [if_neg c1, if_pos c2]; exact e
    by_cases c3 : c ≤ 0
    · rw [if_neg c1, if_neg c2, if_pos c3]; exact e
    by_cases c4 : how < 0
    · rw [if_neg c1, if_neg c2, if_neg c3, if_pos c4]; exact e
    rw [if_neg c1, if_neg c2, if_neg c3, if_neg c4, decide_eq_true (by omega)]; exact e
  · rw [if_neg c0, if_neg (by omega), if_neg (by omega), if_neg (by omega), if_neg (by omega), decide_eq_false (by omega)]
    simp only [qQf.j0]
    rw [if_neg (by simp), wu_id (n := a) (by omega) (by omega), wu_id (n := b) (by omega) (by omega), wu_id (n := c) (by omega) (by omega), zZ1 a b (by omega) (by omega) (by omega) (by omega)]
    simp only [obind]
    obtain ⟨g0, g1, g2, g3, g4, g5, g6, g7⟩ := words a b c (by omega) (by omega) (by omega) ha' hb'
    rw [zZq _ _ c _ g0 g1 g2 (by omega) (by omega) (by omega)]
    simp only [obind, divS]
    rw [g3]
    generalize a * b / 18446744073709551616 = hi at *
    generalize a * b % 18446744073709551616 = lo at *
    generalize a * b / c = q at *
    generalize a * b % c = r at *
    by_cases c1 : hi ≥ c
    · rw [if_pos (show c = 0 ∨ hi ≥ c from .inr c1), if_neg (by simp), if_pos (g4 c1)]
      simp only [qQf.j1, if_true]
    · rw [if_neg (show ¬ (c = 0 ∨ hi ≥ c) by omega), if_pos rfl]
      by_cases c2 : q > 10000000000000
      · rw [if_pos c2, decide_eq_true c2]
        simp only [qQf.j1, if_true]
      · rw [if_neg c2, decide_eq_false c2]
        simp only [qQf.j1, qQf.j2]
        rw [if_neg (by simp), w64 (e := q) (by omega) (by omega), w64 (e := q + 1) (by omega) (by omega), wu_id (n := c) (by omega) (by omega), wu_id (n := c - r) (by omega) (by omega)]
        have hj : ∀ m : Bool, qQf.j3 (k + 1) q m = some (roundS m q) := by
          intro m
          simp only [qQf.j3]
          rw [w64 (e := q + 1) (by omega) (by omega)]
          cases m
          · rw [if_neg (by simp), if_neg c2]; rfl
          · rw [if_pos rfl]; unfold roundS; rw [if_pos rfl]; split <;> rfl
        have hb1 : (Int.tmod q 2 == 1) = decide (q % 2 = 1) := by
          rw [qWl g5]; by_cases h : q % 2 = 1 <;> simp [h]
        rw [hb1]
        simp only [hj]
        by_cases h1 : how = 1
        · rw [if_pos h1]
          by_cases h2 : r > 0
          · rw [decide_eq_true h2, if_pos rfl]; unfold more roundS; rw [if_pos h1, decide_eq_true h2, if_pos rfl]; split <;> rfl
          · rw [decide_eq_false h2, if_neg (by simp), if_neg (by omega), if_neg c2]; unfold more roundS; rw [if_pos h1, decide_eq_false h2, if_neg (by simp)]
        · rw [if_neg h1, if_neg (by simp)]
          by_cases h2 : how = 2
          · rw [if_pos h2]
            by_cases h3 : r > c - r
            · rw [if_pos h3]; unfold more; rw [if_neg h1, if_pos h2, if_pos h3]
            · rw [if_neg h3]
              by_cases h4 : r = c - r
              · rw [if_pos h4]; unfold more; rw [if_neg h1, if_pos h2, if_neg h3, if_pos h4]
              · rw [if_neg h4]; unfold more; rw [if_neg h1, if_pos h2, if_neg h3, if_neg h4]
          · rw [if_neg h2, if_neg c2]; unfold more roundS; rw [if_neg h1, if_neg h2, if_neg (by simp)]
theorem mn_is (a b : Int) : mn a b = if a ≤ b then a else b := by unfold mn; split <;> split <;> omega
theorem mx_is (a b : Int) : mx a b = if a ≤ b then b else a := by unfold mx; split <;> split <;> omega
def rq (p d how : Int) : Int := if more how (p % d) d (p / d) = true then p / d + 1 else p / d
theorem mdS_rq (a b d how : Int) (ha : 0 ≤ a) (hb : 0 ≤ b) (hd : 0 < d) (h0 : 0 ≤ how) (h2 : how ≤ 2) (hp : a * b ≤ 9999999999999) : mdS a b d how = (rq (a * b) d how, 0) := by
  have hn := Int.mul_nonneg ha hb
  have hle := Int.ediv_le_self d hn
  unfold mdS rq roundS
  rw [if_neg (by omega), if_neg (by omega)]
  split
  · rw [if_neg (by omega)]
  · rfl
theorem more1 (r d q : Int) : more 1 r d q = decide (r > 0) := by unfold more; rw [if_pos rfl]
theorem rq1 (p d : Int) : rq p d 1 = if p % d > 0 then p / d + 1 else p / d := by
  unfold rq; rw [more1]; by_cases h : p % d > 0
  · rw [if_pos (decide_eq_true h), if_pos h]
  · rw [if_neg (by simpa using h), if_neg h]
end Go.Proofs.YtlhcohipnieidaaGreat.Pure
namespace Go.Proofs.YtlhcohipnieidaaGreat.PureSt
set_option linter.unusedVariables false
open Go.RowKit Go.Proofs.YtlhcohipnieidaaGreat.P W.PrintWords W.PrintLast W.PrintMore Go.Proofs.YtlhcohipnieidaaGreat.PlainM Go.Proofs.YtlhcohipnieidaaGreat.Pure
def shareS (k : Int) : Int := if k < 0 then 0 else if k = 0 then 60 else if k = 1 then 80 else if k = 2 then 100 else if k = 3 then 125 else 150
theorem qKz (a : Int) : qXj.f a = some (shareS a) := rfl
theorem qJk (k : Int) : 0 ≤ shareS k ∧ shareS k ≤ 150 := by unfold shareS; (repeat' split) <;> omega
def stepS (level n : Int) : Int × Int := if level < 0 ∨ level > 10000000000000 ∨ n < 0 then (0, 1) else mdS level (shareS (n / 24)) 100 1
theorem zZr (x n : Int) (k : Nat) (hn : n ≤ 9223372036854775807) (hk : 100 ≤ k) : qYw.f k x n = some (stepS x n) := by
  obtain ⟨k, rfl⟩ : ∃ m, k = m + 1 := ⟨k - 1, by omega⟩
  unfold qYw.f stepS
  have e : qYw.j0 (k + 1) x n true = some (0, 1) := by simp only [qYw.j0, if_true]
  by_cases c1 : x < 0
  · rw [if_pos c1, if_pos (by omega)]; exact e
  rw [if_neg c1, qXz]
  simp only [obind]
  by_cases c2 : -10000000000000 ≤ x ∧ x ≤ 10000000000000
  · rw [if_pos (decide_eq_true c2)]
    by_cases c3 : n < 0
    · rw [decide_eq_true c3, if_pos (by omega)]; exact e
    · rw [decide_eq_false c3, if_neg (by omega)]
      simp only [qYw.j0]
      have hs := qJk (n / 24)
      rw [if_neg (by simp), qXs (by omega), w64 (by omega) (by omega), qKz]
      simp only [obind]
      rw [qXn _ _ _ _ k (by omega) (by omega) (by omega) (by omega)]
      rfl
  · rw [if_neg (by simpa using c2), if_pos (by omega)]; exact e
end Go.Proofs.YtlhcohipnieidaaGreat.PureSt
namespace Go.Proofs.YtlhcohipnieidaaGreat.Pure
set_option linter.unusedVariables false
open Go.RowKit Go.Proofs.YtlhcohipnieidaaGreat.P W.PrintWords W.PrintLast W.PrintMore Go.Proofs.YtlhcohipnieidaaGreat.PlainM
theorem qX1 (a : Int) : isMoney a = decide (-10000000000000 ≤ a ∧ a ≤ 10000000000000) := rfl
def addS (a b : Int) : Int × Int := if (isMoney a && (isMoney b && isMoney (a + b))) = true then (a + b, 0) else (0, 14)
theorem qWb {a : Int} (h : isMoney a = true) : -10000000000000 ≤ a ∧ a ≤ 10000000000000 := by simpa [isMoney] using h
theorem qWm (a b : Int) : qZ1.f a b = some (addS a b) := by
  unfold qZ1.f qZv.f
  rw [if_pos (by simp)]
  simp only [obind]
  congr 1
  show qZv.go [a, b] 0 = addS a b
  unfold addS
  simp only [qZv.go]
  rw [show isMoney 0 = true by decide, Bool.true_and, Int.zero_add]
  cases h1 : isMoney a
  · simp
  · cases h2 : isMoney b
    · simp
    · simp
theorem qVz (a b : Int) : qZh.f a b = some (addS a b) := by
  unfold qZh.f addS
  simp only [qX7, ← qX1, obind]
  cases h1 : isMoney a
  · simp
  · cases h2 : isMoney b
    · simp
    · have b1 := qWb h1; have b2 := qWb h2
      rw [w64 (by omega) (by omega)]
      cases h3 : isMoney (a + b) <;> simp
theorem rd_at (l : List Int) (j : Nat) (h : j < l.length) : l.drop j = rd l j :: l.drop (j + 1) := by
  rw [List.drop_eq_getElem_cons h]; congr 1; unfold rd; simp [List.getD_eq_getElem?_getD, h]
end Go.Proofs.YtlhcohipnieidaaGreat.Pure
namespace Go.Proofs.YtlhcohipnieidaaGreat.PlainL
set_option linter.unusedVariables false
def inter (b r : Int) : Int := if b * r % 12000000 > 0 then b * r / 12000000 + 1 else b * r / 12000000
def monthS (b pay r : Int) : Int × Int := if b + inter b r > 10000000000000 then (0, 14) else (if b + inter b r - pay < 0 then 0 else b + inter b r - pay, 0)
def leftS (pay r : Int) : Nat → Int → Int × Int
  | 0, b => (b, 0)
  | m + 1, b => if (monthS b pay r).2 = 0 then leftS pay r m (monthS b pay r).1 else (0, (monthS b pay r).2)
def En (b pay r : Int) (n : Nat) : Prop := leftS pay r n b = (0, 0)
theorem zWo {b r : Int} (hb : 0 ≤ b) (hr : 0 ≤ r) : 0 ≤ inter b r := by
  have : 0 ≤ b * r / 12000000 := Int.ediv_nonneg (Int.mul_nonneg hb hr) (by omega)
  unfold inter; split <;> omega
theorem zZj {b b' r r' : Int} (hb : 0 ≤ b) (h : b ≤ b') (hr : 0 ≤ r) (h' : r ≤ r') : inter b r ≤ inter b' r' := by
  have hm : b * r ≤ b' * r' := Int.mul_le_mul h h' hr (by omega)
  unfold inter
  generalize b * r = x at *
  generalize b' * r' = y at *
  split <;> split <;> omega
theorem zWm {b r : Int} (hb : 0 ≤ b) (hb' : b ≤ 10000000000000) (hr : 0 ≤ r) (hr' : r ≤ 1000000) : inter b r ≤ 1000000000000 := by
  have hm : b * r ≤ 10000000000000 * 1000000 := Int.mul_le_mul hb' hr' hr (by omega)
  unfold inter
  generalize b * r = x at *
  split <;> omega
theorem qJc {b pay r : Int} (h : (monthS b pay r).2 = 0) : b + inter b r ≤ 10000000000000 ∧ monthS b pay r = (if b + inter b r - pay < 0 then 0 else b + inter b r - pay, 0) := by
  unfold monthS at h ⊢
  by_cases c : b + inter b r > 10000000000000
  · rw [if_pos c] at h; simp at h
  · rw [if_neg c]; exact ⟨by omega, rfl⟩
theorem qVp {b pay r : Int} (hp : 0 ≤ pay) (h : (monthS b pay r).2 = 0) : 0 ≤ (monthS b pay r).1 ∧ (monthS b pay r).1 ≤ 10000000000000 := by
  obtain ⟨h1, h2⟩ := qJc h
  rw [h2]
  simp only
  split <;> omega
theorem zQv {b b' pay pay' r r' : Int} (hb : 0 ≤ b') (h : b' ≤ b) (hr : 0 ≤ r') (h' : r' ≤ r) (hp : pay ≤ pay') (hok : (monthS b pay r).2 = 0) :
    (monthS b' pay' r').2 = 0 ∧ (monthS b' pay' r').1 ≤ (monthS b pay r).1 := by
  obtain ⟨h1, h2⟩ := qJc hok
  have hi := zZj hb h hr h'
  have h3 : monthS b' pay' r' = (if b' + inter b' r' - pay' < 0 then 0 else b' + inter b' r' - pay', 0) := by unfold monthS; rw [if_neg (by omega)]
  rw [h2, h3]
  refine ⟨rfl, ?_⟩
  simp only
  split <;> split <;> omega
theorem zQ4 {pay r : Int} (hp : 0 ≤ pay) : ∀ (n : Nat) (b : Int), 0 ≤ b → b ≤ 10000000000000 → 0 ≤ (leftS pay r n b).1 ∧ (leftS pay r n b).1 ≤ 10000000000000
  | 0, b, h, h' => ⟨h, h'⟩
  | n + 1, b, h, h' => by
    unfold leftS
    by_cases c : (monthS b pay r).2 = 0
    · rw [if_pos c]; have := qVp hp c; exact zQ4 hp n _ this.1 this.2
    · rw [if_neg c]; simp
theorem qKn {pay pay' r r' : Int} (hr : 0 ≤ r') (h' : r' ≤ r) (hp0 : 0 ≤ pay) (hp : pay ≤ pay') : ∀ (n : Nat) (b b' : Int), 0 ≤ b' → b' ≤ b → (leftS pay r n b).2 = 0 →
    (leftS pay' r' n b').2 = 0 ∧ (leftS pay' r' n b').1 ≤ (leftS pay r n b).1
  | 0, b, b', h0, h1, _ => ⟨rfl, h1⟩
  | n + 1, b, b', h0, h1, hok => by
    unfold leftS at hok ⊢
    by_cases c : (monthS b pay r).2 = 0
    · rw [if_pos c] at hok ⊢
      obtain ⟨m1, m2⟩ := zQv h0 h1 hr h' hp c
      rw [if_pos m1]
      exact qKn hr h' hp0 hp n _ _ (qVp (by omega) m1).1 m2 hok
    · rw [if_neg c] at hok; exact absurd hok c
theorem zY1 {b b' pay pay' r r' : Int} {n : Nat} (h0 : 0 ≤ b') (h1 : b' ≤ b) (hb : b ≤ 10000000000000) (hr : 0 ≤ r') (h' : r' ≤ r) (hp0 : 0 ≤ pay) (hp : pay ≤ pay') (h : En b pay r n) : En b' pay' r' n := by
  unfold En at *
  have hok : (leftS pay r n b).2 = 0 := by rw [h]
  obtain ⟨a1, a2⟩ := qKn hr h' hp0 hp n b b' h0 h1 hok
  have a3 := (zQ4 (r := r') (show 0 ≤ pay' by omega) n b' h0 (by omega)).1
  rw [h] at a2
  exact Prod.ext (show _ = (0 : Int) by have : (leftS pay' r' n b').1 ≤ 0 := a2; omega) a1
structure Least (b r : Int) (n : Nat) (p : Int) : Prop where
  nn : 0 ≤ p
  le : p ≤ 10000000000000
  en : En b p r n
  least : ∀ q, 0 ≤ q → q < p → ¬ En b q r n
theorem Least.one {b r : Int} {n : Nat} {p q : Int} (h : Least b r n p) (h' : Least b r n q) : p = q := by
  rcases Int.lt_trichotomy p q with c | c | c
  · exact absurd h.en (h'.least p h.nn c)
  · exact c
  · exact absurd h'.en (h.least q h'.nn c)
end Go.Proofs.YtlhcohipnieidaaGreat.PlainL
namespace Go.Proofs.YtlhcohipnieidaaGreat.Pure
set_option linter.unusedVariables false
open Go.RowKit Go.Proofs.YtlhcohipnieidaaGreat.P W.PrintWords W.PrintLast W.PrintMore Go.Proofs.YtlhcohipnieidaaGreat.PlainM Go.Proofs.YtlhcohipnieidaaGreat.PlainL
def May (b pay r m : Int) : Prop := (0 ≤ b ∧ b ≤ 10000000000000) ∧ (0 ≤ pay ∧ pay ≤ 10000000000000) ∧ (0 ≤ r ∧ r ≤ 1000000) ∧ 0 ≤ m ∧ m ≤ 360
instance (b pay r m : Int) : Decidable (May b pay r m) := by unfold May; infer_instance
theorem qWo (b pay r m : Int) : qXm.f b pay r m = some (decide (May b pay r m)) := by
  unfold qXm.f
  simp only [qXz, obind]
  by_cases h : May b pay r m
  · rw [decide_eq_true h]
    unfold May at h
    rw [if_pos (by omega), if_pos (decide_eq_true (by omega)), if_pos (by omega), if_pos (decide_eq_true (by omega)), if_pos (by omega), if_pos (by omega), if_pos (by omega), decide_eq_true (by omega)]
  · rw [decide_eq_false h]
    unfold May at h
    simp only [decide_eq_true_eq]
    by_cases c1 : b ≥ 0
    · rw [if_pos c1]
      by_cases c2 : -10000000000000 ≤ b ∧ b ≤ 10000000000000
      · rw [if_pos c2]
        by_cases c3 : pay ≥ 0
        · rw [if_pos c3]
          by_cases c4 : -10000000000000 ≤ pay ∧ pay ≤ 10000000000000
          · rw [if_pos c4]
            by_cases c5 : r ≥ 0
            · rw [if_pos c5]
              by_cases c6 : r ≤ 1000000
              · rw [if_pos c6]
                by_cases c7 : m ≥ 0
                · rw [if_pos c7, decide_eq_false (by omega)]
                · rw [if_neg c7]
              · rw [if_neg c6]
            · rw [if_neg c5]
          · rw [if_neg c4]
        · rw [if_neg c3]
      · rw [if_neg c2]
    · rw [if_neg c1]
theorem zXk {b r : Int} (hb : 0 ≤ b) (hb' : b ≤ 10000000000000) (hr : 0 ≤ r) (hr' : r ≤ 1000000) : mdS b r 12000000 1 = (inter b r, 0) := by
  have hm : b * r ≤ 10000000000000 * 1000000 := Int.mul_le_mul hb' hr' hr (by omega)
  have hn := Int.mul_nonneg hb hr
  unfold mdS inter roundS
  rw [more1]
  generalize b * r = x at *
  rw [if_neg (by omega), if_neg (by omega)]
  by_cases c : x % 12000000 > 0
  · rw [decide_eq_true c, if_pos rfl, if_neg (by omega), if_pos c]
  · rw [decide_eq_false c, if_neg (by simp), if_neg c]
theorem qK0 {a b : Int} (h1 : 0 ≤ a) (h2 : a ≤ 10000000000000) (h3 : 0 ≤ b) (h4 : b ≤ 10000000000000) : addS a b = if a + b > 10000000000000 then (0, 14) else (a + b, 0) := by
  unfold addS
  rw [qX1, qX1, qX1, decide_eq_true (by omega), decide_eq_true (by omega)]
  by_cases c : a + b > 10000000000000
  · rw [decide_eq_false (by omega), if_pos c]; rfl
  · rw [decide_eq_true (by omega), if_neg c]; rfl
theorem qV8 {b pay r : Int} (k : Nat) (hk : 40 ≤ k) (hb : 0 ≤ b ∧ b ≤ 10000000000000) (hp : 0 ≤ pay ∧ pay ≤ 10000000000000) (hr : 0 ≤ r ∧ r ≤ 1000000) :
    qXi.f k b pay r = some (monthS b pay r) := by
  have i0 := zWo hb.1 hr.1
  have i1 := zWm hb.1 hb.2 hr.1 hr.2
  unfold qXi.f
  rw [qXn b r 12000000 1 k (by omega) (by omega) (by omega) hk, zXk hb.1 hb.2 hr.1 hr.2]
  simp only [obind, qWm, qK0 hb.1 hb.2 i0 (by omega : inter b r ≤ 10000000000000)]
  unfold monthS
  generalize inter b r = i at *
  rw [if_pos trivial]
  by_cases c : b + i > 10000000000000
  · rw [if_pos c, if_pos c]; rfl
  · rw [if_neg c, if_neg c, if_pos rfl, w64 (by omega) (by omega), mx_is]
    congr 2
    split <;> split <;> omega
theorem qK4 {pay r n : Int} (hp : 0 ≤ pay ∧ pay ≤ 10000000000000) (hr : 0 ≤ r ∧ r ≤ 1000000) (hn : n ≤ 360) : ∀ (d k : Nat) (b i : Int), 0 ≤ b ∧ b ≤ 10000000000000 → 0 ≤ i → i + d = n → d + 40 < k →
    qYh.l0 k b pay r n i = some (leftS pay r d b) := by
  intro d
  induction d with
  | zero =>
    intro k b i hb h0 h1 hk
    obtain ⟨k, rfl⟩ : ∃ m, k = m + 1 := ⟨k - 1, by omega⟩
    simp only [qYh.l0]; rw [if_neg (by omega)]; rfl
  | succ d ih =>
    intro k b i hb h0 h1 hk
    obtain ⟨k, rfl⟩ : ∃ m, k = m + 1 := ⟨k - 1, by omega⟩
    simp only [qYh.l0]
    rw [if_pos (by omega), qV8 k (by omega) hb hp hr]
    simp only [obind, leftS]
    by_cases c : (monthS b pay r).2 = 0
    · rw [if_pos c, if_pos c, w64 (by omega) (by omega)]
      exact ih k _ _ (qVp hp.1 c) (by omega) (by omega) (by omega)
    · rw [if_neg c, if_neg c]
theorem qKy {b pay r m : Int} (k : Nat) (hk : 410 ≤ k) (h : May b pay r m) : qYh.f k b pay r m = some (leftS pay r m.toNat b) := by
  obtain ⟨hb, hp, hr, hm⟩ := h
  unfold qYh.f
  exact qK4 hp hr hm.2 m.toNat k b 0 hb (by omega) (by omega) (by omega)
theorem qJr {b r : Int} {n : Nat} (h : En b 10000000000000 r n) : ∃ p, Least b r n p := by
  have key : ∀ N : Nat, (N : Int) ≤ 10000000000000 → En b N r n → ∃ p, Least b r n p := by
    intro N
    induction N using Nat.strongRecOn with
    | _ N ih =>
      intro hN hE
      by_cases c : ∃ q : Nat, q < N ∧ En b q r n
      · obtain ⟨q, h1, h2⟩ := c
        exact ih q h1 (by omega) h2
      · refine ⟨N, by omega, hN, hE, fun q h0 h1 hq => c ⟨q.toNat, by omega, ?_⟩⟩
        rw [Int.toNat_of_nonneg h0]; exact hq
  exact key 10000000000000 (by omega) h
theorem qVt {b r : Int} {n : Nat} {p q : Int} (hb : 0 ≤ b) (hb' : b ≤ 10000000000000) (hr : 0 ≤ r) (h : Least b r n p) (hq : 0 ≤ q) : En b q r n ↔ p ≤ q := by
  constructor
  · intro he
    by_cases c : p ≤ q
    · exact c
    · exact absurd he (h.least q hq (by omega))
  · intro c
    exact zY1 hb (Int.le_refl _) hb' hr (Int.le_refl _) h.nn c h.en
theorem en_is {b pay r m : Int} (k : Nat) (hk : 410 ≤ k) (h : May b pay r m) (t : Bool) (ht : t = true ↔ En b pay r m.toNat) : qZg.en k b r m pay = some t := by
  unfold qZg.en
  rw [qKy k hk h]
  simp only [obind]
  unfold En at ht
  by_cases c : (leftS pay r m.toNat b).2 = 0
  · rw [if_pos c]
    by_cases c2 : (leftS pay r m.toNat b).1 = 0
    · rw [ht.2 (Prod.ext c2 c), c2]; rfl
    · have : t = false := by
        cases t with
        | false => rfl
        | true => exact absurd (congrArg Prod.fst (ht.1 rfl)) c2
      rw [this]; congr 1; exact beq_eq_false_iff_ne.mpr c2
  · rw [if_neg c]
    cases t with
    | false => rfl
    | true => exact absurd (congrArg Prod.snd (ht.1 rfl)) c
theorem zQr {b r m p : Int} (hb : 0 ≤ b ∧ b ≤ 10000000000000) (hr : 0 ≤ r ∧ r ≤ 1000000) (hm : 0 ≤ m ∧ m ≤ 360) (hl : Least b r m.toNat p) : ∀ (d k : Nat) (lo hi : Int), 0 ≤ lo → lo ≤ p → p ≤ hi → hi ≤ 10000000000000 → hi - lo < 2 ^ d → d + 410 < k →
    qZg.l0 k b r m lo hi = some (p, 0) := by
  intro d
  induction d with
  | zero =>
    intro k lo hi h0 h1 h2 h3 h4 hk
    obtain ⟨k, rfl⟩ : ∃ m, k = m + 1 := ⟨k - 1, by omega⟩
    simp only [qZg.l0]
    rw [if_neg (by omega), show lo = p by omega]
  | succ d ih =>
    intro k lo hi h0 h1 h2 h3 h4 hk
    obtain ⟨k, rfl⟩ : ∃ m, k = m + 1 := ⟨k - 1, by omega⟩
    simp only [qZg.l0]
    rw [Int.pow_succ] at h4
    by_cases c : lo < hi
    · rw [if_pos c, w64 (e := lo + hi) (by omega) (by omega), Int.tdiv_eq_ediv_of_nonneg (by omega), w64 (e := (lo + hi) / 2) (by omega) (by omega), w64 (e := (lo + hi) / 2 + 1) (by omega) (by omega)]
      have hiff := qVt hb.1 hb.2 hr.1 hl (q := (lo + hi) / 2) (by omega)
      rw [en_is k (by omega) (show May b ((lo + hi) / 2) r m from ⟨hb, by omega, hr, hm⟩) (decide (p ≤ (lo + hi) / 2)) (by rw [decide_eq_true_eq]; exact hiff.symm)]
      simp only [obind]
      by_cases c2 : p ≤ (lo + hi) / 2
      · rw [if_pos (decide_eq_true c2)]
        exact ih k lo _ h0 h1 c2 (by omega) (by omega) (by omega)
      · rw [if_neg (by simpa using c2)]
        exact ih k _ hi (by omega) (by omega) h2 h3 (by omega) (by omega)
    · rw [if_neg c, show lo = p by omega]
inductive OfS (b r m : Int) : Int → Int → Prop
  | bad : ¬ (May b 0 r m ∧ 1 ≤ m) → OfS b r m 0 1
  | none : May b 0 r m → 1 ≤ m → ¬ En b 10000000000000 r m.toNat → OfS b r m 0 14
  | least (p : Int) : May b 0 r m → 1 ≤ m → Least b r m.toNat p → OfS b r m p 0
theorem zVs (b r m : Int) : ∃ v e, OfS b r m v e ∧ (∀ k : Nat, 500 ≤ k → qZg.f k b r m = some (v, e)) := by
  by_cases h : May b 0 r m ∧ 1 ≤ m
  · obtain ⟨h, h1⟩ := h
    have hM : May b 10000000000000 r m := ⟨h.1, by omega, h.2.2⟩
    by_cases hE : En b 10000000000000 r m.toNat
    · obtain ⟨p, hl⟩ := qJr hE
      refine ⟨p, 0, .least p h h1 hl, fun k hk => ?_⟩
      unfold qZg.f
      rw [qWo, obind, if_pos (decide_eq_true h), if_neg (by omega), en_is k (by omega) hM true (by simp [hE]), obind, if_pos rfl]
      exact zQr h.1 h.2.2.1 h.2.2.2 hl 44 k 0 10000000000000 (by omega) hl.nn hl.le (by omega) (by decide) (by omega)
    · refine ⟨0, 14, .none h h1 hE, fun k hk => ?_⟩
      unfold qZg.f
      rw [qWo, obind, if_pos (decide_eq_true h), if_neg (by omega), en_is k (by omega) hM false (by simp [hE]), obind, if_neg (by simp)]
  · refine ⟨0, 1, .bad h, fun k hk => ?_⟩
    unfold qZg.f
    rw [qWo, obind]
    by_cases c : May b 0 r m
    · have hm1 : ¬ 1 ≤ m := fun x => h ⟨c, x⟩
      rw [if_pos (decide_eq_true c), if_pos (by omega)]
    · rw [if_neg (by simpa using c)]
theorem OfS.one {b r m v e v' e' : Int} (h : OfS b r m v e) (h' : OfS b r m v' e') : v = v' ∧ e = e' := by
  cases h with
  | bad h =>
    cases h' with
    | bad => exact ⟨rfl, rfl⟩
    | none a b => exact absurd ⟨a, b⟩ h
    | least p a b => exact absurd ⟨a, b⟩ h
  | none a b c =>
    cases h' with
    | bad h => exact absurd ⟨a, b⟩ h
    | none => exact ⟨rfl, rfl⟩
    | least p _ _ l => exact absurd ((qVt a.1.1 a.1.2 a.2.2.1.1 l (by omega)).2 l.le) c
  | least p a b l =>
    cases h' with
    | bad h => exact absurd ⟨a, b⟩ h
    | none _ _ c => exact absurd ((qVt a.1.1 a.1.2 a.2.2.1.1 l (by omega)).2 l.le) c
    | least q _ _ l' => exact ⟨l.one l', rfl⟩
theorem of_at {b r m p : Int} (a : May b 0 r m) (h1 : 1 ≤ m) (hp : 0 ≤ p) (hp' : p ≤ 10000000000000) (hE : En b p r m.toNat) (hn : p = 0 ∨ ¬ En b (p - 1) r m.toNat) (k : Nat) (hk : 500 ≤ k) : qZg.f k b r m = some (p, 0) := by
  have hl : Least b r m.toNat p := ⟨hp, hp', hE, fun q h0 hq he => by
    rcases hn with hn | hn
    · omega
    · exact hn (zY1 a.1.1 (Int.le_refl _) a.1.2 a.2.2.1.1 (Int.le_refl _) h0 (by omega) he)⟩
  obtain ⟨v, e, hs, hf⟩ := zVs b r m
  obtain ⟨rfl, rfl⟩ := hs.one (.least p a h1 hl)
  exact hf k hk
end Go.Proofs.YtlhcohipnieidaaGreat.Pure
namespace Go.Proofs.YtlhcohipnieidaaGreat.PureSh
set_option linter.unusedVariables false
set_option linter.unusedSimpArgs false
open Go.RowKit Go.Proofs.YtlhcohipnieidaaGreat.P W.PrintWords W.PrintLast W.PrintMore Go.Proofs.YtlhcohipnieidaaGreat.PlainM Go.Proofs.YtlhcohipnieidaaGreat.Pure
def gdm (a : Int) : Prop := 0 ≤ a ∧ a ≤ 10000000000000
instance (a : Int) : Decidable (gdm a) := by unfold gdm; infer_instance
theorem qJ9 (l : List Int) (j : Nat) (h : j < l.length) : l.drop j = rd l j :: l.drop (j + 1) := by
  rw [List.drop_eq_getElem_cons h]; congr 1; unfold rd; simp [List.getD_eq_getElem?_getD, h]
theorem zXc (l : List Int) (j : Nat) (h : j < l.length) : rd l j ∈ l := by
  have : rd l j = l[j] := by unfold rd; simp [List.getD_eq_getElem?_getD, h]
  rw [this]; exact List.getElem_mem h
theorem zY0 (a : Int) : qZd.bad a = decide (¬ gdm a) := by
  unfold qZd.bad isMoney gdm
  rw [decide_eq_decide, decide_eq_false_iff_not]
  omega
theorem idx_is : ∀ (l : List Int) (j : Nat), qZd.idx l j < 0 ↔ ∀ x ∈ l, gdm x := by
  intro l
  induction l with
  | nil => intro j; simp [qZd.idx]
  | cons a l ih =>
    intro j
    rw [qZd.idx, zY0]
    by_cases h : gdm a
    · rw [if_neg (by simpa using h), ih]
      exact ⟨fun h2 x hx => (List.mem_cons.1 hx).elim (fun e => e ▸ h) (h2 x), fun h2 x hx => h2 x (List.mem_cons_of_mem _ hx)⟩
    · rw [if_pos (by simpa using h)]
      exact ⟨fun h2 => by omega, fun h2 => absurd (h2 a (List.mem_cons_self ..)) h⟩
theorem zXn (k : Nat) (t : Int) (l : List Int) (hl : l.length ≤ 140737488351232) : qZd.f k t l = some (decide (gdm t ∧ l.length ≤ 1000 ∧ ∀ x ∈ l, gdm x)) := by
  unfold qZd.f
  rw [if_pos hl]
  congr 1
  rw [decide_eq_decide, idx_is]
  unfold gdm isMoney
  rw [decide_eq_true_eq]
  exact ⟨fun ⟨h1, h2, h3, h4⟩ => ⟨⟨h1, h2.2⟩, h3, h4⟩, fun ⟨h1, h3, h4⟩ => ⟨h1.1, ⟨by omega, h1.2⟩, h3, h4⟩⟩
theorem zXy (l : List Int) (hl : l.length ≤ 4611686018427387904) : ∀ (d k : Nat) (i : Int), 0 ≤ i → i + d = l.length → d < k → qQ7.l0 k l l i = some true := by
  intro d
  induction d with
  | zero =>
    intro k i h0 h1 hk
    obtain ⟨k, rfl⟩ : ∃ m, k = m + 1 := ⟨k - 1, by omega⟩
    simp only [qQ7.l0]; rw [if_neg (by omega)]
  | succ d ih =>
    intro k i h0 h1 hk
    obtain ⟨k, rfl⟩ : ∃ m, k = m + 1 := ⟨k - 1, by omega⟩
    simp only [qQ7.l0]
    rw [if_pos (by omega), if_pos h0, if_pos (by omega), if_pos trivial, w64 (by omega) (by omega)]
    exact ih k (i + 1) (by omega) (by omega) (by omega)
theorem zZp (l : List Int) (k : Nat) (hl : l.length ≤ 4611686018427387904) (hk : l.length < k) : qQ7.f k l l = some true := by
  unfold qQ7.f
  rw [if_pos rfl]
  exact zXy l hl l.length k 0 (by omega) (by omega) hk
def sumI : List Int → Int
  | [] => 0
  | a :: l => a + sumI l
theorem zQg (a b : List Int) : sumI (a ++ b) = sumI a + sumI b := by
  induction a with
  | nil => simp [sumI]
  | cons x a ih => simp only [List.cons_append, sumI, ih]; omega
theorem qWf : ∀ (l : List Int), (∀ x ∈ l, 0 ≤ x) → 0 ≤ sumI l := by
  intro l
  induction l with
  | nil => intro _; exact Int.le_refl 0
  | cons a l ih => intro h; simp only [sumI]; have := h a (List.mem_cons_self ..); have := ih (fun x hx => h x (List.mem_cons_of_mem _ hx)); omega
theorem qVm : ∀ (l : List Int), (∀ x ∈ l, 0 ≤ x) → ∀ x ∈ l, x ≤ sumI l := by
  intro l
  induction l with
  | nil => intro _ x hx; cases hx
  | cons a l ih =>
    intro h x hx
    have h1 := h a (List.mem_cons_self ..)
    have h2 := qWf l (fun x hx => h x (List.mem_cons_of_mem _ hx))
    simp only [sumI]
    rcases List.mem_cons.1 hx with e | e
    · subst e; omega
    · have := ih (fun x hx => h x (List.mem_cons_of_mem _ hx)) x e; omega
theorem sum_go : ∀ (l : List Int) (s : Int), (∀ x ∈ l, gdm x) → gdm s → qZv.go l s = if s + sumI l ≤ 10000000000000 then (s + sumI l, 0) else (0, 14) := by
  intro l
  induction l with
  | nil => intro s _ hs; unfold gdm at hs; rw [show sumI [] = 0 from rfl, Int.add_zero, if_pos (by omega)]; rfl
  | cons a l ih =>
    intro s h hs
    have ha := h a (List.mem_cons_self ..)
    have hl := fun x hx => h x (List.mem_cons_of_mem _ hx)
    have h2 := qWf l (fun x hx => (hl x hx).1)
    have e1 : isMoney s = true := by unfold isMoney; unfold gdm at hs; exact decide_eq_true (by omega)
    have e2 : isMoney a = true := by unfold isMoney; unfold gdm at ha; exact decide_eq_true (by omega)
    rw [show sumI (a :: l) = a + sumI l from rfl, ← Int.add_assoc]
    simp only [qZv.go]
    rw [e1, e2, Bool.true_and, Bool.true_and]
    by_cases c : s + a ≤ 10000000000000
    · have e3 : isMoney (s + a) = true := by unfold isMoney; unfold gdm at ha hs; exact decide_eq_true (by omega)
      rw [e3, if_pos rfl, ih (s + a) hl (by unfold gdm at *; omega)]
    · have e3 : isMoney (s + a) = false := by unfold isMoney; exact decide_eq_false (by omega)
      rw [e3, if_neg (by simp), if_neg (by omega)]
def quoS (t S : Int) (l : List Int) : List Int := l.map (fun w => t * w / S)
def rstS (t S : Int) (l : List Int) : List Int := l.map (fun w => t * w % S)
theorem zW9 (t S : Int) : ∀ l : List Int, t * sumI l = S * sumI (quoS t S l) + sumI (rstS t S l) := by
  intro l
  induction l with
  | nil => simp [sumI, quoS, rstS]
  | cons a l ih =>
    simp only [sumI, quoS, rstS, List.map_cons] at ih ⊢
    have := Int.mul_ediv_add_emod (t * a) S
    rw [Int.mul_add, Int.mul_add, ih]
    omega
theorem zZs {t S : Int} (hS : 0 < S) (l : List Int) : ∀ x ∈ rstS t S l, 0 ≤ x := by
  intro x hx
  obtain ⟨w, _, rfl⟩ := List.mem_map.1 hx
  exact Int.emod_nonneg _ (by omega)
theorem rst_lt {t S : Int} (hS : 0 < S) (l : List Int) : ∀ x ∈ rstS t S l, x ≤ S - 1 := by
  intro x hx
  obtain ⟨w, _, rfl⟩ := List.mem_map.1 hx
  have := Int.emod_lt_of_pos (t * w) hS
  omega
theorem zYw (B : Int) : ∀ l : List Int, (∀ x ∈ l, x ≤ B) → sumI l ≤ l.length * B := by
  intro l
  induction l with
  | nil => intro _; simp [sumI]
  | cons a l ih =>
    intro h
    have h1 := h a (List.mem_cons_self ..)
    have h2 := ih (fun x hx => h x (List.mem_cons_of_mem _ hx))
    simp only [sumI, List.length_cons]
    rw [Int.natCast_succ, Int.add_mul]
    omega
def lftS (t S : Int) (l : List Int) : Int := t - sumI (quoS t S l)
theorem zXg {t : Int} {l : List Int} : lftS t (sumI l) l * sumI l = sumI (rstS t (sumI l) l) := by
  have := zW9 t (sumI l) l
  unfold lftS
  rw [Int.sub_mul, this, Int.mul_comm (sumI (quoS t (sumI l) l))]
  omega
theorem qKk {t : Int} {l : List Int} (hS : 0 < sumI l) : 0 ≤ lftS t (sumI l) l := by
  have h1 := zXg (t := t) (l := l)
  have h2 := qWf _ (zZs (t := t) hS l)
  by_cases c : 0 ≤ lftS t (sumI l) l
  · exact c
  · have : lftS t (sumI l) l * sumI l ≤ (-1) * sumI l := Int.mul_le_mul_of_nonneg_right (by omega) (by omega)
    omega
theorem zYh {a b S : Int} (hS : 0 < S) (h : a * S ≤ b * S) : a ≤ b := Int.le_of_mul_le_mul_right h hS
theorem zWs {t : Int} {l : List Int} (hS : 0 < sumI l) : lftS t (sumI l) l ≤ l.length := by
  have h1 := zXg (t := t) (l := l)
  have h2 := zYw _ _ (rst_lt (t := t) hS l)
  rw [← h1] at h2
  apply zYh hS
  have e : (rstS t (sumI l) l).length = l.length := List.length_map _
  rw [e, Int.mul_sub] at h2
  omega
def winS (t S : Int) (l : List Int) : List Nat := (plc (rstS t S l)).take (lftS t S l).toNat
def prtS (t S : Int) (l : List Int) : List Int := (List.range l.length).map (fun (j : Nat) => rd (quoS t S l) j + if j ∈ winS t S l then 1 else 0)
theorem qK6 (t S : Int) (l : List Int) : (rstS t S l).length = l.length := List.length_map _
theorem qWx (t S : Int) (l : List Int) : (quoS t S l).length = l.length := List.length_map _
theorem zY6 (t S : Int) (l : List Int) : (prtS t S l).length = l.length := by unfold prtS; simp
theorem zQ7 {t S : Int} {l : List Int} {j : Nat} (h : j ∈ winS t S l) : j < l.length := by
  have := (qWs (rstS t S l)).mem_iff.1 (List.mem_of_mem_take h)
  rw [List.mem_range, qK6] at this
  exact this
theorem zZ7 (l : List Int) : (plc l).Nodup := (qWs l).nodup_iff.2 List.nodup_range
theorem qJy (t S : Int) (l : List Int) : (winS t S l).Nodup := (List.take_sublist _ _).nodup (zZ7 _)
theorem zW1 {f : Int → Int} (l : List Int) (j : Nat) (h : j < l.length) : rd (l.map f) j = f (rd l j) := by
  unfold rd; simp [List.getD_eq_getElem?_getD, h]
theorem zZa {f : Nat → Int} {n j : Nat} (h : j < n) : rd ((List.range n).map f) j = f j := by
  unfold rd; simp [List.getD_eq_getElem?_getD, h]
theorem zZ8 (l : List Int) (i j : Nat) (x : Int) (h : i < l.length) : rd (l.set i x) j = if j = i then x else rd l j := by
  unfold rd
  simp only [Int.toNat_natCast, List.getD_eq_getElem?_getD, List.getElem?_set]
  by_cases c : i = j
  · subst c; simp [h]
  · rw [if_neg c, if_neg (fun e => c e.symm)]
theorem ext_rd {a b : List Int} (h : a.length = b.length) (hr : ∀ j < a.length, rd a j = rd b j) : a = b := by
  apply List.ext_getElem h
  intro j h1 h2
  have := hr j h1
  unfold rd at this
  simpa [List.getD_eq_getElem?_getD, h1, h2] using this
def updS (L : List Nat) (p : List Int) : List Int := L.foldl (fun p i => p.set i (rd p i + 1)) p
theorem zW5 : ∀ (L : List Nat) (p : List Int), L.Nodup → (∀ i ∈ L, i < p.length) → updS L p = (List.range p.length).map (fun (j : Nat) => rd p j + if j ∈ L then 1 else 0) := by
  intro L
  induction L with
  | nil =>
    intro p _ _
    apply ext_rd (by simp [updS])
    intro j hj
    have hj : j < p.length := hj
    rw [zZa hj]; simp [updS]
  | cons a L ih =>
    intro p hn hp
    have ha := hp a (List.mem_cons_self ..)
    have hn2 := List.nodup_cons.1 hn
    show updS L (p.set a (rd p a + 1)) = _
    rw [ih (p.set a (rd p a + 1)) hn2.2 (fun i hi => by rw [List.length_set]; exact hp i (List.mem_cons_of_mem _ hi)), List.length_set]
    apply List.map_congr_left
    intro j hj
    rw [zZ8 p a j _ ha]
    by_cases c : j = a
    · subst c; rw [if_pos rfl, if_neg hn2.1, if_pos (List.mem_cons_self ..)]; omega
    · rw [if_neg c]
      by_cases c2 : j ∈ L
      · rw [if_pos c2, if_pos (List.mem_cons_of_mem _ c2)]
      · rw [if_neg c2, if_neg (fun h => (List.mem_cons.1 h).elim c c2)]
theorem zXs (L : List Nat) (n : Nat) (hn : n ≤ 1000) (hLn : ∀ i ∈ L, i < n) (hLl : L.length ≤ n) : ∀ (d k j : Nat) (p : List Int), j + d = L.length → d < k → p.length = n → (∀ i : Nat, i < n → 0 ≤ rd p i ∧ rd p i + d ≤ 20000000000000) →
    qQx.l1 k p (L.map (fun (x : Nat) => (x : Int))) (L.length : Int) (j : Int) = some (updS (L.drop j) p, 0) := by
  intro d
  induction d with
  | zero =>
    intro k j p hj hk hp hb
    obtain ⟨k, rfl⟩ : ∃ m, k = m + 1 := ⟨k - 1, by omega⟩
    simp only [qQx.l1]
    rw [if_neg (by omega), List.drop_of_length_le (by omega)]
    rfl
  | succ d ih =>
    intro k j p hj hk hp hb
    obtain ⟨k, rfl⟩ : ∃ m, k = m + 1 := ⟨k - 1, by omega⟩
    have hjL : j < L.length := by omega
    have e : rd (L.map (fun (x : Nat) => (x : Int))) (j : Int) = ((L[j] : Nat) : Int) := by unfold rd; simp [List.getD_eq_getElem?_getD, hjL]
    have hi := hLn L[j] (List.getElem_mem hjL)
    have hb0 := hb L[j] hi
    simp only [qQx.l1]
    rw [e, if_pos (by omega), if_pos (by omega), if_pos (by rw [List.length_map]; omega), if_pos (by omega), if_pos (by omega), Int.toNat_natCast, w64 (e := rd p ((L[j] : Nat) : Int) + 1) (by omega) (by omega), w64 (e := (j : Int) + 1) (by omega) (by omega),
      show (j : Int) + 1 = ((j + 1 : Nat) : Int) by omega, ih k (j + 1) _ (by omega) (by omega) (by rw [List.length_set]; exact hp) (fun i hin => by
        rw [zZ8 p L[j] i _ (by omega)]
        have := hb i hin
        split <;> omega), List.drop_eq_getElem_cons hjL]
    rfl
def halfS (f : Int → Int) (l : List Int) (j : Nat) : List Int := (l.take j).map f ++ List.replicate (l.length - j) 0
theorem qVk (f : Int → Int) (l : List Int) {j : Nat} (h : j ≤ l.length) : (halfS f l j).length = l.length := by simp [halfS]; omega
theorem qVl (f : Int → Int) (l : List Int) {j : Nat} (h : j < l.length) : (halfS f l j).set j (f (rd l j)) = halfS f l (j + 1) := by
  unfold halfS
  rw [show l.length - j = (l.length - (j + 1)) + 1 by omega, List.replicate_succ, List.set_append_right _ _ (by simp; omega), List.take_add_one, List.map_append, List.append_assoc]
  have e : rd l j = l[j] := by unfold rd; simp [List.getD_eq_getElem?_getD, h]
  rw [e]
  simp [h, Nat.min_eq_left (Nat.le_of_lt h)]
theorem qKr (f : Int → Int) (l : List Int) : halfS f l l.length = l.map f := by simp [halfS]
theorem qVw (f : Int → Int) (l : List Int) : halfS f l 0 = List.replicate l.length 0 := by simp [halfS]
theorem zVt (f : Int → Int) (l : List Int) {j : Nat} (h : j < l.length) : rd (halfS f l (j + 1)) j = f (rd l j) := by
  rw [← qVl f l h, zZ8 _ _ _ _ (by rw [qVk f l (by omega)]; exact h), if_pos rfl]
theorem zQ1 {t S w : Int} (ht : 0 ≤ t) (hw : 0 ≤ w) (hwS : w ≤ S) (hS : 0 < S) : 0 ≤ t * w / S ∧ t * w / S ≤ t := by
  have h1 : t * w ≤ t * S := Int.mul_le_mul_of_nonneg_left hwS ht
  have h2 : 0 ≤ t * w := Int.mul_nonneg ht hw
  refine ⟨Int.ediv_nonneg h2 (by omega), ?_⟩
  have := Int.ediv_le_ediv hS h1
  rwa [Int.mul_ediv_cancel _ (by omega)] at this
theorem zZ5 {t w S : Int} (ht : gdm t) (hw : gdm w) (hS : 0 < S) (hS2 : S ≤ 10000000000000) (hwS : w ≤ S) (k : Nat) (hk : 30 ≤ k) :
    qY6.f k (t * w / 18446744073709551616) (t * w % 18446744073709551616) S = some (t * w / S, t * w % S, true) := by
  unfold gdm at ht hw
  have h2 : 0 ≤ t * w := Int.mul_nonneg ht.1 hw.1
  have h1 : t * w ≤ t * S := Int.mul_le_mul_of_nonneg_left hwS ht.1
  have h3 : t * S ≤ 10000000000000 * S := Int.mul_le_mul_of_nonneg_right ht.2 (by omega)
  rw [qVb _ _ S k (by omega) (by omega) (by omega) (by omega) (by omega) hk]
  unfold divS
  rw [if_neg (by omega)]
  congr 2
  · congr 1; omega
  · congr 2; omega
theorem zXu (t : Int) (l : List Int) (ht : gdm t) (hl : l.length ≤ 1000) (hg : ∀ x ∈ l, gdm x) (hS : 0 < sumI l) (hS2 : sumI l ≤ 10000000000000) :
    ∀ (d k j : Nat), j + d = l.length → d + 2000 < k →
    qQx.l0 k t (sumI l) (halfS (fun w => t * w / sumI l) l j) (halfS (fun w => t * w % sumI l) l j) (t - sumI (quoS t (sumI l) (l.take j))) l (l.length : Int) (j : Int) = some (prtS t (sumI l) l, 0) := by
  intro d
  have hn0 : 0 < l.length := by
    cases l with
    | nil => simp [sumI] at hS
    | cons a l => simp
  induction d with
  | zero =>
    intro k j hj hk
    obtain ⟨k, rfl⟩ : ∃ m, k = m + 1 := ⟨k - 1, by omega⟩
    obtain rfl : j = l.length := by omega
    simp only [qQx.l0]
    rw [if_neg (by omega), qKr, qKr, List.take_length]
    show ((qZ5.f k (rstS t (sumI l) l)).bind _) = _
    unfold qZ5.f
    rw [if_pos (by rw [qK6]; omega)]
    simp only [obind]
    have h1 := qKk (t := t) hS
    have h2 := zWs (t := t) hS
    have e : t - sumI (quoS t (sumI l) l) = lftS t (sumI l) l := rfl
    have e3 : (plc (rstS t (sumI l) l)).length = l.length := by rw [(qWs _).length_eq, List.length_range, qK6]
    rw [e, if_pos h1, if_pos (by rw [List.length_map, e3]; exact h2), ← List.map_take]
    show qQx.l1 k (quoS t (sumI l) l) ((winS t (sumI l) l).map _) _ _ = _
    have hlen : (winS t (sumI l) l).length ≤ l.length := by unfold winS; rw [List.length_take, e3]; omega
    rw [List.length_map]
    have := zXs (winS t (sumI l) l) l.length hl (fun i hi => zQ7 hi) hlen (winS t (sumI l) l).length k 0 (quoS t (sumI l) l) (by omega) (by omega) (qWx _ _ _) (fun i hi => by
      unfold quoS
      rw [zW1 l i hi]
      have hm := zXc l i hi
      have hw := hg _ hm
      have := zQ1 ht.1 hw.1 (qVm l (fun x hx => (hg x hx).1) _ hm) hS
      unfold gdm at ht
      omega)
    rw [List.drop_zero, zW5 _ _ (qJy _ _ _) (fun i hi => by rw [qWx]; exact zQ7 hi), qWx] at this
    exact this
  | succ d ih =>
    intro k j hj hk
    obtain ⟨k, rfl⟩ : ∃ m, k = m + 1 := ⟨k - 1, by omega⟩
    have hjl : j < l.length := by omega
    have hm := zXc l j hjl
    have hw := hg _ hm
    have hwS := qVm l (fun x hx => (hg x hx).1) _ hm
    have hq := zQ1 ht.1 hw.1 hwS hS
    have ht' := ht; have hw' := hw
    unfold gdm at ht' hw'
    have et : l.take (j + 1) = l.take j ++ [rd l j] := by
      rw [List.take_add_one]
      have e : rd l j = l[j] := by unfold rd; simp [List.getD_eq_getElem?_getD, hjl]
      rw [e]; simp [hjl]
    have es : sumI (quoS t (sumI l) (l.take (j + 1))) = sumI (quoS t (sumI l) (l.take j)) + t * rd l j / sumI l := by
      rw [et]; unfold quoS; rw [List.map_append, zQg]; simp only [List.map_cons, List.map_nil, sumI]; omega
    have hb1 : 0 ≤ sumI (quoS t (sumI l) (l.take j)) := qWf _ (fun x hx => by
      obtain ⟨w, hw, rfl⟩ := List.mem_map.1 hx
      have hw2 := List.mem_of_mem_take hw
      exact (zQ1 ht.1 (hg w hw2).1 (qVm l (fun x hx => (hg x hx).1) _ hw2) hS).1)
    have hb2 : sumI (quoS t (sumI l) (l.take j)) ≤ (quoS t (sumI l) (l.take j)).length * 10000000000000 := zYw _ _ (fun x hx => by
      obtain ⟨w, hw, rfl⟩ := List.mem_map.1 hx
      have hw2 := List.mem_of_mem_take hw
      have := (zQ1 ht.1 (hg w hw2).1 (qVm l (fun x hx => (hg x hx).1) _ hw2) hS).2
      omega)
    rw [qWx, List.length_take, Nat.min_eq_left (by omega)] at hb2
    simp only [qQx.l0]
    rw [if_pos (by omega), if_pos (by omega), if_pos (by omega), wu_id ht'.1 (by omega), wu_id hw'.1 (by omega), wu_id (n := sumI l) (by omega) (by omega), qVd t (rd l j) ht'.1 (by omega) hw'.1 (by omega)]
    simp only [obind]
    rw [zZ5 ht hw hS hS2 hwS k (by omega)]
    simp only [obind]
    rw [qVk _ l (by omega), qVk _ l (by omega), if_pos (by omega), if_pos (by omega), w64 (e := t * rd l j / sumI l) (by omega) (by omega), Int.toNat_natCast, qVl (fun w => t * w / sumI l) l hjl, qVl (fun w => t * w % sumI l) l hjl, zVt (fun w => t * w / sumI l) l hjl,
      w64 (e := t - sumI (quoS t (sumI l) (l.take j)) - t * rd l j / sumI l) (by omega) (by omega), w64 (e := (j : Int) + 1) (by omega) (by omega),
      show t - sumI (quoS t (sumI l) (l.take j)) - t * rd l j / sumI l = t - sumI (quoS t (sumI l) (l.take (j + 1))) by omega, show (j : Int) + 1 = ((j + 1 : Nat) : Int) by omega]
    exact ih k (j + 1) (by omega) (by omega)
def splitG (t : Int) (l : List Int) : Prop := gdm t ∧ l.length ≤ 1000 ∧ (∀ x ∈ l, gdm x) ∧ sumI l ≤ 10000000000000 ∧ 0 < sumI l
instance (t : Int) (l : List Int) : Decidable (splitG t l) := by unfold splitG; infer_instance
def splitF (t : Int) (l : List Int) : List Int × Int := if splitG t l then (prtS t (sumI l) l, 0) else ([], 1)
theorem zX2 (t : Int) (l : List Int) (k : Nat) (hl : l.length ≤ 2000) (hk : 3010 ≤ k) : qQx.f k t l = some (splitF t l) := by
  obtain ⟨k, rfl⟩ : ∃ m, k = m + 1 := ⟨k - 1, by omega⟩
  have e0 : ∀ S, qQx.j0 (k + 1) t l S true = some ([], 1) := fun S => by simp only [qQx.j0, if_true]
  unfold qQx.f qZv.f splitF
  rw [if_pos (by omega), zXn _ t l (by omega)]
  simp only [obind, decide_eq_true_eq]
  by_cases c : gdm t ∧ l.length ≤ 1000 ∧ ∀ x ∈ l, gdm x
  case neg => rw [if_neg c, if_neg (fun h : splitG t l => c ⟨h.1, h.2.1, h.2.2.1⟩), e0]
  obtain ⟨ht, hn, hg⟩ := c
  rw [if_pos ⟨ht, hn, hg⟩, sum_go l 0 hg (by unfold gdm; omega), Int.zero_add]
  by_cases c1 : sumI l ≤ 10000000000000
  case neg => rw [if_neg c1, if_neg (fun h : splitG t l => c1 h.2.2.2.1)]; rw [if_neg (by simp), e0]
  rw [if_pos c1, if_pos rfl]
  by_cases c2 : 0 < sumI l
  case neg => rw [if_neg (fun h : splitG t l => c2 h.2.2.2.2), decide_eq_true (by omega), e0]
  rw [if_pos ⟨ht, hn, hg, c1, c2⟩, decide_eq_false (by omega)]
  simp only [qQx.j0]
  rw [if_neg (by simp), if_pos (by omega), if_pos (by omega), Int.toNat_natCast]
  have := zXu t l ht hn hg c2 c1 l.length k 0 (by omega) (by omega)
  rw [qVw, qVw, List.take_zero] at this
  simpa [quoS, sumI] using this
end Go.Proofs.YtlhcohipnieidaaGreat.PureSh
namespace Go.Proofs.YtlhcohipnieidaaGreat.PureIn
set_option linter.unusedVariables false
open Go.RowKit Go.Proofs.YtlhcohipnieidaaGreat.P W.PrintWords W.PrintLast W.PrintMore Go.Proofs.YtlhcohipnieidaaGreat.PlainM Go.Proofs.YtlhcohipnieidaaGreat.Pure
def upFrom : List Int → Int → Bool
  | [], _ => true
  | x :: l, s => decide (s ≤ x) && (decide (x ≤ 1000000000) && upFrom l x)
def goodT (l : List Int) : Bool := decide (1 ≤ l.length ∧ l.length ≤ 30) && upFrom l 0
theorem qKb (l : List Int) (hl : l.length ≤ 4611686018427387904) : ∀ (d k : Nat) (j : Nat) (s : Int), j + d = l.length → d < k → qZj.l0 k s l l.length j = some (upFrom (l.drop j) s) := by
  intro d
  induction d with
  | zero =>
    intro k j s hj hk
    obtain ⟨k, rfl⟩ : ∃ m, k = m + 1 := ⟨k - 1, by omega⟩
    simp only [qZj.l0]
    rw [if_neg (by omega), List.drop_of_length_le (by omega)]; rfl
  | succ d ih =>
    intro k j s hj hk
    obtain ⟨k, rfl⟩ : ∃ m, k = m + 1 := ⟨k - 1, by omega⟩
    simp only [qZj.l0]
    rw [if_pos (by omega), if_pos (by omega), if_pos (by omega), rd_at l j (by omega)]
    simp only [upFrom]
    by_cases c1 : rd l j < s
    · rw [if_pos c1, decide_eq_false (by omega), Bool.false_and]
    · rw [if_neg c1, decide_eq_true (by omega), Bool.true_and]
      by_cases c2 : rd l j > 1000000000
      · rw [if_pos c2, decide_eq_false (by omega), Bool.false_and]
      · rw [if_neg c2, decide_eq_true (by omega), Bool.true_and, w64 (by omega) (by omega)]
        exact ih k (j + 1) _ (by omega) (by omega)
theorem qWv (l : List Int) (k : Nat) (hl : l.length ≤ 4611686018427387904) (hk : 40 ≤ k) : qZj.f k l = some (goodT l) := by
  obtain ⟨k, rfl⟩ : ∃ m, k = m + 1 := ⟨k - 1, by omega⟩
  unfold qZj.f goodT
  simp only [qZj.j0]
  by_cases c1 : (l.length : Int) < 1
  · rw [if_pos c1, if_pos trivial, decide_eq_false (by omega), Bool.false_and]
  · rw [if_neg c1]
    by_cases c2 : (l.length : Int) > 30
    · rw [if_pos (decide_eq_true c2), decide_eq_false (by omega), Bool.false_and]
    · rw [if_neg (by simpa using c2), decide_eq_true (by omega), Bool.true_and]
      exact qKb l hl l.length k 0 0 (by omega) (by omega)
theorem zQf (l : List Int) (hl : l.length ≤ 4611686018427387904) : ∀ (d k : Nat) (j : Nat) (s : Int), j + d = l.length → d < k → (0 < j → s = rd l ((j : Int) - 1)) → 0 ≤ s → (j = 0 → s = 0) →
    qZb.l0 k l j = some (decide (1 ≤ l.length ∧ l.length ≤ 30) && upFrom (l.drop j) s) := by
  intro d
  induction d with
  | zero =>
    intro k j s hj hk _ _ _
    obtain ⟨k, rfl⟩ : ∃ m, k = m + 1 := ⟨k - 1, by omega⟩
    simp only [qZb.l0]
    rw [if_neg (by omega), List.drop_of_length_le (by omega)]
    simp only [upFrom, Bool.and_true]
    by_cases c : (l.length : Int) ≥ 1
    · rw [if_pos c]; congr 1; rw [decide_eq_decide]; omega
    · rw [if_neg c, decide_eq_false (by omega)]
  | succ d ih =>
    intro k j s hj hk hs hs0 hj0
    obtain ⟨k, rfl⟩ : ∃ m, k = m + 1 := ⟨k - 1, by omega⟩
    simp only [qZb.l0]
    rw [if_pos (by omega), if_pos (by omega), rd_at l j (by omega)]
    simp only [upFrom]
    by_cases c0 : rd l j < 0
    · rw [if_pos c0, decide_eq_false (by omega : ¬ s ≤ rd l j), Bool.false_and, Bool.and_false]
    · rw [if_neg c0]
      by_cases c2 : rd l j > 1000000000
      · rw [if_pos c2, decide_eq_false (by omega : ¬ rd l j ≤ 1000000000), Bool.false_and, Bool.and_false, Bool.and_false]
      · rw [if_neg c2, decide_eq_true (by omega : rd l j ≤ 1000000000), Bool.true_and]
        have nx := ih k (j + 1) (rd l j) (by omega) (by omega) (fun _ => by rw [show ((j + 1 : Nat) : Int) - 1 = j by omega]) (by omega) (by omega)
        by_cases c3 : (j : Int) > 0
        · rw [if_pos c3, w64 (e := (j : Int) - 1) (by omega) (by omega), if_pos (by omega), if_pos (by omega), ← hs (by omega)]
          by_cases c4 : rd l j < s
          · rw [if_pos c4, decide_eq_false (by omega : ¬ s ≤ rd l j), Bool.false_and, Bool.and_false]
          · rw [if_neg c4, decide_eq_true (by omega : s ≤ rd l j), Bool.true_and, w64 (by omega) (by omega)]
            exact nx
        · rw [if_neg c3, decide_eq_true (by have := hj0 (by omega); omega : s ≤ rd l j), Bool.true_and, w64 (by omega) (by omega)]
          exact nx
theorem qJ1 (l : List Int) (k : Nat) (hl : l.length ≤ 4611686018427387904) (hk : l.length < k) : qZb.f k l = some (goodT l) := by
  unfold qZb.f goodT
  exact zQf l hl l.length k 0 0 (by omega) (by omega) (fun h => absurd h (by omega)) (by omega) (fun _ => rfl)
theorem qJv : ∀ (l : List Int) (s : Int), upFrom l s = true → ∀ j : Nat, j < l.length → s ≤ rd l j ∧ rd l j ≤ 1000000000
  | [], _, _, _, h => absurd h (by simp)
  | x :: l, s, hu, 0, _ => by
    simp only [upFrom, Bool.and_eq_true, decide_eq_true_eq] at hu
    exact ⟨hu.1, hu.2.1⟩
  | x :: l, s, hu, j + 1, hj => by
    simp only [upFrom, Bool.and_eq_true, decide_eq_true_eq] at hu
    have := qJv l x hu.2.2 j (by simpa using hj)
    have e : rd (x :: l) ((j + 1 : Nat) : Int) = rd l (j : Int) := by unfold rd; simp
    rw [e]; omega
theorem qVu (a n : Int) (k : Nat) (hk : 3 ≤ k) : qZ3.f k a [n] = some (mn a n) := by
  obtain ⟨k, rfl⟩ : ∃ m, k = m + 2 := ⟨k - 2, by omega⟩
  unfold qZ3.f
  simp only [qZ3.l0, List.length_singleton]
  rw [if_pos (by omega), if_pos (by omega), if_pos (by omega), w64 (e := 0 + 1) (by omega) (by omega), if_neg (by omega)]
  rfl
def lineS (l : List Int) (n : Int) : Int × Int := if goodT l = true ∧ 1 ≤ n ∧ n ≤ 30 then mdS (rd l (mn n l.length - 1)) 3 2 1 else (0, 1)
def freeS (l : List Int) (n x : Int) : Int × Int := if (lineS l n).2 = 0 ∧ 0 ≤ x ∧ x ≤ 1000000000 then (mx (x - (lineS l n).1) 0, 0) else (0, 1)
def askS (l : List Int) (n x : Int) : Int × Int := if (freeS l n x).2 = 0 then mdS (freeS l n x).1 1 120 2 else (0, (freeS l n x).2)
theorem zQu {l : List Int} {n : Int} (hg : goodT l = true) (h1 : 1 ≤ n) (h2 : n ≤ 30) : 0 ≤ mn n l.length - 1 ∧ mn n l.length - 1 < l.length ∧ mn n l.length ≤ 30 ∧ 0 ≤ rd l (mn n l.length - 1) ∧ rd l (mn n l.length - 1) ≤ 1000000000 := by
  unfold goodT at hg
  simp only [Bool.and_eq_true, decide_eq_true_eq] at hg
  obtain ⟨⟨h3, h4⟩, hu⟩ := hg
  have hm : 0 ≤ mn n l.length - 1 ∧ mn n l.length - 1 < l.length ∧ mn n l.length ≤ 30 := by rw [mn_is]; split <;> omega
  have := qJv l 0 hu (mn n l.length - 1).toNat (by omega)
  rw [Int.toNat_of_nonneg hm.1] at this
  exact ⟨hm.1, hm.2.1, hm.2.2, this.1, this.2⟩
theorem zQe {l : List Int} {n : Int} (h : (lineS l n).2 = 0) : goodT l = true ∧ (1 ≤ n ∧ n ≤ 30) ∧ lineS l n = (rq (rd l (mn n l.length - 1) * 3) 2 1, 0) ∧ 0 ≤ (lineS l n).1 ∧ (lineS l n).1 ≤ 1500000001 := by
  unfold lineS at *
  by_cases c : goodT l = true ∧ 1 ≤ n ∧ n ≤ 30
  · rw [if_pos c] at h ⊢
    obtain ⟨a1, a2, a3, a4, a5⟩ := zQu c.1 c.2.1 c.2.2
    rw [mdS_rq _ 3 2 1 a4 (by omega) (by omega) (by omega) (by omega) (by omega)]
    refine ⟨c.1, c.2, rfl, ?_⟩
    rw [rq1]
    simp only
    split <;> omega
  · rw [if_neg c] at h; simp at h
theorem qKa (l : List Int) (n : Int) (k : Nat) (hl : l.length ≤ 4611686018427387904) (hk : 100 ≤ k) : qZs.f k l n = some (lineS l n) := by
  obtain ⟨k, rfl⟩ : ∃ m, k = m + 1 := ⟨k - 1, by omega⟩
  unfold qZs.f
  rw [qWv l (k + 1) hl (by omega)]
  simp only [qZs.j0, obind]
  rw [qVu n l.length k (by omega)]
  simp only [obind]
  by_cases hg : goodT l = true
  · rw [if_pos hg]
    by_cases c1 : n < 1
    · rw [if_pos c1, if_pos trivial]; unfold lineS; rw [if_neg (by omega)]
    · rw [if_neg c1]
      by_cases c2 : n > 30
      · rw [if_pos (decide_eq_true c2)]; unfold lineS; rw [if_neg (by omega)]
      · obtain ⟨a1, a2, a3, a4, a5⟩ := zQu hg (by omega : 1 ≤ n) (by omega)
        rw [if_neg (by simpa using c2), w64 (by omega) (by omega), if_pos a1, if_pos a2, qXn _ _ _ _ k (by omega) (by omega) (by omega) (by omega)]
        unfold lineS
        rw [if_pos ⟨hg, by omega, by omega⟩]; rfl
  · rw [if_neg hg, if_pos trivial]; unfold lineS; rw [if_neg (fun h => hg h.1)]
theorem zQc (l : List Int) (n : Int) (k : Nat) (hl : l.length ≤ 100) (hk : 300 ≤ k) : qZ9.f k l n = some (lineS l n) := by
  unfold qZ9.f
  rw [qJ1 l k (by omega) (by omega)]
  simp only [obind]
  by_cases hg : goodT l = true
  · rw [if_pos hg]
    by_cases c1 : n < 1
    · rw [if_pos c1]; unfold lineS; rw [if_neg (by omega)]
    · rw [if_neg c1]
      by_cases c2 : n > 30
      · rw [if_pos c2]; unfold lineS; rw [if_neg (by omega)]
      · obtain ⟨a1, a2, a3, a4, a5⟩ := zQu hg (by omega : 1 ≤ n) (by omega)
        rw [if_neg c2, w64 (by omega) (by omega), if_pos a1, if_pos a2, qW2 _ _ _ _ k (by omega) (by omega) (by omega) (by omega)]
        unfold lineS
        rw [if_pos ⟨hg, by omega, by omega⟩]; rfl
  · rw [if_neg hg]; unfold lineS; rw [if_neg (fun h => hg h.1)]
theorem qV7 (l : List Int) (n x : Int) (k : Nat) (hl : l.length ≤ 4611686018427387904) (hk : 100 ≤ k) : qXa.f k l n x = some (freeS l n x) := by
  unfold qXa.f
  rw [qKa l n k hl (by omega)]
  simp only [obind]
  unfold freeS
  by_cases c : (lineS l n).2 = 0
  · obtain ⟨b1, b2, b3, b4, b5⟩ := zQe c
    rw [if_pos c]
    by_cases c1 : x < 0
    · rw [if_pos c1, if_neg (by omega)]
    · rw [if_neg c1]
      by_cases c2 : x > 1000000000
      · rw [if_pos c2, if_neg (by omega)]
      · rw [if_neg c2, if_pos ⟨c, by omega, by omega⟩, w64 (by omega) (by omega)]
  · rw [if_neg c, if_neg (fun h => c h.1)]
theorem zVr (a b : Int) : mx a b = mx b a := by rw [mx_is, mx_is]; split <;> split <;> omega
theorem qJ6 (l : List Int) (n x : Int) (k : Nat) (hl : l.length ≤ 100) (hk : 300 ≤ k) : qYn.f k l n x = some (freeS l n x) := by
  unfold qYn.f
  rw [zQc l n k hl (by omega)]
  simp only [obind]
  unfold freeS
  by_cases c : (lineS l n).2 = 0
  · obtain ⟨b1, b2, b3, b4, b5⟩ := zQe c
    rw [if_pos c]
    by_cases c1 : x < 0
    · rw [if_pos c1, if_neg (by omega)]
    · rw [if_neg c1]
      by_cases c2 : x > 1000000000
      · rw [if_pos c2, if_neg (by omega)]
      · rw [if_neg c2, if_pos ⟨c, by omega, by omega⟩, w64 (by omega) (by omega), zVr]
  · rw [if_neg c, if_neg (fun h => c h.1)]
theorem zQy {l : List Int} {n x : Int} (h : (freeS l n x).2 = 0) : 0 ≤ (freeS l n x).1 ∧ (freeS l n x).1 ≤ 1000000000 := by
  unfold freeS at *
  by_cases c : (lineS l n).2 = 0 ∧ 0 ≤ x ∧ x ≤ 1000000000
  · obtain ⟨b1, b2, b3, b4, b5⟩ := zQe c.1
    rw [if_pos c]
    simp only
    rw [mx_is]; split <;> omega
  · rw [if_neg c] at h; simp at h
theorem qKt (l : List Int) (n x : Int) (k : Nat) (hl : l.length ≤ 4611686018427387904) (hk : 100 ≤ k) : qXk.f k l n x = some (askS l n x) := by
  unfold qXk.f
  rw [qV7 l n x k hl hk]
  simp only [obind]
  unfold askS
  by_cases c : (freeS l n x).2 = 0
  · have := zQy c
    rw [if_pos c, if_pos c, qXn _ _ _ _ k (by omega) (by omega) (by omega) (by omega)]; rfl
  · rw [if_neg c, if_neg c]
theorem zZh (l : List Int) (n x : Int) (k : Nat) (hl : l.length ≤ 100) (hk : 300 ≤ k) : qZ7.f k l n x = some (askS l n x) := by
  unfold qZ7.f
  rw [qJ6 l n x k hl hk]
  simp only [obind]
  unfold askS
  by_cases c : (freeS l n x).2 = 0
  · have := zQy c
    rw [if_pos c, if_pos c, qW2 _ _ _ _ k (by omega) (by omega) (by omega) (by omega)]; rfl
  · rw [if_neg c, if_neg c]
end Go.Proofs.YtlhcohipnieidaaGreat.PureIn
namespace Go.Proofs.YtlhcohipnieidaaGreat.PurePl
set_option linter.unusedVariables false
set_option linter.unusedSimpArgs false
open Go.RowKit Go.Proofs.YtlhcohipnieidaaGreat.P W.PrintWords W.PrintLast W.PrintMore Go.Proofs.YtlhcohipnieidaaGreat.PlainM
open Go.Proofs.YtlhcohipnieidaaGreat.PureLo (gd mon owesS qVv zQm)
abbrev LT := S48
abbrev BT := S54
def gdL (x : LT) : Prop := gd x.f0 x.f1 x.f2 x.f3 x.f4 x.f5 x.f7 x.f8 x.f9 x.f10 x.f11 x.f12
instance (x : LT) : Decidable (gdL x) := by unfold gdL; infer_instance
def owesL (x : LT) : Int × Int := owesS x.f0 x.f1 x.f2 x.f3 x.f4 x.f5 x.f7 x.f8 x.f9 x.f10 x.f11 x.f12
def capL (x : LT) (n : Int) : Int × Int := if (owesL x).2 = 0 then (mn n (owesL x).1, 0) else (0, (owesL x).2)
def partL (x : LT) : Bool := decide (x.f8 = 0 ∧ x.f7 = 5)
def wholeD (a b : Int) : Int := (qZw.f 3000 a b).getD 0
theorem zQ5 (a b : Int) : ∃ r, r ≤ 3000 ∧ ∀ k, 3000 ≤ k → qZw.f k a b = some r := by
  by_cases h : a < 0 ∨ 87658 < a ∨ b < 0 ∨ 87658 < b ∨ b < a
  · exact ⟨0, by omega, fun k hk => PureD.qK8 a b k h (by omega)⟩
  · obtain ⟨m, hm, h1, h2⟩ := Plain.mo_ex a (by omega) (by omega)
    obtain ⟨n, hn, g1, g2⟩ := Plain.mo_ex b (by omega) (by omega)
    refine ⟨_, ?_, fun k hk => PureD.qJ5 m n k a b hm h1 h2 hn g1 g2 (by omega) (by omega)⟩
    unfold PureD.wholeS
    split <;> omega
theorem zWl (a b : Int) (k : Nat) (hk : 3000 ≤ k) : qZw.f k a b = some (wholeD a b) := by
  obtain ⟨r, _, h⟩ := zQ5 a b
  unfold wholeD
  rw [h k hk, h 3000 (Nat.le_refl _)]; rfl
theorem zWf (a b : Int) : wholeD a b ≤ 3000 := by
  obtain ⟨r, hr, h⟩ := zQ5 a b
  unfold wholeD
  rw [h 3000 (Nat.le_refl _)]; exact hr
def valL (x : LT) (how day : Int) : Int × Int := if how = 1 then (x.f10, 0) else if how = 2 then (x.f11, 0) else PureSt.stepS x.f10 (wholeD x.f9 day)
def ofL (x : LT) (how day : Int) : Int × Int :=
  if gdL x ∧ (1 ≤ how ∧ how ≤ 3) ∧ (0 ≤ day ∧ day ≤ 87658) then (if partL x = true then (if (valL x how day).2 = 0 then capL x (valL x how day).1 else (0, (valL x how day).2)) else (0, 0)) else (0, 1)
theorem zQ9 (x : LT) (k : Nat) (hk : 10 ≤ k) : qQu.f k x.f0 x.f1 x.f2 x.f3 x.f4 x.f5 x.f6 x.f7 x.f8 x.f9 x.f10 x.f11 x.f12 = some (decide (gdL x)) := qVv _ _ _ _ _ _ _ _ _ _ _ _ _ k hk
theorem qJl (x : LT) (n : Int) (k : Nat) (hk : 10 ≤ k) : qYk.f k x.f0 x.f1 x.f2 x.f3 x.f4 x.f5 x.f6 x.f7 x.f8 x.f9 x.f10 x.f11 x.f12 n = some (capL x n) := by
  unfold qYk.f capL owesL
  rw [zQm _ _ _ _ _ _ _ _ _ _ _ _ _ k hk, obind]
  split <;> rfl
theorem zQo (x : LT) : qYf.f x.f0 x.f1 x.f2 x.f3 x.f4 x.f5 x.f6 x.f7 x.f8 x.f9 x.f10 x.f11 x.f12 = some (partL x) := by
  unfold qYf.f partL
  by_cases h : x.f8 = 0
  · rw [if_pos h]
    by_cases h2 : x.f7 = 5
    · rw [decide_eq_true ⟨h, h2⟩, beq_iff_eq.2 h2]
    · rw [decide_eq_false (fun z => h2 z.2), beq_eq_false_iff_ne.2 h2]
  · rw [if_neg h, decide_eq_false (fun z => h z.1)]
theorem val_is (x : LT) (how day : Int) (k : Nat) (hk : 3000 ≤ k) : qZ8.val k x.f0 x.f1 x.f2 x.f3 x.f4 x.f5 x.f6 x.f7 x.f8 x.f9 x.f10 x.f11 x.f12 how day = some (valL x how day) := by
  unfold qZ8.val valL qY4.f qY5.f qYa.f
  by_cases h1 : how = 1
  · rw [if_pos h1, if_pos h1]
  rw [if_neg h1, if_neg h1]
  by_cases h2 : how = 2
  · rw [if_pos h2, if_pos h2]
  rw [if_neg h2, if_neg h2, zWl _ _ k hk, obind, PureSt.zZr _ _ k (by have := zWf x.f9 day; omega) (by omega), obind]
theorem of_is (x : LT) (how day : Int) (k : Nat) (hk : 3000 ≤ k) : qZ8.f k x.f0 x.f1 x.f2 x.f3 x.f4 x.f5 x.f6 x.f7 x.f8 x.f9 x.f10 x.f11 x.f12 how day = some (ofL x how day) := by
  unfold qZ8.f ofL
  rw [zQ9 x k (by omega), obind]
  by_cases hg : gdL x
  case neg => rw [decide_eq_false hg, if_neg (by simp), if_neg (fun h => hg h.1)]
  rw [decide_eq_true hg, if_pos rfl]
  by_cases hh : 1 ≤ how ∧ how ≤ 3
  case neg => rw [if_neg hh, if_neg (fun h => hh h.2.1)]
  rw [if_pos hh, PureD.qXc, obind]
  by_cases hd : 0 ≤ day ∧ day ≤ 87658
  case neg => rw [decide_eq_false hd, if_neg (by simp), if_neg (fun h => hd h.2.2)]
  rw [decide_eq_true hd, if_pos rfl, if_pos ⟨hg, hh, hd⟩, zQo, obind]
  by_cases hp : partL x = true
  case neg => rw [if_neg hp, if_neg hp]
  rw [if_pos hp, if_pos hp, val_is x how day k hk, obind]
  by_cases hv : (valL x how day).2 = 0
  · rw [if_pos hv, if_pos hv, qJl x _ k (by omega)]
  · rw [if_neg hv, if_neg hv]
def badL (l : List LT) : Bool := l.any (fun x => !decide (gdL x))
theorem bad_go (k : Nat) (hk : 10 ≤ k) : ∀ (l : List LT) (j : Nat), ∃ i, qYg.go k l j = some i ∧ decide (0 ≤ i) = badL l := by
  intro l
  induction l with
  | nil => intro j; exact ⟨-1, rfl, rfl⟩
  | cons x l ih =>
    intro j
    unfold qYg.go
    rw [zQ9 x k hk, obind]
    by_cases hg : gdL x
    · rw [decide_eq_true hg, if_pos rfl]
      obtain ⟨i, h1, h2⟩ := ih (j + 1)
      refine ⟨i, h1, h2.trans ?_⟩
      show badL l = (!decide (gdL x) || badL l)
      rw [decide_eq_true hg]; rfl
    · rw [decide_eq_false hg, if_neg (by simp)]
      refine ⟨_, rfl, ?_⟩
      show _ = (!decide (gdL x) || badL l)
      rw [decide_eq_false hg, decide_eq_true (by omega)]; rfl
theorem zY0 (l : List LT) (k : Nat) (hl : l.length ≤ 100000) (hk : 10 ≤ k) : qYg.f k l = some (badL l) := by
  unfold qYg.f
  obtain ⟨i, h1, h2⟩ := bad_go k hk l 0
  rw [if_pos hl, h1, obind, h2]
def addD (a n : Int) : Int × Int := (qZn.f 400 a n).getD (0, 0)
theorem zYz (a n : Int) (k : Nat) (hk : 400 ≤ k) : qZn.f k a n = some (addD a n) := by
  have h : ∃ r, ∀ k, 400 ≤ k → qZn.f k a n = some r := by
    by_cases h : a < 0 ∨ 87658 < a
    · exact ⟨_, fun k hk => PureD.qVc a n k h (by omega)⟩
    · obtain ⟨m, hm, h1, h2⟩ := Plain.mo_ex a (by omega) (by omega)
      by_cases hx : (m : Int) + n < 0 ∨ 2880 ≤ (m : Int) + n
      · exact ⟨_, fun k hk => PureD.qV0 m k a n hm h1 h2 hx (by omega)⟩
      · exact ⟨_, fun k hk => PureD.qWc m ((m : Int) + n).toNat k a n hm h1 h2 (by omega) (by omega) (by omega)⟩
  obtain ⟨r, h⟩ := h
  unfold addD
  rw [h k hk, h 400 (Nat.le_refl _)]; rfl
def holdsS (plan since day : Int) : Int := if plan = 0 then 1 else if plan = 4 then (if (addD since 12).2 = 0 then (if day ≥ (addD since 12).1 then 1 else plan) else 1) else plan
theorem zWq (d : Int) (L : List LT) (plan since inc fam : Int) (B : List BT) (a b c e f g day : Int) (k : Nat) (hk : 400 ≤ k) : qX2.f k d L plan since inc fam B a b c e f g day = some (holdsS plan since day) := by
  unfold qX2.f holdsS
  by_cases h0 : plan = 0
  · rw [if_pos h0, if_pos h0]
  rw [if_neg h0, if_neg h0]
  by_cases h4 : plan = 4
  · rw [if_pos h4, if_pos h4, zYz _ _ k hk, obind]
    split
    · split <;> rfl
    · rfl
  · rw [if_neg h4, if_neg h4]
theorem qK2 (l : List LT) (j : Nat) (h : j < l.length) : l.drop j = qQa l j :: l.drop (j + 1) := by
  rw [List.drop_eq_getElem_cons h]; congr 1; unfold qQa; simp [List.getD_eq_getElem?_getD, h]
theorem zYb (l : List LT) (j : Nat) (h : j < l.length) : (qQa l j).f1 = rd (l.map fun x => x.f1) j := by
  unfold qQa rd; simp [List.getD_eq_getElem?_getD, h]
def prinL (l : List LT) : List Int := l.map fun x => x.f1
def anyP (l : List Int) : Bool := l.any fun a => decide (a > 0)
def sharesS (total : Int) (l : List LT) : List Int × Int := if anyP (prinL l) = true then PureSh.splitF total (prinL l) else (prinL l, 0)
theorem zX4 (l : List Int) (j : Nat) (h : j < l.length) : anyP (l.take (j + 1)) = (anyP (l.take j) || decide (rd l j > 0)) := by
  unfold anyP
  rw [List.take_add_one, List.any_append]
  have e : rd l j = l[j] := by unfold rd; simp [List.getD_eq_getElem?_getD, h]
  rw [e]
  simp [h]
theorem zY4 (total : Int) (l : List LT) (hl : l.length ≤ 1000) : ∀ (d k j : Nat), j + d = l.length → d + 3010 < k →
    qZu.l0 k total (PureSh.halfS id (prinL l) j) (anyP ((prinL l).take j)) l l.length j = some (sharesS total l) := by
  have hpl : (prinL l).length = l.length := by unfold prinL; simp
  intro d
  induction d with
  | zero =>
    intro k j hj hk
    obtain ⟨k, rfl⟩ : ∃ m, k = m + 1 := ⟨k - 1, by omega⟩
    obtain rfl : j = l.length := by omega
    simp only [qZu.l0]
    rw [if_neg (by omega)]
    have e1 : PureSh.halfS id (prinL l) l.length = prinL l := by
      rw [show l.length = (prinL l).length from hpl.symm, PureSh.qKr]; simp
    have e2 : (prinL l).take l.length = prinL l := List.take_of_length_le (by omega)
    rw [e1, e2]
    unfold sharesS
    by_cases c : anyP (prinL l) = true
    · rw [if_pos c, if_pos c, PureSh.zX2 total (prinL l) k (by omega) (by omega), obind]
    · rw [if_neg c, if_neg c]
  | succ d ih =>
    intro k j hj hk
    obtain ⟨k, rfl⟩ : ∃ m, k = m + 1 := ⟨k - 1, by omega⟩
    have hlt : j < l.length := by omega
    simp only [qZu.l0]
    rw [if_pos (by omega), if_pos (by omega), if_pos (by omega), if_pos (by rw [PureSh.qVk id _ (by omega)]; omega), obind, Int.toNat_natCast]
    have e1 : (PureSh.halfS id (prinL l) j).set j ((qQa l j).f1) = PureSh.halfS id (prinL l) (j + 1) := by
      rw [zYb l j hlt]; exact PureSh.qVl id (prinL l) (by omega)
    have e2 := zX4 (prinL l) j (by omega)
    have e3 : (qQa l j).f1 = rd (prinL l) j := zYb l j hlt
    rw [e1, w64 (e := (j : Int) + 1) (by omega) (by omega)]
    have nx := ih k (j + 1) (by omega) (by omega)
    rw [e2, show ((j + 1 : Nat) : Int) = (j : Int) + 1 by omega] at nx
    by_cases c : anyP ((prinL l).take j) = true
    · rw [if_pos c]; rw [c, Bool.true_or] at nx; exact nx
    · rw [if_neg c, e3]; rw [Bool.eq_false_iff.2 c, Bool.false_or] at nx; exact nx
def sharesF (poor : List Int) (fam inc : Int) (l : List LT) : List Int × Int := if (PureIn.askS poor fam inc).2 = 0 then sharesS (PureIn.askS poor fam inc).1 l else ([], (PureIn.askS poor fam inc).2)
theorem zYr (m : Int) (poor : List Int) (d : Int) (L : List LT) (plan since inc fam : Int) (B : List BT) (a b c e f g : Int) (l : List LT) (k : Nat) (hl : l.length ≤ 1000) (hp : poor.length ≤ 4611686018427387904) (hk : 4100 ≤ k) :
    qZu.f k m poor d L plan since inc fam B a b c e f g l = some (sharesF poor fam inc l) := by
  unfold qZu.f sharesF
  rw [PureIn.qKt _ _ _ k hp (by omega), obind]
  by_cases h : (PureIn.askS poor fam inc).2 = 0
  · rw [if_pos h, if_pos h, if_pos (by omega), if_pos (by omega), Int.toNat_natCast]
    have := zY4 (PureIn.askS poor fam inc).1 l hl l.length k 0 (by omega) (by omega)
    rw [PureSh.qVw, show (prinL l).length = l.length by unfold prinL; simp] at this
    exact this
  · rw [if_neg h, if_neg h]
def valsS (how day : Int) : List LT → List Int → List (Int × Int)
  | x :: l, n :: m => (if how = 4 then capL x n else ofL x how day) :: valsS how day l m
  | _, _ => []
def firstE : List (Int × Int) → Int × List Int
  | [] => (0, [])
  | v :: l => if v.2 = 0 then (if (firstE l).1 = 0 then (0, v.1 :: (firstE l).2) else ((firstE l).1, [])) else (v.2, [])
def finS (ids acc : List Int) (r : Int × List Int) : List Int × List Int × Int := if r.1 = 0 then (ids, acc ++ r.2, 0) else ([], [], r.1)
theorem zY7 (day : Int) (ids : List Int) (how : Int) (all : List Int) (part : List LT) (hall : all.length = part.length) (hl : part.length ≤ 1000) : ∀ (d k j : Nat) (acc : List Int), j + d = part.length → d + 3010 < k → acc.length + d ≤ 100000 →
    qQz.l1 k day ids acc how all part part.length j = some (finS ids acc (firstE (valsS how day (part.drop j) (all.drop j)))) := by
  intro d
  induction d with
  | zero =>
    intro k j acc hj hk ha
    obtain ⟨k, rfl⟩ : ∃ m, k = m + 1 := ⟨k - 1, by omega⟩
    simp only [qQz.l1]
    rw [if_neg (by omega), List.drop_of_length_le (by omega)]
    simp [valsS, firstE, finS]
  | succ d ih =>
    intro k j acc hj hk ha
    obtain ⟨k, rfl⟩ : ∃ m, k = m + 1 := ⟨k - 1, by omega⟩
    have hlt : j < part.length := by omega
    rw [qK2 part j hlt, PureSh.qJ9 all j (by omega)]
    simp only [qQz.l1]
    rw [if_pos (by omega), if_pos (by omega), if_pos (by omega), if_pos (by omega), w64 (e := (j : Int) + 1) (by omega) (by omega)]
    have nx := fun q => ih k (j + 1) (acc ++ [q]) (by omega) (by omega) (by simp; omega)
    rw [show ((j + 1 : Nat) : Int) = (j : Int) + 1 by omega] at nx
    have key : ∀ v : Int × Int, ((some v).bind fun bt : Int × Int => (if bt.2 = 0 then (if acc.length < 17592186044416 then qQz.l1 k day ids (acc ++ [bt.1]) how all part part.length ((j : Int) + 1) else none) else some (([] : List Int), ([] : List Int), bt.2))) = some (finS ids acc (firstE (v :: valsS how day (part.drop (j + 1)) (all.drop (j + 1))))) := by
      intro v
      rw [obind]
      by_cases hv : v.2 = 0
      · rw [if_pos hv, if_pos (by omega), nx v.1]
        simp only [firstE, if_pos hv, finS]
        by_cases h2 : (firstE (valsS how day (part.drop (j + 1)) (all.drop (j + 1)))).1 = 0
        · rw [if_pos h2, if_pos h2, if_pos rfl]; simp
        · rw [if_neg h2, if_neg h2, if_neg h2]
      · rw [if_neg hv]
        simp only [firstE, if_neg hv, finS]
    simp only [valsS]
    by_cases h4 : how = 4
    · rw [if_pos h4, if_pos h4, qJl _ _ k (by omega)]
      exact key _
    · rw [if_neg h4, if_neg h4, of_is _ _ _ k (by omega)]
      exact key _
theorem zQl {t : Int} {l : List Int} (h : (PureSh.splitF t l).2 = 0) : (PureSh.splitF t l).1.length = l.length := by
  unfold PureSh.splitF at h ⊢
  split
  · exact PureSh.zY6 _ _ _
  · rename_i hc; rw [if_neg hc] at h; cases h
theorem qKe {poor : List Int} {fam inc : Int} {l : List LT} (h : (sharesF poor fam inc l).2 = 0) : (sharesF poor fam inc l).1.length = l.length := by
  unfold sharesF at h ⊢
  by_cases c : (PureIn.askS poor fam inc).2 = 0
  · rw [if_pos c] at h ⊢
    unfold sharesS at h ⊢
    by_cases c2 : anyP (prinL l) = true
    · rw [if_pos c2] at h ⊢
      rw [zQl h]; unfold prinL; simp
    · rw [if_neg c2]; unfold prinL; simp
  · rw [if_neg c] at h; exact absurd h c
def partS (poor : List Int) (plan since inc fam day : Int) (part : List LT) : List Int × List Int × Int :=
  if part = [] then ([], [], 0) else
  if holdsS plan since day = 4 then (if (sharesF poor fam inc part).2 = 0 then finS (part.map fun x => x.f0) [] (firstE (valsS 4 day part (sharesF poor fam inc part).1)) else ([], [], (sharesF poor fam inc part).2))
  else finS (part.map fun x => x.f0) [] (firstE (valsS (holdsS plan since day) day part (List.replicate part.length 0)))
def asksS (poor : List Int) (L : List LT) (plan since inc fam day : Int) : List Int × List Int × Int :=
  if PureIn.goodT poor = true ∧ (0 ≤ day ∧ day ≤ 87658) ∧ badL L = false then partS poor plan since inc fam day (L.filter partL) else ([], [], 1)
section
variable (m : Int) (poor : List Int) (d0 : Int) (L : List LT) (plan since inc fam : Int) (B : List BT) (a b c e f g day : Int)
theorem zWi (hp : poor.length ≤ 4611686018427387904) (part : List LT) (n : Int) (hn : (L.length : Int) = n) (hl : part.length ≤ 1000) (k : Nat) (hk : 5200 ≤ k) :
    qQz.l0 (k + 1) day (part.map fun x => x.f0) [] part L n n m poor d0 L plan since inc fam B a b c e f g = some (partS poor plan since inc fam day part) := by
  obtain ⟨k, rfl⟩ : ∃ q, k = q + 1 := ⟨k - 1, by omega⟩
  simp only [qQz.l0]
  unfold partS
  rw [if_neg (by omega)]
  cases part with
  | nil => rfl
  | cons x part =>
    rw [if_neg (by simp; omega), if_neg (by simp), zWq _ _ _ _ _ _ _ _ _ _ _ _ _ _ (k + 1) (by omega), obind, if_pos (by omega), if_pos (by simp at hl ⊢; omega)]
    generalize hP : x :: part = P at hl ⊢
    by_cases h4 : holdsS plan since day = 4
    · rw [if_pos h4, if_pos h4, zYr _ _ _ _ _ _ _ _ _ _ _ _ _ _ _ P (k + 1) hl hp (by omega), obind]
      by_cases hs : (sharesF poor fam inc P).2 = 0
      · rw [if_pos hs, if_pos hs]
        simp only [qQz.j2]
        have := zY7 day (P.map fun x => x.f0) 4 (sharesF poor fam inc P).1 P (qKe hs) hl P.length k 0 [] (by omega) (by omega) (by simp; omega)
        rw [h4]
        exact this
      · rw [if_neg hs, if_neg hs]
    · rw [if_neg h4, if_neg h4, Int.toNat_natCast]
      simp only [qQz.j2]
      exact zY7 day (P.map fun x => x.f0) (holdsS plan since day) (List.replicate P.length 0) P (by simp) hl P.length k 0 [] (by omega) (by omega) (by simp; omega)
theorem zVd (hp : poor.length ≤ 4611686018427387904) (hL : L.length ≤ 1000) : ∀ (d k j : Nat) (part : List LT), j + d = L.length → d + 5300 < k → part.length + d ≤ 1000 →
    qQz.l0 k day (part.map fun x => x.f0) [] part L L.length j m poor d0 L plan since inc fam B a b c e f g = some (partS poor plan since inc fam day (part ++ (L.drop j).filter partL)) := by
  intro d
  induction d with
  | zero =>
    intro k j part hj hk hq
    obtain ⟨k, rfl⟩ : ∃ q, k = q + 1 := ⟨k - 1, by omega⟩
    obtain rfl : j = L.length := by omega
    rw [List.drop_length, List.filter_nil, List.append_nil]
    exact zWi m poor d0 L plan since inc fam B a b c e f g day hp part L.length rfl (by omega) k (by omega)
  | succ d ih =>
    intro k j part hj hk hq
    obtain ⟨k, rfl⟩ : ∃ q, k = q + 1 := ⟨k - 1, by omega⟩
    have hlt : j < L.length := by omega
    rw [qK2 L j hlt]
    generalize hX : qQa L j = X
    simp only [qQz.l0, hX]
    rw [if_pos (by omega), if_pos (by omega), if_pos (by omega), zQo X, obind, w64 (e := (j : Int) + 1) (by omega) (by omega)]
    by_cases hx : partL X = true
    · rw [if_pos hx, if_pos (by omega), if_pos (by simp; omega), List.filter_cons_of_pos hx]
      have nx := ih k (j + 1) (part ++ [X]) (by omega) (by omega) (by simp; omega)
      rw [List.map_append, List.append_assoc, show ((j + 1 : Nat) : Int) = (j : Int) + 1 by omega] at nx
      exact nx
    · rw [if_neg hx, List.filter_cons_of_neg hx]
      have nx := ih k (j + 1) part (by omega) (by omega) (by omega)
      rw [show ((j + 1 : Nat) : Int) = (j : Int) + 1 by omega] at nx
      exact nx
theorem zYs (hp : poor.length ≤ 4611686018427387904) (hL : L.length ≤ 1000) (k : Nat) (hk : 7000 ≤ k) :
    qQz.f k m poor d0 L plan since inc fam B a b c e f g day = some (asksS poor L plan since inc fam day) := by
  obtain ⟨k, rfl⟩ : ∃ q, k = q + 1 := ⟨k - 1, by omega⟩
  unfold qQz.f asksS
  rw [PureIn.qWv poor (k + 1) hp (by omega), obind]
  by_cases h1 : PureIn.goodT poor = true
  case neg =>
    rw [if_neg h1, if_neg (fun h => h1 h.1)]
    simp only [qQz.j0, if_true]
  rw [if_pos h1, PureD.qXc, obind]
  by_cases h2 : 0 ≤ day ∧ day ≤ 87658
  case neg =>
    rw [decide_eq_false h2, if_neg (by simp), if_neg (fun h => h2 h.2.1)]
    simp only [qQz.j0, if_true]
  rw [decide_eq_true h2, if_pos rfl, zY0 L (k + 1) (by omega) (by omega), obind]
  simp only [qQz.j0]
  by_cases h3 : badL L = true
  · rw [if_pos h3, if_neg (fun h => by rw [h3] at h; exact absurd h.2.2 (by simp))]
  · rw [if_neg h3, if_pos ⟨h1, h2, by simpa using h3⟩]
    exact zVd m poor d0 L plan since inc fam B a b c e f g day hp hL L.length k 0 [] (by omega) (by omega) (by simp; omega)
end
def wl : LT := ⟨1, 120000, 0, 0, 0, 0, false, 5, 0, 0, 1000, 400, 0⟩
theorem zXm (k : Nat) (hk : 600 ≤ k) : qWk.f k 1 120000 0 0 0 0 false 5 0 0 0 0 0 = some (1, 120000, 0, 0, 0, 0, false, 5, 0, 0, 1000, 400, 0, 0) := by
  unfold qWk.f
  rw [qVv _ _ _ _ _ _ _ _ _ _ _ _ _ k (by omega), decide_eq_true (show gd 1 120000 0 0 0 0 5 0 0 0 0 0 by decide), obind, if_pos rfl, if_pos rfl,
    Pure.of_at (b := 120000) (r := 0) (m := 120) (p := 1000) (by decide) (by omega) (by omega) (by omega) (by unfold PlainL.En; decide +kernel) (.inr (by unfold PlainL.En; decide +kernel)) k (by omega), obind, if_pos rfl,
    Pure.of_at (b := 120000) (r := 0) (m := 300) (p := 400) (by decide) (by omega) (by omega) (by omega) (by unfold PlainL.En; decide +kernel) (.inr (by unfold PlainL.En; decide +kernel)) k (by omega), obind, if_pos rfl]
theorem zY2 : ofL wl 1 40 = (1000, 0) := by decide +kernel
theorem zYo : addD 30 12 = (396, 0) := by
  have h := zYz 30 12 400 (Nat.le_refl _)
  rw [PureD.qWc 0 12 400 30 12 (by omega) (by decide +kernel) (by decide +kernel) (by omega) (by omega) (by omega)] at h
  rw [← Option.some.inj h]
  decide +kernel
theorem zQi : holdsS 4 30 40 = 4 := by
  unfold holdsS
  rw [zYo]; rfl
theorem qJ2 : sharesF [0] 1 12000 [wl] = ([100], 0) := by decide +kernel
theorem zQd : asksS [0] [wl] 4 30 12000 1 40 = ([1], [100], 0) := by
  unfold asksS
  rw [if_pos (by decide +kernel), show List.filter partL [wl] = [wl] from rfl]
  unfold partS
  rw [if_neg (by simp), zQi, if_pos rfl, qJ2, if_pos rfl]
  decide +kernel
theorem wakes18 (k : Nat) (hk : 7000 ≤ k) : qQp.f k = some true := by
  unfold qQp.f
  rw [zXm k (by omega), obind]
  dsimp only
  have h1 : qZ8.f k 1 120000 0 0 0 0 false 5 0 0 1000 400 0 1 40 = some (ofL wl 1 40) := of_is wl 1 40 k (by omega)
  rw [h1, zY2, obind]
  have h2 := zYs 0 [0] 0 [wl] 4 30 12000 1 ([] : List BT) 0 0 0 0 0 0 40 (by simp) (by simp) k hk
  rw [zQd] at h2
  unfold wl at h2
  rw [h2, obind, if_pos rfl, if_pos rfl, if_pos rfl, if_pos rfl, if_pos rfl, if_pos rfl, PureD.qKc [1] k (by simp) (by simp; omega), obind, if_pos rfl, PureSh.zZp [100] k (by simp) (by simp; omega), obind, if_pos rfl]
  rfl
theorem zXv (l : List BT) (j : Nat) (h : j < l.length) : l.drop j = qXp l j :: l.drop (j + 1) := by
  rw [List.drop_eq_getElem_cons h]; congr 1; unfold qXp; simp [List.getD_eq_getElem?_getD, h]
theorem zZg (x : LT) : qZf.f x.f0 x.f1 x.f2 x.f3 x.f4 x.f5 x.f6 x.f7 x.f8 x.f9 x.f10 x.f11 x.f12 = some (partL x) := zQo x
theorem zZn (x : LT) : qZk.f x.f0 x.f1 x.f2 x.f3 x.f4 x.f5 x.f6 x.f7 x.f8 x.f9 x.f10 x.f11 x.f12 = some (owesL x) := PureLo.qJ8 _ _ _ _ _ _ _ _ _ _ _ _ _
theorem zZ9 (a n : Int) (k : Nat) (hk : 2900 ≤ k) : qQw.f k a n = some (addD a n) := by
  obtain ⟨r, h⟩ := PureD.zXo a n
  have h1 := zYz a n k (by omega)
  rw [(h k hk).1] at h1
  rw [(h k hk).2, h1]
theorem zQb (d : Int) (L : List LT) (plan since inc fam : Int) (B : List BT) (a b c e f g day : Int) (k : Nat) (hk : 2900 ≤ k) : qZp.f k d L plan since inc fam B a b c e f g day = some (holdsS plan since day) := by
  unfold qZp.f holdsS
  by_cases h0 : plan = 0
  · rw [if_pos h0, if_pos h0]
  rw [if_neg h0, if_neg h0]
  by_cases h4 : plan = 4
  · rw [if_pos h4, if_pos h4, zZ9 _ _ k hk, obind]
    by_cases c1 : (addD since 12).2 = 0
    · rw [if_pos c1, if_pos c1]
      by_cases c2 : day < (addD since 12).1
      · rw [if_pos c2, if_neg (by omega), h4]
      · rw [if_neg c2, if_pos (by omega)]
    · rw [if_neg c1, if_neg c1]
  · rw [if_neg h4, if_neg h4]
theorem zX8 (d : Int) (L : List LT) (p s i f : Int) (B : List BT) (a b c e g h : Int) (hB : B.length ≤ 400) : ∀ (m k j : Nat), j + m = B.length → m < k → ∃ t, qQ5.l0 k j d L p s i f B a b c e g h = some t ∧ (t = false → ∀ x ∈ B.drop j, x.f5.length ≤ 100) := by
  intro m
  induction m with
  | zero =>
    intro k j hj hk
    obtain ⟨k, rfl⟩ : ∃ q, k = q + 1 := ⟨k - 1, by omega⟩
    simp only [qQ5.l0]
    rw [if_neg (by omega), List.drop_of_length_le (by omega)]; exact ⟨_, rfl, fun _ x hx => absurd hx (by simp)⟩
  | succ m ih =>
    intro k j hj hk
    obtain ⟨k, rfl⟩ : ∃ q, k = q + 1 := ⟨k - 1, by omega⟩
    have hlt : j < B.length := by omega
    rw [zXv B j hlt]
    generalize hX : qXp B j = X
    simp only [qQ5.l0, hX]
    rw [if_pos (by omega), if_pos (by omega), w64 (e := (j : Int) + 1) (by omega) (by omega)]
    by_cases c1 : (X.f5.length : Int) > 100
    · rw [if_pos c1]; exact ⟨_, rfl, fun h => by cases h⟩
    · rw [if_neg c1]
      obtain ⟨t, h1, h2⟩ := ih k (j + 1) (by omega) (by omega)
      rw [show ((j + 1 : Nat) : Int) = (j : Int) + 1 by omega] at h1
      refine ⟨t, h1, fun h x hx => ?_⟩
      rcases List.mem_cons.1 hx with rfl | hx
      · omega
      · exact h2 h x hx
theorem zWn (d : Int) (L : List LT) (p s i f : Int) (B : List BT) (a b c e g h : Int) (k : Nat) (hk : 500 ≤ k) : ∃ t, qQ5.f k d L p s i f B a b c e g h = some t ∧ (t = false → L.length ≤ 100 ∧ B.length ≤ 400 ∧ ∀ x ∈ B, x.f5.length ≤ 100) := by
  obtain ⟨k, rfl⟩ : ∃ q, k = q + 1 := ⟨k - 1, by omega⟩
  unfold qQ5.f
  by_cases c1 : (L.length : Int) > 100
  · rw [if_pos c1]
    simp only [qQ5.j0, if_true]
    exact ⟨_, rfl, fun h => by cases h⟩
  · rw [if_neg c1]
    simp only [qQ5.j0]
    by_cases c2 : (B.length : Int) > 400
    · rw [decide_eq_true c2, if_pos rfl]
      exact ⟨_, rfl, fun h => by cases h⟩
    · rw [decide_eq_false c2, if_neg (by simp)]
      obtain ⟨t, ht, h2⟩ := zX8 d L p s i f B a b c e g h (by omega) B.length k 0 (by omega) (by omega)
      exact ⟨t, ht, fun h => ⟨by omega, by omega, by have := h2 h; rw [List.drop_zero] at this; exact this⟩⟩
end Go.Proofs.YtlhcohipnieidaaGreat.PurePl
namespace Go.Proofs.YtlhcohipnieidaaGreat.PureSh
set_option linter.unusedVariables false
open Go.RowKit Go.Proofs.YtlhcohipnieidaaGreat.P W.PrintWords W.PrintLast W.PrintMore Go.Proofs.YtlhcohipnieidaaGreat.PlainM Go.Proofs.YtlhcohipnieidaaGreat.Pure
theorem zX3 : ∀ (p : List Int) (i : Nat) (x : Int), i < p.length → sumI (p.set i x) = sumI p - rd p i + x := by
  intro p
  induction p with
  | nil => intro i x h; simp at h
  | cons a p ih =>
    intro i x h
    cases i with
    | zero => simp only [List.set_cons_zero, sumI]; unfold rd; simp; omega
    | succ i =>
      have h' : i < p.length := by simpa using h
      have := ih i x h'
      have e : rd (a :: p) ((i + 1 : Nat) : Int) = rd p i := by unfold rd; rw [Int.toNat_natCast, Int.toNat_natCast]; rfl
      rw [e]
      simp only [List.set_cons_succ, sumI]
      omega
theorem zWe : ∀ (L : List Nat) (p : List Int), (∀ i ∈ L, i < p.length) → sumI (updS L p) = sumI p + L.length := by
  intro L
  induction L with
  | nil => intro p _; simp [updS]
  | cons a L ih =>
    intro p hp
    have ha := hp a (List.mem_cons_self ..)
    show sumI (updS L (p.set a (rd p a + 1))) = _
    rw [ih _ (fun i hi => by rw [List.length_set]; exact hp i (List.mem_cons_of_mem _ hi)), zX3 p a _ ha, List.length_cons]
    omega
section
variable {t : Int} {l : List Int}
theorem zVv (t S : Int) (l : List Int) : prtS t S l = updS (winS t S l) (quoS t S l) := by
  rw [zW5 _ _ (qJy _ _ _) (fun i hi => by rw [qWx]; exact zQ7 hi), qWx]
  rfl
theorem zVe (l : List Int) : (plc l).length = l.length := by rw [(qWs l).length_eq, List.length_range]
theorem zVw (hS : 0 < sumI l) : ((winS t (sumI l) l).length : Int) = lftS t (sumI l) l := by
  have h1 := qKk (t := t) hS
  have h2 := zWs (t := t) hS
  unfold winS
  rw [List.length_take, zVe, qK6]
  omega
theorem zVu (hS : 0 < sumI l) : sumI (prtS t (sumI l) l) = t := by
  rw [zVv, zWe _ _ (fun i hi => by rw [qWx]; exact zQ7 hi), zVw hS]
  unfold lftS
  omega
theorem rd_quo (t S : Int) {j : Nat} (h : j < l.length) : rd (quoS t S l) j = t * rd l j / S := zW1 l j h
theorem rd_prt (t S : Int) {j : Nat} (h : j < l.length) : rd (prtS t S l) j = t * rd l j / S + if j ∈ winS t S l then 1 else 0 := by
  unfold prtS
  rw [zZa h, rd_quo t S h]
theorem prt_nn (ht : 0 ≤ t) (hl : ∀ x ∈ l, 0 ≤ x) (hS : 0 < sumI l) : ∀ x ∈ prtS t (sumI l) l, 0 ≤ x := by
  intro x hx
  obtain ⟨j, hj, rfl⟩ := List.mem_iff_getElem.1 hx
  have hj' : j < l.length := by rw [zY6] at hj; exact hj
  have h := rd_prt t (sumI l) hj'
  have e : rd (prtS t (sumI l) l) j = (prtS t (sumI l) l)[j] := by unfold rd; simp [List.getD_eq_getElem?_getD, hj]
  rw [← e, h]
  have h1 : 0 ≤ t * rd l j / sumI l := Int.ediv_nonneg (Int.mul_nonneg ht (hl _ (zXc l j hj'))) (by omega)
  split <;> omega
end
end Go.Proofs.YtlhcohipnieidaaGreat.PureSh
namespace Go.Proofs.YtlhcohipnieidaaGreat.PurePl
set_option linter.unusedVariables false
set_option linter.unusedSimpArgs false
open Go.RowKit Go.Proofs.YtlhcohipnieidaaGreat.P W.PrintWords W.PrintLast W.PrintMore Go.Proofs.YtlhcohipnieidaaGreat.PlainM
open Go.Proofs.YtlhcohipnieidaaGreat.PureLo (owesS qVv zQm)
open Go.Proofs.YtlhcohipnieidaaGreat.PureSh (sumI gdm)
open Go.Proofs.YtlhcohipnieidaaGreat.Pure (mdS roundS)
def okA : List LT → List Int → Prop
  | [], [] => True
  | x :: l, a :: m => (0 ≤ a ∧ a ≤ 10000000000000 ∧ ((owesL x).2 = 0 → a ≤ (owesL x).1)) ∧ okA l m
  | _, _ => False
theorem zXi : ∀ (l : List LT) (m : List Int), okA l m → m.length = l.length
  | [], [], _ => rfl
  | x :: l, a :: m, h => by simp [zXi l m h.2]
  | [], _ :: _, h => h.elim
  | _ :: _, [], h => h.elim
theorem zXw (x : LT) (h : (owesL x).2 = 0) : 0 ≤ (owesL x).1 ∧ (owesL x).1 ≤ 10000000000000 := by
  unfold owesL owesS at h ⊢
  by_cases g : PureLo.gd x.f0 x.f1 x.f2 x.f3 x.f4 x.f5 x.f7 x.f8 x.f9 x.f10 x.f11 x.f12
  · rw [if_pos g] at h ⊢
    unfold PureLo.gd PureLo.mon at g
    by_cases c1 : x.f1 + x.f4 > 10000000000000
    · rw [if_pos c1] at h; cases h
    · rw [if_neg c1] at h ⊢
      by_cases c2 : x.f1 + x.f4 + x.f2 / 1000000 > 10000000000000
      · rw [if_pos c2] at h; cases h
      · rw [if_neg c2]
        have : 0 ≤ x.f2 / 1000000 := by omega
        simp only
        omega
  · rw [if_neg g] at h; cases h
theorem zXa (x : LT) (n : Int) (hn : 0 ≤ n) (h : (capL x n).2 = 0) : (0 ≤ (capL x n).1 ∧ (capL x n).1 ≤ 10000000000000 ∧ ((owesL x).2 = 0 → (capL x n).1 ≤ (owesL x).1)) ∧ (capL x n).1 ≤ n := by
  unfold capL at h ⊢
  by_cases c : (owesL x).2 = 0
  · rw [if_pos c]
    have b := zXw x c
    simp only
    unfold mn
    split <;> omega
  · rw [if_neg c] at h; exact absurd h c
theorem zWw {a b c h : Int} (ha : 0 ≤ a) (hb : 0 ≤ b) (hc : 0 < c) : 0 ≤ (mdS a b c h).1 := by
  unfold mdS
  split
  · exact Int.le_refl _
  · have h1 : 0 ≤ a * b / c := Int.ediv_nonneg (Int.mul_nonneg ha hb) (by omega)
    split
    · exact Int.le_refl _
    · unfold roundS
      (repeat' split) <;> first | exact Int.le_refl _ | exact h1 | omega
theorem zW7 (x : LT) (how day : Int) (hg : gdL x) : 0 ≤ (valL x how day).1 := by
  unfold gdL PureLo.gd PureLo.mon at hg
  unfold valL
  split
  · simp only; omega
  · split
    · simp only; omega
    · unfold PureSt.stepS
      split
      · exact Int.le_refl _
      · have := PureSt.qJk (wholeD x.f9 day / 24)
        exact zWw (by omega) (by omega) (by omega)
theorem ofL_ok (x : LT) (how day : Int) (hp : partL x = true) (h : (ofL x how day).2 = 0) : 0 ≤ (ofL x how day).1 ∧ (ofL x how day).1 ≤ 10000000000000 ∧ ((owesL x).2 = 0 → (ofL x how day).1 ≤ (owesL x).1) := by
  unfold ofL at h ⊢
  by_cases c : gdL x ∧ (1 ≤ how ∧ how ≤ 3) ∧ (0 ≤ day ∧ day ≤ 87658)
  · rw [if_pos c, if_pos hp] at h ⊢
    by_cases c2 : (valL x how day).2 = 0
    · rw [if_pos c2] at h ⊢
      exact (zXa x _ (zW7 x how day c.1) h).1
    · rw [if_neg c2] at h; exact absurd h c2
  · rw [if_neg c] at h; cases h
theorem qK3 (how day : Int) : ∀ (l : List LT) (m : List Int), m.length = l.length → (∀ x ∈ l, partL x = true) → (∀ a ∈ m, 0 ≤ a) → (firstE (valsS how day l m)).1 = 0 → okA l (firstE (valsS how day l m)).2 ∧ (how = 4 → sumI (firstE (valsS how day l m)).2 ≤ sumI m)
  | [], [], _, _, _, _ => ⟨trivial, fun _ => Int.le_refl _⟩
  | [], _ :: _, h, _, _, _ => by simp at h
  | _ :: _, [], h, _, _, _ => by simp at h
  | x :: l, n :: m, hl, hp, hm, h => by
    simp only [valsS, firstE] at h ⊢
    by_cases hv : (if how = 4 then capL x n else ofL x how day).2 = 0
    · rw [if_pos hv] at h ⊢
      by_cases h2 : (firstE (valsS how day l m)).1 = 0
      · rw [if_pos h2] at h ⊢
        have ih := qK3 how day l m (by simpa using hl) (fun y hy => hp y (List.mem_cons_of_mem _ hy)) (fun y hy => hm y (List.mem_cons_of_mem _ hy)) h2
        by_cases h4 : how = 4
        · rw [if_pos h4] at hv ⊢
          have c := zXa x n (hm n (List.mem_cons_self ..)) hv
          refine ⟨⟨c.1, ih.1⟩, fun _ => ?_⟩
          have := ih.2 h4
          simp only [sumI]
          omega
        · rw [if_neg h4] at hv ⊢
          exact ⟨⟨ofL_ok x how day (hp x (List.mem_cons_self ..)) hv, ih.1⟩, fun z => absurd z h4⟩
      · rw [if_neg h2] at h; exact absurd h h2
    · rw [if_neg hv] at h; exact absurd h hv
theorem qJd : ∀ (l : List Int), anyP l = false → (∀ x ∈ l, 0 ≤ x) → sumI l = 0
  | [], _, _ => rfl
  | a :: l, h, hn => by
    have h1 : (decide (a > 0) || anyP l) = false := h
    rw [Bool.or_eq_false_iff] at h1
    have := qJd l h1.2 (fun x hx => hn x (List.mem_cons_of_mem _ hx))
    have h2 := of_decide_eq_false h1.1
    have h3 := hn a (List.mem_cons_self ..)
    simp only [sumI]
    omega
theorem zVh (poor : List Int) (fam inc : Int) : 0 ≤ (PureIn.askS poor fam inc).1 := by
  unfold PureIn.askS
  split
  · rename_i h
    exact zWw (PureIn.zQy h).1 (by omega) (by omega)
  · exact Int.le_refl _
theorem zYx (poor : List Int) (fam inc : Int) (l : List LT) (hl : ∀ x ∈ l, 0 ≤ x.f1) (h : (sharesF poor fam inc l).2 = 0) :
    (PureIn.askS poor fam inc).2 = 0 ∧ (∀ a ∈ (sharesF poor fam inc l).1, 0 ≤ a) ∧ sumI (sharesF poor fam inc l).1 ≤ (PureIn.askS poor fam inc).1 := by
  have hp : ∀ x ∈ prinL l, 0 ≤ x := by
    intro x hx
    obtain ⟨y, hy, rfl⟩ := List.mem_map.1 hx
    exact hl y hy
  unfold sharesF at h ⊢
  by_cases c : (PureIn.askS poor fam inc).2 = 0
  · rw [if_pos c] at h ⊢
    refine ⟨c, ?_⟩
    have nn := zVh poor fam inc
    unfold sharesS at h ⊢
    by_cases c2 : anyP (prinL l) = true
    · rw [if_pos c2] at h ⊢
      unfold PureSh.splitF at h ⊢
      split
      · rename_i g
        exact ⟨PureSh.prt_nn nn hp g.2.2.2.2, Int.le_of_eq (PureSh.zVu g.2.2.2.2)⟩
      · rename_i g
        rw [if_neg g] at h; cases h
    · rw [if_neg c2]
      exact ⟨hp, by rw [qJd (prinL l) (by simpa using c2) hp]; exact nn⟩
  · rw [if_neg c] at h; exact absurd h c
theorem zZz (poor : List Int) (L : List LT) (plan since inc fam day : Int) :
    ((asksS poor L plan since inc fam day).2.2 ≠ 0 → (asksS poor L plan since inc fam day).1 = [] ∧ (asksS poor L plan since inc fam day).2.1 = []) ∧
    ((asksS poor L plan since inc fam day).2.2 = 0 → (asksS poor L plan since inc fam day).1 = (L.filter partL).map (fun x => x.f0) ∧ okA (L.filter partL) (asksS poor L plan since inc fam day).2.1 ∧
      (L.filter partL ≠ [] → holdsS plan since day = 4 → (PureIn.askS poor fam inc).2 = 0 ∧ sumI (asksS poor L plan since inc fam day).2.1 ≤ (PureIn.askS poor fam inc).1)) := by
  unfold asksS
  by_cases c : PureIn.goodT poor = true ∧ (0 ≤ day ∧ day ≤ 87658) ∧ badL L = false
  case neg => rw [if_neg c]; exact ⟨fun _ => ⟨rfl, rfl⟩, fun h => by cases h⟩
  rw [if_pos c]
  have hgood : ∀ x ∈ L.filter partL, gdL x := by
    intro x hx
    have hm := (List.mem_filter.1 hx).1
    have hb := c.2.2
    unfold badL at hb
    rw [List.any_eq_false] at hb
    have := hb x hm
    simpa using this
  have hpart : ∀ x ∈ L.filter partL, partL x = true := fun x hx => (List.mem_filter.1 hx).2
  generalize L.filter partL = P at *
  unfold partS
  by_cases hP : P = []
  · subst hP; rw [if_pos rfl]; exact ⟨fun h => absurd rfl h, fun _ => ⟨rfl, trivial, fun h => absurd rfl h⟩⟩
  rw [if_neg hP]
  by_cases h4 : holdsS plan since day = 4
  · rw [if_pos h4]
    by_cases hs : (sharesF poor fam inc P).2 = 0
    · rw [if_pos hs]
      have so := zYx poor fam inc P (fun x hx => by have g := hgood x hx; unfold gdL PureLo.gd PureLo.mon at g; omega) hs
      unfold finS
      by_cases hf : (firstE (valsS 4 day P (sharesF poor fam inc P).1)).1 = 0
      · rw [if_pos hf]
        have fo := qK3 4 day P _ (qKe hs) hpart so.2.1 hf
        refine ⟨fun h => absurd rfl h, fun _ => ⟨rfl, by simpa using fo.1, fun _ _ => ⟨so.1, ?_⟩⟩⟩
        have := fo.2 rfl
        simp only [List.nil_append]
        exact Int.le_trans this so.2.2
      · rw [if_neg hf]; exact ⟨fun _ => ⟨rfl, rfl⟩, fun h => absurd h hf⟩
    · rw [if_neg hs]; exact ⟨fun _ => ⟨rfl, rfl⟩, fun h => absurd h hs⟩
  · rw [if_neg h4]
    unfold finS
    by_cases hf : (firstE (valsS (holdsS plan since day) day P (List.replicate P.length 0))).1 = 0
    · rw [if_pos hf]
      have fo := qK3 (holdsS plan since day) day P _ (by simp) hpart (fun a ha => by rw [List.eq_of_mem_replicate ha]; omega) hf
      exact ⟨fun h => absurd rfl h, fun _ => ⟨rfl, by simpa using fo.1, fun _ h => absurd h h4⟩⟩
    · rw [if_neg hf]; exact ⟨fun _ => ⟨rfl, rfl⟩, fun h => absurd h hf⟩
section
variable (poor : List Int) (day : Int) (ids asks : List Int) (d0 : Int) (L : List LT) (plan since inc fam : Int) (B : List BT) (a b c e f g : Int)
theorem zVf (hlen : asks.length = ids.length) (hids : ids.length ≤ 1000) (hL : L.length ≤ 100)
    (hfin : ∀ k S, 7100 ≤ k → S ≤ sumI asks → qQy.l0 (k + 1) poor day ids asks ids.length S L.length d0 L plan since inc fam B a b c e f g = some true) :
    ∀ (d k j p : Nat) (S : Int), j + d = L.length → d + 7200 < k → ids.drop p = ((L.drop j).filter partL).map (fun x => x.f0) → okA ((L.drop j).filter partL) (asks.drop p) → p ≤ ids.length → 0 ≤ S → S + sumI (asks.drop p) = sumI asks → S ≤ 10000000000000 * p →
    qQy.l0 k poor day ids asks p S j d0 L plan since inc fam B a b c e f g = some true := by
  intro d
  induction d with
  | zero =>
    intro k j p S hj hk h1 h2 hp h0 h3 h4
    obtain ⟨k, rfl⟩ : ∃ q, k = q + 1 := ⟨k - 1, by omega⟩
    obtain rfl : j = L.length := by omega
    rw [List.drop_length] at h1 h2
    have hp2 : ids.length ≤ p := List.drop_eq_nil_iff.1 h1
    obtain rfl : p = ids.length := by omega
    rw [List.drop_of_length_le (by omega)] at h3
    simp only [sumI] at h3
    exact hfin k S (by omega) (by omega)
  | succ d ih =>
    intro k j p S hj hk h1 h2 hp h0 h3 h4
    obtain ⟨k, rfl⟩ : ∃ q, k = q + 1 := ⟨k - 1, by omega⟩
    have hlt : j < L.length := by omega
    rw [qK2 L j hlt] at h1 h2
    generalize hX : qQa L j = X at h1 h2
    simp only [qQy.l0, hX]
    rw [if_pos (by omega), if_pos (by omega), zZg X, obind, w64 (e := (j : Int) + 1) (by omega) (by omega)]
    by_cases hx : partL X = true
    · rw [List.filter_cons_of_pos hx] at h1 h2
      rw [List.map_cons] at h1
      have hpl : p < ids.length := by
        refine Nat.lt_of_not_le fun hc => ?_
        rw [List.drop_of_length_le hc] at h1
        cases h1
      rw [PureSh.qJ9 ids p hpl] at h1
      rw [PureSh.qJ9 asks p (by omega)] at h2 h3
      obtain ⟨e1, e2⟩ := List.cons.inj h1
      obtain ⟨⟨b1, b2, b3⟩, h2⟩ := h2
      simp only [sumI] at h3
      have nx := ih k (j + 1) (p + 1) (S + rd asks p) (by omega) (by omega) e2 h2 (by omega) (by omega) (by omega) (by omega)
      rw [show ((j + 1 : Nat) : Int) = (j : Int) + 1 by omega, show ((p + 1 : Nat) : Int) = (p : Int) + 1 by omega] at nx
      rw [if_pos hx, zZn X, obind, if_neg (by omega), if_pos (by omega), if_pos (by omega), if_pos e1, w64 (e := (p : Int) + 1) (by omega) (by omega), w64 (e := S + rd asks p) (by omega) (by omega)]
      by_cases ho : (owesL X).2 = 0
      · rw [if_pos ho, if_pos (by omega), if_neg (by omega), if_neg (by have := b3 ho; omega)]; exact nx
      · rw [if_neg ho, if_pos (by omega)]; exact nx
    · rw [List.filter_cons_of_neg hx] at h1 h2
      have nx := ih k (j + 1) p S (by omega) (by omega) h1 h2 hp h0 h3 h4
      rw [show ((j + 1 : Nat) : Int) = (j : Int) + 1 by omega] at nx
      rw [if_neg hx]; exact nx
end
theorem PlanMost (l0 : List Int) (a1_0 : Int) (l1_1 : List LT) (a1_2 a1_3 a1_4 a1_5 : Int) (l1_6 : List BT) (a1_7 a1_8 a1_9 a1_10 a1_11 a1_12 a2 : Int) (hm0 : l0.length ≤ maxLen) (hm1 : l1_1.length ≤ maxLen) (hm6 : l1_6.length ≤ maxLen) :
    ∃ k, qQy.f k l0 a1_0 l1_1 a1_2 a1_3 a1_4 a1_5 l1_6 a1_7 a1_8 a1_9 a1_10 a1_11 a1_12 a2 = some true := by
  obtain ⟨k, hk⟩ : ∃ k : Nat, 8000 ≤ k := ⟨_, Nat.le_refl _⟩
  refine ⟨k, ?_⟩
  unfold qQy.f
  obtain ⟨t, ht, hL⟩ := zWn a1_0 l1_1 a1_2 a1_3 a1_4 a1_5 l1_6 a1_7 a1_8 a1_9 a1_10 a1_11 a1_12 k (by omega)
  rw [ht, obind]
  cases t with
  | true => rw [if_pos rfl, wakes18 k (by omega)]; rfl
  | false =>
    rw [if_neg (by simp)]
    by_cases cp : (l0.length : Int) > 100
    · rw [if_pos cp, wakes18 k (by omega)]; rfl
    have hL := (hL rfl).1
    rw [if_neg cp, zYs 0 l0 a1_0 l1_1 a1_2 a1_3 a1_4 a1_5 l1_6 a1_7 a1_8 a1_9 a1_10 a1_11 a1_12 a2 (by omega) (by omega) k (by omega), obind]
    obtain ⟨f1, f2⟩ := zZz l0 l1_1 a1_2 a1_3 a1_4 a1_5 a2
    by_cases he : (asksS l0 l1_1 a1_2 a1_3 a1_4 a1_5 a2).2.2 = 0
    case neg =>
      obtain ⟨g1, g2⟩ := f1 he
      have hz : ((([] : List Int).length : Nat) : Int) = 0 := rfl
      rw [if_neg he, g1, g2, if_pos hz, if_pos hz, wakes18 k (by omega)]; rfl
    obtain ⟨g1, g2, g3⟩ := f2 he
    have hlen := zXi _ _ g2
    rw [if_pos he]
    generalize (asksS l0 l1_1 a1_2 a1_3 a1_4 a1_5 a2).1 = ids at *
    generalize (asksS l0 l1_1 a1_2 a1_3 a1_4 a1_5 a2).2.1 = asks at *
    have hl2 : asks.length = ids.length := by rw [hlen, g1, List.length_map]
    have hfl : (l1_1.filter partL).length ≤ l1_1.length := List.length_filter_le _ _
    have hil : ids.length = (l1_1.filter partL).length := by rw [g1, List.length_map]
    rw [if_pos (by omega)]
    refine zVf l0 a2 ids asks a1_0 l1_1 a1_2 a1_3 a1_4 a1_5 l1_6 a1_7 a1_8 a1_9 a1_10 a1_11 a1_12 hl2 (by omega) hL ?_ l1_1.length k 0 0 0 (by omega) (by omega) (by rw [List.drop_zero, List.drop_zero]; exact g1) (by rw [List.drop_zero, List.drop_zero]; exact g2) (by omega) (by omega) (by rw [List.drop_zero]; omega) (by omega)
    intro k S hk hS
    simp only [qQy.l0]
    rw [if_neg (by omega), if_pos trivial, wakes18 k (by omega), zQb _ _ _ _ _ _ _ _ _ _ _ _ _ _ k (by omega)]
    simp only [obind]
    by_cases hz : (ids.length : Int) = 0
    · rw [if_pos hz]
    rw [if_neg hz]
    by_cases h4 : holdsS a1_2 a1_3 a2 = 4
    · have g := g3 (fun z => hz (by rw [hil, z]; rfl)) h4
      rw [if_pos h4, PureIn.zZh l0 a1_5 a1_4 k (by omega) (by omega), obind, if_pos g.1, if_pos (Int.le_trans hS g.2)]
    · rw [if_neg h4]
end Go.Proofs.YtlhcohipnieidaaGreat.PurePl
