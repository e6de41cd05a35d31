/- A part of a proof. -/
import Derived.Test.YteemomncbcpdjaaZlu
import Derived.Test.YteemomncbcpdjaaPx3
import Derived.Test.YteemomncbcpdjaaPx4
import Derived.Test.YteemomncbcpdjaaPx5
import Derived.Test.YteemomncbcpdjaaPx9
import Derived.Test.YteemomncbcpdjaaPx10
import Derived.Test.YteemomncbcpdjaaPx11
import Derived.Test.YteemomncbcpdjaaPx12
import Derived.Test.YteemomncbcpdjaaPlainMoney
namespace Go.Proofs.Yteemomncbcpdjaa.Pure
set_option linter.unusedVariables false
set_option linter.unusedSimpArgs false
open Go.RowKit Go.Proofs.Yteemomncbcpdjaa.P W.PrintWords W.PrintLast W.PrintMore Go.Proofs.Yteemomncbcpdjaa.PlainM
theorem qX8 (a : Int) : qZm.f a = some (decide (-10000000000000 ≤ a ∧ a ≤ 10000000000000)) := by
  unfold qZm.f
  by_cases c : a ≥ -10000000000000
  · rw [if_pos c]; congr 1; rw [decide_eq_decide]; omega
  · rw [if_neg c, decide_eq_false (by omega)]
theorem qWs (a : Int) : qZ1.f a = some (decide (-10000000000000 ≤ a ∧ a ≤ 10000000000000)) := by
  unfold qZ1.f
  by_cases c : a ≥ -10000000000000
  · rw [if_pos c]; congr 1; rw [decide_eq_decide]; omega
  · rw [if_neg c, decide_eq_false (by omega)]
def mon (a : Int) : Prop := 0 ≤ a ∧ a ≤ 10000000000000
instance (a : Int) : Decidable (mon a) := by unfold mon; infer_instance
def gd (id pr it su fe ppm st cl en le fa ct : Int) : Prop :=
  (1 ≤ id ∧ id ≤ 1000) ∧ (mon pr ∧ mon fe ∧ mon le ∧ mon fa) ∧ ((0 ≤ it ∧ it ≤ 1000000000000000000) ∧ 0 ≤ su ∧ su ≤ 1000000000000000000) ∧ ((0 ≤ ppm ∧ ppm ≤ 1000000) ∧ (1 ≤ st ∧ st ≤ 5) ∧ 0 ≤ cl ∧ cl ≤ 4) ∧ (-1 ≤ en ∧ en ≤ 87658) ∧ 0 ≤ ct ∧ (cl = 0 ∨ pr = 0 ∧ it = 0 ∧ fe = 0)
instance (id pr it su fe ppm st cl en le fa ct : Int) : Decidable (gd id pr it su fe ppm st cl en le fa ct) := by unfold gd; infer_instance
theorem qX2 (l : List Int) (k j : Nat) (hj : j < 4) (h4 : l.length = 4) :
    qZy.l0 (k + 1) l 4 (j : Int) = if mon (rd l j) then qZy.l0 k l 4 ((j + 1 : Nat) : Int) else some false := by
  simp only [qZy.l0]
  rw [if_pos (by omega), if_pos (by omega), if_pos (by rw [h4]; omega)]
  by_cases c1 : rd l j < 0
  · rw [if_pos c1, if_neg (by unfold mon; omega)]
  · rw [if_neg c1, qX8]
    simp only [obind]
    rw [w64 (by omega) (by omega)]
    by_cases c2 : -10000000000000 ≤ rd l j ∧ rd l j ≤ 10000000000000
    · rw [decide_eq_true c2, if_pos rfl, if_pos (by unfold mon; omega)]; rfl
    · rw [decide_eq_false c2, if_neg (by simp), if_neg (by unfold mon; omega)]
theorem zQq (a b c d : Int) (k : Nat) (hk : 10 ≤ k) : qZy.f k [a, b, c, d] = some (decide (mon a ∧ mon b ∧ mon c ∧ mon d)) := by
  obtain ⟨k, rfl⟩ : ∃ m, k = m + 5 := ⟨k - 5, by omega⟩
  unfold qZy.f
  rw [show (([a, b, c, d] : List Int).length : Int) = 4 from rfl, show (0 : Int) = ((0 : Nat) : Int) from rfl, qX2 _ (k + 4) 0 (by omega) rfl, qX2 _ (k + 3) 1 (by omega) rfl, qX2 _ (k + 2) 2 (by omega) rfl, qX2 _ (k + 1) 3 (by omega) rfl]
  have e : qZy.l0 (k + 1) [a, b, c, d] 4 ((3 + 1 : Nat) : Int) = some true := by simp only [qZy.l0]; rw [if_neg (by omega)]
  rw [e, show rd [a, b, c, d] ((0 : Nat) : Int) = a from rfl, show rd [a, b, c, d] ((1 : Nat) : Int) = b from rfl, show rd [a, b, c, d] ((2 : Nat) : Int) = c from rfl, show rd [a, b, c, d] ((3 : Nat) : Int) = d from rfl]
  by_cases h1 : mon a
  · rw [if_pos h1]
    by_cases h2 : mon b
    · rw [if_pos h2]
      by_cases h3 : mon c
      · rw [if_pos h3]
        by_cases h4 : mon d
        · rw [if_pos h4, decide_eq_true ⟨h1, h2, h3, h4⟩]
        · rw [if_neg h4, decide_eq_false (fun h => h4 h.2.2.2)]
      · rw [if_neg h3, decide_eq_false (fun h => h3 h.2.2.1)]
    · rw [if_neg h2, decide_eq_false (fun h => h2 h.2.1)]
  · rw [if_neg h1, decide_eq_false (fun h => h1 h.1)]
theorem qJl (id pr it su fe ppm : Int) (sd : Bool) (st cl en le fa ct : Int) (k : Nat) (hk : 10 ≤ k) :
    qQy.f k id pr it su fe ppm sd st cl en le fa ct = some (decide (gd id pr it su fe ppm st cl en le fa ct)) := by
  obtain ⟨k, rfl⟩ : ∃ m, k = m + 4 := ⟨k - 4, by omega⟩
  have e2 : ∀ k, qQy.j2 (k + 1) true id pr it su fe ppm sd st cl en le fa ct = some false := fun k => by simp only [qQy.j2, if_true]
  have e1 : ∀ k, qQy.j1 (k + 1) true id pr it su fe ppm sd st cl en le fa ct = some false := fun k => by simp only [qQy.j1, if_true]
  have e0 : ∀ k, qQy.j0 (k + 1) true id pr it su fe ppm sd st cl en le fa ct = some false := fun k => by simp only [qQy.j0, if_true]
  have F : ¬ gd id pr it su fe ppm st cl en le fa ct → some false = some (decide (gd id pr it su fe ppm st cl en le fa ct)) := fun h => by rw [decide_eq_false h]
  unfold qQy.f
  by_cases h1 : id < 1
  · rw [if_pos h1, e0]; exact F (fun h => by unfold gd at h; omega)
  rw [if_neg h1]
  by_cases h2 : id > 1000
  · rw [if_pos h2, e0]; exact F (fun h => by unfold gd at h; omega)
  rw [if_neg h2, zQq _ _ _ _ _ (by omega)]
  simp only [obind]
  by_cases h3 : mon pr ∧ mon fe ∧ mon le ∧ mon fa
  case neg => rw [decide_eq_false h3]; simp only [Bool.not_false]; rw [e0]; exact F (fun h => h3 h.2.1)
  rw [decide_eq_true h3]
  simp only [Bool.not_true, qQy.j0]
  rw [if_neg (by simp)]
  by_cases h4 : it < 0
  · rw [if_pos h4, e1]; exact F (fun h => by unfold gd at h; omega)
  rw [if_neg h4]
  by_cases h5 : it > 1000000000000000000
  · rw [if_pos h5, e1]; exact F (fun h => by unfold gd at h; omega)
  rw [if_neg h5]
  by_cases h6 : su < 0
  · rw [if_pos h6, e1]; exact F (fun h => by unfold gd at h; omega)
  rw [if_neg h6]
  by_cases h7 : su > 1000000000000000000
  · rw [decide_eq_true h7, e1]; exact F (fun h => by unfold gd at h; omega)
  rw [decide_eq_false h7]
  simp only [qQy.j1]
  rw [if_neg (by simp)]
  by_cases h8 : ppm < 0
  · rw [if_pos h8, e2]; exact F (fun h => by unfold gd at h; omega)
  rw [if_neg h8]
  by_cases h9 : ppm > 1000000
  · rw [if_pos h9, e2]; exact F (fun h => by unfold gd at h; omega)
  rw [if_neg h9]
  by_cases h10 : st < 1
  · rw [if_pos h10, e2]; exact F (fun h => by unfold gd at h; omega)
  rw [if_neg h10]
  by_cases h11 : st > 5
  · rw [if_pos h11, e2]; exact F (fun h => by unfold gd at h; omega)
  rw [if_neg h11]
  by_cases h12 : cl < 0
  · rw [if_pos h12, e2]; exact F (fun h => by unfold gd at h; omega)
  rw [if_neg h12]
  by_cases h13 : cl > 4
  · rw [decide_eq_true h13, e2]; exact F (fun h => by unfold gd at h; omega)
  rw [decide_eq_false h13]
  simp only [qQy.j2]
  rw [if_neg (by simp)]
  by_cases h14 : en < -1
  · rw [if_pos h14]; exact F (fun h => by unfold gd at h; omega)
  rw [if_neg h14]
  by_cases h15 : en > 87658
  · rw [if_pos h15]; exact F (fun h => by unfold gd at h; omega)
  rw [if_neg h15]
  by_cases h16 : ct < 0
  · rw [decide_eq_true h16]; simp only [qQy.j3, if_true]; exact F (fun h => by unfold gd at h; omega)
  rw [decide_eq_false h16]
  simp only [qQy.j3]
  rw [if_neg (by simp)]
  have G : ∀ {b : Bool}, (b = true ↔ (cl = 0 ∨ pr = 0 ∧ it = 0 ∧ fe = 0)) → some b = some (decide (gd id pr it su fe ppm st cl en le fa ct)) := fun {b} h => by
    have e : (gd id pr it su fe ppm st cl en le fa ct) ↔ (cl = 0 ∨ pr = 0 ∧ it = 0 ∧ fe = 0) :=
      ⟨fun h => h.2.2.2.2.2.2, fun h => ⟨by omega, h3, ⟨by omega, by omega⟩, ⟨by omega, by omega, by omega⟩, by omega, by omega, h⟩⟩
    cases b with
    | true => rw [decide_eq_true (e.mpr (h.mp rfl))]
    | false => rw [decide_eq_false (fun c => by have := h.mpr (e.mp c); cases this)]
  by_cases h17 : cl = 0
  · rw [if_pos h17]; exact G ⟨fun _ => .inl h17, fun _ => rfl⟩
  rw [if_neg h17]
  by_cases h18 : pr = 0
  case neg => rw [if_neg h18]; exact G ⟨fun h => by simp at h, fun h => by omega⟩
  rw [if_pos h18]
  by_cases h19 : it = 0
  case neg => rw [if_neg h19]; exact G ⟨fun h => by simp at h, fun h => by omega⟩
  rw [if_pos h19]
  exact G ⟨fun h => .inr ⟨h18, h19, by simpa using h⟩, fun h => by simp; omega⟩
def Zl (e : Int) : Int × Int × Int × Int × Int × Int × Bool × Int × Int × Int × Int × Int × Int × Int := (0, 0, 0, 0, 0, 0, false, 0, 0, 0, 0, 0, 0, e)
def payS (id pr it su fe ppm : Int) (sd : Bool) (st cl en le fa ct pf pi pp : Int) : Int × Int × Int × Int × Int × Int × Bool × Int × Int × Int × Int × Int × Int × Int :=
  if gd id pr it su fe ppm st cl en le fa ct then (if pf < 0 ∨ pi < 0 ∨ pp < 0 then Zl 1 else if ¬ cl = 0 then Zl 61 else if fe < pf ∨ it / 1000000 < pi ∨ pr < pp then Zl 14
    else if fe - pf = 0 ∧ (it - pi * 1000000) / 1000000 = 0 ∧ pr - pp = 0 then (id, 0, 0, su, 0, ppm, sd, st, 1, en, le, fa, ct, 0) else (id, pr - pp, it - pi * 1000000, su, fe - pf, ppm, sd, st, 0, en, le, fa, ct, 0)) else Zl 1
theorem pay_is (id pr it su fe ppm : Int) (sd : Bool) (st cl en le fa ct pf pi pp : Int) (k : Nat) (hk : 10 ≤ k) : qZr.f k id pr it su fe ppm sd st cl en le fa ct pf pi pp = some (payS id pr it su fe ppm sd st cl en le fa ct pf pi pp) := by
  unfold qZr.f payS
  rw [qJl _ _ _ _ _ _ _ _ _ _ _ _ _ k hk]
  simp only [obind, decide_eq_true_eq]
  by_cases g : gd id pr it su fe ppm st cl en le fa ct
  · rw [if_pos g, if_pos g]
    have g' := g
    unfold gd mon at g'
    rw [if_pos ⟨g'.2.2.1.1, g'.2.1.2.1.2, g'.2.1.1.2⟩]
    by_cases c0 : pf < 0 ∨ pi < 0 ∨ pp < 0
    · rw [if_pos c0, if_pos c0]; rfl
    rw [if_neg c0, if_neg c0]
    by_cases c1 : ¬ cl = 0
    · rw [if_pos c1, if_pos c1]; rfl
    rw [if_neg c1, if_neg c1]
    by_cases c2 : fe < pf ∨ it / 1000000 < pi ∨ pr < pp
    · rw [if_pos c2, if_pos c2]; rfl
    rw [if_neg c2, if_neg c2]
    by_cases c3 : fe - pf = 0 ∧ (it - pi * 1000000) / 1000000 = 0 ∧ pr - pp = 0
    · rw [if_pos c3, if_pos c3]
    · rw [if_neg c3, if_neg c3]
  · rw [if_neg g, if_neg g]; rfl
theorem qV8 (a : Int) : qQl.f a = some (decide (mon a)) := by
  unfold qQl.f
  by_cases c : a ≥ 0
  · rw [if_pos c, qWs]; simp only [obind]; congr 1; rw [decide_eq_decide]; unfold mon; omega
  · rw [if_neg c, decide_eq_false (by unfold mon; omega)]
theorem qVt (a : Int) : qQr.f a = some (decide (0 ≤ a ∧ a ≤ 1000000000000000000)) := by
  unfold qQr.f
  by_cases c : a ≥ 0
  · rw [if_pos c]; congr 1; rw [decide_eq_decide]; omega
  · rw [if_neg c, decide_eq_false (by omega)]
theorem qX6 (id pr it su fe ppm : Int) (sd : Bool) (st cl en le fa ct : Int) (k : Nat) (hk : 10 ≤ k) :
    qQd.f k id pr it su fe ppm sd st cl en le fa ct = some (decide (gd id pr it su fe ppm st cl en le fa ct)) := by
  have F : ¬ gd id pr it su fe ppm st cl en le fa ct → some false = some (decide (gd id pr it su fe ppm st cl en le fa ct)) := fun h => by rw [decide_eq_false h]
  obtain ⟨k, rfl⟩ : ∃ m, k = m + 1 := ⟨k - 1, by omega⟩
  have e0 : qQd.j0 (k + 1) true id pr it su fe ppm sd st cl en le fa ct = some false := by simp only [qQd.j0, if_true]
  unfold qQd.f
  by_cases h1 : id < 1
  · rw [if_pos h1]; rw [e0]; exact F (fun h => by unfold gd at h; omega)
  rw [if_neg h1]
  by_cases h2 : id > 1000
  · rw [if_pos h2]; rw [e0]; exact F (fun h => by unfold gd at h; omega)
  rw [if_neg h2]
  simp only [qV8, qVt, obind, decide_eq_true_eq]
  by_cases a1 : mon pr
  case neg => rw [if_neg a1]; rw [e0]; exact F (fun h => a1 h.2.1.1)
  rw [if_pos a1]
  by_cases a2 : mon fe
  case neg => rw [if_neg a2]; rw [e0]; exact F (fun h => a2 h.2.1.2.1)
  rw [if_pos a2]
  by_cases a3 : 0 ≤ it ∧ it ≤ 1000000000000000000
  case neg => rw [if_neg a3]; rw [e0]; exact F (fun h => a3 h.2.2.1.1)
  rw [if_pos a3]
  by_cases a4 : 0 ≤ su ∧ su ≤ 1000000000000000000
  case neg => rw [if_neg a4]; rw [e0]; exact F (fun h => a4 h.2.2.1.2)
  rw [if_pos a4]
  by_cases h8 : ppm < 0
  · rw [if_pos h8]; rw [e0]; exact F (fun h => by unfold gd at h; omega)
  rw [if_neg h8]
  by_cases h9 : ppm > 1000000
  · rw [if_pos h9]; rw [e0]; exact F (fun h => by unfold gd at h; omega)
  rw [if_neg h9]
  by_cases h10 : st < 1
  · rw [if_pos h10]; rw [e0]; exact F (fun h => by unfold gd at h; omega)
  rw [if_neg h10]
  by_cases h11 : st > 5
  · rw [if_pos h11]; rw [e0]; exact F (fun h => by unfold gd at h; omega)
  rw [if_neg h11]
  by_cases h12 : cl < 0
  · rw [if_pos h12]; rw [e0]; exact F (fun h => by unfold gd at h; omega)
  rw [if_neg h12]
  by_cases h13 : cl > 4
  · rw [if_pos h13]; rw [e0]; exact F (fun h => by unfold gd at h; omega)
  rw [if_neg h13]
  by_cases h14 : en < -1
  · rw [if_pos h14]; rw [e0]; exact F (fun h => by unfold gd at h; omega)
  rw [if_neg h14]
  by_cases h15 : en > 87658
  · rw [if_pos h15]; rw [e0]; exact F (fun h => by unfold gd at h; omega)
  rw [if_neg h15]
  by_cases a5 : mon le
  case neg => rw [if_neg a5]; rw [e0]; exact F (fun h => a5 h.2.1.2.2.1)
  rw [if_pos a5]
  by_cases a6 : mon fa
  case neg => rw [if_neg a6]; rw [e0]; exact F (fun h => a6 h.2.1.2.2.2)
  rw [if_pos a6]
  by_cases h16 : ct < 0
  · rw [decide_eq_true h16, e0]; exact F (fun h => by unfold gd at h; omega)
  rw [decide_eq_false h16]
  simp only [qQd.j0]
  rw [if_neg (by simp)]
  have G : ∀ {b : Bool}, (b = true ↔ (cl = 0 ∨ pr = 0 ∧ it = 0 ∧ fe = 0)) → some b = some (decide (gd id pr it su fe ppm st cl en le fa ct)) := fun {b} h => by
    have e : (gd id pr it su fe ppm st cl en le fa ct) ↔ (cl = 0 ∨ pr = 0 ∧ it = 0 ∧ fe = 0) :=
      ⟨fun h => h.2.2.2.2.2.2, fun h => ⟨by omega, ⟨a1, a2, a5, a6⟩, ⟨a3, a4⟩, ⟨by omega, by omega, by omega⟩, by omega, by omega, h⟩⟩
    cases b with
    | true => rw [decide_eq_true (e.mpr (h.mp rfl))]
    | false => rw [decide_eq_false (fun c => by have := h.mpr (e.mp c); cases this)]
  by_cases h17 : cl = 0
  · rw [if_pos h17]; exact G ⟨fun _ => .inl h17, fun _ => rfl⟩
  rw [if_neg h17]
  by_cases h18 : pr = 0
  case neg => rw [if_neg h18]; exact G ⟨fun h => by simp at h, fun h => by omega⟩
  rw [if_pos h18]
  by_cases h19 : it = 0
  case neg => rw [if_neg h19]; exact G ⟨fun h => by simp at h, fun h => by omega⟩
  rw [if_pos h19]
  exact G ⟨fun h => .inr ⟨h18, h19, by simpa using h⟩, fun h => by simp; omega⟩
theorem qK2 (id pr it su fe ppm : Int) (sd : Bool) (st cl en le fa ct pf pi pp : Int) (k : Nat) (hk : 20 ≤ k) : qQp.f k id pr it su fe ppm sd st cl en le fa ct pf pi pp = some (payS id pr it su fe ppm sd st cl en le fa ct pf pi pp) := by
  obtain ⟨k, rfl⟩ : ∃ m, k = m + 4 := ⟨k - 4, by omega⟩
  have e0 : ∀ k, qQp.j0 (k + 1) pf pi pp true id pr it su fe ppm sd st cl en le fa ct = some (Zl 1) := fun k => by simp only [qQp.j0, if_true]; rfl
  have e1 : ∀ k, qQp.j1 (k + 1) pf pi pp true id pr it su fe ppm sd st cl en le fa ct = some (Zl 14) := fun k => by simp only [qQp.j1, if_true]; rfl
  unfold qQp.f payS
  rw [qX6 _ _ _ _ _ _ _ _ _ _ _ _ _ (k + 4) (by omega)]
  simp only [obind, decide_eq_true_eq]
  by_cases g : gd id pr it su fe ppm st cl en le fa ct
  case neg => rw [if_neg g, if_neg g, e0]
  rw [if_pos g, if_pos g]
  have g' := g
  unfold gd mon at g'
  by_cases c0 : pf < 0 ∨ pi < 0 ∨ pp < 0
  · rw [if_pos c0]
    by_cases d1 : pf < 0
    · rw [if_pos d1, e0]
    rw [if_neg d1]
    by_cases d2 : pi < 0
    · rw [if_pos d2, e0]
    rw [if_neg d2, decide_eq_true (by omega), e0]
  rw [if_neg c0, if_neg (by omega), if_neg (by omega), decide_eq_false (by omega)]
  simp only [qQp.j0]
  rw [if_neg (by simp)]
  by_cases c1 : cl = 0
  case neg => rw [if_neg c1, if_pos c1]; rfl
  rw [if_pos c1, if_neg (show ¬ ¬ cl = 0 from fun h => h c1)]
  have hw : qZa.f it = some (it / 1000000) := by
    unfold qZa.f
    rw [if_neg (by omega), Int.tdiv_eq_ediv_of_nonneg (by omega), w64 (by omega) (by omega)]
  by_cases c2 : fe < pf ∨ it / 1000000 < pi ∨ pr < pp
  · rw [if_pos c2]
    by_cases d1 : pf > fe
    · rw [if_pos d1, e1]
    rw [if_neg d1, hw]
    simp only [obind]
    by_cases d2 : pi > it / 1000000
    · rw [if_pos d2, e1]
    rw [if_neg d2, decide_eq_true (by omega), e1]
  rw [if_neg c2, if_neg (by omega), hw]
  simp only [obind]
  rw [if_neg (by omega), decide_eq_false (by omega)]
  simp only [qQp.j1]
  rw [if_neg (by simp), w64 (e := fe - pf) (by omega) (by omega), w64 (e := pr - pp) (by omega) (by omega), w64 (e := pi * 1000000) (by omega) (by omega), w64 (e := it - pi * 1000000) (by omega) (by omega)]
  have hw2 : qZa.f (it - pi * 1000000) = some ((it - pi * 1000000) / 1000000) := by
    unfold qZa.f
    rw [if_neg (by omega), Int.tdiv_eq_ediv_of_nonneg (by omega), w64 (by omega) (by omega)]
  by_cases c3 : fe - pf = 0
  case neg => rw [if_neg c3, if_neg (fun h => c3 h.1)]; simp only [qQp.j2]; rw [if_neg (by simp), c1]
  rw [if_pos c3]
  by_cases c4 : pr - pp = 0
  case neg => rw [if_neg c4, if_neg (fun h => c4 h.2.2)]; simp only [qQp.j2]; rw [if_neg (by simp), c1]
  rw [if_pos c4, hw2]
  simp only [obind, qQp.j2]
  by_cases c5 : (it - pi * 1000000) / 1000000 = 0
  · rw [if_pos (show ((it - pi * 1000000) / 1000000 == 0) = true by simpa using c5), if_pos ⟨c3, c5, c4⟩, c3, c4]
  · rw [if_neg (show ¬ ((it - pi * 1000000) / 1000000 == 0) = true by simpa using c5), if_neg (fun h => c5 h.2.1), c1]
end Go.Proofs.Yteemomncbcpdjaa.Pure
