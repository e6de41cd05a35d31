/- What blend's functions and the reference's come to, in plain numbers: the weights, the mean of something of loans, rate and count. -/
import Derived.Test.YtakcepffodipfaaZm
import Derived.Test.YtakcepffodipfaaPx4
import Derived.Test.YtakcepffodipfaaPx14
import Derived.Test.YtakcepffodipfaaPx15
import Derived.Test.YtakcepffodipfaaLevelEv
import Derived.Test.YtakcepffodipfaaLoanRef
namespace Go.Proofs.Ytakcepffodipfaa.PureB
set_option linter.unusedVariables false
set_option linter.unusedSimpArgs false
open Go.RowKit Go.Proofs.Ytakcepffodipfaa.P Go.Proofs.YtakcepffodipfaaW.PrintWords Go.Proofs.YtakcepffodipfaaW.PrintLast Go.Proofs.YtakcepffodipfaaW.PrintMore Go.Proofs.Ytakcepffodipfaa.PlainM
open Go.Proofs.Ytakcepffodipfaa.PureLo (owesS good_is owes_is ref_good_is ref_owes_is mon)
open Go.Proofs.Ytakcepffodipfaa.Pure (ref_Sum_is go_err money_Mul_is ref_Mul_is divS money_Div_is ref_Div_is isMoney_is mn_is)
/-- A good loan. -/
def G (x : S31) : Prop := Go.Proofs.Ytakcepffodipfaa.PureLo.gd x.f0 x.f1 x.f2 x.f3 x.f4 x.f5 x.f7 x.f8 x.f9 x.f10 x.f11 x.f12
instance (x : S31) : Decidable (G x) := inferInstanceAs (Decidable (Go.Proofs.Ytakcepffodipfaa.PureLo.gd x.f0 x.f1 x.f2 x.f3 x.f4 x.f5 x.f7 x.f8 x.f9 x.f10 x.f11 x.f12))
/-- One that may take part. -/
def Ok (x : S31) : Prop := G x ∧ x.f8 = 0 ∧ x.f12 ≤ 1000000
instance (x : S31) : Decidable (Ok x) := inferInstanceAs (Decidable (G x ∧ x.f8 = 0 ∧ x.f12 ≤ 1000000))
/-- What a loan owes. -/
def ow (x : S31) : Int × Int := owesS x.f0 x.f1 x.f2 x.f3 x.f4 x.f5 x.f7 x.f8 x.f9 x.f10 x.f11 x.f12
/-- The weights' last step. -/
def fin (w : List Int) : List Int × Int × Int := if (money_Sum.go w 0).2 = 0 then (if (money_Sum.go w 0).1 = 0 then ([], 0, 64) else (w, (money_Sum.go w 0).1, 0)) else ([], 0, (money_Sum.go w 0).2)
def tailW : List Int → List S31 → List Int × Int × Int
  | acc, [] => fin acc
  | acc, x :: xs => if (ow x).2 = 0 then tailW (acc ++ [(ow x).1]) xs else ([], 0, (ow x).2)
/-- The weights. -/
def wS (l : List S31) : List Int × Int × Int := if l.length > 16 then ([], 0, 1) else if ∀ x ∈ l, Ok x then (if l.length < 2 then ([], 0, 64) else tailW [] l) else ([], 0, 1)
theorem rdT (l : List S31) (j : Nat) (h : j < l.length) : l.drop j = rd_T31 l j :: l.drop (j + 1) := by
  rw [List.drop_eq_getElem_cons h]; congr 1; unfold rd_T31; simp [List.getD_eq_getElem?_getD, h]
theorem rd_get (l : List S31) (j : Nat) (h : j < l.length) : rd_T31 l j = l[j] := by unfold rd_T31; simp [List.getD_eq_getElem?_getD, h]
theorem rd_mem (l : List S31) (j : Nat) (h : j < l.length) : rd_T31 l j ∈ l := by rw [rd_get l j h]; exact List.getElem_mem h
theorem up1 (j : Nat) (h : j ≤ 1000) : wrap64 ((j : Int) + 1) = ((j + 1 : Nat) : Int) := by rw [w64 (by omega) (by omega)]; omega
theorem ow_bd {x : S31} (g : G x) (h : (ow x).2 = 0) : 0 ≤ (ow x).1 ∧ (ow x).1 ≤ 10000000000000 := by
  unfold ow owesS at h ⊢
  have g' := g
  unfold G at g'
  rw [if_pos g'] at h ⊢
  unfold Go.Proofs.Ytakcepffodipfaa.PureLo.gd mon at g'
  by_cases c1 : x.f1 + x.f4 > 10000000000000
  · rw [if_pos c1] at h; simp at h
  rw [if_neg c1] at h ⊢
  by_cases c2 : x.f1 + x.f4 + x.f2 / 1000000 > 10000000000000
  · rw [if_pos c2] at h; simp at h
  rw [if_neg c2]
  show 0 ≤ x.f1 + x.f4 + x.f2 / 1000000 ∧ x.f1 + x.f4 + x.f2 / 1000000 ≤ 10000000000000
  omega
theorem w_l1 (l : List S31) (hl : l.length ≤ 16) (hG : ∀ x ∈ l, G x) : ∀ (d k j : Nat) (acc : List Int), j + d = l.length → acc.length = j → d + 30 ≤ k → blend_weights.l1 k acc acc l (l.length : Int) (j : Int) = some (tailW acc (l.drop j))
  | 0, k, j, acc, h, ha, hk => by
    obtain ⟨k, rfl⟩ : ∃ m, k = m + 1 := ⟨k - 1, by omega⟩
    rw [blend_weights.l1, if_neg (by omega), List.drop_of_length_le (by omega), tailW, money_Sum.f, if_pos (by omega)]
    simp only [obind]
    unfold fin
    split <;> (try split) <;> rfl
  | d + 1, k, j, acc, h, ha, hk => by
    obtain ⟨k, rfl⟩ : ∃ m, k = m + 1 := ⟨k - 1, by omega⟩
    have gx : G (rd_T31 l j) := hG _ (rd_mem l j (by omega))
    rw [blend_weights.l1, if_pos (by omega), if_pos (by omega), if_pos (by omega), rdT l j (by omega), tailW, owes_is _ _ _ _ _ _ _ _ _ _ _ _ _ k (by omega)]
    simp only [obind]
    change (if (ow (rd_T31 l j)).2 = 0 then _ else some (([] : List Int), 0, (ow (rd_T31 l j)).2)) = _
    by_cases c : (ow (rd_T31 l j)).2 = 0
    · have b := ow_bd gx c
      rw [if_pos c, if_pos c, if_pos (by omega), if_pos (by omega), up1 j (by omega)]
      rw [show owesS (rd_T31 l ↑j).f0 (rd_T31 l ↑j).f1 (rd_T31 l ↑j).f2 (rd_T31 l ↑j).f3 (rd_T31 l ↑j).f4 (rd_T31 l ↑j).f5 (rd_T31 l ↑j).f7 (rd_T31 l ↑j).f8 (rd_T31 l ↑j).f9 (rd_T31 l ↑j).f10 (rd_T31 l ↑j).f11 (rd_T31 l ↑j).f12 = ow (rd_T31 l j) from rfl, wu_id b.1 (by omega)]
      exact w_l1 l hl hG d k (j + 1) _ (by omega) (by simp [ha]) (by omega)
    · rw [if_neg c, if_neg c]
theorem cons_ok (l : List S31) (j : Nat) (h : j < l.length) : (∀ x ∈ l.drop j, Ok x) ↔ Ok (rd_T31 l j) ∧ ∀ x ∈ l.drop (j + 1), Ok x := by rw [rdT l j h]; exact List.forall_mem_cons
theorem w_l0 (l : List S31) (hl : l.length ≤ 16) (K : Nat) (R : Option (List Int × Int × Int)) (hR : (∀ x ∈ l, Ok x) → ∀ k, K ≤ k → blend_weights.l1 k [] [] l (l.length : Int) 0 = R) : ∀ (d k j : Nat), j + d = l.length → (∀ x ∈ l.take j, Ok x) → K + d + 20 ≤ k →
    blend_weights.l0 k l [] l (l.length : Int) (j : Int) = if ∀ x ∈ l.drop j, Ok x then (if l.length < 2 then some ([], 0, 64) else R) else some ([], 0, 1)
  | 0, k, j, h, ht, hk => by
    obtain ⟨k, rfl⟩ : ∃ m, k = m + 1 := ⟨k - 1, by omega⟩
    have e : ∀ x ∈ ([] : List S31), Ok x := by simp
    rw [blend_weights.l0, if_neg (by omega), List.drop_of_length_le (by omega)]
    by_cases c : l.length < 2
    · rw [if_pos (by omega), if_pos e, if_pos c]
    · rw [if_neg (by omega), if_pos e, if_neg c]
      exact hR (by rw [List.take_of_length_le (by omega)] at ht; exact ht) k (by omega)
  | d + 1, k, j, h, ht, hk => by
    obtain ⟨k, rfl⟩ : ∃ m, k = m + 1 := ⟨k - 1, by omega⟩
    have ih := w_l0 l hl K R hR d k (j + 1) (by omega)
    rw [blend_weights.l0, if_pos (by omega), if_pos (by omega), if_pos (by omega), good_is _ _ _ _ _ _ _ _ _ _ _ _ _ k (by omega)]
    simp only [obind, decide_eq_true_eq, cons_ok l j (by omega)]
    change (if G (rd_T31 l j) then _ else _) = _
    by_cases g : G (rd_T31 l j)
    · rw [if_pos g]
      by_cases c : (rd_T31 l j).f8 = 0
      · rw [if_pos c]
        by_cases t : (rd_T31 l j).f12 > 1000000
        · rw [if_pos t, if_neg (fun hh => absurd hh.1.2.2 (by omega))]
        · have o : Ok (rd_T31 l j) := ⟨g, c, by omega⟩
          rw [if_neg t, up1 j (by omega), ih (by
            intro x hx
            rw [List.take_succ_eq_append_getElem (by omega), List.mem_append] at hx
            rcases hx with hx | hx
            · exact ht x hx
            · have : x = rd_T31 l j := by
                have h1 : l[j]'(by omega) = rd_T31 l j := by unfold rd_T31; simp [List.getD_eq_getElem?_getD, show j < l.length by omega]
                rw [← h1]; simpa using hx
              rw [this]; exact o) (by omega)]
          by_cases q : ∀ x ∈ l.drop (j + 1), Ok x
          · rw [if_pos q, if_pos (And.intro o q)]
          · rw [if_neg q, if_neg (fun hh => q hh.2)]
      · rw [if_neg c, if_neg (fun hh => c hh.1.2.1)]
    · rw [if_neg g, if_neg (fun hh => g hh.1.1)]
theorem weights_is (l : List S31) (k : Nat) (hk : 200 ≤ k) : blend_weights.f k l = some (wS l) := by
  unfold blend_weights.f wS
  by_cases c : l.length > 16
  · rw [if_pos (by omega), if_pos c]
  rw [if_neg (by omega), if_neg c]
  have h := w_l0 l (by omega) 60 (some (tailW [] l)) (fun ho k hk => by
    have := w_l1 l (by omega) (fun x hx => (ho x hx).1) l.length k 0 [] (by omega) rfl (by omega)
    rw [List.drop_zero] at this; exact this) l.length k 0 (by omega) (by simp) (by omega)
  rw [List.drop_zero] at h
  refine h.trans ?_
  split <;> (try split) <;> rfl
/-! ### What good weights are -/
def tot : List S31 → Int
  | [] => 0
  | x :: l => (ow x).1 + tot l
def dt (of : S31 → Int) : List S31 → Int
  | [] => 0
  | x :: l => (ow x).1 * of x + dt of l
theorem go_sum : ∀ (w : List Int) (s : Int), 0 ≤ s → s ≤ 10000000000000 → (∀ y ∈ w, 0 ≤ y) → (money_Sum.go w s).2 = 0 → (money_Sum.go w s).1 = s + w.sum ∧ s + w.sum ≤ 10000000000000
  | [], s, h0, h1, _, _ => by simp [money_Sum.go]; omega
  | a :: w, s, h0, h1, hw, h => by
    rw [money_Sum.go] at h ⊢
    by_cases c : (isMoney s && (isMoney a && isMoney (s + a))) = true
    · rw [if_pos c] at h ⊢
      have ha := hw a (by simp)
      have hm : s + a ≤ 10000000000000 := by
        simp only [Bool.and_eq_true, isMoney_is, decide_eq_true_eq] at c
        omega
      have := go_sum w (s + a) (by omega) hm (fun y hy => hw y (by simp [hy])) h
      rw [List.sum_cons]
      omega
    · rw [if_neg c] at h; simp at h
theorem tail_ok : ∀ (l : List S31) (acc w : List Int) (a : Int), tailW acc l = (w, a, 0) → w = acc ++ l.map (fun x => (ow x).1) ∧ (money_Sum.go w 0) = (a, 0) ∧ a ≠ 0 ∧ ∀ x ∈ l, (ow x).2 = 0
  | [], acc, w, a, h => by
    rw [tailW, fin] at h
    by_cases c : (money_Sum.go acc 0).2 = 0
    · rw [if_pos c] at h
      by_cases z : (money_Sum.go acc 0).1 = 0
      · rw [if_pos z] at h; simp at h
      · rw [if_neg z] at h
        simp only [Prod.mk.injEq, and_true] at h
        obtain ⟨rfl, rfl⟩ := h
        exact ⟨by simp, Prod.ext rfl c, z, by simp⟩
    · rw [if_neg c] at h
      simp only [Prod.mk.injEq] at h
      exact absurd h.2.2 c
  | x :: l, acc, w, a, h => by
    rw [tailW] at h
    by_cases c : (ow x).2 = 0
    · rw [if_pos c] at h
      obtain ⟨h1, h2, h3, h4⟩ := tail_ok l _ w a h
      exact ⟨by rw [h1]; simp, h2, h3, List.forall_mem_cons.mpr ⟨c, h4⟩⟩
    · rw [if_neg c] at h
      simp only [Prod.mk.injEq] at h
      exact absurd h.2.2 c
theorem map_sum (l : List S31) : (l.map fun x => (ow x).1).sum = tot l := by
  induction l with
  | nil => rfl
  | cons x l ih => rw [List.map_cons, List.sum_cons, ih, tot]
/-- GoodW weights: what they are. -/
structure GoodW (l : List S31) (w : List Int) (a : Int) : Prop where
  len : l.length ≤ 16
  two : 2 ≤ l.length
  ok : ∀ x ∈ l, Ok x
  ws : w = l.map fun x => (ow x).1
  al : a = tot l
  a0 : 0 < a
  a1 : a ≤ 10000000000000
  ow0 : ∀ x ∈ l, (ow x).2 = 0
  bd : ∀ x ∈ l, 0 ≤ (ow x).1 ∧ (ow x).1 ≤ 10000000000000
theorem wS_ok {l : List S31} (h : (wS l).2.2 = 0) : GoodW l (wS l).1 (wS l).2.1 := by
  obtain ⟨w, hw⟩ : ∃ w, w = wS l := ⟨_, rfl⟩
  rw [← hw] at h ⊢
  obtain ⟨w, a, e⟩ := w
  simp only at h ⊢
  subst h
  unfold wS at hw
  by_cases c : l.length > 16
  · rw [if_pos c] at hw; simp at hw
  rw [if_neg c] at hw
  by_cases o : ∀ x ∈ l, Ok x
  · rw [if_pos o] at hw
    by_cases c2 : l.length < 2
    · rw [if_pos c2] at hw; simp at hw
    rw [if_neg c2] at hw
    obtain ⟨h1, h2, h3, h4⟩ := tail_ok l [] w a hw.symm
    rw [List.nil_append] at h1
    have bd : ∀ x ∈ l, 0 ≤ (ow x).1 ∧ (ow x).1 ≤ 10000000000000 := fun x hx => ow_bd (o x hx).1 (h4 x hx)
    have nn : ∀ y ∈ w, 0 ≤ y := by
      intro y hy
      rw [h1, List.mem_map] at hy
      obtain ⟨x, hx, rfl⟩ := hy
      exact (bd x hx).1
    have gs := go_sum w 0 (by omega) (by omega) nn (by rw [h2])
    rw [h2] at gs
    have tt : w.sum = tot l := by rw [h1]; exact map_sum l
    have t0 : ∀ l : List S31, (∀ x ∈ l, 0 ≤ (ow x).1) → 0 ≤ tot l := by
      intro l hl
      induction l with
      | nil => exact Int.le_refl _
      | cons x l ih => rw [tot]; have := hl x (by simp); have := ih (fun y hy => hl y (by simp [hy])); omega
    have := t0 l (fun x hx => (bd x hx).1)
    simp only [Int.zero_add] at gs
    exact ⟨by omega, by omega, o, h1, by rw [gs.1, tt], by omega, by omega, h4, bd⟩
  · rw [if_neg o] at hw; simp at hw
/-- Rounded up. -/
def cd (N s : Int) : Int := if N % s > 0 then N / s + 1 else N / s
theorem dt_bd (of : S31 → Int) : ∀ (l : List S31), (∀ x ∈ l, 0 ≤ (ow x).1) → (∀ x ∈ l, 0 ≤ of x ∧ of x ≤ 1000000) → 0 ≤ dt of l ∧ dt of l ≤ tot l * 1000000
  | [], _, _ => by simp [dt, tot]
  | x :: l, h, ho => by
    have ih := dt_bd of l (fun y hy => h y (by simp [hy])) (fun y hy => ho y (by simp [hy]))
    have a := h x (by simp)
    have b := ho x (by simp)
    have p0 := Int.mul_nonneg a b.1
    have p1 := Int.mul_le_mul_of_nonneg_left b.2 a
    rw [dt, tot]
    omega
theorem dt_append (of : S31 → Int) (l m : List S31) : dt of (l ++ m) = dt of l + dt of m := by
  induction l with
  | nil => simp [dt]
  | cons x l ih => rw [List.cons_append, dt, dt, ih]; omega
theorem rd_map (f : S31 → Int) (l : List S31) (j : Nat) (h : j < l.length) : rd (l.map f) (j : Int) = f (rd_T31 l j) := by
  unfold rd rd_T31
  simp [List.getD_eq_getElem?_getD, h]
theorem by_is (N a : Int) (k : Nat) (hk : 30 ≤ k) (h0 : 0 ≤ N) (a0 : 0 < a) (a1 : a ≤ 10000000000000) (hN : N ≤ a * 1000000) : blend_wide_by.f k (N / 18446744073709551616) (N % 18446744073709551616) (IntKind.u64.wrap a) = some (cd N a) ∧ 0 ≤ cd N a ∧ cd N a ≤ 1000000 := by
  have q0 : 0 ≤ N / a := Int.ediv_nonneg h0 (by omega)
  have q1 : N / a ≤ 1000000 := by
    have := Int.ediv_le_ediv a0 hN
    rwa [Int.mul_comm, Int.mul_ediv_cancel _ (by omega)] at this
  have q2 : N % a > 0 → N / a + 1 ≤ 1000000 := by
    intro hr
    have e := Int.emod_add_mul_ediv N a
    by_cases c : N / a = 1000000
    · rw [c] at e; omega
    · omega
  have e : N / 18446744073709551616 * 18446744073709551616 + N % 18446744073709551616 = N := by omega
  unfold blend_wide_by.f
  rw [wu_id (by omega) (by omega), money_Div_is _ _ _ k (by omega) (by omega) (by omega) (by omega) (by omega) hk]
  unfold divS
  rw [if_neg (by omega), e]
  simp only [obind, if_true]
  unfold cd
  by_cases r : N % a > 0
  · rw [if_pos r, if_pos r, wu_id (by omega) (by have := q2 r; omega)]
    have := q2 r
    exact ⟨rfl, by omega, by omega⟩
  · rw [if_neg r, if_neg r]
    exact ⟨rfl, by omega, by omega⟩
theorem mean_l0 (of : S31 → Int) (l : List S31) (w : List Int) (a : Int) (g : GoodW l w a) (ho : ∀ x ∈ l, 0 ≤ of x ∧ of x ≤ 1000000) : ∀ (d k j : Nat), j + d = l.length → d + 50 ≤ k →
    blend_mean.l0 of k w a l (l.length : Int) (j : Int) (dt of (l.take j) / 18446744073709551616) (dt of (l.take j) % 18446744073709551616) = some (cd (dt of l) a, 0)
  | 0, k, j, h, hk => by
    obtain ⟨k, rfl⟩ : ∃ m, k = m + 1 := ⟨k - 1, by omega⟩
    rw [List.take_of_length_le (by omega), blend_mean.l0, if_neg (by omega)]
    have b := dt_bd of l (fun x hx => (g.bd x hx).1) ho
    obtain ⟨h1, h2, h3⟩ := by_is (dt of l) a k (by omega) b.1 g.a0 g.a1 (by rw [g.al]; exact b.2)
    rw [h1]
    simp only [obind]
    rw [w64 (by omega) (by omega)]
  | d + 1, k, j, h, hk => by
    obtain ⟨k, rfl⟩ : ∃ m, k = m + 1 := ⟨k - 1, by omega⟩
    have ih := mean_l0 of l w a g ho d k (j + 1) (by omega) (by omega)
    have m := rd_mem l j (by omega)
    have o := ho _ m
    have b := g.bd _ m
    have tk : l.take (j + 1) = l.take j ++ [rd_T31 l j] := by
      have h1 : l[j]'(by omega) = rd_T31 l j := by unfold rd_T31; simp [List.getD_eq_getElem?_getD, show j < l.length by omega]
      rw [List.take_succ_eq_append_getElem (by omega), h1]
    have D0 := dt_bd of (l.take j) (fun x hx => (g.bd x (List.mem_of_mem_take hx)).1) (fun x hx => ho x (List.mem_of_mem_take hx))
    have T1 : tot (l.take j) ≤ 160000000000000 := by
      have : ∀ m : List S31, (∀ x ∈ m, (ow x).1 ≤ 10000000000000) → tot m ≤ m.length * 10000000000000 := by
        intro m hm
        induction m with
        | nil => simp [tot]
        | cons x m ih => rw [tot, List.length_cons]; have := hm x (by simp); have := ih (fun y hy => hm y (by simp [hy])); omega
      have := this (l.take j) (fun x hx => (g.bd x (List.mem_of_mem_take hx)).2)
      rw [List.length_take] at this
      have := g.len
      omega
    have p0 := Int.mul_nonneg b.1 o.1
    have p1 : (ow (rd_T31 l j)).1 * of (rd_T31 l j) ≤ 10000000000000 * 1000000 := Int.mul_le_mul b.2 o.2 o.1 (by omega)
    rw [blend_mean.l0, if_pos (by omega), if_pos (by omega), if_pos (by omega), if_pos (by rw [g.ws, List.length_map]; omega)]
    simp only [obind]
    rw [wu_id o.1 (by omega), g.ws, rd_map (fun x => (ow x).1) l j (by omega)]
    rw [tk, dt_append, dt, dt, Int.add_zero] at ih
    unfold blend_wide_add.f
    obtain ⟨D, hD⟩ : ∃ D, D = dt of (l.take j) := ⟨_, rfl⟩
    rw [← hD] at ih D0 ⊢
    have e : D / 18446744073709551616 * 18446744073709551616 + D % 18446744073709551616 = D := by omega
    rw [e]
    rw [if_pos ⟨by omega, by omega, by omega, b.1, by omega, o.1, by omega, by omega⟩]
    simp only [obind]
    rw [up1 j (by have := g.len; omega), ← g.ws]
    exact ih
theorem mean_is (of : S31 → Int) (ho : ∀ x, Ok x → 0 ≤ of x ∧ of x ≤ 1000000) (l : List S31) (k : Nat) (hk : 200 ≤ k) : blend_mean.f of k l = some (if (wS l).2.2 = 0 then (cd (dt of l) (wS l).2.1, 0) else (0, (wS l).2.2)) := by
  unfold blend_mean.f
  rw [weights_is l k hk]
  simp only [obind]
  by_cases c : (wS l).2.2 = 0
  · have g := wS_ok c
    rw [if_pos c, if_pos c]
    have := mean_l0 of l _ _ g (fun x hx => ho x (g.ok x hx)) l.length k 0 (by omega) (by have := g.len; omega)
    simpa [dt] using this
  · rw [if_neg c, if_neg c]
/-! ### The reference's mean -/
end Go.Proofs.Ytakcepffodipfaa.PureB
