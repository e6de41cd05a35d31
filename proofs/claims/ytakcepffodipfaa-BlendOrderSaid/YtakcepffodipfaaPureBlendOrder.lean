/- BlendOrder: in whatever order the loans stand, rate and count are the same; a loan that is two with half each counts the same; for every input. -/
import Derived.Test.YtakcepffodipfaaPx29
import Derived.Test.YtakcepffodipfaaPx32
import Derived.Test.YtakcepffodipfaaBlendJoin
namespace Go.Proofs.Ytakcepffodipfaa.PureB
set_option linter.unusedVariables false
set_option linter.unusedSimpArgs false
open Go.RowKit Go.Proofs.Ytakcepffodipfaa.P Go.Proofs.YtakcepffodipfaaW.PrintWords Go.Proofs.YtakcepffodipfaaW.PrintLast Go.Proofs.YtakcepffodipfaaW.PrintMore Go.Proofs.Ytakcepffodipfaa.PlainM
open Go.Proofs.Ytakcepffodipfaa.PureLo (owesS mon)
open Go.Proofs.Ytakcepffodipfaa.Pure (isMoney_is)
theorem mod_at (a m : Int) (h0 : -9223372036854775808 ≤ a) (h1 : a ≤ 9223372036854775807) (hm : 1 ≤ m) (hm' : m ≤ 1000000) : ∃ t : Nat, annuitykeep_Mod.f a m = some (t : Int) ∧ (t : Int) < m := by
  unfold annuitykeep_Mod.f
  rw [if_neg (by omega), if_neg (by omega)]
  have b1 : -m < Int.tmod a m := by
    have := Int.lt_tmod_of_pos a (show 0 < m by omega)
    omega
  have b2 : Int.tmod a m < m := Int.tmod_lt_of_pos a (by omega)
  rw [w64 (by omega) (by omega), tmod_nn (by omega)]
  have p0 := Int.emod_nonneg (Int.tmod a m + m) (show m ≠ 0 by omega)
  have p1 := Int.emod_lt_of_pos (Int.tmod a m + m) (show 0 < m by omega)
  exact ⟨((Int.tmod a m + m) % m).toNat, by rw [Int.toNat_of_nonneg p0], by omega⟩
theorem tot_app (l m : List S31) : tot (l ++ m) = tot l + tot m := by
  induction l with
  | nil => simp [tot]
  | cons x l ih => rw [List.cons_append, tot, tot, ih]; omega
theorem ow_err {x : S31} (g : G x) (h : (ow x).2 ≠ 0) : (ow x).2 = 14 := by
  unfold ow owesS at h ⊢
  have g' := g
  unfold G at g'
  rw [if_pos g'] at h ⊢
  by_cases c1 : x.f1 + x.f4 > 10000000000000
  · rw [if_pos c1]
  rw [if_neg c1] at h ⊢
  by_cases c2 : x.f1 + x.f4 + x.f2 / 1000000 > 10000000000000
  · rw [if_pos c2]
  rw [if_neg c2] at h
  exact absurd rfl h
theorem sum_nn (w : List Int) (h : ∀ y ∈ w, 0 ≤ y) : 0 ≤ w.sum := by
  induction w with
  | nil => simp
  | cons a w ih => rw [List.sum_cons]; have := h a (by simp); have := ih (fun y hy => h y (by simp [hy])); omega
theorem go_eq : ∀ (w : List Int) (s : Int), 0 ≤ s → s ≤ 10000000000000 → (∀ y ∈ w, 0 ≤ y) → money_Sum.go w s = if s + w.sum > 10000000000000 then (0, 14) else (s + w.sum, 0)
  | [], s, h0, h1, _ => by rw [money_Sum.go, if_neg (by simp; omega)]; simp
  | a :: w, s, h0, h1, hw => by
    have ha := hw a (by simp)
    have hs := sum_nn w (fun y hy => hw y (by simp [hy]))
    rw [money_Sum.go, List.sum_cons]
    by_cases c : s + a ≤ 10000000000000
    · rw [if_pos (by simp only [Bool.and_eq_true, isMoney_is, decide_eq_true_eq]; omega), go_eq w (s + a) (by omega) c (fun y hy => hw y (by simp [hy])), show s + a + w.sum = s + (a + w.sum) by omega]
    · rw [if_neg (by simp only [Bool.and_eq_true, isMoney_is, decide_eq_true_eq]; omega), if_pos (by omega)]
theorem fin_two (w : List Int) (h : ∀ y ∈ w, 0 ≤ y) : (fin w).2 = if w.sum > 10000000000000 then (0, 14) else if w.sum = 0 then (0, 64) else (w.sum, 0) := by
  unfold fin
  rw [go_eq w 0 (by omega) (by omega) h, Int.zero_add]
  by_cases c : w.sum > 10000000000000
  · rw [if_pos c, if_pos c]; rfl
  · rw [if_neg c, if_neg c]
    show (if (0 : Int) = 0 then (if w.sum = 0 then (([] : List Int), (0 : Int), (64 : Int)) else (w, w.sum, 0)) else ([], 0, 0)).2 = _
    rw [if_pos rfl]
    by_cases z : w.sum = 0
    · rw [if_pos z, if_pos z]
    · rw [if_neg z, if_neg z]
theorem tail_two : ∀ (l : List S31) (acc : List Int), (∀ x ∈ l, G x) → (tailW acc l).2 = if ∀ x ∈ l, (ow x).2 = 0 then (fin (acc ++ l.map fun x => (ow x).1)).2 else (0, 14)
  | [], acc, _ => by rw [tailW, if_pos (by simp)]; simp
  | x :: l, acc, h => by
    have e : (∀ y ∈ x :: l, (ow y).2 = 0) ↔ (ow x).2 = 0 ∧ ∀ y ∈ l, (ow y).2 = 0 := List.forall_mem_cons
    rw [tailW]
    by_cases c : (ow x).2 = 0
    · rw [if_pos c, tail_two l _ (fun y hy => h y (by simp [hy]))]
      by_cases q : ∀ y ∈ l, (ow y).2 = 0
      · rw [if_pos q, if_pos (e.mpr ⟨c, q⟩)]; simp
      · rw [if_neg q, if_neg (fun hh => q (e.mp hh).2)]
    · rw [if_neg c, if_neg (fun hh => c (e.mp hh).1), ow_err (h x (by simp)) c]
theorem wS_two (l : List S31) : (wS l).2 = if l.length > 16 then (0, 1) else if ∀ x ∈ l, Ok x then (if l.length < 2 then (0, 64) else if ∀ x ∈ l, (ow x).2 = 0 then (if tot l > 10000000000000 then (0, 14) else if tot l = 0 then (0, 64) else (tot l, 0)) else (0, 14)) else (0, 1) := by
  unfold wS
  by_cases c : l.length > 16
  · rw [if_pos c, if_pos c]
  rw [if_neg c, if_neg c]
  by_cases o : ∀ x ∈ l, Ok x
  · rw [if_pos o, if_pos o]
    by_cases t : l.length < 2
    · rw [if_pos t, if_pos t]
    rw [if_neg t, if_neg t, tail_two l [] (fun x hx => (o x hx).1)]
    by_cases q : ∀ x ∈ l, (ow x).2 = 0
    · rw [if_pos q, if_pos q, List.nil_append, fin_two _ (by
        intro y hy
        rw [List.mem_map] at hy
        obtain ⟨x, hx, rfl⟩ := hy
        exact (ow_bd (o x hx).1 (q x hx)).1), map_sum]
    · rw [if_neg q, if_neg q]
  · rw [if_neg o, if_neg o]
theorem tot_rev (l : List S31) : tot l.reverse = tot l := by
  induction l with
  | nil => rfl
  | cons x l ih => rw [List.reverse_cons, tot_app, ih, tot, tot, tot]; omega
theorem dt_rev (of : S31 → Int) (l : List S31) : dt of l.reverse = dt of l := by
  induction l with
  | nil => rfl
  | cons x l ih => rw [List.reverse_cons, dt_append, ih, dt, dt, dt]; omega
theorem wS_rev (l : List S31) : (wS l.reverse).2 = (wS l).2 := by
  rw [wS_two, wS_two]
  simp only [List.length_reverse, List.mem_reverse, tot_rev]
theorem rate_rev (l : List S31) : rateS l.reverse = rateS l := by unfold rateS; rw [wS_rev, dt_rev]
theorem count_rev (l : List S31) : countS l.reverse = countS l := by unfold countS; rw [wS_rev, dt_rev]
/-! ### A loan that is two -/
def half (x : S31) : S31 := ⟨x.f0, wrap64 (Int.tdiv x.f1 2), x.f2, x.f3, x.f4, x.f5, x.f6, x.f7, x.f8, x.f9, x.f10, x.f11, x.f12⟩
theorem half_is {x : S31} (o : Ok x) (h0 : (ow x).2 = 0) (h1 : Int.tmod x.f1 2 = 0) (h4 : x.f4 = 0) (h2 : x.f2 = 0) : Ok (half x) ∧ (ow (half x)).2 = 0 ∧ 2 * (ow (half x)).1 = (ow x).1 := by
  have g := o.1
  unfold G Go.Proofs.Ytakcepffodipfaa.PureLo.gd mon at g
  have p0 : 0 ≤ x.f1 := g.2.1.1.1
  have p1 : x.f1 ≤ 10000000000000 := g.2.1.1.2
  rw [tmod_nn p0] at h1
  have e : wrap64 (Int.tdiv x.f1 2) = x.f1 / 2 := by rw [tdiv_nn p0, w64 (by omega) (by omega)]
  have gh : G (half x) := by
    unfold G Go.Proofs.Ytakcepffodipfaa.PureLo.gd mon half
    simp only [e]
    have c := o.2.1
    refine ⟨g.1, ⟨⟨by omega, by omega⟩, g.2.1.2⟩, g.2.2.1, g.2.2.2.1, g.2.2.2.2.1, g.2.2.2.2.2.1, .inl c⟩
  have owh : ow (half x) = (x.f1 / 2, 0) := by
    unfold ow owesS
    have g' := gh
    unfold G at g'
    rw [if_pos g']
    unfold half
    simp only [e, h4, h2]
    rw [if_neg (by omega), if_neg (by omega)]
    simp
  have owx : ow x = (x.f1, 0) := by
    unfold ow owesS
    have g' := o.1
    unfold G at g'
    rw [if_pos g', h4, h2, if_neg (by omega), if_neg (by omega)]
    simp
  refine ⟨⟨gh, o.2.1, o.2.2⟩, by rw [owh], by rw [owh, owx]; show 2 * (x.f1 / 2) = x.f1; omega⟩
theorem tot_set (y : S31) (l : List S31) : ∀ (j : Nat) (h : j < l.length), tot (l.set j y) + (ow l[j]).1 = tot l + (ow y).1 := by
  induction l with
  | nil => intro j h; exact absurd h (by simp)
  | cons x l ih =>
    intro j h
    cases j with
    | zero => simp only [List.set_cons_zero, tot, List.getElem_cons_zero]; omega
    | succ j =>
      have := ih j (by simpa using h)
      simp only [List.set_cons_succ, tot, List.getElem_cons_succ]; omega
theorem dt_set (of : S31 → Int) (y : S31) (l : List S31) : ∀ (j : Nat) (h : j < l.length), dt of (l.set j y) + (ow l[j]).1 * of l[j] = dt of l + (ow y).1 * of y := by
  induction l with
  | nil => intro j h; exact absurd h (by simp)
  | cons x l ih =>
    intro j h
    cases j with
    | zero => simp only [List.set_cons_zero, dt, List.getElem_cons_zero]; omega
    | succ j =>
      have := ih j (by simpa using h)
      simp only [List.set_cons_succ, dt, List.getElem_cons_succ]; omega
theorem two_is (l : List S31) (c : (wS l).2.2 = 0) (hl : l.length ≤ 15) (j : Nat) (h : j < l.length) (h1 : Int.tmod (rd_T31 l j).f1 2 = 0) (h4 : (rd_T31 l j).f4 = 0) (h2 : (rd_T31 l j).f2 = 0) :
    (wS (l.set j (half (rd_T31 l j)) ++ [half (rd_T31 l j)])).2 = (wS l).2 ∧ dt (fun x => x.f5) (l.set j (half (rd_T31 l j)) ++ [half (rd_T31 l j)]) = dt (fun x => x.f5) l ∧ dt (fun x => x.f12) (l.set j (half (rd_T31 l j)) ++ [half (rd_T31 l j)]) = dt (fun x => x.f12) l := by
  have g := wS_ok c
  have m := rd_mem l j h
  obtain ⟨o, z, s⟩ := half_is (g.ok _ m) (g.ow0 _ m) h1 h4 h2
  have eg := rd_get l j h
  obtain ⟨y, hy⟩ : ∃ y, y = half (rd_T31 l j) := ⟨_, rfl⟩
  have y5 : y.f5 = (rd_T31 l j).f5 := by rw [hy]; rfl
  have y12 : y.f12 = (rd_T31 l j).f12 := by rw [hy]; rfl
  rw [← hy] at o z s ⊢
  rw [eg] at s y5 y12
  have st := tot_set y l j h
  have tt : tot (l.set j y ++ [y]) = tot l := by rw [tot_app, tot, tot]; omega
  have mem : ∀ x ∈ l.set j y ++ [y], x ∈ l ∨ x = y := by
    intro x hx
    rw [List.mem_append] at hx
    rcases hx with hx | hx
    · exact List.mem_or_eq_of_mem_set hx
    · exact .inr (by simpa using hx)
  have oks : ∀ x ∈ l.set j y ++ [y], Ok x := fun x hx => (mem x hx).elim (g.ok x) (fun e => e ▸ o)
  have ows : ∀ x ∈ l.set j y ++ [y], (ow x).2 = 0 := fun x hx => (mem x hx).elim (g.ow0 x) (fun e => e ▸ z)
  have len : (l.set j y ++ [y]).length = l.length + 1 := by simp
  have dd : ∀ of : S31 → Int, of y = of l[j] → dt of (l.set j y ++ [y]) = dt of l := by
    intro of e
    have sd := dt_set of y l j h
    rw [dt_append, dt, dt, Int.add_zero]
    rw [← s, e] at sd
    rw [e]
    have : 2 * (ow y).1 * of l[j] = (ow y).1 * of l[j] + (ow y).1 * of l[j] := by rw [Int.mul_assoc]; omega
    omega
  refine ⟨?_, dd _ y5, dd _ y12⟩
  have t2 := g.two
  have n1 : ¬ l.length > 16 := by omega
  have n2 : ¬ l.length < 2 := by omega
  have m1 : ¬ l.length + 1 > 16 := by omega
  have m2 : ¬ l.length + 1 < 2 := by omega
  rw [wS_two, wS_two, len, tt, if_neg m1, if_pos oks, if_neg m2, if_pos ows, if_neg n1, if_pos g.ok, if_neg n2, if_pos g.ow0]
theorem order_end (l : List S31) (h2 : 2 ≤ l.length) (hl : l.length ≤ 15) (a1 : Int) (w0 : -9223372036854775808 ≤ a1) (w1 : a1 ≤ 9223372036854775807) (k : Nat) (hk : 1000 ≤ k) :
    annuitylaw21_BlendOrder.l0 (k + 1) l a1 l.reverse (-1) = some true := by
  rw [annuitylaw21_BlendOrder.l0, if_neg (by omega), copy_is l (by omega)]
  simp only [obind]
  rw [rate_is l k (by omega)]
  simp only [obind]
  rw [rate_is l.reverse k (by omega), rate_rev]
  simp only [obind]
  rw [count_is l k (by omega)]
  simp only [obind]
  rw [count_is l.reverse k (by omega), count_rev]
  simp only [obind, if_true]
  by_cases c : (wS l).2.2 = 0
  · have r2 : (rateS l).2 = 0 := by unfold rateS; rw [if_pos c]
    obtain ⟨t, ht, t1⟩ := mod_at a1 l.length w0 w1 (by omega) (by omega)
    rw [if_pos r2, ht]
    simp only [obind]
    rw [if_pos (by omega), if_pos t1]
    by_cases q1 : Int.tmod (rd_T31 l (t : Int)).f1 2 = 0
    · rw [if_pos q1]
      by_cases q4 : (rd_T31 l (t : Int)).f4 = 0
      · rw [if_pos q4]
        by_cases q2 : (rd_T31 l (t : Int)).f2 = 0
        · rw [if_pos q2, if_pos t1]
          obtain ⟨e1, e2, e3⟩ := two_is l c hl t (by omega) q1 q4 q2
          rw [if_pos (by rw [List.length_set]; omega)]
          change ((blend_Rate.f k (l.set t (half (rd_T31 l t)) ++ [half (rd_T31 l t)])).bind _) = _
          have rr : rateS (l.set t (half (rd_T31 l t)) ++ [half (rd_T31 l t)]) = rateS l := by unfold rateS; rw [e1, e2]
          have cc : countS (l.set t (half (rd_T31 l t)) ++ [half (rd_T31 l t)]) = countS l := by unfold countS; rw [e1, e3]
          rw [rate_is _ k (by omega), rr]
          simp only [obind]
          change ((blend_Count.f k (l.set t (half (rd_T31 l t)) ++ [half (rd_T31 l t)])).bind _) = _
          have c2 : (countS l).2 = 0 := by unfold countS; rw [if_pos c]
          rw [count_is _ k (by omega), cc]
          simp only [obind]
          rw [if_pos r2, if_pos c2, if_pos trivial, if_pos trivial, wakes21 k hk]; rfl
        · rw [if_neg q2, wakes21 k hk]; rfl
      · rw [if_neg q4, wakes21 k hk]; rfl
    · rw [if_neg q1, wakes21 k hk]; rfl
  · have r2 : ¬ (rateS l).2 = 0 := by unfold rateS; rw [if_neg c]; exact c
    rw [if_neg r2, wakes21 k hk]; rfl
theorem order_l0 (l : List S31) (h2 : 2 ≤ l.length) (hl : l.length ≤ 15) (a1 : Int) (w0 : -9223372036854775808 ≤ a1) (w1 : a1 ≤ 9223372036854775807) : ∀ (j k : Nat), j ≤ l.length → j + 1001 ≤ k →
    annuitylaw21_BlendOrder.l0 k l a1 (l.drop j).reverse ((j : Int) - 1) = some true
  | 0, k, h, hk => by
    obtain ⟨k, rfl⟩ : ∃ m, k = m + 1 := ⟨k - 1, by omega⟩
    exact order_end l h2 hl a1 w0 w1 k (by omega)
  | j + 1, k, h, hk => by
    obtain ⟨k, rfl⟩ : ∃ m, k = m + 1 := ⟨k - 1, by omega⟩
    have ih := order_l0 l h2 hl a1 w0 w1 j k (by omega) (by omega)
    rw [rdT l j (by omega), List.reverse_cons] at ih
    rw [show ((j + 1 : Nat) : Int) - 1 = (j : Int) by omega, annuitylaw21_BlendOrder.l0, if_pos (by omega), if_pos (by omega), if_pos (by omega), if_pos (by rw [List.length_reverse, List.length_drop]; omega), w64 (by omega) (by omega)]
    exact ih
theorem BlendOrder : annuitylaw21_BlendOrder.Pure := by
  intro l d hm hy hw w1
  obtain ⟨k, hk⟩ : ∃ k : Nat, 1500 ≤ k := ⟨_, Nat.le_refl _⟩
  have wd := wf64 w1
  refine ⟨k, ?_⟩
  unfold annuitylaw21_BlendOrder.f
  by_cases c : (l.length : Int) < 2
  · rw [if_pos c, wakes21 k (by omega)]; rfl
  rw [if_neg c]
  by_cases c2 : (l.length : Int) > 15
  · rw [if_pos c2, wakes21 k (by omega)]; rfl
  rw [if_neg c2, w64 (by omega) (by omega)]
  have := order_l0 l (by omega) (by omega) d wd.1 wd.2 l.length k (Nat.le_refl _) (by omega)
  rw [List.drop_length] at this
  exact this
end Go.Proofs.Ytakcepffodipfaa.PureB
namespace Go.Proofs.Ytakcepffodipfaa.Pure
theorem BlendOrder : Go.Proofs.Ytakcepffodipfaa.P.annuitylaw21_BlendOrder.Pure := Go.Proofs.Ytakcepffodipfaa.PureB.BlendOrder
end Go.Proofs.Ytakcepffodipfaa.Pure
