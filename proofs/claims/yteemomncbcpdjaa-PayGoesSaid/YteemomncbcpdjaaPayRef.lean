/- A part of a proof. -/
import Derived.Test.YteemomncbcpdjaaZo
import Derived.Test.YteemomncbcpdjaaZr
import Derived.Test.YteemomncbcpdjaaPayIs
namespace Go.Proofs.Yteemomncbcpdjaa.Pure
set_option linter.unusedVariables false
set_option linter.unusedSectionVars false
set_option linter.unusedSimpArgs false
open Go.RowKit Go.Proofs.Yteemomncbcpdjaa.P W.PrintWords W.PrintLast W.PrintMore Go.Proofs.Yteemomncbcpdjaa.PlainM Go.Proofs.Yteemomncbcpdjaa.Plain
theorem qKc (a b : Int) : mn a b = mn b a := by unfold mn; split <;> split <;> omega
theorem qJu (a : Int) (h : 0 ≤ a) (h' : a ≤ 1000000000000000000) : qZa.f a = some (a / 1000000) := by
  unfold qZa.f
  rw [if_neg (by omega), Int.tdiv_eq_ediv_of_nonneg h, w64 (by omega) (by omega)]
def rT (x : List SP3) (i : Nat) : SP3 := qQ0 x (i : Int)
theorem rT_at {x : List SP3} {i : Nat} (h : i < x.length) : rT x i = x[i] := by
  unfold rT qQ0
  rw [Int.toNat_natCast, List.getD_eq_getElem?_getD, List.getElem?_eq_getElem h]; rfl
def up (q : Int → SP3 → SP3) : List SP3 → List Nat → List Int → List SP3
  | x, a :: A, v :: V => up q (x.set a (q v (rT x a))) A V
  | x, _, _ => x
theorem qWa (q : Int → SP3 → SP3) : ∀ (A : List Nat) (V : List Int) (x : List SP3), (up q x A V).length = x.length := by
  intro A
  induction A with
  | nil => intro V x; cases V <;> rfl
  | cons a A ih => intro V x; cases V with
    | nil => rfl
    | cons v V => rw [up, ih, List.length_set]
theorem up_at (q : Int → SP3 → SP3) : ∀ (A : List Nat) (V : List Int) (x : List SP3) (i : Nat), A.Nodup → A.length = V.length → i < x.length → rT (up q x A V) i = if i ∈ A then q (val A V i) (rT x i) else rT x i := by
  intro A
  induction A with
  | nil => intro V x i _ _ _; cases V <;> simp [up]
  | cons a A ih =>
    intro V x i hn hl hi
    cases V with
    | nil => simp at hl
    | cons v V =>
      have hn2 := List.nodup_cons.1 hn
      rw [up, ih V _ i hn2.2 (by simpa using hl) (by rw [List.length_set]; exact hi), val]
      by_cases c : i = a
      · rw [if_neg (show ¬ i ∈ A from fun h => hn2.1 (c ▸ h)), if_pos (show i ∈ a :: A from by rw [c]; exact List.mem_cons_self ..), if_pos c, rT_at (by rw [List.length_set]; exact hi)]
        simp [c]
      · have e : rT (x.set a (q v (rT x a))) i = rT x i := by rw [rT_at (by rw [List.length_set]; exact hi), rT_at hi, List.getElem_set_ne (fun e => c e.symm)]
        by_cases c2 : i ∈ A
        · rw [if_pos c2, if_pos (show i ∈ a :: A from List.mem_cons_of_mem _ c2), if_neg c, e]
        · rw [if_neg c2, if_neg (show ¬ i ∈ a :: A from fun h => (List.mem_cons.1 h).elim c c2), e]
def q0 (v : Int) (s : SP3) : SP3 := ⟨v, s.f1, s.f2⟩
def q1 (v : Int) (s : SP3) : SP3 := ⟨s.f0, v, s.f2⟩
def q2 (v : Int) (s : SP3) : SP3 := ⟨s.f0, s.f1, v⟩
theorem rloop0g (l : List S43) (a : Int) (x6 : List SP3) (hl : l.length ≤ 100) (hg : ∀ x ∈ l, gdL x) : ∀ (m j k : Nat), j + m = l.length → 20 ≤ k →
    qQe.l0 (m + 1 + k) l a x6 (j : Int) = qQe.l1 k l x6 a (toI (plI l)) (toI (plD l)) 0 0 0 0 0 := by
  intro m
  induction m with
  | zero =>
    intro j k hj hk
    rw [show 0 + 1 + k = k + 1 by omega]
    simp only [qQe.l0]
    rw [if_neg (by omega)]
    unfold qQf.f qQz.f
    rw [if_pos (by omega), if_pos (by omega)]
    simp only [obind]
  | succ m ih =>
    intro j k hj hk
    rw [show m + 1 + 1 + k = (m + 1 + k) + 1 by omega]
    simp only [qQe.l0]
    have hjl : j < l.length := by omega
    have g : gdL (rn l j) := hg _ (qWg hjl)
    rw [if_pos (by omega), if_pos (by omega), qX6 _ _ _ _ _ _ _ _ _ _ _ _ _ _ (by omega)]
    simp only [obind]
    have g' : gdL (qQc l (j : Int)) := g
    unfold gdL at g'
    rw [decide_eq_true g', if_pos rfl, w64 (e := (j : Int) + 1) (by omega) (by omega), show ((j : Int) + 1) = ((j + 1 : Nat) : Int) by omega, ih (j + 1) k (by omega) hk]
theorem rloop0b (l : List S43) (a : Int) (x6 : List SP3) (hl : l.length ≤ 100) : ∀ (m j k : Nat), j + m = l.length → 20 ≤ k → badL (l.drop j) = true →
    qQe.l0 (m + 1 + k) l a x6 (j : Int) = some ([], 0, 0, 0, 0, 1) := by
  intro m
  induction m with
  | zero =>
    intro j k hj hk hb
    rw [List.drop_of_length_le (by omega)] at hb
    simp [badL] at hb
  | succ m ih =>
    intro j k hj hk hb
    rw [show m + 1 + 1 + k = (m + 1 + k) + 1 by omega]
    simp only [qQe.l0]
    have hjl : j < l.length := by omega
    rw [if_pos (by omega), if_pos (by omega), qX6 _ _ _ _ _ _ _ _ _ _ _ _ _ _ (by omega)]
    simp only [obind]
    by_cases g : gdL (rn l j)
    · have g' : gdL (qQc l (j : Int)) := g
      unfold gdL at g'
      rw [decide_eq_true g', if_pos rfl, w64 (e := (j : Int) + 1) (by omega) (by omega), show ((j : Int) + 1) = ((j + 1 : Nat) : Int) by omega, ih (j + 1) k (by omega) hk]
      rw [List.drop_eq_getElem_cons hjl] at hb
      unfold badL at hb ⊢
      rw [List.all_cons, show decide (gdL l[j]) = true from decide_eq_true (rn_at hjl ▸ g), Bool.true_and] at hb
      exact hb
    · rw [if_neg (by rw [decide_eq_true_eq]; exact g)]
section
variable (l : List S43) (hg : ∀ x ∈ l, gdL x) (hl : l.length ≤ 16)
include hg hl
theorem rloop1 (A D : List Nat) (hA : ∀ i ∈ A, i < l.length) (hn : A.length ≤ 100) (p1 p2 p3 : Int) : ∀ (m j : Nat) (x6 : List SP3) (t p0 : Int) (k : Nat), j + m = A.length → x6.length = 16 → 0 ≤ t → 0 ≤ p0 → p0 + t ≤ 10000000000000000 →
    qQe.l1 (m + 1 + k) l x6 t (toI A) (toI D) (j : Int) p0 p1 p2 p3 = qQe.l2 k l (up q0 x6 (A.drop j) (fl ((A.drop j).map (fee l)) t)) (fr ((A.drop j).map (fee l)) t) (toI D) 0 (p0 + (fl ((A.drop j).map (fee l)) t).sum) p1 p2 p3 := by
  intro m
  induction m with
  | zero =>
    intro j x6 t p0 k hj h6 _ _ _
    rw [show 0 + 1 + k = k + 1 by omega]
    simp only [qQe.l1]
    rw [if_neg (by rw [qYk]; omega), List.drop_of_length_le (by omega)]
    simp [up, fl, fr]
  | succ m ih =>
    intro j x6 t p0 k hj h6 ht hp0 hb
    rw [show m + 1 + 1 + k = (m + 1 + k) + 1 by omega]
    simp only [qQe.l1]
    have hjl : j < A.length := by omega
    have ha := hA _ (List.getElem_mem hjl)
    have b := mn_bd (qV4 hg _ ha).1 ht
    have b2 := qV4 hg _ ha
    rw [if_pos (by rw [qYk]; omega), if_pos (by omega), qWf hjl, if_pos (by omega), if_pos (by omega), if_pos (by omega), qKc t (qQc l ((A[j] : Nat) : Int)).f4]
    rw [show (qQc l ((A[j] : Nat) : Int)).f4 = fee l A[j] from rfl, w64 (e := t - _) (by omega) (by omega), w64 (e := p0 + _) (by omega) (by omega), w64 (e := (j : Int) + 1) (by omega) (by omega), Int.toNat_natCast, show ((j : Int) + 1) = ((j + 1 : Nat) : Int) by omega,
      ih (j + 1) _ _ _ k (by omega) (by rw [List.length_set]; exact h6) (by omega) (by omega) (by omega), List.drop_eq_getElem_cons hjl]
    simp only [List.map_cons, fl, fr, up, List.sum_cons, Int.add_assoc]
    rfl
theorem rloop2 (D : List Nat) (hD : ∀ i ∈ D, i < l.length) (hn : D.length ≤ 100) (p0 p2 p3 : Int) : ∀ (m j : Nat) (x6 : List SP3) (t p1 : Int) (k : Nat), j + m = D.length → x6.length = 16 → 0 ≤ t → 0 ≤ p1 → p1 + t ≤ 10000000000000000 →
    qQe.l2 (m + 1 + k) l x6 t (toI D) (j : Int) p0 p1 p2 p3 = qQe.l3 k l (up q1 x6 (D.drop j) (fl ((D.drop j).map (itr l)) t)) (fr ((D.drop j).map (itr l)) t) (toI D) 0 p0 (p1 + (fl ((D.drop j).map (itr l)) t).sum) p2 p3 := by
  intro m
  induction m with
  | zero =>
    intro j x6 t p1 k hj h6 _ _ _
    rw [show 0 + 1 + k = k + 1 by omega]
    simp only [qQe.l2]
    rw [if_neg (by rw [qYk]; omega), List.drop_of_length_le (by omega)]
    simp [up, fl, fr]
  | succ m ih =>
    intro j x6 t p1 k hj h6 ht hp0 hb
    rw [show m + 1 + 1 + k = (m + 1 + k) + 1 by omega]
    simp only [qQe.l2]
    have hjl : j < D.length := by omega
    have ha := hD _ (List.getElem_mem hjl)
    have b := mn_bd (qV0 hg _ ha).1 ht
    have b2 := qV0 hg _ ha
    have g2 := (gd_bd (hg _ (qWg ha))).2.1
    rw [if_pos (by rw [qYk]; omega), if_pos (by omega), qWf hjl, if_pos (by omega), if_pos (by omega), qJu (qQc l ((D[j] : Nat) : Int)).f2 g2.1 g2.2]
    simp only [obind]
    rw [if_pos (by omega), show (qQc l ((D[j] : Nat) : Int)).f2 / 1000000 = itr l D[j] from rfl, qKc t (itr l D[j]), w64 (e := t - _) (by omega) (by omega), w64 (e := p1 + _) (by omega) (by omega), w64 (e := (j : Int) + 1) (by omega) (by omega), Int.toNat_natCast, show ((j : Int) + 1) = ((j + 1 : Nat) : Int) by omega,
      ih (j + 1) _ _ _ k (by omega) (by rw [List.length_set]; exact h6) (by omega) (by omega) (by omega), List.drop_eq_getElem_cons hjl]
    simp only [List.map_cons, fl, fr, up, List.sum_cons, Int.add_assoc]
    rfl
theorem rloop3 (D : List Nat) (hD : ∀ i ∈ D, i < l.length) (hn : D.length ≤ 100) (p0 p1 p3 : Int) : ∀ (m j : Nat) (x6 : List SP3) (t p2 : Int) (k : Nat), j + m = D.length → x6.length = 16 → 0 ≤ t → 0 ≤ p2 → p2 + t ≤ 10000000000000000 →
    qQe.l3 (m + 1 + k) l x6 t (toI D) (j : Int) p0 p1 p2 p3 = qQe.l4 k l (up q2 x6 (D.drop j) (fl ((D.drop j).map (prn l)) t)) [] 0 p0 p1 (p2 + (fl ((D.drop j).map (prn l)) t).sum) (fr ((D.drop j).map (prn l)) t) := by
  intro m
  induction m with
  | zero =>
    intro j x6 t p2 k hj h6 _ _ _
    rw [show 0 + 1 + k = k + 1 by omega]
    simp only [qQe.l3]
    rw [if_neg (by rw [qYk]; omega), List.drop_of_length_le (by omega)]
    simp [up, fl, fr]
  | succ m ih =>
    intro j x6 t p2 k hj h6 ht hp0 hb
    rw [show m + 1 + 1 + k = (m + 1 + k) + 1 by omega]
    simp only [qQe.l3]
    have hjl : j < D.length := by omega
    have ha := hD _ (List.getElem_mem hjl)
    have b := mn_bd (qV3 hg _ ha).1 ht
    have b2 := qV3 hg _ ha
    rw [if_pos (by rw [qYk]; omega), if_pos (by omega), qWf hjl, if_pos (by omega), if_pos (by omega), if_pos (by omega), qKc t (qQc l ((D[j] : Nat) : Int)).f1]
    rw [show (qQc l ((D[j] : Nat) : Int)).f1 = prn l D[j] from rfl, w64 (e := t - _) (by omega) (by omega), w64 (e := p2 + _) (by omega) (by omega), w64 (e := (j : Int) + 1) (by omega) (by omega), Int.toNat_natCast, show ((j : Int) + 1) = ((j + 1 : Nat) : Int) by omega,
      ih (j + 1) _ _ _ k (by omega) (by rw [List.length_set]; exact h6) (by omega) (by omega) (by omega), List.drop_eq_getElem_cons hjl]
    simp only [List.map_cons, fl, fr, up, List.sum_cons, Int.add_assoc]
    rfl
theorem rloop4 (Lo : List S43) (x6 : List SP3) (p0 p1 p2 p3 : Int) (h6 : x6.length = 16) (ho : Lo.length = l.length)
    (hop : ∀ i, i < l.length → (rn l i).f8 = 0 → payL (rn l i) (rT x6 i).f0 (rT x6 i).f1 (rT x6 i).f2 = tup (rn Lo i) 0) (hcl : ∀ i, i < l.length → ¬ (rn l i).f8 = 0 → rn Lo i = rn l i) : ∀ (m j : Nat) (x18 : List S43) (k : Nat), j + m = l.length → x18.length ≤ j → 20 ≤ k →
    qQe.l4 (m + 1 + k) l x6 x18 (j : Int) p0 p1 p2 p3 = some (x18 ++ Lo.drop j, p0, p1, p2, p3, 0) := by
  intro m
  induction m with
  | zero =>
    intro j x18 k hj _ hk
    rw [show 0 + 1 + k = k + 1 by omega]
    simp only [qQe.l4]
    rw [if_neg (by omega), List.drop_of_length_le (by omega), List.append_nil]
  | succ m ih =>
    intro j x18 k hj hx hk
    rw [show m + 1 + 1 + k = (m + 1 + k) + 1 by omega]
    simp only [qQe.l4]
    have hjl : j < l.length := by omega
    have e : x18 ++ [rn Lo j] ++ Lo.drop (j + 1) = x18 ++ Lo.drop j := by rw [List.drop_eq_getElem_cons (show j < Lo.length by omega), List.append_assoc, rn_at (by omega)]; rfl
    rw [if_pos (by omega), if_pos (by omega), w64 (e := (j : Int) + 1) (by omega) (by omega), show ((j : Int) + 1) = ((j + 1 : Nat) : Int) by omega]
    by_cases c : (qQc l (j : Int)).f8 = 0
    · rw [if_pos c, if_pos (by omega), qK2 _ _ _ _ _ _ _ _ _ _ _ _ _ _ _ _ _ (by omega),
        show payS (qQc l (j : Int)).f0 (qQc l (j : Int)).f1 (qQc l (j : Int)).f2 (qQc l (j : Int)).f3 (qQc l (j : Int)).f4 (qQc l (j : Int)).f5 (qQc l (j : Int)).f6 (qQc l (j : Int)).f7 (qQc l (j : Int)).f8 (qQc l (j : Int)).f9 (qQc l (j : Int)).f10 (qQc l (j : Int)).f11 (qQc l (j : Int)).f12 (qQ0 x6 (j : Int)).f0 (qQ0 x6 (j : Int)).f1 (qQ0 x6 (j : Int)).f2 = tup (rn Lo j) 0 from hop j hjl c]
      simp only [obind, tup]
      rw [if_pos trivial, if_pos (by omega), ih (j + 1) _ k (by omega) (by rw [List.length_append, List.length_singleton]; omega) hk]
      congr 2
    · rw [if_neg c, if_pos (by omega), ih (j + 1) _ k (by omega) (by rw [List.length_append, List.length_singleton]; omega) hk]
      congr 2
      rw [← e, hcl j hjl c]; rfl
theorem ref_ok (a : Int) (ha : 0 ≤ a) (ha' : a ≤ 10000000000000) (k : Nat) (hk : 200 ≤ k) :
    qQe.j0 k l a false = some (outL l a, (F1 l a).sum, (F2 l a).sum, (F3 l a).sum, R3 l a, 0) := by
  have hop := qJe l
  have hA := qJq l
  have hD := qKd l
  have mA : ∀ i ∈ plI l, i < l.length := fun i hi => (qX4.1 hi).1
  have mD : ∀ i ∈ plD l, i < l.length := fun i hi => (qY3.1 hi).1
  have hR := R_bd hg ha
  obtain ⟨k, rfl⟩ : ∃ q, k = q + 1 := ⟨k - 1, by omega⟩
  simp only [qQe.j0]
  rw [if_neg (by simp), if_pos (by omega)]
  obtain ⟨k0, e0⟩ : ∃ q, k = l.length + 1 + q := ⟨k - (l.length + 1), by omega⟩
  obtain ⟨k1, e1⟩ : ∃ q, k0 = (plI l).length + 1 + q := ⟨k0 - ((plI l).length + 1), by omega⟩
  obtain ⟨k2, e2⟩ : ∃ q, k1 = (plD l).length + 1 + q := ⟨k1 - ((plD l).length + 1), by omega⟩
  obtain ⟨k3, e3⟩ : ∃ q, k2 = (plD l).length + 1 + q := ⟨k2 - ((plD l).length + 1), by omega⟩
  obtain ⟨k4, e4⟩ : ∃ q, k3 = l.length + 1 + q := ⟨k3 - (l.length + 1), by omega⟩
  rw [e0, show (0 : Int) = ((0 : Nat) : Int) from rfl, rloop0g l a _ (by omega) hg l.length 0 k0 (by omega) (by omega), e1, show (0 : Int) = ((0 : Nat) : Int) from rfl,
    rloop1 l hg hl (plI l) (plD l) mA (by omega) _ _ _ (plI l).length 0 _ a _ k1 (by omega) (by simp) ha (by omega) (by omega), e2, show (0 : Int) = ((0 : Nat) : Int) from rfl, List.drop_zero]
  rw [show fr ((plI l).map (fee l)) a = R1 l a from rfl, show fl ((plI l).map (fee l)) a = F1 l a from rfl,
    rloop2 l hg hl (plD l) mD (by omega) _ _ _ (plD l).length 0 _ (R1 l a) _ k2 (by omega) (by rw [qWa, List.length_replicate]) hR.1.1 (by omega) (by omega), e3, show (0 : Int) = ((0 : Nat) : Int) from rfl, List.drop_zero]
  rw [show fr ((plD l).map (itr l)) (R1 l a) = R2 l a from rfl, show fl ((plD l).map (itr l)) (R1 l a) = F2 l a from rfl,
    rloop3 l hg hl (plD l) mD (by omega) _ _ _ (plD l).length 0 _ (R2 l a) _ k3 (by omega) (by rw [qWa, qWa, List.length_replicate]) hR.2.1.1 (by omega) (by omega), e4, show (0 : Int) = ((0 : Nat) : Int) from rfl, List.drop_zero]
  rw [show fr ((plD l).map (prn l)) (R2 l a) = R3 l a from rfl, show fl ((plD l).map (prn l)) (R2 l a) = F3 l a from rfl]
  have h16 : ∀ i, i < l.length → i < 16 := fun i hi => by omega
  have hx : ∀ i, i < l.length → (rn l i).f8 = 0 → rT (up q2 (up q1 (up q0 (List.replicate 16 zP3) (plI l) (F1 l a)) (plD l) (F2 l a)) (plD l) (F3 l a)) i = ⟨vF l a i, vI l a i, vP l a i⟩ := fun i hi h8 => by
    have m1 := qX4.2 ⟨hi, h8⟩
    have m2 := qY3.2 ⟨hi, h8⟩
    rw [up_at q2 _ _ _ _ (qXl l) qKp.symm (by rw [qWa, qWa, List.length_replicate]; exact h16 i hi), if_pos m2, up_at q1 _ _ _ _ (qXl l) qKl.symm (by rw [qWa, List.length_replicate]; exact h16 i hi), if_pos m2, up_at q0 _ _ _ _ (qW4 l) qKt.symm (by rw [List.length_replicate]; exact h16 i hi), if_pos m1]
    rfl
  rw [rloop4 l hg hl (outL l a) _ _ _ _ _ (by rw [qWa, qWa, qWa, List.length_replicate]) (by unfold outL; rw [qKn])
    (fun i hi h8 => by
      rw [hx i hi h8]
      have b := v_bd hg ha i hi h8
      have e : rn (outL l a) i = pdA l a i := by unfold outL; rw [qJo _ _ _ _ hi, if_pos (qY3.2 ⟨hi, h8⟩)]
      rw [e]
      exact zQa _ _ _ _ (hg _ (qWg hi)) h8 b.1 b.2.1 b.2.2)
    (fun i hi h8 => by unfold outL; rw [qJo _ _ _ _ hi, if_neg (fun h => h8 (qY3.1 h).2)]) l.length 0 [] k4 (by omega) (by simp) (by omega)]
  simp
end
theorem qKw (l : List S43) (a : Int) (hl : l.length ≤ 100000) (k : Nat) (hk : 300 ≤ k) : qQe.f k l a = some (payR l a) := by
  have hbadj : qQe.j0 k l a true = some (([] : List S43), 0, 0, 0, 0, 1) := by
    obtain ⟨k, rfl⟩ : ∃ q, k = q + 1 := ⟨k - 1, by omega⟩
    simp only [qQe.j0, if_true]
  unfold qQe.f payR
  by_cases c2 : (l.length : Int) > 16
  · rw [if_pos c2, hbadj, if_pos (by unfold noPay; exact decide_eq_true (.inr (.inl (by omega))))]
  rw [if_neg c2]
  by_cases c3 : a < 0
  · rw [if_pos c3, hbadj, if_pos (by unfold noPay; exact decide_eq_true (.inr (.inr (.inl c3))))]
  rw [if_neg c3, qWs]
  simp only [obind]
  by_cases c4 : 10000000000000 < a
  · rw [decide_eq_false (by omega), Bool.not_false, hbadj, if_pos (by unfold noPay; exact decide_eq_true (.inr (.inr (.inr c4))))]
  rw [decide_eq_true (show -10000000000000 ≤ a ∧ a ≤ 10000000000000 by omega), Bool.not_true]
  by_cases c1 : badL l = true
  · rw [if_pos (by unfold noPay; exact decide_eq_true (.inl c1))]
    obtain ⟨k, rfl⟩ : ∃ q, k = q + 1 := ⟨k - 1, by omega⟩
    simp only [qQe.j0]
    rw [if_neg (by simp), if_pos (by omega)]
    obtain ⟨k0, rfl⟩ : ∃ q, k = l.length + 1 + q := ⟨k - (l.length + 1), by omega⟩
    exact rloop0b l a _ (by omega) l.length 0 k0 (by omega) (by omega) c1
  rw [if_neg (by unfold noPay; simp only [decide_eq_true_eq]; exact fun h => h.elim c1 (fun h => h.elim (fun h => by omega) (fun h => h.elim c3 c4)))]
  exact ref_ok l (qKr (by simpa using c1)) (by omega) a (by omega) (by omega) k (by omega)
end Go.Proofs.Yteemomncbcpdjaa.Pure
