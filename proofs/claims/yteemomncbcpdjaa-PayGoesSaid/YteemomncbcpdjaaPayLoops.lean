/- A part of a proof. -/
import Derived.Test.YteemomncbcpdjaaPayAll
import Derived.Test.YteemomncbcpdjaaZq
namespace Go.Proofs.Yteemomncbcpdjaa.Pure
set_option linter.unusedVariables false
set_option linter.unusedSimpArgs false
open Go.RowKit Go.Proofs.Yteemomncbcpdjaa.P W.PrintWords W.PrintLast W.PrintMore Go.Proofs.Yteemomncbcpdjaa.PlainM Go.Proofs.Yteemomncbcpdjaa.Plain
theorem zQc (a : Int) (h : 0 ≤ a) (h' : a ≤ 1000000000000000000) : qZb.f a = some (a / 1000000) := by
  unfold qZb.f
  rw [if_pos (by omega), if_neg (by omega)]
def fee (l : List S43) (i : Nat) : Int := (rn l i).f4
def itr (l : List S43) (i : Nat) : Int := (rn l i).f2 / 1000000
def prn (l : List S43) (i : Nat) : Int := (rn l i).f1
theorem qVn {A : List Nat} {j : Nat} (h : j < A.length) (acc : List Int) (g : Nat → Int) : acc ++ [g A[j]] ++ (A.drop (j + 1)).map g = acc ++ (A.drop j).map g := by
  rw [List.drop_eq_getElem_cons h, List.map_cons, List.append_assoc]; rfl
theorem loop0 (l : List S43) (a : Int) (A D : List Nat) (p0 p1 p2 p3 : Int) (hA : ∀ i ∈ A, i < l.length) (hn : A.length ≤ 100) : ∀ (m j : Nat) (acc : List Int) (k : Nat), j + m = A.length → acc.length ≤ 1000 + j →
    qQg.l0 (m + 1 + k) l a (toI A) (toI D) acc (toI A) (A.length : Int) (j : Int) p0 p1 p2 p3 = qQg.l1 k l a (toI A) (toI D) (acc ++ (A.drop j).map (fee l)) (toI D) (D.length : Int) 0 p0 p1 p2 p3 := by
  intro m
  induction m with
  | zero =>
    intro j acc k hj ha
    rw [show 0 + 1 + k = k + 1 by omega]
    simp only [qQg.l0]
    rw [if_neg (by omega), List.drop_of_length_le (by omega), qYk]
    simp
  | succ m ih =>
    intro j acc k hj ha
    rw [show m + 1 + 1 + k = (m + 1 + k) + 1 by omega]
    simp only [qQg.l0]
    have hjl : j < A.length := by omega
    have hb := hA _ (List.getElem_mem hjl)
    rw [if_pos (by omega), if_pos (by omega), if_pos (by rw [qYk]; omega), qWf hjl, if_pos (by omega), if_pos (by omega), if_pos (by omega), w64 (e := (j : Int) + 1) (by omega) (by omega), show ((j : Int) + 1) = ((j + 1 : Nat) : Int) by omega,
      ih (j + 1) _ k (by omega) (by rw [List.length_append, List.length_singleton]; omega)]
    congr 1
    exact qVn hjl acc (fee l)
theorem loop1 (l : List S43) (a : Int) (A D : List Nat) (p0 p1 p2 p3 : Int) (hD : ∀ i ∈ D, i < l.length ∧ 0 ≤ (rn l i).f2 ∧ (rn l i).f2 ≤ 1000000000000000000) (hn : D.length ≤ 100) : ∀ (m j : Nat) (acc : List Int) (k : Nat), j + m = D.length → acc.length ≤ 2000 + j →
    qQg.l1 (m + 1 + k) l a (toI A) (toI D) acc (toI D) (D.length : Int) (j : Int) p0 p1 p2 p3 = qQg.l2 k l a (toI A) (toI D) (acc ++ (D.drop j).map (itr l)) (toI D) (D.length : Int) 0 p0 p1 p2 p3 := by
  intro m
  induction m with
  | zero =>
    intro j acc k hj ha
    rw [show 0 + 1 + k = k + 1 by omega]
    simp only [qQg.l1]
    rw [if_neg (by omega), List.drop_of_length_le (by omega), qYk]
    simp
  | succ m ih =>
    intro j acc k hj ha
    rw [show m + 1 + 1 + k = (m + 1 + k) + 1 by omega]
    simp only [qQg.l1]
    have hjl : j < D.length := by omega
    obtain ⟨hb, h1, h2⟩ := hD _ (List.getElem_mem hjl)
    rw [if_pos (by omega), if_pos (by omega), if_pos (by rw [qYk]; omega), qWf hjl, if_pos (by omega), if_pos (by omega), zQc (qQc l ((D[j] : Nat) : Int)).f2 h1 h2]
    simp only [obind]
    rw [if_pos (by omega), w64 (e := (j : Int) + 1) (by omega) (by omega), show ((j : Int) + 1) = ((j + 1 : Nat) : Int) by omega,
      ih (j + 1) _ k (by omega) (by rw [List.length_append, List.length_singleton]; omega)]
    congr 1
    exact qVn hjl acc (itr l)
theorem loop2 (l : List S43) (a : Int) (A D : List Nat) (p0 p1 p2 p3 : Int) (hD : ∀ i ∈ D, i < l.length) (hn : D.length ≤ 100) (hl : l.length ≤ 1000) (V : List Int) (r : Int) (rooms : List Int) : ∀ (m j : Nat) (acc : List Int) (k : Nat), j + m = D.length → acc.length ≤ 3000 + j →
    rooms = acc ++ (D.drop j).map (prn l) → qZx.f k a rooms = some (V, r, 0) →
    qQg.l2 (m + 1 + k) l a (toI A) (toI D) acc (toI D) (D.length : Int) (j : Int) p0 p1 p2 p3 = qQg.l3 k l (toI A) (toI D) V r (D.length : Int) (List.replicate l.length 0) (List.replicate l.length 0) (List.replicate l.length 0) (D.length : Int) 0 p0 p1 p2 p3 := by
  intro m
  induction m with
  | zero =>
    intro j acc k hj ha hr hf
    rw [show 0 + 1 + k = k + 1 by omega]
    simp only [qQg.l2]
    rw [List.drop_of_length_le (by omega), List.map_nil, List.append_nil] at hr
    rw [if_neg (by omega), ← hr, hf]
    simp only [obind]
    rw [if_pos trivial, if_pos (by omega), if_pos (by omega), qYk, Int.toNat_natCast]
  | succ m ih =>
    intro j acc k hj ha hr hf
    rw [show m + 1 + 1 + k = (m + 1 + k) + 1 by omega]
    simp only [qQg.l2]
    have hjl : j < D.length := by omega
    have hb := hD _ (List.getElem_mem hjl)
    rw [if_pos (by omega), if_pos (by omega), if_pos (by rw [qYk]; omega), qWf hjl, if_pos (by omega), if_pos (by omega), if_pos (by omega), w64 (e := (j : Int) + 1) (by omega) (by omega), show ((j : Int) + 1) = ((j + 1 : Nat) : Int) by omega,
      ih (j + 1) _ k (by omega) (by rw [List.length_append, List.length_singleton]; omega) (by rw [hr]; exact (qVn hjl acc (prn l)).symm) hf]
def upd : List Int → List Nat → List Int → List Int
  | x, a :: A, v :: V => upd (x.set a v) A V
  | x, _, _ => x
theorem qKe : ∀ (A : List Nat) (V x : List Int), (upd x A V).length = x.length := by
  intro A
  induction A with
  | nil => intro V x; cases V <;> rfl
  | cons a A ih => intro V x; cases V with
    | nil => rfl
    | cons v V => rw [upd, ih, List.length_set]
theorem qJb : ∀ (A : List Nat) (V x : List Int) (i : Nat), A.Nodup → A.length = V.length → i < x.length → rd (upd x A V) (i : Int) = if i ∈ A then val A V i else rd x (i : Int) := by
  intro A
  induction A with
  | nil => intro V x i _ _ _; cases V <;> simp [upd]
  | cons a A ih =>
    intro V x i hn hl hi
    cases V with
    | nil => simp at hl
    | cons v V =>
      have hn2 := List.nodup_cons.1 hn
      rw [upd, ih V _ i hn2.2 (by simpa using hl) (by rw [List.length_set]; exact hi), val]
      by_cases c : i = a
      · rw [if_neg (show ¬ i ∈ A from fun h => hn2.1 (c ▸ h)), if_pos (show i ∈ a :: A from by rw [c]; exact List.mem_cons_self ..), if_pos c, rd_at (by rw [List.length_set]; exact hi)]
        simp [c]
      · by_cases c2 : i ∈ A
        · rw [if_pos c2, if_pos (show i ∈ a :: A from List.mem_cons_of_mem _ c2), if_neg c]
        · rw [if_neg c2, if_neg (show ¬ i ∈ a :: A from fun h => (List.mem_cons.1 h).elim c c2), rd_at (by rw [List.length_set]; exact hi), rd_at hi, List.getElem_set_ne (fun e => c e.symm)]
theorem loop3 (l : List S43) (A D : List Nat) (V1 V2 V3 : List Int) (r : Int) (p0 p1 p2 p3 : Int) (hA : ∀ i ∈ A, i < l.length) (hD : ∀ i ∈ D, i < l.length) (hn : D.length ≤ 100) (hAD : A.length = D.length) (h1 : V1.length = D.length) (h2 : V2.length = D.length) (h3 : V3.length = D.length) (hl : l.length ≤ 1000) :
    ∀ (m j : Nat) (x y z : List Int) (k : Nat), j + m = D.length → x.length = l.length → y.length = l.length → z.length = l.length →
    qQg.l3 (m + 1 + k) l (toI A) (toI D) (V1 ++ (V2 ++ V3)) r (D.length : Int) x y z (D.length : Int) (j : Int) p0 p1 p2 p3 = qQg.l4 k l l (upd x (A.drop j) (V1.drop j)) (upd y (D.drop j) (V2.drop j)) (upd z (D.drop j) (V3.drop j)) (toI D) (D.length : Int) 0 p0 p1 p2 r := by
  intro m
  induction m with
  | zero =>
    intro j x y z k hj hx hy hz
    rw [show 0 + 1 + k = k + 1 by omega]
    simp only [qQg.l3]
    rw [if_neg (by omega), (List.drop_of_length_le (by omega) : A.drop j = []), (List.drop_of_length_le (by omega) : D.drop j = [])]
    unfold qYs.f
    rw [if_pos (by omega), qYk]
    simp only [obind, upd]
  | succ m ih =>
    intro j x y z k hj hx hy hz
    rw [show m + 1 + 1 + k = (m + 1 + k) + 1 by omega]
    simp only [qQg.l3]
    have hjl : j < D.length := by omega
    have ha := hA _ (List.getElem_mem (show j < A.length by omega))
    have hd := hD _ (List.getElem_mem hjl)
    have hL : (V1 ++ (V2 ++ V3)).length = 3 * D.length := by rw [List.length_append, List.length_append]; omega
    have e1 : rd (V1 ++ (V2 ++ V3)) (j : Int) = V1[j]'(by omega) := by rw [rd_at (by omega), List.getElem_append_left (by omega)]
    have e2 : rd (V1 ++ (V2 ++ V3)) ((D.length : Int) + (j : Int)) = V2[j]'(by omega) := by
      rw [show (D.length : Int) + (j : Int) = ((D.length + j : Nat) : Int) by omega, rd_at (by omega), List.getElem_append_right (by omega), List.getElem_append_left (by omega)]
      congr 1; omega
    have e3 : rd (V1 ++ (V2 ++ V3)) (2 * (D.length : Int) + (j : Int)) = V3[j]'(by omega) := by
      rw [show 2 * (D.length : Int) + (j : Int) = ((2 * D.length + j : Nat) : Int) by omega, rd_at (by omega), List.getElem_append_right (by omega), List.getElem_append_right (by omega)]
      congr 1; omega
    rw [w64 (e := (j : Int) + 1) (by omega) (by omega), w64 (e := 2 * (D.length : Int)) (by omega) (by omega), w64 (e := (D.length : Int) + (j : Int)) (by omega) (by omega), w64 (e := 2 * (D.length : Int) + (j : Int)) (by omega) (by omega), e1, e2, e3]
    rw [if_pos (by omega), if_pos (by omega), if_pos (by rw [qYk]; omega), if_pos (by rw [qYk]; omega), if_pos (by omega), if_pos (by omega), if_pos (by omega), if_pos (by omega), if_pos (by omega), qWf (show j < A.length by omega), qWf hjl]
    rw [if_pos (by omega), if_pos (by omega), if_pos (by omega), if_pos (by omega), if_pos (by omega), Int.toNat_natCast, Int.toNat_natCast, show ((j : Int) + 1) = ((j + 1 : Nat) : Int) by omega,
      ih (j + 1) _ _ _ k (by omega) (by rw [List.length_set]; exact hx) (by rw [List.length_set]; exact hy) (by rw [List.length_set]; exact hz)]
    rw [List.drop_eq_getElem_cons (show j < A.length by omega), List.drop_eq_getElem_cons hjl, List.drop_eq_getElem_cons (show j < V1.length by omega), List.drop_eq_getElem_cons (show j < V2.length by omega), List.drop_eq_getElem_cons (show j < V3.length by omega)]
    simp only [upd]
def tup (x : S43) (e : Int) : Int × Int × Int × Int × Int × Int × Bool × Int × Int × Int × Int × Int × Int × Int := (x.f0, x.f1, x.f2, x.f3, x.f4, x.f5, x.f6, x.f7, x.f8, x.f9, x.f10, x.f11, x.f12, e)
def payL (x : S43) (pf pi pp : Int) : Int × Int × Int × Int × Int × Int × Bool × Int × Int × Int × Int × Int × Int × Int := payS x.f0 x.f1 x.f2 x.f3 x.f4 x.f5 x.f6 x.f7 x.f8 x.f9 x.f10 x.f11 x.f12 pf pi pp
def updS : List S43 → List Nat → (Nat → S43) → List S43
  | x, [], _ => x
  | x, a :: A, g => updS (x.set a (g a)) A g
theorem qKn : ∀ (A : List Nat) (x : List S43) (g : Nat → S43), (updS x A g).length = x.length := by
  intro A
  induction A with
  | nil => intro x g; rfl
  | cons a A ih => intro x g; rw [updS, ih, List.length_set]
theorem qJo : ∀ (A : List Nat) (x : List S43) (g : Nat → S43) (i : Nat), i < x.length → rn (updS x A g) i = if i ∈ A then g i else rn x i := by
  intro A
  induction A with
  | nil => intro x g i _; simp [updS]
  | cons a A ih =>
    intro x g i hi
    rw [updS, ih _ g i (by rw [List.length_set]; exact hi)]
    by_cases c2 : i ∈ A
    · rw [if_pos c2, if_pos (List.mem_cons_of_mem _ c2)]
    · rw [if_neg c2, rn_at (by rw [List.length_set]; exact hi)]
      by_cases c : i = a
      · rw [if_pos (by rw [c]; exact List.mem_cons_self ..)]; simp [c]
      · rw [if_neg (fun h => (List.mem_cons.1 h).elim c c2), List.getElem_set_ne (fun e => c e.symm), rn_at hi]
theorem qJa : ∀ (L : List Int), (∀ x ∈ L, 0 ≤ x) → 0 ≤ L.sum := by
  intro L
  induction L with
  | nil => intro _; exact Int.le_refl _
  | cons x L ih =>
    intro h
    have := h x (List.mem_cons_self ..)
    have := ih (fun y hy => h y (List.mem_cons_of_mem _ hy))
    rw [List.sum_cons]; omega
theorem loop4 (l : List S43) (D : List Nat) (X Y Z : List Int) (pd : Nat → S43) (p3 : Int) (hD : ∀ i ∈ D, i < l.length) (hn : D.length ≤ 100) (hX : X.length = l.length) (hY : Y.length = l.length) (hZ : Z.length = l.length)
    (hok : ∀ i ∈ D, payL (rn l i) (rd X (i : Int)) (rd Y (i : Int)) (rd Z (i : Int)) = tup (pd i) 0) (hnn : ∀ i ∈ D, 0 ≤ rd X (i : Int) ∧ 0 ≤ rd Y (i : Int) ∧ 0 ≤ rd Z (i : Int)) :
    ∀ (m j : Nat) (x4 : List S43) (p0 p1 p2 : Int) (k : Nat), j + m = D.length → x4.length = l.length → 10 ≤ k → 0 ≤ p0 → 0 ≤ p1 → 0 ≤ p2 →
    p0 + ((D.drop j).map (fun i => rd X (i : Nat))).sum ≤ 10000000000000000 → p1 + ((D.drop j).map (fun i => rd Y (i : Nat))).sum ≤ 10000000000000000 → p2 + ((D.drop j).map (fun i => rd Z (i : Nat))).sum ≤ 10000000000000000 →
    qQg.l4 (m + 1 + k) l x4 X Y Z (toI D) (D.length : Int) (j : Int) p0 p1 p2 p3 = some (updS x4 (D.drop j) pd, p0 + ((D.drop j).map (fun i => rd X (i : Nat))).sum, p1 + ((D.drop j).map (fun i => rd Y (i : Nat))).sum, p2 + ((D.drop j).map (fun i => rd Z (i : Nat))).sum, p3, 0) := by
  intro m
  induction m with
  | zero =>
    intro j x4 p0 p1 p2 k hj h4 hk _ _ _ _ _ _
    rw [show 0 + 1 + k = k + 1 by omega]
    simp only [qQg.l4]
    rw [if_neg (by omega), List.drop_of_length_le (by omega)]
    simp [updS]
  | succ m ih =>
    intro j x4 p0 p1 p2 k hj h4 hk q0 q1 q2 s0 s1 s2
    rw [show m + 1 + 1 + k = (m + 1 + k) + 1 by omega]
    simp only [qQg.l4]
    have hjl : j < D.length := by omega
    have hd := hD _ (List.getElem_mem hjl)
    obtain ⟨n1, n2, n3⟩ := hnn _ (List.getElem_mem hjl)
    have ho := hok _ (List.getElem_mem hjl)
    rw [List.drop_eq_getElem_cons hjl, List.map_cons, List.sum_cons] at s0 s1 s2
    have t0 := qJa ((D.drop (j + 1)).map (fun i => rd X (i : Nat))) (fun x hx => by obtain ⟨i, hi, rfl⟩ := List.mem_map.1 hx; exact (hnn i (List.mem_of_mem_drop hi)).1)
    have t1 := qJa ((D.drop (j + 1)).map (fun i => rd Y (i : Nat))) (fun x hx => by obtain ⟨i, hi, rfl⟩ := List.mem_map.1 hx; exact (hnn i (List.mem_of_mem_drop hi)).2.1)
    have t2 := qJa ((D.drop (j + 1)).map (fun i => rd Z (i : Nat))) (fun x hx => by obtain ⟨i, hi, rfl⟩ := List.mem_map.1 hx; exact (hnn i (List.mem_of_mem_drop hi)).2.2)
    rw [if_pos (by omega), if_pos (by omega), if_pos (by rw [qYk]; omega), qWf hjl, if_pos (by omega), if_pos (by omega), if_pos (by omega), if_pos (by omega), if_pos (by omega), pay_is _ _ _ _ _ _ _ _ _ _ _ _ _ _ _ _ _ (by omega),
      show payS (qQc l ((D[j] : Nat) : Int)).f0 (qQc l ((D[j] : Nat) : Int)).f1 (qQc l ((D[j] : Nat) : Int)).f2 (qQc l ((D[j] : Nat) : Int)).f3 (qQc l ((D[j] : Nat) : Int)).f4 (qQc l ((D[j] : Nat) : Int)).f5 (qQc l ((D[j] : Nat) : Int)).f6 (qQc l ((D[j] : Nat) : Int)).f7 (qQc l ((D[j] : Nat) : Int)).f8 (qQc l ((D[j] : Nat) : Int)).f9 (qQc l ((D[j] : Nat) : Int)).f10 (qQc l ((D[j] : Nat) : Int)).f11 (qQc l ((D[j] : Nat) : Int)).f12 (rd X ((D[j] : Nat) : Int)) (rd Y ((D[j] : Nat) : Int)) (rd Z ((D[j] : Nat) : Int)) = tup (pd D[j]) 0 from ho]
    simp only [obind, tup]
    rw [if_pos (by omega), if_pos trivial, w64 (e := (j : Int) + 1) (by omega) (by omega), w64 (e := p0 + _) (by omega) (by omega), w64 (e := p1 + _) (by omega) (by omega), w64 (e := p2 + _) (by omega) (by omega), Int.toNat_natCast, show ((j : Int) + 1) = ((j + 1 : Nat) : Int) by omega,
      ih (j + 1) _ _ _ _ k (by omega) (by rw [List.length_set]; exact h4) hk (by omega) (by omega) (by omega) (by omega) (by omega) (by omega)]
    rw [List.drop_eq_getElem_cons hjl]
    simp only [List.map_cons, List.sum_cons, updS, Int.add_assoc]
end Go.Proofs.Yteemomncbcpdjaa.Pure
