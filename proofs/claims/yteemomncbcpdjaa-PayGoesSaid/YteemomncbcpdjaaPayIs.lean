/- A part of a proof. -/
import Derived.Test.YteemomncbcpdjaaPayLoops
import Derived.Test.YteemomncbcpdjaaZp
namespace Go.Proofs.Yteemomncbcpdjaa.Pure
set_option linter.unusedVariables false
set_option linter.unusedSimpArgs false
open Go.RowKit Go.Proofs.Yteemomncbcpdjaa.P W.PrintWords W.PrintLast W.PrintMore Go.Proofs.Yteemomncbcpdjaa.PlainM Go.Proofs.Yteemomncbcpdjaa.Plain
def pdS (x : S43) (pf pi pp : Int) : S43 :=
  if x.f4 - pf = 0 ∧ (x.f2 - pi * 1000000) / 1000000 = 0 ∧ x.f1 - pp = 0 then ⟨x.f0, 0, 0, x.f3, 0, x.f5, x.f6, x.f7, 1, x.f9, x.f10, x.f11, x.f12⟩
  else ⟨x.f0, x.f1 - pp, x.f2 - pi * 1000000, x.f3, x.f4 - pf, x.f5, x.f6, x.f7, 0, x.f9, x.f10, x.f11, x.f12⟩
theorem zQa (x : S43) (pf pi pp : Int) (g : gdL x) (h8 : x.f8 = 0) (h1 : 0 ≤ pf ∧ pf ≤ x.f4) (h2 : 0 ≤ pi ∧ pi ≤ x.f2 / 1000000) (h3 : 0 ≤ pp ∧ pp ≤ x.f1) : payL x pf pi pp = tup (pdS x pf pi pp) 0 := by
  unfold payL payS
  rw [if_pos (show gd _ _ _ _ _ _ _ _ _ _ _ _ from g), if_neg (by omega), if_neg (show ¬ ¬ x.f8 = 0 from fun h => h h8), if_neg (by omega)]
  unfold pdS
  by_cases c : x.f4 - pf = 0 ∧ (x.f2 - pi * 1000000) / 1000000 = 0 ∧ x.f1 - pp = 0
  · rw [if_pos c, if_pos c]; rfl
  · rw [if_neg c, if_neg c]; rfl
section
variable (l : List S43) (a : Int)
def F1 : List Int := fl ((plI l).map (fee l)) a
def R1 : Int := fr ((plI l).map (fee l)) a
def F2 : List Int := fl ((plD l).map (itr l)) (R1 l a)
def R2 : Int := fr ((plD l).map (itr l)) (R1 l a)
def F3 : List Int := fl ((plD l).map (prn l)) (R2 l a)
def R3 : Int := fr ((plD l).map (prn l)) (R2 l a)
def vF (i : Nat) : Int := val (plI l) (F1 l a) i
def vI (i : Nat) : Int := val (plD l) (F2 l a) i
def vP (i : Nat) : Int := val (plD l) (F3 l a) i
def pdA (i : Nat) : S43 := pdS (rn l i) (vF l a i) (vI l a i) (vP l a i)
def outL : List S43 := updS l (plD l) (pdA l a)
end
theorem qWx (l : List S43) : (plI l).Perm (opN l) := qY7 _ _
theorem qWw (l : List S43) : (plD l).Perm (opN l) := qY7 _ _
theorem qW4 (l : List S43) : (plI l).Nodup := (qWx l).nodup_iff.2 (qVw l)
theorem qXl (l : List S43) : (plD l).Nodup := (qWw l).nodup_iff.2 (qVw l)
theorem qX4 {l : List S43} {i : Nat} : i ∈ plI l ↔ i < l.length ∧ (rn l i).f8 = 0 := (qWx l).mem_iff.trans qK5
theorem qY3 {l : List S43} {i : Nat} : i ∈ plD l ↔ i < l.length ∧ (rn l i).f8 = 0 := (qWw l).mem_iff.trans qK5
theorem qJe (l : List S43) : (opN l).length ≤ l.length := by
  unfold opN
  exact Nat.le_trans (List.length_filter_le _ _) (by simp)
theorem qJq (l : List S43) : (plI l).length = (opN l).length := (qWx l).length_eq
theorem qKd (l : List S43) : (plD l).length = (opN l).length := (qWw l).length_eq
theorem gd_bd {x : S43} (g : gdL x) : (0 ≤ x.f4 ∧ x.f4 ≤ 10000000000000) ∧ (0 ≤ x.f2 ∧ x.f2 ≤ 1000000000000000000) ∧ (0 ≤ x.f1 ∧ x.f1 ≤ 10000000000000) := by
  unfold gdL gd mon at g; omega
section
variable {l : List S43} {a : Int}
theorem qV4 (hg : ∀ x ∈ l, gdL x) (i : Nat) (hi : i < l.length) : 0 ≤ fee l i ∧ fee l i ≤ 10000000000000 := (gd_bd (hg _ (qWg hi))).1
theorem qV0 (hg : ∀ x ∈ l, gdL x) (i : Nat) (hi : i < l.length) : 0 ≤ itr l i ∧ itr l i ≤ 10000000000000 := by
  have := (gd_bd (hg _ (qWg hi))).2.1
  unfold itr; omega
theorem qV3 (hg : ∀ x ∈ l, gdL x) (i : Nat) (hi : i < l.length) : 0 ≤ prn l i ∧ prn l i ≤ 10000000000000 := (gd_bd (hg _ (qWg hi))).2.2
theorem R_bd (hg : ∀ x ∈ l, gdL x) (ha : 0 ≤ a) : (0 ≤ R1 l a ∧ R1 l a ≤ a) ∧ (0 ≤ R2 l a ∧ R2 l a ≤ R1 l a) ∧ (0 ≤ R3 l a ∧ R3 l a ≤ R2 l a) := by
  have h1 := fr_bd ((plI l).map (fee l)) a (fun x hx => by obtain ⟨i, hi, rfl⟩ := List.mem_map.1 hx; exact (qV4 hg i (qX4.1 hi).1).1) ha
  have h2 := fr_bd ((plD l).map (itr l)) (R1 l a) (fun x hx => by obtain ⟨i, hi, rfl⟩ := List.mem_map.1 hx; exact (qV0 hg i (qY3.1 hi).1).1) h1.1
  have h3 := fr_bd ((plD l).map (prn l)) (R2 l a) (fun x hx => by obtain ⟨i, hi, rfl⟩ := List.mem_map.1 hx; exact (qV3 hg i (qY3.1 hi).1).1) h2.1
  exact ⟨h1, h2, h3⟩
theorem v_bd (hg : ∀ x ∈ l, gdL x) (ha : 0 ≤ a) (i : Nat) (hi : i < l.length) (h8 : (rn l i).f8 = 0) : (0 ≤ vF l a i ∧ vF l a i ≤ fee l i) ∧ (0 ≤ vI l a i ∧ vI l a i ≤ itr l i) ∧ (0 ≤ vP l a i ∧ vP l a i ≤ prn l i) := by
  have hR := R_bd hg ha
  have h1 := qJt (fee l) (plI l) a (fun i hi => (qV4 hg i (qX4.1 hi).1).1) ha i
  have h2 := qJt (itr l) (plD l) (R1 l a) (fun i hi => (qV0 hg i (qY3.1 hi).1).1) hR.1.1 i
  have h3 := qJt (prn l) (plD l) (R2 l a) (fun i hi => (qV3 hg i (qY3.1 hi).1).1) hR.2.1.1 i
  exact ⟨⟨h1.1, h1.2 (qX4.2 ⟨hi, h8⟩)⟩, ⟨h2.1, h2.2 (qY3.2 ⟨hi, h8⟩)⟩, ⟨h3.1, h3.2 (qY3.2 ⟨hi, h8⟩)⟩⟩
theorem qKt : (F1 l a).length = (plI l).length := by unfold F1; rw [qJv, List.length_map]
theorem qKl : (F2 l a).length = (plD l).length := by unfold F2; rw [qJv, List.length_map]
theorem qKp : (F3 l a).length = (plD l).length := by unfold F3; rw [qJv, List.length_map]
theorem zQx {x y : List Int} (h : x.Perm y) : x.sum = y.sum := by
  induction h with
  | nil => rfl
  | cons a _ ih => rw [List.sum_cons, List.sum_cons, ih]
  | swap a b r => simp only [List.sum_cons]; omega
  | trans _ _ h1 h2 => exact h1.trans h2
theorem sumF : ((plD l).map (vF l a)).sum = (F1 l a).sum := by
  have e : (plI l).map (vF l a) = F1 l a := qKj (plI l) (F1 l a) (qW4 l) qKt.symm
  rw [← e]
  exact zQx (((qWw l).trans (qWx l).symm).map _)
theorem sumI : ((plD l).map (vI l a)).sum = (F2 l a).sum := by
  have e : (plD l).map (vI l a) = F2 l a := qKj (plD l) (F2 l a) (qXl l) qKl.symm
  rw [e]
theorem sumP : ((plD l).map (vP l a)).sum = (F3 l a).sum := by
  have e : (plD l).map (vP l a) = F3 l a := qKj (plD l) (F3 l a) (qXl l) qKp.symm
  rw [e]
theorem sums : (F1 l a).sum = a - R1 l a ∧ (F2 l a).sum = R1 l a - R2 l a ∧ (F3 l a).sum = R2 l a - R3 l a := by
  have h1 := qJ1 ((plI l).map (fee l)) a
  have h2 := qJ1 ((plD l).map (itr l)) (R1 l a)
  have h3 := qJ1 ((plD l).map (prn l)) (R2 l a)
  unfold F1 F2 F3
  refine ⟨?_, ?_, ?_⟩
  · show _ = a - fr _ _; omega
  · show _ = _ - fr _ _; omega
  · show _ = _ - fr _ _; omega
end
def noPay (l : List S43) (a : Int) : Bool := decide (badL l = true ∨ 16 < l.length ∨ a < 0 ∨ 10000000000000 < a)
def payR (l : List S43) (a : Int) : List S43 × Int × Int × Int × Int × Int :=
  if noPay l a = true then ([], 0, 0, 0, 0, 1) else (outL l a, (F1 l a).sum, (F2 l a).sum, (F3 l a).sum, R3 l a, 0)
theorem All_ok (l : List S43) (a : Int) (hg : ∀ x ∈ l, gdL x) (hl : l.length ≤ 16) (ha : 0 ≤ a) (ha' : a ≤ 10000000000000) (k : Nat) (hk : 200 ≤ k) :
    qQg.j0 k l a false 0 0 0 0 = some (outL l a, (F1 l a).sum, (F2 l a).sum, (F3 l a).sum, R3 l a, 0) := by
  have hop := qJe l
  have hA := qJq l
  have hD := qKd l
  obtain ⟨k, rfl⟩ : ∃ q, k = q + 1 := ⟨k - 1, by omega⟩
  simp only [qQg.j0]
  rw [if_neg (by simp)]
  have eO : qZ7.f k l = some (toI (plD l)) := by unfold qZ7.f qZ9.f; rw [if_pos (by omega)]; rfl
  rw [eO]
  unfold qYd.f
  rw [if_pos (by omega)]
  simp only [obind]
  obtain ⟨k0, e0⟩ : ∃ q, k = (plI l).length + 1 + q := ⟨k - ((plI l).length + 1), by omega⟩
  obtain ⟨k1, e1⟩ : ∃ q, k0 = (plD l).length + 1 + q := ⟨k0 - ((plD l).length + 1), by omega⟩
  obtain ⟨k2, e2⟩ : ∃ q, k1 = (plD l).length + 1 + q := ⟨k1 - ((plD l).length + 1), by omega⟩
  obtain ⟨k3, e3⟩ : ∃ q, k2 = (plD l).length + 1 + q := ⟨k2 - ((plD l).length + 1), by omega⟩
  obtain ⟨k4, e4⟩ : ∃ q, k3 = (plD l).length + 1 + q := ⟨k3 - ((plD l).length + 1), by omega⟩
  have mA : ∀ i ∈ plI l, i < l.length := fun i hi => (qX4.1 hi).1
  have mD : ∀ i ∈ plD l, i < l.length := fun i hi => (qY3.1 hi).1
  have hR := R_bd hg ha
  have hS := @sums l a
  rw [qYk, e0, show (0 : Int) = ((0 : Nat) : Int) from rfl,
    loop0 l a (plI l) (plD l) _ _ _ _ mA (by omega) (plI l).length 0 [] k0 (by omega) (by simp), e1, show (0 : Int) = ((0 : Nat) : Int) from rfl,
    loop1 l a (plI l) (plD l) _ _ _ _ (fun i hi => ⟨mD i hi, (gd_bd (hg _ (qWg (mD i hi)))).2.1.1, (gd_bd (hg _ (qWg (mD i hi)))).2.1.2⟩) (by omega) (plD l).length 0 _ k1 (by omega) (by simp; omega), e2, show (0 : Int) = ((0 : Nat) : Int) from rfl]
  rw [List.drop_zero, List.drop_zero, List.nil_append]
  have hrooms : ∀ x ∈ (plI l).map (fee l) ++ (plD l).map (itr l) ++ (plD l).map (prn l), 0 ≤ x ∧ x ≤ 10000000000000 := by
    intro x hx
    rcases List.mem_append.1 hx with hx | hx
    · rcases List.mem_append.1 hx with hx | hx
      · obtain ⟨i, hi, rfl⟩ := List.mem_map.1 hx; exact qV4 hg i (mA i hi)
      · obtain ⟨i, hi, rfl⟩ := List.mem_map.1 hx; exact qV0 hg i (mD i hi)
    · obtain ⟨i, hi, rfl⟩ := List.mem_map.1 hx; exact qV3 hg i (mD i hi)
  have hlen : ((plI l).map (fee l) ++ (plD l).map (itr l) ++ (plD l).map (prn l)).length ≤ 48 := by rw [List.length_append, List.length_append, List.length_map, List.length_map, List.length_map]; omega
  have hfill := zQ5 _ a k2 (by omega) (by omega) hrooms ha ha'
  have efl : fl ((plI l).map (fee l) ++ (plD l).map (itr l) ++ (plD l).map (prn l)) a = F1 l a ++ (F2 l a ++ F3 l a) := by
    rw [(qVy _ _ _).1, (qVy _ _ _).1, (qVy _ _ _).2, List.append_assoc]; rfl
  have efr : fr ((plI l).map (fee l) ++ (plD l).map (itr l) ++ (plD l).map (prn l)) a = R3 l a := by
    rw [(qVy _ _ _).2, (qVy _ _ _).2]; rfl
  rw [efl, efr] at hfill
  rw [loop2 l a (plI l) (plD l) _ _ _ _ mD (by omega) (by omega) _ _ _ (plD l).length 0 _ k2 (by omega) (by rw [List.length_append, List.length_map, List.length_map]; omega) (by rw [List.drop_zero]) hfill, e3, show (0 : Int) = ((0 : Nat) : Int) from rfl]
  rw [loop3 l (plI l) (plD l) _ _ _ _ _ _ _ _ mA mD (by omega) (by omega) (by rw [qKt]; omega) qKl qKp (by omega) (plD l).length 0 _ _ _ k3 (by omega) (by simp) (by simp) (by simp), e4, show (0 : Int) = ((0 : Nat) : Int) from rfl]
  simp only [List.drop_zero]
  have hX : ∀ i ∈ plD l, rd (upd (List.replicate l.length 0) (plI l) (F1 l a)) (i : Int) = vF l a i := fun i hi => by
    rw [qJb _ _ _ _ (qW4 l) qKt.symm (by rw [List.length_replicate]; exact mD i hi), if_pos (qX4.2 (qY3.1 hi))]; rfl
  have hY : ∀ i ∈ plD l, rd (upd (List.replicate l.length 0) (plD l) (F2 l a)) (i : Int) = vI l a i := fun i hi => by
    rw [qJb _ _ _ _ (qXl l) qKl.symm (by rw [List.length_replicate]; exact mD i hi), if_pos hi]; rfl
  have hZ : ∀ i ∈ plD l, rd (upd (List.replicate l.length 0) (plD l) (F3 l a)) (i : Int) = vP l a i := fun i hi => by
    rw [qJb _ _ _ _ (qXl l) qKp.symm (by rw [List.length_replicate]; exact mD i hi), if_pos hi]; rfl
  have sX : ((plD l).map (fun i => rd (upd (List.replicate l.length 0) (plI l) (F1 l a)) ((i : Nat) : Int))).sum = (F1 l a).sum := by rw [← sumF]; congr 1; exact List.map_congr_left hX
  have sY : ((plD l).map (fun i => rd (upd (List.replicate l.length 0) (plD l) (F2 l a)) ((i : Nat) : Int))).sum = (F2 l a).sum := by rw [← sumI]; congr 1; exact List.map_congr_left hY
  have sZ : ((plD l).map (fun i => rd (upd (List.replicate l.length 0) (plD l) (F3 l a)) ((i : Nat) : Int))).sum = (F3 l a).sum := by rw [← sumP]; congr 1; exact List.map_congr_left hZ
  have h4 := loop4 l (plD l) (upd (List.replicate l.length 0) (plI l) (F1 l a)) (upd (List.replicate l.length 0) (plD l) (F2 l a)) (upd (List.replicate l.length 0) (plD l) (F3 l a)) (pdA l a) (R3 l a) mD (by omega) (by rw [qKe, List.length_replicate]) (by rw [qKe, List.length_replicate]) (by rw [qKe, List.length_replicate])
    (fun i hi => by
      rw [hX i hi, hY i hi, hZ i hi]
      have hm := qY3.1 hi
      have b := v_bd hg ha i hm.1 hm.2
      exact zQa _ _ _ _ (hg _ (qWg hm.1)) hm.2 b.1 b.2.1 b.2.2)
    (fun i hi => by
      rw [hX i hi, hY i hi, hZ i hi]
      have hm := qY3.1 hi
      have b := v_bd hg ha i hm.1 hm.2
      exact ⟨b.1.1, b.2.1.1, b.2.2.1⟩) (plD l).length 0 l 0 0 0 k4 (by omega) rfl (by omega) (by omega) (by omega) (by omega)
  simp only [List.drop_zero] at h4
  rw [sX, sY, sZ] at h4
  rw [show ((0 : Nat) : Int) = 0 from rfl] at h4 ⊢
  rw [h4 (by omega) (by omega) (by omega)]
  simp only [Int.zero_add]
  rfl
theorem qVg (l : List S43) (a : Int) (hl : l.length ≤ 100000) (k : Nat) (hk : 300 ≤ k) : qQg.f k l a = some (payR l a) := by
  have hbadj : qQg.j0 k l a true 0 0 0 0 = some (([] : List S43), 0, 0, 0, 0, 1) := by
    obtain ⟨k, rfl⟩ : ∃ q, k = q + 1 := ⟨k - 1, by omega⟩
    simp only [qQg.j0, if_true]
  unfold qQg.f payR
  rw [bad_is l hl k (by omega)]
  simp only [obind]
  by_cases c1 : badL l = true
  · rw [if_pos c1, hbadj, if_pos (by unfold noPay; exact decide_eq_true (.inl c1))]
  rw [if_neg c1]
  by_cases c2 : (l.length : Int) > 16
  · rw [if_pos c2, hbadj, if_pos (by unfold noPay; exact decide_eq_true (.inr (.inl (by omega))))]
  rw [if_neg c2]
  by_cases c3 : a < 0
  · rw [if_pos c3, hbadj, if_pos (by unfold noPay; exact decide_eq_true (.inr (.inr (.inl c3))))]
  rw [if_neg c3, qX8]
  simp only [obind]
  by_cases c4 : 10000000000000 < a
  · rw [decide_eq_false (by omega), Bool.not_false, hbadj, if_pos (by unfold noPay; exact decide_eq_true (.inr (.inr (.inr c4))))]
  rw [decide_eq_true (show -10000000000000 ≤ a ∧ a ≤ 10000000000000 by omega), Bool.not_true, if_neg (by unfold noPay; simp only [decide_eq_true_eq]; exact fun h => h.elim c1 (fun h => h.elim (fun h => by omega) (fun h => h.elim c3 c4)))]
  exact All_ok l a (qKr (by simpa using c1)) (by omega) (by omega) (by omega) k (by omega)
end Go.Proofs.Yteemomncbcpdjaa.Pure
