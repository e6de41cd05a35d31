/- A payment behind a payment, as long as nothing of the first one is refunded: the same as both at once. -/
import Derived.Test.YteemomncbcpdjaaPayOrd
namespace Go.Proofs.Yteemomncbcpdjaa.Pure
set_option linter.unusedVariables false
set_option linter.unusedSectionVars false
set_option linter.unusedSimpArgs false
open Go.RowKit Go.Proofs.Yteemomncbcpdjaa.P Go.Proofs.YteemomncbcpdjaaW.PrintWords Go.Proofs.YteemomncbcpdjaaW.PrintLast Go.Proofs.YteemomncbcpdjaaW.PrintMore Go.Proofs.Yteemomncbcpdjaa.PlainM Go.Proofs.Yteemomncbcpdjaa.Plain
theorem pdS_keeps (x : S43) (pf pi pp : Int) : (pdS x pf pi pp).f0 = x.f0 ∧ (pdS x pf pi pp).f5 = x.f5 := by
  unfold pdS
  split <;> exact ⟨rfl, rfl⟩
theorem pdS_good (x : S43) (pf pi pp : Int) (g : gdL x) (h8 : x.f8 = 0) (h1 : 0 ≤ pf ∧ pf ≤ x.f4) (h2 : 0 ≤ pi ∧ pi ≤ x.f2 / 1000000) (h3 : 0 ≤ pp ∧ pp ≤ x.f1) : gdL (pdS x pf pi pp) := by
  unfold gdL gd mon at g ⊢
  unfold pdS
  by_cases c : x.f4 - pf = 0 ∧ (x.f2 - pi * 1000000) / 1000000 = 0 ∧ x.f1 - pp = 0
  · rw [if_pos c]; dsimp only; omega
  · rw [if_neg c]; dsimp only; omega
theorem rn_out {l : List S43} {a : Int} (i : Nat) (hi : l.length ≤ i) : rn (outL l a) i = rn l i := by
  unfold rn rd_T43
  rw [Int.toNat_natCast, List.getD_eq_getElem?_getD, List.getD_eq_getElem?_getD, List.getElem?_eq_none (by rw [outL_len']; exact hi), List.getElem?_eq_none hi]
section
variable {l : List S43} {a : Int} (hg : ∀ x ∈ l, gdL x) (ha : 0 ≤ a)
theorem out_keeps (i : Nat) : (rn (outL l a) i).f0 = (rn l i).f0 ∧ (rn (outL l a) i).f5 = (rn l i).f5 := by
  by_cases hi : i < l.length
  · by_cases h8 : (rn l i).f8 = 0
    · rw [out_at i hi h8]; exact pdS_keeps _ _ _ _
    · rw [out_cl i hi h8]; exact ⟨rfl, rfl⟩
  · rw [rn_out i (by omega)]; exact ⟨rfl, rfl⟩
theorem idR_out : idR (outL l a) = idR l := by
  funext i j
  have h1 := (@out_keeps l a i).1
  have h2 := (@out_keeps l a j).1
  unfold rn at h1 h2
  unfold idR
  rw [h1, h2]
theorem drR_out : drR (outL l a) = drR l := by
  funext i j
  have h1 := @out_keeps l a i
  have h2 := @out_keeps l a j
  unfold rn at h1 h2
  unfold drR
  rw [h1.1, h2.1, h1.2, h2.2]
def stillO (l : List S43) (a : Int) (i : Nat) : Bool := decide ((rn (outL l a) i).f8 = 0)
theorem opN_out : opN (outL l a) = (opN l).filter (stillO l a) := by
  unfold opN
  rw [outL_len', List.filter_filter]
  refine List.filter_congr (fun i hi => ?_)
  have hi' : i < l.length := List.mem_range.1 hi
  show decide ((rn (outL l a) i).f8 = 0) = (stillO l a i && decide ((rn l i).f8 = 0))
  by_cases h8 : (rn l i).f8 = 0
  · rw [decide_eq_true h8, Bool.and_true]; rfl
  · rw [decide_eq_false h8, Bool.and_false, out_cl i hi' h8, decide_eq_false h8]
theorem plI_out : plI (outL l a) = (plI l).filter (stillO l a) := by
  unfold plI
  rw [idR_out, opN_out, srt_filter (idR_lin l) _ _ (opN_nodup l)]
theorem plD_out : plD (outL l a) = (plD l).filter (stillO l a) := by
  unfold plD
  rw [drR_out, opN_out, srt_filter (drR_lin l) _ _ (opN_nodup l)]
include hg ha
theorem out_good : ∀ x ∈ outL l a, gdL x := by
  intro x hx
  obtain ⟨i, hi, rfl⟩ := List.mem_iff_getElem.1 hx
  have hi' : i < l.length := by rw [outL_len'] at hi; exact hi
  rw [← rn_at hi]
  by_cases h8 : (rn l i).f8 = 0
  · rw [out_at i hi' h8]
    have b := v_bd hg ha i hi' h8
    exact pdS_good _ _ _ _ (hg _ (rn_mem hi')) h8 b.1 b.2.1 b.2.2
  · rw [out_cl i hi' h8]; exact hg _ (rn_mem hi')
theorem rooms_out (i : Nat) (hi : i < l.length) (h8 : (rn l i).f8 = 0) : fee (outL l a) i = fee l i - vF l a i ∧ itr (outL l a) i = itr l i - vI l a i ∧ prn (outL l a) i = prn l i - vP l a i := by
  unfold fee itr prn
  rw [out_at i hi h8]
  unfold pdA
  obtain ⟨h1, h2, h3, _⟩ := pdS_is (rn l i) (vF l a i) (vI l a i) (vP l a i)
  refine ⟨h1, ?_, h2⟩
  rcases h3 with h | h
  · rw [h]; omega
  · rw [h.1]; have := h.2; omega
theorem rooms_shut (i : Nat) (hi : i < l.length) (h8 : stillO l a i = false) : fee (outL l a) i = 0 ∧ itr (outL l a) i = 0 ∧ prn (outL l a) i = 0 := by
  have g := out_good hg ha (rn (outL l a) i) (rn_mem (by rw [outL_len']; exact hi))
  unfold stillO at h8
  have h8' : ¬ (rn (outL l a) i).f8 = 0 := by simpa using h8
  unfold gdL gd at g
  unfold fee itr prn
  omega
end
theorem zip_sum : ∀ (u v : List Int), u.length = v.length → (List.zipWith (· + ·) u v).sum = u.sum + v.sum := by
  intro u
  induction u with
  | nil => intro v h; cases v with
    | nil => rfl
    | cons => simp at h
  | cons x u ih =>
    intro v h
    cases v with
    | nil => simp at h
    | cons y v =>
      rw [List.zipWith_cons_cons, List.sum_cons, List.sum_cons, List.sum_cons, ih v (by simpa using h)]
      omega
theorem zip_app (f : Int → Int → Int) : ∀ (u v x y : List Int), u.length = x.length → List.zipWith f (u ++ v) (x ++ y) = List.zipWith f u x ++ List.zipWith f v y := by
  intro u
  induction u with
  | nil => intro v x y h; cases x with
    | nil => rfl
    | cons => simp at h
  | cons a u ih =>
    intro v x y h
    cases x with
    | nil => simp at h
    | cons b x => rw [List.cons_append, List.cons_append, List.zipWith_cons_cons, List.zipWith_cons_cons, List.cons_append, ih v x y (by simpa using h)]
theorem zip_len (f : Int → Int → Int) (u v : List Int) (h : u.length = v.length) : (List.zipWith f u v).length = u.length := by rw [List.length_zipWith, h, Nat.min_self]
section
variable {l : List S43} {a b : Int} (hg : ∀ x ∈ l, gdL x) (ha : 0 ≤ a) (hb : 0 ≤ b) (h0 : R3 l a = 0)
include hg ha hb h0
/-- What the second payment does, told by the first one's places. -/
theorem again : (F1 l (a + b) = List.zipWith (· + ·) (F1 l a) (fl ((plI l).map (fee (outL l a))) b) ∧ F2 l (a + b) = List.zipWith (· + ·) (F2 l a) (fl ((plD l).map (itr (outL l a))) (fr ((plI l).map (fee (outL l a))) b)) ∧
      F3 l (a + b) = List.zipWith (· + ·) (F3 l a) (fl ((plD l).map (prn (outL l a))) (fr ((plD l).map (itr (outL l a))) (fr ((plI l).map (fee (outL l a))) b)))) ∧
    R3 l (a + b) = fr ((plD l).map (prn (outL l a))) (fr ((plD l).map (itr (outL l a))) (fr ((plI l).map (fee (outL l a))) b)) := by
  have mI : ∀ i ∈ plI l, i < l.length ∧ (rn l i).f8 = 0 := fun i hi => plI_mem.1 hi
  have mD : ∀ i ∈ plD l, i < l.length ∧ (rn l i).f8 = 0 := fun i hi => plD_mem.1 hi
  have hL : ∀ x ∈ (plI l).map (fee l) ++ ((plD l).map (itr l) ++ (plD l).map (prn l)), 0 ≤ x := by
    intro x hx
    rcases List.mem_append.1 hx with hx | hx
    · obtain ⟨i, hi, rfl⟩ := List.mem_map.1 hx; exact (fee_nn hg i (mI i hi).1).1
    · rcases List.mem_append.1 hx with hx | hx
      · obtain ⟨i, hi, rfl⟩ := List.mem_map.1 hx; exact (itr_nn hg i (mD i hi).1).1
      · obtain ⟨i, hi, rfl⟩ := List.mem_map.1 hx; exact (prn_nn hg i (mD i hi).1).1
  have split : ∀ (u v w : List Int) (t : Int), fl (u ++ (v ++ w)) t = fl u t ++ (fl v (fr u t) ++ fl w (fr v (fr u t))) ∧ fr (u ++ (v ++ w)) t = fr w (fr v (fr u t)) := fun u v w t => by
    rw [(fl_app _ _ _).1, (fl_app _ _ _).1, (fl_app _ _ _).2, (fl_app _ _ _).2]; exact ⟨rfl, rfl⟩
  have h2 := fl_two _ a b hL ha hb (by rw [(split _ _ _ _).2]; exact h0)
  have eA : fl ((plI l).map (fee l) ++ ((plD l).map (itr l) ++ (plD l).map (prn l))) a = F1 l a ++ (F2 l a ++ F3 l a) := (split _ _ _ _).1
  have eB : fl ((plI l).map (fee l) ++ ((plD l).map (itr l) ++ (plD l).map (prn l))) (a + b) = F1 l (a + b) ++ (F2 l (a + b) ++ F3 l (a + b)) := (split _ _ _ _).1
  have eR : fr ((plI l).map (fee l) ++ ((plD l).map (itr l) ++ (plD l).map (prn l))) (a + b) = R3 l (a + b) := (split _ _ _ _).2
  have e1 : List.zipWith (· - ·) ((plI l).map (fee l)) (F1 l a) = (plI l).map (fee (outL l a)) := by
    rw [val_sub (plI l) (fee l) (F1 l a) (plI_nodup l) F1_len.symm]
    exact List.map_congr_left (fun i hi => (rooms_out hg ha i (mI i hi).1 (mI i hi).2).1.symm)
  have e2 : List.zipWith (· - ·) ((plD l).map (itr l)) (F2 l a) = (plD l).map (itr (outL l a)) := by
    rw [val_sub (plD l) (itr l) (F2 l a) (plD_nodup l) F2_len.symm]
    exact List.map_congr_left (fun i hi => (rooms_out hg ha i (mD i hi).1 (mD i hi).2).2.1.symm)
  have e3 : List.zipWith (· - ·) ((plD l).map (prn l)) (F3 l a) = (plD l).map (prn (outL l a)) := by
    rw [val_sub (plD l) (prn l) (F3 l a) (plD_nodup l) F3_len.symm]
    exact List.map_congr_left (fun i hi => (rooms_out hg ha i (mD i hi).1 (mD i hi).2).2.2.symm)
  have eL : List.zipWith (· - ·) ((plI l).map (fee l) ++ ((plD l).map (itr l) ++ (plD l).map (prn l))) (F1 l a ++ (F2 l a ++ F3 l a)) = (plI l).map (fee (outL l a)) ++ ((plD l).map (itr (outL l a)) ++ (plD l).map (prn (outL l a))) := by
    rw [zip_app _ _ _ _ _ (by rw [List.length_map, F1_len]), zip_app _ _ _ _ _ (by rw [List.length_map, F2_len]), e1, e2, e3]
  rw [eA, eB, eR, eL, (split _ _ _ _).1, (split _ _ _ _).2] at h2
  refine ⟨?_, h2.2⟩
  have h3 := h2.1
  rw [zip_app _ _ _ _ _ (by rw [F1_len, fl_len, List.length_map]), zip_app _ _ _ _ _ (by rw [F2_len, fl_len, List.length_map])] at h3
  have i1 := List.append_inj h3 (by rw [F1_len, zip_len _ _ _ (by rw [F1_len, fl_len, List.length_map]), F1_len])
  have i2 := List.append_inj i1.2 (by rw [F2_len, zip_len _ _ _ (by rw [F2_len, fl_len, List.length_map]), F2_len])
  exact ⟨i1.1, i2.1, i2.2⟩
theorem again_R : R1 (outL l a) b = fr ((plI l).map (fee (outL l a))) b ∧ R2 (outL l a) b = fr ((plD l).map (itr (outL l a))) (fr ((plI l).map (fee (outL l a))) b) ∧ R3 (outL l a) b = fr ((plD l).map (prn (outL l a))) (fr ((plD l).map (itr (outL l a))) (fr ((plI l).map (fee (outL l a))) b)) ∧
    ((F1 (outL l a) b).sum = (fl ((plI l).map (fee (outL l a))) b).sum ∧ (F2 (outL l a) b).sum = (fl ((plD l).map (itr (outL l a))) (fr ((plI l).map (fee (outL l a))) b)).sum ∧ (F3 (outL l a) b).sum = (fl ((plD l).map (prn (outL l a))) (fr ((plD l).map (itr (outL l a))) (fr ((plI l).map (fee (outL l a))) b))).sum) ∧
    ∀ i, vF (outL l a) b i = val (plI l) (fl ((plI l).map (fee (outL l a))) b) i ∧ vI (outL l a) b i = val (plD l) (fl ((plD l).map (itr (outL l a))) (fr ((plI l).map (fee (outL l a))) b)) i ∧ vP (outL l a) b i = val (plD l) (fl ((plD l).map (prn (outL l a))) (fr ((plD l).map (itr (outL l a))) (fr ((plI l).map (fee (outL l a))) b))) i := by
  have go := out_good hg ha
  have nn : ∀ i, i < l.length → 0 ≤ fee (outL l a) i ∧ 0 ≤ itr (outL l a) i ∧ 0 ≤ prn (outL l a) i := fun i hi =>
    ⟨(fee_nn go i (by rw [outL_len']; exact hi)).1, (itr_nn go i (by rw [outL_len']; exact hi)).1, (prn_nn go i (by rw [outL_len']; exact hi)).1⟩
  have f1 := val_filter (fee (outL l a)) (stillO l a) (plI l) b (plI_nodup l) (fun i hi => (nn i (plI_mem.1 hi).1).1) (fun i hi h => (rooms_shut hg ha i (plI_mem.1 hi).1 h).1) hb
  have s1 := fr_bd ((plI l).map (fee (outL l a))) b (fun x hx => by obtain ⟨i, hi, rfl⟩ := List.mem_map.1 hx; exact (nn i (plI_mem.1 hi).1).1) hb
  have f2 := val_filter (itr (outL l a)) (stillO l a) (plD l) (fr ((plI l).map (fee (outL l a))) b) (plD_nodup l) (fun i hi => (nn i (plD_mem.1 hi).1).2.1) (fun i hi h => (rooms_shut hg ha i (plD_mem.1 hi).1 h).2.1) s1.1
  have s2 := fr_bd ((plD l).map (itr (outL l a))) _ (fun x hx => by obtain ⟨i, hi, rfl⟩ := List.mem_map.1 hx; exact (nn i (plD_mem.1 hi).1).2.1) s1.1
  have f3 := val_filter (prn (outL l a)) (stillO l a) (plD l) (fr ((plD l).map (itr (outL l a))) (fr ((plI l).map (fee (outL l a))) b)) (plD_nodup l) (fun i hi => (nn i (plD_mem.1 hi).1).2.2) (fun i hi h => (rooms_shut hg ha i (plD_mem.1 hi).1 h).2.2) s2.1
  have r1 : R1 (outL l a) b = fr ((plI l).map (fee (outL l a))) b := by unfold R1; rw [plI_out]; exact f1.1
  have r2 : R2 (outL l a) b = fr ((plD l).map (itr (outL l a))) (fr ((plI l).map (fee (outL l a))) b) := by unfold R2; rw [r1, plD_out]; exact f2.1
  have r3 : R3 (outL l a) b = fr ((plD l).map (prn (outL l a))) (fr ((plD l).map (itr (outL l a))) (fr ((plI l).map (fee (outL l a))) b)) := by unfold R3; rw [r2, plD_out]; exact f3.1
  refine ⟨r1, r2, r3, ⟨?_, ?_, ?_⟩, fun i => ⟨?_, ?_, ?_⟩⟩
  · unfold F1; rw [plI_out]; exact f1.2.1
  · unfold F2; rw [r1, plD_out]; exact f2.2.1
  · unfold F3; rw [r2, plD_out]; exact f3.2.1
  · unfold vF F1; rw [plI_out]; exact f1.2.2 i
  · unfold vI F2; rw [r1, plD_out]; exact f2.2.2 i
  · unfold vP F3; rw [r2, plD_out]; exact f3.2.2 i
theorem again_sums : (F1 l a).sum + (F1 (outL l a) b).sum = (F1 l (a + b)).sum ∧ (F2 l a).sum + (F2 (outL l a) b).sum = (F2 l (a + b)).sum ∧ (F3 l a).sum + (F3 (outL l a) b).sum = (F3 l (a + b)).sum ∧ R3 (outL l a) b = R3 l (a + b) := by
  have h1 := again hg ha hb h0
  have h2 := again_R hg ha hb h0
  rw [h1.1.1, h1.1.2.1, h1.1.2.2, h1.2, zip_sum _ _ (by rw [F1_len, fl_len, List.length_map]), zip_sum _ _ (by rw [F2_len, fl_len, List.length_map]), zip_sum _ _ (by rw [F3_len, fl_len, List.length_map]), h2.2.2.2.1.1, h2.2.2.2.1.2.1, h2.2.2.2.1.2.2]
  exact ⟨rfl, rfl, rfl, h2.2.2.1⟩
theorem again_v (i : Nat) : vF l (a + b) i = vF l a i + vF (outL l a) b i ∧ vI l (a + b) i = vI l a i + vI (outL l a) b i ∧ vP l (a + b) i = vP l a i + vP (outL l a) b i := by
  have h1 := again hg ha hb h0
  have h2 := (again_R hg ha hb h0).2.2.2.2 i
  rw [h2.1, h2.2.1, h2.2.2]
  unfold vF vI vP
  rw [h1.1.1, h1.1.2.1, h1.1.2.2, val_add _ _ _ _ (by rw [F1_len, fl_len, List.length_map]), val_add _ _ _ _ (by rw [F2_len, fl_len, List.length_map]), val_add _ _ _ _ (by rw [F3_len, fl_len, List.length_map])]
  exact ⟨rfl, rfl, rfl⟩
theorem again_out : outL (outL l a) b = outL l (a + b) := by
  have go := out_good hg ha
  refine List.ext_getElem (by rw [outL_len', outL_len', outL_len']) (fun i h1 h2 => ?_)
  have hi : i < l.length := by rw [outL_len'] at h2; exact h2
  have hi' : i < (outL l a).length := by rw [outL_len']; exact hi
  rw [← rn_at h1, ← rn_at h2]
  by_cases h8 : (rn l i).f8 = 0
  case neg => rw [out_cl (l := l) i hi h8, out_cl i hi' (by rw [out_cl i hi h8]; exact h8), out_cl i hi h8]
  have hv := again_v hg ha hb h0 i
  rw [out_at (l := l) i hi h8]
  by_cases h8' : (rn (outL l a) i).f8 = 0
  · rw [out_at i hi' h8']
    unfold pdA
    rw [hv.1, hv.2.1, hv.2.2, out_at i hi h8]
    rw [out_at i hi h8] at h8'
    unfold pdA at h8' ⊢
    generalize vF (outL l a) b i = x1 at *
    generalize vI (outL l a) b i = x2 at *
    generalize vP (outL l a) b i = x3 at *
    generalize rn l i = y at *
    generalize vF l a i = z1 at *
    generalize vI l a i = z2 at *
    generalize vP l a i = z3 at *
    have e : pdS y z1 z2 z3 = ⟨y.f0, y.f1 - z3, y.f2 - z2 * 1000000, y.f3, y.f4 - z1, y.f5, y.f6, y.f7, 0, y.f9, y.f10, y.f11, y.f12⟩ := by
      unfold pdS at h8' ⊢
      by_cases c : y.f4 - z1 = 0 ∧ (y.f2 - z2 * 1000000) / 1000000 = 0 ∧ y.f1 - z3 = 0
      · rw [if_pos c] at h8'; simp at h8'
      · rw [if_neg c]
    rw [e]
    unfold pdS
    dsimp only
    rw [show y.f4 - z1 - x1 = y.f4 - (z1 + x1) by omega, show y.f2 - z2 * 1000000 - x2 * 1000000 = y.f2 - (z2 + x2) * 1000000 by omega, show y.f1 - z3 - x3 = y.f1 - (z3 + x3) by omega]
  · rw [out_cl i hi' h8', out_at i hi h8]
    have n1 : i ∉ plI (outL l a) := fun h => h8' (plI_mem.1 h).2
    have n2 : i ∉ plD (outL l a) := fun h => h8' (plD_mem.1 h).2
    have z1 : vF (outL l a) b i = 0 := val_not _ _ _ n1
    have z2 : vI (outL l a) b i = 0 := val_not _ _ _ n2
    have z3 : vP (outL l a) b i = 0 := val_not _ _ _ n2
    unfold pdA
    rw [hv.1, hv.2.1, hv.2.2, z1, z2, z3, Int.add_zero, Int.add_zero, Int.add_zero]
end
end Go.Proofs.Yteemomncbcpdjaa.Pure
