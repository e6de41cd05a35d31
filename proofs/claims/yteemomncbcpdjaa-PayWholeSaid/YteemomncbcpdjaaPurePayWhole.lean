/- Fees, interest, principal and refund are together just the amount; nothing goes to principal as long as fees or interest are owed, nothing is refunded as long as something is owed; what loans owe less is what was paid. -/
import Derived.Test.YteemomncbcpdjaaPx15
import Derived.Test.YteemomncbcpdjaaPx18
import Derived.Test.YteemomncbcpdjaaPayOrd
import Derived.Test.YteemomncbcpdjaaPayKeep0
namespace Go.Proofs.Yteemomncbcpdjaa.Pure
set_option linter.unusedVariables false
set_option linter.unusedSectionVars false
set_option linter.unusedSimpArgs false
open Go.RowKit Go.Proofs.Yteemomncbcpdjaa.P Go.Proofs.YteemomncbcpdjaaW.PrintWords Go.Proofs.YteemomncbcpdjaaW.PrintLast Go.Proofs.YteemomncbcpdjaaW.PrintMore Go.Proofs.Yteemomncbcpdjaa.PlainM Go.Proofs.Yteemomncbcpdjaa.Plain
theorem radd_is (a b : Int) (k : Nat) (hk : 1 ≤ k) (ha : 0 ≤ a) (ha' : a ≤ 10000000000000) (hb : 0 ≤ b) (hb' : b ≤ 10000000000000) : annuityref01_Add.f k a b = some (if a + b > 10000000000000 then (0, 14) else (a + b, 0)) := by
  obtain ⟨k, rfl⟩ : ∃ q, k = q + 1 := ⟨k - 1, by omega⟩
  unfold annuityref01_Add.f
  rw [ref_mGood_is, ref_mGood_is, ref_mGood_is, w64 (by omega) (by omega)]
  simp only [obind]
  rw [if_pos (decide_eq_true (by omega)), if_pos (decide_eq_true (by omega))]
  simp only [annuityref01_Add.j0]
  by_cases c : a + b > 10000000000000
  · rw [decide_eq_false (by omega), if_pos c]; rfl
  · rw [decide_eq_true (show -10000000000000 ≤ a + b ∧ a + b ≤ 10000000000000 by omega), if_neg c, w64 (by omega) (by omega)]; rfl
/-- What a loan owes. -/
def ow (x : S43) : Int := x.f1 + x.f4 + x.f2 / 1000000
theorem rowes_is (x : S43) (g : gdL x) (k : Nat) (hk : 20 ≤ k) : ∃ e : Int × Int, annuityref14_Owes.f k x.f0 x.f1 x.f2 x.f3 x.f4 x.f5 x.f6 x.f7 x.f8 x.f9 x.f10 x.f11 x.f12 = some e ∧ (e.2 = 0 → e.1 = ow x ∧ ow x ≤ 10000000000000) := by
  have b := gd_bd g
  have g' := g
  unfold gdL at g'
  unfold annuityref14_Owes.f
  rw [ref_good_is _ _ _ _ _ _ _ _ _ _ _ _ _ k (by omega), decide_eq_true g']
  simp only [obind]
  rw [if_pos trivial, radd_is _ _ k (by omega) b.2.2.1 b.2.2.2 b.1.1 b.1.2]
  simp only [obind]
  by_cases c : x.f1 + x.f4 > 10000000000000
  · rw [if_pos c, if_neg (by decide)]; exact ⟨_, rfl, fun h => by simp at h⟩
  rw [if_neg c, if_pos rfl]
  have hw : annuityref13_Whole.f x.f2 = some (x.f2 / 1000000) := by
    unfold annuityref13_Whole.f
    rw [if_neg (by omega), Int.tdiv_eq_ediv_of_nonneg b.2.1.1, w64 (by omega) (by omega)]
  rw [hw]
  simp only [obind]
  rw [radd_is _ _ k (by omega) (by omega) (by omega) (by omega) (by omega)]
  simp only [obind]
  by_cases c2 : x.f1 + x.f4 + x.f2 / 1000000 > 10000000000000
  · rw [if_pos c2]; exact ⟨_, rfl, fun h => by simp at h⟩
  · rw [if_neg c2]; exact ⟨_, rfl, fun _ => ⟨rfl, by unfold ow; omega⟩⟩
section
variable {l : List S43} {a : Int} (hg : ∀ x ∈ l, gdL x) (ha : 0 ≤ a)
include hg ha
theorem all_F (h : 0 < R1 l a) (i : Nat) (hi : i ∈ plI l) : vF l a i = fee l i := by
  have e := fl_rest ((plI l).map (fee l)) a (fun x hx => by obtain ⟨i, hi, rfl⟩ := List.mem_map.1 hx; exact (fee_nn hg i (plI_mem.1 hi).1).1) ha h
  obtain ⟨p, hp, rfl⟩ := List.mem_iff_getElem.1 hi
  have h1 := val_get (plI l) (F1 l a) (plI_nodup l) F1_len.symm p hp
  unfold F1 at h1
  rw [e, List.getElem?_map, List.getElem?_eq_getElem hp] at h1
  unfold vF F1
  rw [e]
  exact (Option.some.inj h1).symm
theorem all_I (h : 0 < R2 l a) (i : Nat) (hi : i ∈ plD l) : vI l a i = itr l i := by
  have e := fl_rest ((plD l).map (itr l)) (R1 l a) (fun x hx => by obtain ⟨i, hi, rfl⟩ := List.mem_map.1 hx; exact (itr_nn hg i (plD_mem.1 hi).1).1) (R_bd hg ha).1.1 h
  obtain ⟨p, hp, rfl⟩ := List.mem_iff_getElem.1 hi
  have h1 := val_get (plD l) (F2 l a) (plD_nodup l) F2_len.symm p hp
  unfold F2 at h1
  rw [e, List.getElem?_map, List.getElem?_eq_getElem hp] at h1
  unfold vI F2
  rw [e]
  exact (Option.some.inj h1).symm
theorem all_P (h : 0 < R3 l a) (i : Nat) (hi : i ∈ plD l) : vP l a i = prn l i := by
  have e := fl_rest ((plD l).map (prn l)) (R2 l a) (fun x hx => by obtain ⟨i, hi, rfl⟩ := List.mem_map.1 hx; exact (prn_nn hg i (plD_mem.1 hi).1).1) (R_bd hg ha).2.1.1 h
  obtain ⟨p, hp, rfl⟩ := List.mem_iff_getElem.1 hi
  have h1 := val_get (plD l) (F3 l a) (plD_nodup l) F3_len.symm p hp
  unfold F3 at h1
  rw [e, List.getElem?_map, List.getElem?_eq_getElem hp] at h1
  unfold vP F3
  rw [e]
  exact (Option.some.inj h1).symm
/-- What the law looks at, of one loan. -/
theorem whole_ok (i : Nat) (hi : i < l.length) :
    ow (rn (outL l a) i) = ow (rn l i) - (if (rn l i).f8 = 0 then vF l a i + vI l a i + vP l a i else 0) ∧ ow (rn (outL l a) i) ≤ ow (rn l i) ∧ 0 ≤ ow (rn (outL l a) i) ∧ gdL (rn l i) ∧
    (R3 l a > 0 → ¬ ow (rn (outL l a) i) > 0) ∧ ((F3 l a).sum > 0 → ¬ (rn (outL l a) i).f4 > 0 ∧ ¬ (rn (outL l a) i).f2 ≥ 1000000) := by
  have g := hg _ (rn_mem hi)
  have b := gd_bd g
  have hR := R_bd hg ha
  have hS := @sums l a
  by_cases h8 : (rn l i).f8 = 0
  · have v := v_bd hg ha i hi h8
    have p := pdS_is (rn l i) (vF l a i) (vI l a i) (vP l a i)
    rw [if_pos h8, out_at i hi h8]
    unfold pdA ow
    unfold fee itr prn at v
    have hI := plI_mem.2 ⟨hi, h8⟩
    have hD := plD_mem.2 ⟨hi, h8⟩
    obtain ⟨p1, p2, p3, _⟩ := p
    rw [p1, p2]
    have e2 : (pdS (rn l i) (vF l a i) (vI l a i) (vP l a i)).f2 / 1000000 = (rn l i).f2 / 1000000 - vI l a i := by
      rcases p3 with h | h
      · rw [h]; omega
      · rw [h.1]; have := h.2; omega
    rw [e2]
    refine ⟨by omega, by omega, by omega, g, fun h => ?_, fun h => ?_⟩
    · have f1 := all_F hg ha (by omega) i hI
      have f2 := all_I hg ha (by omega) i hD
      have f3 := all_P hg ha h i hD
      unfold fee at f1; unfold itr at f2; unfold prn at f3
      omega
    · have f1 := all_F hg ha (by omega) i hI
      have f2 := all_I hg ha (by omega) i hD
      unfold fee at f1; unfold itr at f2
      refine ⟨by omega, ?_⟩
      rcases p3 with h' | h'
      · rw [h']; omega
      · rw [h'.1]; omega
  · rw [if_neg h8, out_cl i hi h8]
    have g' := g
    unfold gdL gd at g'
    unfold ow
    refine ⟨by omega, by omega, by omega, g, fun _ => by omega, fun _ => ⟨by omega, by omega⟩⟩
end
def pd (l : List S43) (a : Int) (i : Nat) : Int := if (rn l i).f8 = 0 then vF l a i + vI l a i + vP l a i else 0
theorem sum_add (D : List Nat) (f g : Nat → Int) : (D.map (fun i => f i + g i)).sum = (D.map f).sum + (D.map g).sum := by
  induction D with
  | nil => rfl
  | cons x D ih => rw [List.map_cons, List.map_cons, List.map_cons, List.sum_cons, List.sum_cons, List.sum_cons, ih]; omega
theorem sum_filter (o : Nat → Bool) (f : Nat → Int) (M : List Nat) : (M.map (fun i => if o i = true then f i else 0)).sum = ((M.filter o).map f).sum := by
  induction M with
  | nil => rfl
  | cons x M ih =>
    rw [List.map_cons, List.sum_cons, ih, List.filter_cons]
    by_cases c : o x = true
    · rw [if_pos c, if_pos c, List.map_cons, List.sum_cons]
    · rw [if_neg c, if_neg c]; omega
theorem pd_sum (l : List S43) (a : Int) : ((List.range l.length).map (pd l a)).sum = (F1 l a).sum + (F2 l a).sum + (F3 l a).sum := by
  have e : (List.range l.length).map (pd l a) = (List.range l.length).map (fun i => if (decide ((rd_T43 l ((i : Nat) : Int)).f8 = 0)) = true then vF l a i + vI l a i + vP l a i else 0) := by
    refine List.map_congr_left (fun i _ => ?_)
    unfold pd rn
    simp only [decide_eq_true_eq]
  rw [e, sum_filter (fun i => decide ((rd_T43 l ((i : Nat) : Int)).f8 = 0)) (fun i => vF l a i + vI l a i + vP l a i)]
  show ((opN l).map (fun i => vF l a i + vI l a i + vP l a i)).sum = _
  rw [← perm_sum ((plD_perm l).map _), sum_add (plD l) (fun i => vF l a i + vI l a i) (vP l a), sum_add (plD l) (vF l a) (vI l a), sumF, sumI, sumP]
theorem whole_l0 (l : List S43) (a : Int) (hg : ∀ x ∈ l, gdL x) (ha : 0 ≤ a) (ha' : a ≤ 10000000000000) (hl : l.length ≤ 16) : ∀ (m i k : Nat) (s : Int), i + m = l.length → 1300 + m ≤ k → s = ((List.range i).map (pd l a)).sum → (0 ≤ s ∧ s ≤ 10000000000000 * (i : Int)) →
    annuitylaw20_PayWhole.l0 k l a (outL l a) s (i : Int) (F1 l a).sum (F2 l a).sum (F3 l a).sum (R3 l a) = some true := by
  intro m
  induction m with
  | zero =>
    intro i k s hi hk hs hb
    obtain ⟨k, rfl⟩ : ∃ q, k = q + 1 := ⟨k - 1, by omega⟩
    simp only [annuitylaw20_PayWhole.l0]
    have h1 := pd_sum l a
    have h2 := @sums l a
    have h3 := R_bd hg ha
    rw [show i = l.length by omega, h1] at hs
    rw [if_neg (by rw [outL_len']; omega), w64 (e := a - R3 l a) (by omega) (by omega), if_pos (by omega), wakes20 k (by omega)]; rfl
  | succ m ih =>
    intro i k s hi hk hs hb
    obtain ⟨k, rfl⟩ : ∃ q, k = q + 1 := ⟨k - 1, by omega⟩
    have hil : i < l.length := by omega
    have ho : (outL l a).length = l.length := outL_len'
    obtain ⟨w1, w2, w3, g, w5, w6⟩ := whole_ok hg ha i hil
    have go : gdL (rn (outL l a) i) := by
      by_cases h8 : (rn l i).f8 = 0
      · rw [out_at i hil h8]
        have b := v_bd hg ha i hil h8
        exact pdS_good' _ _ _ _ g h8 b.1 b.2.1 b.2.2
      · rw [out_cl i hil h8]; exact g
    obtain ⟨e1, o1, q1⟩ := rowes_is (rn l i) g k (by omega)
    obtain ⟨e2, o2, q2⟩ := rowes_is (rn (outL l a) i) go k (by omega)
    have hw : annuitylaw20_wakes.f k = some true := wakes20 k (by omega)
    simp only [annuitylaw20_PayWhole.l0]
    rw [if_pos (by omega), if_pos (by omega), if_pos (by omega),
      show annuityref14_Owes.f k (rd_T43 l (i : Int)).f0 (rd_T43 l (i : Int)).f1 (rd_T43 l (i : Int)).f2 (rd_T43 l (i : Int)).f3 (rd_T43 l (i : Int)).f4 (rd_T43 l (i : Int)).f5 (rd_T43 l (i : Int)).f6 (rd_T43 l (i : Int)).f7 (rd_T43 l (i : Int)).f8 (rd_T43 l (i : Int)).f9 (rd_T43 l (i : Int)).f10 (rd_T43 l (i : Int)).f11 (rd_T43 l (i : Int)).f12 = some e1 from o1, show annuityref14_Owes.f k (rd_T43 (outL l a) (i : Int)).f0 (rd_T43 (outL l a) (i : Int)).f1 (rd_T43 (outL l a) (i : Int)).f2 (rd_T43 (outL l a) (i : Int)).f3 (rd_T43 (outL l a) (i : Int)).f4 (rd_T43 (outL l a) (i : Int)).f5 (rd_T43 (outL l a) (i : Int)).f6 (rd_T43 (outL l a) (i : Int)).f7 (rd_T43 (outL l a) (i : Int)).f8 (rd_T43 (outL l a) (i : Int)).f9 (rd_T43 (outL l a) (i : Int)).f10 (rd_T43 (outL l a) (i : Int)).f11 (rd_T43 (outL l a) (i : Int)).f12 = some e2 from o2, hw]
    simp only [obind]
    by_cases c1 : e1.2 = 0
    case neg => rw [if_neg c1]
    by_cases c2 : e2.2 = 0
    case neg => rw [if_pos c1, if_neg c2]
    rw [if_pos c1, if_pos c2]
    obtain ⟨q1, q1'⟩ := q1 c1
    obtain ⟨q2, q2'⟩ := q2 c2
    rw [q1, q2]
    have hp : ow (rn l i) - ow (rn (outL l a) i) = pd l a i := by unfold pd; omega
    have nx : annuitylaw20_PayWhole.l0 k l a (outL l a) (wrap64 (s + wrap64 (ow (rn l i) - ow (rn (outL l a) i)))) (wrap64 ((i : Int) + 1)) (F1 l a).sum (F2 l a).sum (F3 l a).sum (R3 l a) = some true := by
      rw [w64 (e := ow (rn l i) - ow (rn (outL l a) i)) (by omega) (by omega), w64 (e := s + _) (by omega) (by omega), w64 (e := (i : Int) + 1) (by omega) (by omega), show ((i : Int) + 1) = ((i + 1 : Nat) : Int) by omega]
      refine ih (i + 1) k _ (by omega) (by omega) ?_ ?_
      · rw [hp, List.range_succ, List.map_append, List.sum_append, hs]; simp
      · omega
    rw [nx, if_neg (show ¬ ow (rn (outL l a) i) > ow (rn l i) by omega)]
    have keep : ∀ t : Option Bool, ¬ (rd_T43 l (i : Int)).f8 = 0 → annuitykeep_Loan.f (rd_T43 (outL l a) (i : Int)).f0 (rd_T43 (outL l a) (i : Int)).f1 (rd_T43 (outL l a) (i : Int)).f2 (rd_T43 (outL l a) (i : Int)).f3 (rd_T43 (outL l a) (i : Int)).f4 (rd_T43 (outL l a) (i : Int)).f5 (rd_T43 (outL l a) (i : Int)).f6 (rd_T43 (outL l a) (i : Int)).f7 (rd_T43 (outL l a) (i : Int)).f8 (rd_T43 (outL l a) (i : Int)).f9 (rd_T43 (outL l a) (i : Int)).f10 (rd_T43 (outL l a) (i : Int)).f11 (rd_T43 (outL l a) (i : Int)).f12 (rd_T43 l (i : Int)).f0 (rd_T43 l (i : Int)).f1 (rd_T43 l (i : Int)).f2 (rd_T43 l (i : Int)).f3 (rd_T43 l (i : Int)).f4 (rd_T43 l (i : Int)).f5 (rd_T43 l (i : Int)).f6 (rd_T43 l (i : Int)).f7 (rd_T43 l (i : Int)).f8 (rd_T43 l (i : Int)).f9 (rd_T43 l (i : Int)).f10 (rd_T43 l (i : Int)).f11 (rd_T43 l (i : Int)).f12 = some true := fun _ h => by
      have e : rd_T43 (outL l a) (i : Int) = rd_T43 l (i : Int) := out_cl i hil h
      rw [e]; exact loan_eq _
    have tail : (if (rd_T43 l (i : Int)).f8 = 0 then some true else (annuitykeep_Loan.f (rd_T43 (outL l a) (i : Int)).f0 (rd_T43 (outL l a) (i : Int)).f1 (rd_T43 (outL l a) (i : Int)).f2 (rd_T43 (outL l a) (i : Int)).f3 (rd_T43 (outL l a) (i : Int)).f4 (rd_T43 (outL l a) (i : Int)).f5 (rd_T43 (outL l a) (i : Int)).f6 (rd_T43 (outL l a) (i : Int)).f7 (rd_T43 (outL l a) (i : Int)).f8 (rd_T43 (outL l a) (i : Int)).f9 (rd_T43 (outL l a) (i : Int)).f10 (rd_T43 (outL l a) (i : Int)).f11 (rd_T43 (outL l a) (i : Int)).f12 (rd_T43 l (i : Int)).f0 (rd_T43 l (i : Int)).f1 (rd_T43 l (i : Int)).f2 (rd_T43 l (i : Int)).f3 (rd_T43 l (i : Int)).f4 (rd_T43 l (i : Int)).f5 (rd_T43 l (i : Int)).f6 (rd_T43 l (i : Int)).f7 (rd_T43 l (i : Int)).f8 (rd_T43 l (i : Int)).f9 (rd_T43 l (i : Int)).f10 (rd_T43 l (i : Int)).f11 (rd_T43 l (i : Int)).f12).bind fun t => if t = true then some true else none) = some true := by
      by_cases h : (rd_T43 l (i : Int)).f8 = 0
      · rw [if_pos h]
      · rw [if_neg h, keep none h]; rfl
    rw [tail]
    by_cases d1 : R3 l a > 0
    · rw [if_pos d1, if_neg (w5 d1)]
      by_cases d2 : (F3 l a).sum > 0
      · rw [if_pos d2, if_neg (show ¬ (rd_T43 (outL l a) (i : Int)).f4 > 0 from (w6 d2).1), if_neg (show ¬ (rd_T43 (outL l a) (i : Int)).f2 ≥ 1000000 from (w6 d2).2)]
      · rw [if_neg d2]
    · rw [if_neg d1]
      by_cases d2 : (F3 l a).sum > 0
      · rw [if_pos d2, if_neg (show ¬ (rd_T43 (outL l a) (i : Int)).f4 > 0 from (w6 d2).1), if_neg (show ¬ (rd_T43 (outL l a) (i : Int)).f2 ≥ 1000000 from (w6 d2).2)]
      · rw [if_neg d2]
theorem PayWhole : annuitylaw20_PayWhole.Pure := by
  intro l a hm _ _ _
  obtain ⟨k, hk⟩ : ∃ k : Nat, 3000 ≤ k := ⟨3000, by omega⟩
  refine ⟨k, ?_⟩
  unfold annuitylaw20_PayWhole.f
  by_cases c : (l.length : Int) > 100
  · rw [if_pos c, wakes20 k (by omega)]; rfl
  rw [if_neg c, copy_is l (by omega)]
  simp only [obind]
  rw [pay_All_is l a (by omega) k (by omega)]
  simp only [obind]
  unfold payR
  by_cases n : noPay l a = true
  · rw [if_pos n, if_neg (by decide), if_pos (by decide), if_pos rfl, wakes20 k (by omega)]; rfl
  rw [if_neg n, if_pos rfl, if_pos (show ((outL l a).length : Int) = (l.length : Int) by rw [outL_len])]
  unfold noPay at n
  simp only [decide_eq_true_eq] at n
  have hg : ∀ x ∈ l, gdL x := badL_all (by simpa using fun h => n (.inl h))
  have ha : 0 ≤ a := by have := fun h => n (.inr (.inr (.inl h))); omega
  have ha' : a ≤ 10000000000000 := by have := fun h => n (.inr (.inr (.inr h))); omega
  have hl : l.length ≤ 16 := by have := fun h => n (.inr (.inl h)); omega
  have h2 := @sums l a
  have h3 := R_bd hg ha
  rw [if_neg (show ¬ (F1 l a).sum < 0 by omega), if_neg (show ¬ (F2 l a).sum < 0 by omega), if_neg (show ¬ (F3 l a).sum < 0 by omega), if_neg (show ¬ R3 l a < 0 by omega),
    w64 (e := (F1 l a).sum + (F2 l a).sum) (by omega) (by omega), w64 (e := (F1 l a).sum + (F2 l a).sum + (F3 l a).sum) (by omega) (by omega), w64 (e := (F1 l a).sum + (F2 l a).sum + (F3 l a).sum + R3 l a) (by omega) (by omega), if_pos (by omega)]
  exact whole_l0 l a hg ha ha' hl l.length 0 k 0 (by omega) (by omega) rfl (by omega)
end Go.Proofs.Yteemomncbcpdjaa.Pure
