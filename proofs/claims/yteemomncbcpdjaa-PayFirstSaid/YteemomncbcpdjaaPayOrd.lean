/- Who comes first is paid in full before who comes later gets anything. -/
import Derived.Test.YteemomncbcpdjaaPayIs
namespace Go.Proofs.Yteemomncbcpdjaa.Pure
set_option linter.unusedVariables false
set_option linter.unusedSimpArgs false
open Go.RowKit Go.Proofs.Yteemomncbcpdjaa.P Go.Proofs.YteemomncbcpdjaaW.PrintWords Go.Proofs.YteemomncbcpdjaaW.PrintLast Go.Proofs.YteemomncbcpdjaaW.PrintMore Go.Proofs.Yteemomncbcpdjaa.PlainM Go.Proofs.Yteemomncbcpdjaa.Plain
theorem fl_before (L : List Int) (t : Int) (hL : ∀ x ∈ L, 0 ≤ x) (ht : 0 ≤ t) (p q : Nat) (hpq : p < q) (x : Int) (hq : (fl L t)[q]? = some x) (hne : x ≠ 0) : (fl L t)[p]? = L[p]? := by
  have e := (fl_app (L.take (p + 1)) (L.drop (p + 1)) t).1
  rw [List.take_append_drop] at e
  have hqL : q < L.length := by have := (List.getElem?_eq_some_iff.1 hq).1; rwa [fl_len] at this
  have hl : (fl (L.take (p + 1)) t).length = p + 1 := by rw [fl_len, List.length_take]; omega
  have hm : x ∈ fl (L.drop (p + 1)) (fr (L.take (p + 1)) t) := by
    rw [e, List.getElem?_append_right (by omega)] at hq
    exact List.mem_of_getElem? hq
  have hf := fl_ahead (L.take (p + 1)) (L.drop (p + 1)) t (fun y hy => hL y (List.mem_of_mem_take hy)) (fun y hy => hL y (List.mem_of_mem_drop hy)) ht ⟨x, hm, hne⟩
  rw [e, List.getElem?_append_left (by omega), hf, List.getElem?_take, if_pos (by omega)]
theorem val_get (D : List Nat) (v : List Int) (hn : D.Nodup) (h : D.length = v.length) (p : Nat) (hp : p < D.length) : v[p]? = some (val D v D[p]) := by
  rw [val_at D v hn h p hp]
  exact List.getElem?_eq_getElem (by omega)
theorem ahead_full {R : Nat → Nat → Bool} (hR : Lin R) (D : List Nat) (g : Nat → Int) (t : Int) (hn : D.Nodup) (hp : D.Pairwise (fun a b => R a b = true)) (hg : ∀ i ∈ D, 0 ≤ g i) (ht : 0 ≤ t) (i k : Nat) (hi : i ∈ D) (hk : k ∈ D) (h : R i k = true) (hne : val D (fl (D.map g) t) k ≠ 0) : val D (fl (D.map g) t) i = g i := by
  obtain ⟨p, hpl, rfl⟩ := List.mem_iff_getElem.1 hi
  obtain ⟨q, hql, rfl⟩ := List.mem_iff_getElem.1 hk
  have hl : D.length = (fl (D.map g) t).length := by rw [fl_len, List.length_map]
  have hpw := List.pairwise_iff_getElem.1 hp
  have hpq : p < q := by
    rcases Nat.lt_trichotomy p q with c | c | c
    · exact c
    · subst c; exact (hR.asym _ _ h h).elim
    · exact (hR.asym _ _ h (hpw q p hql hpl c)).elim
  have h1 := val_get D _ hn hl p hpl
  have h2 := val_get D _ hn hl q hql
  have h3 := fl_before (D.map g) t (fun x hx => by obtain ⟨i, hi, rfl⟩ := List.mem_map.1 hx; exact hg i hi) ht p q hpq _ h2 hne
  rw [h1, List.getElem?_map, List.getElem?_eq_getElem hpl] at h3
  exact Option.some.inj h3
section
variable {l : List S43} {a : Int} (hg : ∀ x ∈ l, gdL x) (ha : 0 ≤ a)
include hg ha
theorem dear_I (i k : Nat) (hi : i ∈ plD l) (hk : k ∈ plD l) (h : drR l i k = true) (hne : vI l a k ≠ 0) : vI l a i = itr l i :=
  ahead_full (drR_lin l) (plD l) (itr l) (R1 l a) (plD_nodup l) (srt_pw (drR_lin l) _ (opN_nodup l)) (fun i hi => (itr_nn hg i (plD_mem.1 hi).1).1) (R_bd hg ha).1.1 i k hi hk h hne
theorem dear_P (i k : Nat) (hi : i ∈ plD l) (hk : k ∈ plD l) (h : drR l i k = true) (hne : vP l a k ≠ 0) : vP l a i = prn l i :=
  ahead_full (drR_lin l) (plD l) (prn l) (R2 l a) (plD_nodup l) (srt_pw (drR_lin l) _ (opN_nodup l)) (fun i hi => (prn_nn hg i (plD_mem.1 hi).1).1) (R_bd hg ha).2.1.1 i k hi hk h hne
theorem id_F (i k : Nat) (hi : i ∈ plI l) (hk : k ∈ plI l) (h : idR l i k = true) (hne : vF l a k ≠ 0) : vF l a i = fee l i :=
  ahead_full (idR_lin l) (plI l) (fee l) a (plI_nodup l) (srt_pw (idR_lin l) _ (opN_nodup l)) (fun i hi => (fee_nn hg i (plI_mem.1 hi).1).1) ha i k hi hk h hne
end
/-- What a loan holds that was paid. -/
theorem pdS_is (x : S43) (pf pi pp : Int) : (pdS x pf pi pp).f4 = x.f4 - pf ∧ (pdS x pf pi pp).f1 = x.f1 - pp ∧ ((pdS x pf pi pp).f2 = x.f2 - pi * 1000000 ∨ (pdS x pf pi pp).f2 = 0 ∧ (x.f2 - pi * 1000000) / 1000000 = 0) ∧ ((pdS x pf pi pp).f8 = 0 ∨ (pdS x pf pi pp).f8 = 1) := by
  unfold pdS
  by_cases c : x.f4 - pf = 0 ∧ (x.f2 - pi * 1000000) / 1000000 = 0 ∧ x.f1 - pp = 0
  · rw [if_pos c]; exact ⟨c.1.symm, c.2.2.symm, .inr ⟨rfl, c.2.1⟩, .inr rfl⟩
  · rw [if_neg c]; exact ⟨rfl, rfl, .inl rfl, .inl rfl⟩
theorem out_at {l : List S43} {a : Int} (i : Nat) (hi : i < l.length) (h8 : (rn l i).f8 = 0) : rn (outL l a) i = pdA l a i := by unfold outL; rw [updS_at _ _ _ _ hi, if_pos (plD_mem.2 ⟨hi, h8⟩)]
end Go.Proofs.Yteemomncbcpdjaa.Pure
