/- Rate, count and the joined loan, the program's and the reference's, in plain numbers; the law's own check. -/
import Derived.Test.YtakcepffodipfaaZm
import Derived.Test.YtakcepffodipfaaPx7
import Derived.Test.YtakcepffodipfaaPx10
import Derived.Test.YtakcepffodipfaaPx11
import Derived.Test.YtakcepffodipfaaPx12
import Derived.Test.YtakcepffodipfaaPx15
import Derived.Test.YtakcepffodipfaaPx30
import Derived.Test.YtakcepffodipfaaBlendEv
namespace Go.Proofs.Ytakcepffodipfaa.PureB
set_option linter.unusedVariables false
set_option linter.unusedSimpArgs false
open Go.RowKit Go.Proofs.Ytakcepffodipfaa.P Go.Proofs.YtakcepffodipfaaW.PrintWords Go.Proofs.YtakcepffodipfaaW.PrintLast Go.Proofs.YtakcepffodipfaaW.PrintMore Go.Proofs.Ytakcepffodipfaa.PlainM Go.Proofs.Ytakcepffodipfaa.PlainL
open Go.Proofs.Ytakcepffodipfaa.PureLo (owesS good_is owes_is ref_good_is ref_owes_is mon)
open Go.Proofs.Ytakcepffodipfaa.Pure (mn_is Of_both ref_Of_is of_at)
/-- The next step of 1250, at most 1000000. -/
def stp (n : Int) : Int := if (n + 1249) / 1250 * 1250 ≤ 1000000 then (n + 1249) / 1250 * 1250 else 1000000
def rateS (l : List S31) : Int × Int := if (wS l).2.2 = 0 then (stp (cd (dt (fun x => x.f5) l) (wS l).2.1), 0) else (0, (wS l).2.2)
def countS (l : List S31) : Int × Int := if (wS l).2.2 = 0 then (cd (dt (fun x => x.f12) l) (wS l).2.1, 0) else (0, (wS l).2.2)
theorem ppm_bd (x : S31) (h : Ok x) : 0 ≤ x.f5 ∧ x.f5 ≤ 1000000 := by
  have g := h.1
  unfold G Go.Proofs.Ytakcepffodipfaa.PureLo.gd at g
  exact g.2.2.2.1.1
theorem count_bd (x : S31) (h : Ok x) : 0 ≤ x.f12 ∧ x.f12 ≤ 1000000 := by
  have g := h.1
  unfold G Go.Proofs.Ytakcepffodipfaa.PureLo.gd at g
  exact ⟨g.2.2.2.2.2.1, h.2.2⟩
theorem cd_bd (of : S31 → Int) (ho : ∀ x, Ok x → 0 ≤ of x ∧ of x ≤ 1000000) (l : List S31) (c : (wS l).2.2 = 0) : 0 ≤ cd (dt of l) (wS l).2.1 ∧ cd (dt of l) (wS l).2.1 ≤ 1000000 := by
  have g := wS_ok c
  have b := dt_bd of l (fun x hx => (g.bd x hx).1) (fun x hx => ho x (g.ok x hx))
  exact (by_is (dt of l) _ 30 (by omega) b.1 g.a0 g.a1 (by rw [← g.al] at b; exact b.2)).2
theorem rate_is (l : List S31) (k : Nat) (hk : 200 ≤ k) : blend_Rate.f k l = some (rateS l) := by
  unfold blend_Rate.f rateS
  rw [mean_is _ ppm_bd l k hk]
  simp only [obind]
  by_cases c : (wS l).2.2 = 0
  · have b := cd_bd _ ppm_bd l c
    rw [if_pos c, if_pos c]
    simp only [if_true]
    obtain ⟨q, hq⟩ : ∃ q, q = cd (dt (fun x => x.f5) l) (wS l).2.1 := ⟨_, rfl⟩
    rw [← hq] at b ⊢
    rw [w64 (e := q + 1250) (by omega) (by omega), show q + 1250 - 1 = q + 1249 by omega, w64 (e := q + 1249) (by omega) (by omega), tdiv_nn (by omega), w64 (e := (q + 1249) / 1250) (by omega) (by omega), w64 (by omega) (by omega), mn_is]
    rfl
  · rw [if_neg c, if_neg c, if_neg c]
theorem count_is (l : List S31) (k : Nat) (hk : 200 ≤ k) : blend_Count.f k l = some (countS l) := by
  unfold blend_Count.f countS
  rw [mean_is _ count_bd l k hk]
  rfl
theorem ref_rate_l0 (l : List S31) (w : List Int) (a : Int) (g : GoodW l w a) : ∀ (d k j : Nat), j + d = l.length → d + 150 ≤ k →
    annuityref21_Rate.l0 k l w a ((l.take j).map fun x => x.f5) (j : Int) = some (stp (cd (dt (fun x => x.f5) l) a), 0)
  | 0, k, j, h, hk => by
    obtain ⟨k, rfl⟩ : ∃ m, k = m + 1 := ⟨k - 1, by omega⟩
    have u := up_l0 (fun x => x.f5) l w a g (fun x hx => ppm_bd x (g.ok x hx)) l.length k 0 (by omega) (by have := g.len; omega)
    rw [List.take_of_length_le (by omega), annuityref21_Rate.l0, if_neg (by omega)]
    unfold annuityref21_up.f
    simp only [List.take_zero, dt, Int.zero_ediv, Int.zero_emod] at u
    rw [show ((0 : Nat) : Int) = 0 from rfl] at u
    rw [u]
    simp only [obind]
    have b := dt_bd (fun x => x.f5) l (fun x hx => (g.bd x hx).1) (fun x hx => ppm_bd x (g.ok x hx))
    have b2 := (by_is (dt (fun x => x.f5) l) a 30 (by omega) b.1 g.a0 g.a1 (by rw [g.al]; exact b.2)).2
    obtain ⟨q, hq⟩ : ∃ q, q = cd (dt (fun x => x.f5) l) a := ⟨_, rfl⟩
    rw [← hq] at b2 ⊢
    rw [w64 (e := q + 1249) (by omega) (by omega), tdiv_nn (by omega), w64 (e := (q + 1249) / 1250) (by omega) (by omega), w64 (by omega) (by omega), mn_is]
    rfl
  | d + 1, k, j, h, hk => by
    obtain ⟨k, rfl⟩ : ∃ m, k = m + 1 := ⟨k - 1, by omega⟩
    have ih := ref_rate_l0 l w a g d k (j + 1) (by omega) (by omega)
    have tk : l.take (j + 1) = l.take j ++ [rd_T31 l j] := by
      have h1 : l[j]'(by omega) = rd_T31 l j := by unfold rd_T31; simp [List.getD_eq_getElem?_getD, show j < l.length by omega]
      rw [List.take_succ_eq_append_getElem (by omega), h1]
    rw [annuityref21_Rate.l0, if_pos (by omega), if_pos (by omega), if_pos (by rw [List.length_map, List.length_take]; have := g.len; omega), up1 j (by have := g.len; omega)]
    rw [tk, List.map_append] at ih
    exact ih
theorem ref_count_l0 (l : List S31) (w : List Int) (a : Int) (g : GoodW l w a) : ∀ (d k j : Nat), j + d = l.length → d + 150 ≤ k →
    annuityref21_Count.l0 k l w a ((l.take j).map fun x => x.f12) (j : Int) = some (cd (dt (fun x => x.f12) l) a, 0)
  | 0, k, j, h, hk => by
    obtain ⟨k, rfl⟩ : ∃ m, k = m + 1 := ⟨k - 1, by omega⟩
    have u := up_l0 (fun x => x.f12) l w a g (fun x hx => count_bd x (g.ok x hx)) l.length k 0 (by omega) (by have := g.len; omega)
    rw [List.take_of_length_le (by omega), annuityref21_Count.l0, if_neg (by omega)]
    unfold annuityref21_up.f
    simp only [List.take_zero, dt, Int.zero_ediv, Int.zero_emod] at u
    rw [show ((0 : Nat) : Int) = 0 from rfl] at u
    rw [u]
    simp only [obind]
  | d + 1, k, j, h, hk => by
    obtain ⟨k, rfl⟩ : ∃ m, k = m + 1 := ⟨k - 1, by omega⟩
    have ih := ref_count_l0 l w a g d k (j + 1) (by omega) (by omega)
    have tk : l.take (j + 1) = l.take j ++ [rd_T31 l j] := by
      have h1 : l[j]'(by omega) = rd_T31 l j := by unfold rd_T31; simp [List.getD_eq_getElem?_getD, show j < l.length by omega]
      rw [List.take_succ_eq_append_getElem (by omega), h1]
    rw [annuityref21_Count.l0, if_pos (by omega), if_pos (by omega), if_pos (by rw [List.length_map, List.length_take]; have := g.len; omega), up1 j (by have := g.len; omega)]
    rw [tk, List.map_append] at ih
    exact ih
theorem ref_rate_is (l : List S31) (k : Nat) (hk : 200 ≤ k) : annuityref21_Rate.f k l = some (rateS l) := by
  unfold annuityref21_Rate.f rateS
  rw [ref_weights_is l k hk]
  simp only [obind]
  by_cases c : (wS l).2.2 = 0
  · rw [if_pos c, if_pos c]
    have g := wS_ok c
    exact ref_rate_l0 l _ _ g l.length k 0 (by omega) (by have := g.len; omega)
  · rw [if_neg c, if_neg c]
theorem ref_count_is (l : List S31) (k : Nat) (hk : 200 ≤ k) : annuityref21_Count.f k l = some (countS l) := by
  unfold annuityref21_Count.f countS
  rw [ref_weights_is l k hk]
  simp only [obind]
  by_cases c : (wS l).2.2 = 0
  · rw [if_pos c, if_pos c]
    have g := wS_ok c
    exact ref_count_l0 l _ _ g l.length k 0 (by omega) (by have := g.len; omega)
  · rw [if_neg c, if_neg c]
/-! ### The joined loan -/
abbrev L14 := Int × Int × Int × Int × Int × Int × Bool × Int × Int × Int × Int × Int × Int × Int
def errL (e : Int) : L14 := (0, 0, 0, 0, 0, 0, false, 0, 0, 0, 0, 0, 0, e)
/-- What both tell of a loan that is set, if they tell it. -/
theorem set_both (id pr it su fe ppm : Int) (sd : Bool) (st cl en le fa ct : Int) : ∃ v : L14, ∀ k : Nat, 700 ≤ k → plan_Set.f k id pr it su fe ppm sd st cl en le fa ct = some v ∧ annuityref18_Set.f k id pr it su fe ppm sd st cl en le fa ct = some v ∧
    (v.2.2.2.2.2.2.2.2.2.2.2.2.2 = 0 → v.1 = id ∧ v.2.1 = pr ∧ v.2.2.1 = it ∧ v.2.2.2.2.1 = fe ∧ v.2.2.2.2.2.1 = ppm ∧ v.2.2.2.2.2.2.2.2.2.2.2.2.1 = ct) := by
  obtain ⟨a, e, s1, f1⟩ := Of_both pr ppm 120
  obtain ⟨b, e', s2, f2⟩ := Of_both pr ppm 300
  by_cases g : Go.Proofs.Ytakcepffodipfaa.PureLo.gd id pr it su fe ppm st cl en le fa ct
  · by_cases c : cl = 0
    · by_cases h1 : e = 0
      · by_cases h2 : e' = 0
        · refine ⟨(id, pr, it, su, fe, ppm, sd, st, cl, en, a, b, ct, 0), fun k hk => ⟨?_, ?_, fun _ => ⟨rfl, rfl, rfl, rfl, rfl, rfl⟩⟩⟩
          · unfold plan_Set.f
            rw [good_is _ _ _ _ _ _ _ _ _ _ _ _ _ k (by omega), f1 k (by omega), f2 k (by omega)]
            simp only [obind, decide_eq_true_eq]
            rw [if_pos g, if_pos c, if_pos h1, if_pos h2]
          · unfold annuityref18_Set.f
            rw [ref_good_is, ref_Of_is s1 k (by omega), ref_Of_is s2 k (by omega)]
            simp only [obind, decide_eq_true_eq]
            rw [if_pos g, if_pos c, if_pos h1, if_pos h2]
        · refine ⟨errL e', fun k hk => ⟨?_, ?_, fun h => absurd h h2⟩⟩
          · unfold plan_Set.f
            rw [good_is _ _ _ _ _ _ _ _ _ _ _ _ _ k (by omega), f1 k (by omega), f2 k (by omega)]
            simp only [obind, decide_eq_true_eq]
            rw [if_pos g, if_pos c, if_pos h1, if_neg h2]; rfl
          · unfold annuityref18_Set.f
            rw [ref_good_is, ref_Of_is s1 k (by omega), ref_Of_is s2 k (by omega)]
            simp only [obind, decide_eq_true_eq]
            rw [if_pos g, if_pos c, if_pos h1, if_neg h2]; rfl
      · refine ⟨errL e, fun k hk => ⟨?_, ?_, fun h => absurd h h1⟩⟩
        · unfold plan_Set.f
          rw [good_is _ _ _ _ _ _ _ _ _ _ _ _ _ k (by omega), f1 k (by omega)]
          simp only [obind, decide_eq_true_eq]
          rw [if_pos g, if_pos c, if_neg h1]; rfl
        · unfold annuityref18_Set.f
          rw [ref_good_is, ref_Of_is s1 k (by omega)]
          simp only [obind, decide_eq_true_eq]
          rw [if_pos g, if_pos c, if_neg h1]; rfl
    · refine ⟨errL 61, fun k hk => ⟨?_, ?_, fun h => absurd h (by decide)⟩⟩
      · unfold plan_Set.f
        rw [good_is _ _ _ _ _ _ _ _ _ _ _ _ _ k (by omega)]
        simp only [obind, decide_eq_true_eq]
        rw [if_pos g, if_neg c]; rfl
      · unfold annuityref18_Set.f
        rw [ref_good_is]
        simp only [obind, decide_eq_true_eq]
        rw [if_pos g, if_neg c]; rfl
  · refine ⟨errL 1, fun k hk => ⟨?_, ?_, fun h => absurd h (by decide)⟩⟩
    · unfold plan_Set.f
      rw [good_is _ _ _ _ _ _ _ _ _ _ _ _ _ k (by omega)]
      simp only [obind, decide_eq_true_eq]
      rw [if_neg g]; rfl
    · unfold annuityref18_Set.f
      rw [ref_good_is]
      simp only [obind, decide_eq_true_eq]
      rw [if_neg g]; rfl
theorem good_day (d : Int) : date_Good.f d = some (decide (0 ≤ d ∧ d ≤ 87658)) := by
  unfold date_Good.f
  by_cases h : d ≥ 0
  · rw [if_pos h]; simp; omega
  · rw [if_neg h]; simp; omega
theorem ref_good_day (d : Int) : annuityref04_Good.f d = some (decide (0 ≤ d ∧ d ≤ 87658)) := by
  unfold annuityref04_Good.f
  by_cases h : d ≥ 0
  · rw [if_pos h]; simp; omega
  · rw [if_neg h]; simp; omega
theorem j0_arg (l : List S31) (id d : Int) (k : Nat) : blend_Join.j0 (k + 1) l id d true = some (errL 1) := by rw [blend_Join.j0, if_pos rfl]; rfl
theorem r0_arg (l : List S31) (id d : Int) (w : List Int) (a e : Int) (k : Nat) : annuityref21_Join.j0 (k + 1) l id d w a e true = some (errL 1) := by rw [annuityref21_Join.j0, if_pos rfl]; rfl
/-- The joined loan: the same, and what it is made of. -/
theorem join_both (l : List S31) (id d : Int) : ∃ v : L14, ∀ k : Nat, 1000 ≤ k → blend_Join.f k l id d = some v ∧ annuityref21_Join.f k l id d = some v ∧
    (v.2.2.2.2.2.2.2.2.2.2.2.2.2 = 0 → (wS l).2.2 = 0 ∧ v.2.1 = (wS l).2.1 ∧ v.2.2.1 = 0 ∧ v.2.2.2.2.1 = 0 ∧ v.2.2.2.2.2.1 = (rateS l).1 ∧ v.2.2.2.2.2.2.2.2.2.2.2.2.1 = (countS l).1) := by
  by_cases h1 : id < 1
  · refine ⟨errL 1, fun k hk => ?_⟩
    obtain ⟨k, rfl⟩ : ∃ m, k = m + 1 := ⟨k - 1, by omega⟩
    refine ⟨?_, ?_, fun h => absurd h (by decide)⟩
    · unfold blend_Join.f; rw [if_pos h1]; exact j0_arg _ _ _ _
    · unfold annuityref21_Join.f; rw [ref_weights_is l _ (by omega)]; simp only [obind]; rw [if_pos h1]; exact r0_arg _ _ _ _ _ _ _
  by_cases h2 : id > 1000
  · refine ⟨errL 1, fun k hk => ?_⟩
    obtain ⟨k, rfl⟩ : ∃ m, k = m + 1 := ⟨k - 1, by omega⟩
    refine ⟨?_, ?_, fun h => absurd h (by decide)⟩
    · unfold blend_Join.f; rw [if_neg h1, if_pos h2]; exact j0_arg _ _ _ _
    · unfold annuityref21_Join.f; rw [ref_weights_is l _ (by omega)]; simp only [obind]; rw [if_neg h1, if_pos h2]; exact r0_arg _ _ _ _ _ _ _
  by_cases h3 : 0 ≤ d ∧ d ≤ 87658
  · by_cases c : (wS l).2.2 = 0
    · obtain ⟨v, hv⟩ := set_both id (wS l).2.1 0 0 0 (rateS l).1 false 5 0 d 0 0 (countS l).1
      have g := wS_ok c
      have r2 : (rateS l).2 = 0 := by unfold rateS; rw [if_pos c]
      have c2 : (countS l).2 = 0 := by unfold countS; rw [if_pos c]
      have wl : (((wS l).1.length : Int) == 0) = false := beq_eq_false_iff_ne.mpr (by rw [g.ws, List.length_map]; have := g.two; omega)
      refine ⟨v, fun k hk => ?_⟩
      obtain ⟨k, rfl⟩ : ∃ m, k = m + 2 := ⟨k - 2, by omega⟩
      obtain ⟨s1, s2, s3⟩ := hv k (by omega)
      obtain ⟨s1', _, _⟩ := hv (k + 1) (by omega)
      refine ⟨?_, ?_, fun h => ⟨c, ?_⟩⟩
      · unfold blend_Join.f
        rw [if_neg h1, if_neg h2, good_day]
        simp only [obind]
        rw [decide_eq_true h3, Bool.not_true, blend_Join.j0, if_neg (by simp), weights_is l _ (by omega), rate_is l _ (by omega), count_is l _ (by omega)]
        simp only [obind]
        rw [if_pos c, if_pos r2, if_pos c2, s1']
        simp only [obind]
      · unfold annuityref21_Join.f
        rw [ref_weights_is l _ (by omega)]
        simp only [obind]
        rw [if_neg h1, if_neg h2, ref_good_day]
        simp only [obind]
        rw [decide_eq_true h3, Bool.not_true, annuityref21_Join.j0, if_neg (by simp), if_pos c, wl, annuityref21_Join.j1, if_neg (by simp), ref_rate_is l _ (by omega), ref_count_is l _ (by omega)]
        simp only [obind]
        rw [s2]
        simp only [obind]
      · obtain ⟨_, a1, a2, a3, a4, a5⟩ := s3 h
        exact ⟨a1, a2, a3, a4, a5⟩
    · refine ⟨errL (wS l).2.2, fun k hk => ?_⟩
      obtain ⟨k, rfl⟩ : ∃ m, k = m + 2 := ⟨k - 2, by omega⟩
      refine ⟨?_, ?_, fun h => absurd h c⟩
      · unfold blend_Join.f
        rw [if_neg h1, if_neg h2, good_day]
        simp only [obind]
        rw [decide_eq_true h3, Bool.not_true, blend_Join.j0, if_neg (by simp), weights_is l _ (by omega)]
        simp only [obind]
        rw [if_neg c]; rfl
      · unfold annuityref21_Join.f
        rw [ref_weights_is l _ (by omega)]
        simp only [obind]
        rw [if_neg h1, if_neg h2, ref_good_day]
        simp only [obind]
        rw [decide_eq_true h3, Bool.not_true, annuityref21_Join.j0, if_neg (by simp), if_neg c, annuityref21_Join.j1, if_pos rfl]; rfl
  · refine ⟨errL 1, fun k hk => ?_⟩
    obtain ⟨k, rfl⟩ : ∃ m, k = m + 1 := ⟨k - 1, by omega⟩
    refine ⟨?_, ?_, fun h => absurd h (by decide)⟩
    · unfold blend_Join.f; rw [if_neg h1, if_neg h2, good_day]; simp only [obind]; rw [decide_eq_false h3, Bool.not_false]; exact j0_arg _ _ _ _
    · unfold annuityref21_Join.f; rw [ref_weights_is l _ (by omega)]; simp only [obind]; rw [if_neg h1, if_neg h2, ref_good_day]; simp only [obind]; rw [decide_eq_false h3, Bool.not_false]; exact r0_arg _ _ _ _ _ _ _
/-! ### The law's own check, copies -/
theorem wakes21 (k : Nat) (hk : 1000 ≤ k) : annuitylaw21_wakes.f k = some true := by
  have e : wS [(⟨1, 100, 0, 0, 0, 50000, false, 5, 0, 0, 0, 0, 4⟩ : S31), (⟨2, 100, 0, 0, 0, 60000, false, 5, 0, 0, 0, 0, 5⟩ : S31)] = ([100, 100], 200, 0) := by kernel_rfl
  have e1 : wS [(⟨1, 100, 0, 0, 0, 50000, false, 5, 0, 0, 0, 0, 4⟩ : S31)] = ([], 0, 64) := by kernel_rfl
  have r : rateS [(⟨1, 100, 0, 0, 0, 50000, false, 5, 0, 0, 0, 0, 4⟩ : S31), (⟨2, 100, 0, 0, 0, 60000, false, 5, 0, 0, 0, 0, 5⟩ : S31)] = (55000, 0) := by unfold rateS; rw [e]; kernel_rfl
  have r1 : rateS [(⟨1, 100, 0, 0, 0, 50000, false, 5, 0, 0, 0, 0, 4⟩ : S31)] = (0, 64) := by unfold rateS; rw [e1]; rfl
  have c : countS [(⟨1, 100, 0, 0, 0, 50000, false, 5, 0, 0, 0, 0, 4⟩ : S31), (⟨2, 100, 0, 0, 0, 60000, false, 5, 0, 0, 0, 0, 5⟩ : S31)] = (5, 0) := by unfold countS; rw [e]; kernel_rfl
  have s : plan_Set.f (k - 1) 9 200 0 0 0 55000 false 5 0 40 0 0 5 = some (9, 200, 0, 0, 0, 55000, false, 5, 0, 40, 3, 2, 5, 0) := by
    have o1 := of_at (b := 200) (r := 55000) (m := 120) (p := 3) (by unfold Go.Proofs.Ytakcepffodipfaa.Pure.May; decide) (by decide) (by decide) (by decide) (by unfold En; kernel_rfl) (.inr (by unfold En; rw [show leftS (3 - 1) 55000 (120 : Int).toNat 200 = (80, 0) by kernel_rfl]; decide)) (k - 1) (by omega)
    have o2 := of_at (b := 200) (r := 55000) (m := 300) (p := 2) (by unfold Go.Proofs.Ytakcepffodipfaa.Pure.May; decide) (by decide) (by decide) (by decide) (by unfold En; kernel_rfl) (.inr (by unfold En; rw [show leftS (2 - 1) 55000 (300 : Int).toNat 200 = (200, 0) by kernel_rfl]; decide)) (k - 1) (by omega)
    unfold plan_Set.f
    rw [good_is _ _ _ _ _ _ _ _ _ _ _ _ _ (k - 1) (by omega), o1, o2]
    simp only [obind, decide_eq_true_eq]
    rw [if_pos (by decide), if_pos trivial]
    rfl
  have j : blend_Join.f k [(⟨1, 100, 0, 0, 0, 50000, false, 5, 0, 0, 0, 0, 4⟩ : S31), (⟨2, 100, 0, 0, 0, 60000, false, 5, 0, 0, 0, 0, 5⟩ : S31)] 9 40 = some (9, 200, 0, 0, 0, 55000, false, 5, 0, 40, 3, 2, 5, 0) := by
    obtain ⟨k, rfl⟩ : ∃ m, k = m + 1 := ⟨k - 1, by omega⟩
    unfold blend_Join.f
    rw [if_neg (by decide), if_neg (by decide), good_day]
    simp only [obind]
    rw [decide_eq_true (by decide), Bool.not_true, blend_Join.j0, if_neg (by simp), weights_is _ _ (by omega), rate_is _ _ (by omega), count_is _ _ (by omega), e, r, c]
    simp only [obind, if_true]
    rw [show k + 1 - 1 = k by omega] at s
    rw [s]
    simp only [obind]
  unfold annuitylaw21_wakes.f
  simp only [obind]
  rw [rate_is _ k (by omega), count_is _ k (by omega), j]
  simp only [obind]
  rw [if_pos (by decide)]
  simp only [List.take_succ_cons, List.take_zero]
  rw [rate_is _ k (by omega), r, r1, c]
  simp only [obind, if_true]
  rfl
theorem copy_is (l : List S31) (hl : l.length ≤ 1000) : annuitykeep_CopyLoans.f l = some l := by
  unfold annuitykeep_CopyLoans.f
  simp only [obind, List.length_nil, List.nil_append]
  rw [if_pos (by omega)]
end Go.Proofs.Ytakcepffodipfaa.PureB
