/- What the functions on levels, the program's and the reference's, come to, in plain numbers, for every number of rounds that is large enough. -/
import Derived.Test.YtlhcohipnieidaaPx1
import Derived.Test.YtlhcohipnieidaaPx9
import Derived.Test.YtlhcohipnieidaaMoneySums
import Derived.Test.YtlhcohipnieidaaPlainLevel
namespace Go.Proofs.Ytlhcohipnieidaa.Pure
set_option linter.unusedVariables false
open Go.RowKit Go.Proofs.Ytlhcohipnieidaa.P Go.Proofs.YtlhcohipnieidaaW.PrintWords Go.Proofs.YtlhcohipnieidaaW.PrintLast Go.Proofs.YtlhcohipnieidaaW.PrintMore Go.Proofs.Ytlhcohipnieidaa.PlainM Go.Proofs.Ytlhcohipnieidaa.PlainL

/-- What may be asked. -/
def May (b pay r m : Int) : Prop := (0 ≤ b ∧ b ≤ 10000000000000) ∧ (0 ≤ pay ∧ pay ≤ 10000000000000) ∧ (0 ≤ r ∧ r ≤ 1000000) ∧ 0 ≤ m ∧ m ≤ 360
instance (b pay r m : Int) : Decidable (May b pay r m) := by unfold May; infer_instance
theorem level_may_is (b pay r m : Int) : level_may.f b pay r m = some (decide (May b pay r m)) := by
  unfold level_may.f
  simp only [money_Good_is, obind]
  by_cases h : May b pay r m
  · rw [decide_eq_true h]
    unfold May at h
    rw [if_pos (by omega), if_pos (decide_eq_true (by omega)), if_pos (by omega), if_pos (decide_eq_true (by omega)), if_pos (by omega), if_pos (by omega), if_pos (by omega), decide_eq_true (by omega)]
  · rw [decide_eq_false h]
    unfold May at h
    simp only [decide_eq_true_eq]
    by_cases c1 : b ≥ 0
    · rw [if_pos c1]
      by_cases c2 : -10000000000000 ≤ b ∧ b ≤ 10000000000000
      · rw [if_pos c2]
        by_cases c3 : pay ≥ 0
        · rw [if_pos c3]
          by_cases c4 : -10000000000000 ≤ pay ∧ pay ≤ 10000000000000
          · rw [if_pos c4]
            by_cases c5 : r ≥ 0
            · rw [if_pos c5]
              by_cases c6 : r ≤ 1000000
              · rw [if_pos c6]
                by_cases c7 : m ≥ 0
                · rw [if_pos c7, decide_eq_false (by omega)]
                · rw [if_neg c7]
              · rw [if_neg c6]
            · rw [if_neg c5]
          · rw [if_neg c4]
        · rw [if_neg c3]
      · rw [if_neg c2]
    · rw [if_neg c1]
theorem mdS_inter {b r : Int} (hb : 0 ≤ b) (hb' : b ≤ 10000000000000) (hr : 0 ≤ r) (hr' : r ≤ 1000000) : mdS b r 12000000 1 = (inter b r, 0) := by
  have hm : b * r ≤ 10000000000000 * 1000000 := Int.mul_le_mul hb' hr' hr (by omega)
  have hn := Int.mul_nonneg hb hr
  unfold mdS inter roundS
  rw [more1]
  generalize b * r = x at *
  rw [if_neg (by omega), if_neg (by omega)]
  by_cases c : x % 12000000 > 0
  · rw [decide_eq_true c, if_pos rfl, if_neg (by omega), if_pos c]
  · rw [decide_eq_false c, if_neg (by simp), if_neg c]
theorem addS_nn {a b : Int} (h1 : 0 ≤ a) (h2 : a ≤ 10000000000000) (h3 : 0 ≤ b) (h4 : b ≤ 10000000000000) : addS a b = if a + b > 10000000000000 then (0, 14) else (a + b, 0) := by
  unfold addS
  rw [isMoney_is, isMoney_is, isMoney_is, decide_eq_true (by omega), decide_eq_true (by omega)]
  by_cases c : a + b > 10000000000000
  · rw [decide_eq_false (by omega), if_pos c]; rfl
  · rw [decide_eq_true (by omega), if_neg c]; rfl
theorem level_month_is {b pay r : Int} (k : Nat) (hk : 40 ≤ k) (hb : 0 ≤ b ∧ b ≤ 10000000000000) (hp : 0 ≤ pay ∧ pay ≤ 10000000000000) (hr : 0 ≤ r ∧ r ≤ 1000000) :
    level_month.f k b pay r = some (monthS b pay r) := by
  have i0 := inter_nn hb.1 hr.1
  have i1 := inter_le hb.1 hb.2 hr.1 hr.2
  unfold level_month.f
  rw [money_MulDiv_is b r 12000000 1 k (by omega) (by omega) (by omega) hk, mdS_inter hb.1 hb.2 hr.1 hr.2]
  simp only [obind, money_Add_is, addS_nn hb.1 hb.2 i0 (by omega : inter b r ≤ 10000000000000)]
  unfold monthS
  generalize inter b r = i at *
  rw [if_pos trivial]
  by_cases c : b + i > 10000000000000
  · rw [if_pos c, if_pos c]; rfl
  · rw [if_neg c, if_neg c, if_pos rfl, w64 (by omega) (by omega), mx_is]
    congr 2
    split <;> split <;> omega
theorem level_left_l0 {pay r n : Int} (hp : 0 ≤ pay ∧ pay ≤ 10000000000000) (hr : 0 ≤ r ∧ r ≤ 1000000) (hn : n ≤ 360) : ∀ (d k : Nat) (b i : Int), 0 ≤ b ∧ b ≤ 10000000000000 → 0 ≤ i → i + d = n → d + 40 < k →
    level_left.l0 k b pay r n i = some (leftS pay r d b) := by
  intro d
  induction d with
  | zero =>
    intro k b i hb h0 h1 hk
    obtain ⟨k, rfl⟩ : ∃ m, k = m + 1 := ⟨k - 1, by omega⟩
    simp only [level_left.l0]; rw [if_neg (by omega)]; rfl
  | succ d ih =>
    intro k b i hb h0 h1 hk
    obtain ⟨k, rfl⟩ : ∃ m, k = m + 1 := ⟨k - 1, by omega⟩
    simp only [level_left.l0]
    rw [if_pos (by omega), level_month_is k (by omega) hb hp hr]
    simp only [obind, leftS]
    by_cases c : (monthS b pay r).2 = 0
    · rw [if_pos c, if_pos c, w64 (by omega) (by omega)]
      exact ih k _ _ (monthS_bd hp.1 c) (by omega) (by omega) (by omega)
    · rw [if_neg c, if_neg c]
theorem level_left_is {b pay r m : Int} (k : Nat) (hk : 410 ≤ k) (h : May b pay r m) : level_left.f k b pay r m = some (leftS pay r m.toNat b) := by
  obtain ⟨hb, hp, hr, hm⟩ := h
  unfold level_left.f
  exact level_left_l0 hp hr hm.2 m.toNat k b 0 hb (by omega) (by omega) (by omega)
theorem Least_exists {b r : Int} {n : Nat} (h : En b 10000000000000 r n) : ∃ p, Least b r n p := by
  have key : ∀ N : Nat, (N : Int) ≤ 10000000000000 → En b N r n → ∃ p, Least b r n p := by
    intro N
    induction N using Nat.strongRecOn with
    | _ N ih =>
      intro hN hE
      by_cases c : ∃ q : Nat, q < N ∧ En b q r n
      · obtain ⟨q, h1, h2⟩ := c
        exact ih q h1 (by omega) h2
      · refine ⟨N, by omega, hN, hE, fun q h0 h1 hq => c ⟨q.toNat, by omega, ?_⟩⟩
        rw [Int.toNat_of_nonneg h0]; exact hq
  exact key 10000000000000 (by omega) h
theorem least_iff {b r : Int} {n : Nat} {p q : Int} (hb : 0 ≤ b) (hb' : b ≤ 10000000000000) (hr : 0 ≤ r) (h : Least b r n p) (hq : 0 ≤ q) : En b q r n ↔ p ≤ q := by
  constructor
  · intro he
    by_cases c : p ≤ q
    · exact c
    · exact absurd he (h.least q hq (by omega))
  · intro c
    exact En_mono hb (Int.le_refl _) hb' hr (Int.le_refl _) h.nn c h.en
theorem en_is {b pay r m : Int} (k : Nat) (hk : 410 ≤ k) (h : May b pay r m) (t : Bool) (ht : t = true ↔ En b pay r m.toNat) : level_Of.en k b r m pay = some t := by
  unfold level_Of.en
  rw [level_left_is k hk h]
  simp only [obind]
  unfold En at ht
  by_cases c : (leftS pay r m.toNat b).2 = 0
  · rw [if_pos c]
    by_cases c2 : (leftS pay r m.toNat b).1 = 0
    · rw [ht.2 (Prod.ext c2 c), c2]; rfl
    · have : t = false := by
        cases t with
        | false => rfl
        | true => exact absurd (congrArg Prod.fst (ht.1 rfl)) c2
      rw [this]; congr 1; exact beq_eq_false_iff_ne.mpr c2
  · rw [if_neg c]
    cases t with
    | false => rfl
    | true => exact absurd (congrArg Prod.snd (ht.1 rfl)) c
theorem level_Of_l0 {b r m p : Int} (hb : 0 ≤ b ∧ b ≤ 10000000000000) (hr : 0 ≤ r ∧ r ≤ 1000000) (hm : 0 ≤ m ∧ m ≤ 360) (hl : Least b r m.toNat p) : ∀ (d k : Nat) (lo hi : Int), 0 ≤ lo → lo ≤ p → p ≤ hi → hi ≤ 10000000000000 → hi - lo < 2 ^ d → d + 410 < k →
    level_Of.l0 k b r m lo hi = some (p, 0) := by
  intro d
  induction d with
  | zero =>
    intro k lo hi h0 h1 h2 h3 h4 hk
    obtain ⟨k, rfl⟩ : ∃ m, k = m + 1 := ⟨k - 1, by omega⟩
    simp only [level_Of.l0]
    rw [if_neg (by omega), show lo = p by omega]
  | succ d ih =>
    intro k lo hi h0 h1 h2 h3 h4 hk
    obtain ⟨k, rfl⟩ : ∃ m, k = m + 1 := ⟨k - 1, by omega⟩
    simp only [level_Of.l0]
    rw [Int.pow_succ] at h4
    by_cases c : lo < hi
    · rw [if_pos c, w64 (e := lo + hi) (by omega) (by omega), Int.tdiv_eq_ediv_of_nonneg (by omega), w64 (e := (lo + hi) / 2) (by omega) (by omega), w64 (e := (lo + hi) / 2 + 1) (by omega) (by omega)]
      have hiff := least_iff hb.1 hb.2 hr.1 hl (q := (lo + hi) / 2) (by omega)
      rw [en_is k (by omega) (show May b ((lo + hi) / 2) r m from ⟨hb, by omega, hr, hm⟩) (decide (p ≤ (lo + hi) / 2)) (by rw [decide_eq_true_eq]; exact hiff.symm)]
      simp only [obind]
      by_cases c2 : p ≤ (lo + hi) / 2
      · rw [if_pos (decide_eq_true c2)]
        exact ih k lo _ h0 h1 c2 (by omega) (by omega) (by omega)
      · rw [if_neg (by simpa using c2)]
        exact ih k _ hi (by omega) (by omega) h2 h3 (by omega) (by omega)
    · rw [if_neg c, show lo = p by omega]
/-- What is asked of the least payment. -/
inductive OfS (b r m : Int) : Int → Int → Prop
  | bad : ¬ (May b 0 r m ∧ 1 ≤ m) → OfS b r m 0 1
  | none : May b 0 r m → 1 ≤ m → ¬ En b 10000000000000 r m.toNat → OfS b r m 0 14
  | least (p : Int) : May b 0 r m → 1 ≤ m → Least b r m.toNat p → OfS b r m p 0
theorem Of_both (b r m : Int) : ∃ v e, OfS b r m v e ∧ (∀ k : Nat, 500 ≤ k → level_Of.f k b r m = some (v, e)) := by
  by_cases h : May b 0 r m ∧ 1 ≤ m
  · obtain ⟨h, h1⟩ := h
    have hM : May b 10000000000000 r m := ⟨h.1, by omega, h.2.2⟩
    by_cases hE : En b 10000000000000 r m.toNat
    · obtain ⟨p, hl⟩ := Least_exists hE
      refine ⟨p, 0, .least p h h1 hl, fun k hk => ?_⟩
      unfold level_Of.f
      rw [level_may_is, obind, if_pos (decide_eq_true h), if_neg (by omega), en_is k (by omega) hM true (by simp [hE]), obind, if_pos rfl]
      exact level_Of_l0 h.1 h.2.2.1 h.2.2.2 hl 44 k 0 10000000000000 (by omega) hl.nn hl.le (by omega) (by decide) (by omega)
    · refine ⟨0, 14, .none h h1 hE, fun k hk => ?_⟩
      unfold level_Of.f
      rw [level_may_is, obind, if_pos (decide_eq_true h), if_neg (by omega), en_is k (by omega) hM false (by simp [hE]), obind, if_neg (by simp)]
  · refine ⟨0, 1, .bad h, fun k hk => ?_⟩
    unfold level_Of.f
    rw [level_may_is, obind]
    by_cases c : May b 0 r m
    · have hm1 : ¬ 1 ≤ m := fun x => h ⟨c, x⟩
      rw [if_pos (decide_eq_true c), if_pos (by omega)]
    · rw [if_neg (by simpa using c)]
theorem OfS.one {b r m v e v' e' : Int} (h : OfS b r m v e) (h' : OfS b r m v' e') : v = v' ∧ e = e' := by
  cases h with
  | bad h =>
    cases h' with
    | bad => exact ⟨rfl, rfl⟩
    | none a b => exact absurd ⟨a, b⟩ h
    | least p a b => exact absurd ⟨a, b⟩ h
  | none a b c =>
    cases h' with
    | bad h => exact absurd ⟨a, b⟩ h
    | none => exact ⟨rfl, rfl⟩
    | least p _ _ l => exact absurd ((least_iff a.1.1 a.1.2 a.2.2.1.1 l (by omega)).2 l.le) c
  | least p a b l =>
    cases h' with
    | bad h => exact absurd ⟨a, b⟩ h
    | none _ _ c => exact absurd ((least_iff a.1.1 a.1.2 a.2.2.1.1 l (by omega)).2 l.le) c
    | least q _ _ l' => exact ⟨l.one l', rfl⟩
/-- A least payment, told by two tries. -/
theorem of_at {b r m p : Int} (a : May b 0 r m) (h1 : 1 ≤ m) (hp : 0 ≤ p) (hp' : p ≤ 10000000000000) (hE : En b p r m.toNat) (hn : p = 0 ∨ ¬ En b (p - 1) r m.toNat) (k : Nat) (hk : 500 ≤ k) : level_Of.f k b r m = some (p, 0) := by
  have hl : Least b r m.toNat p := ⟨hp, hp', hE, fun q h0 hq he => by
    rcases hn with hn | hn
    · omega
    · exact hn (En_mono a.1.1 (Int.le_refl _) a.1.2 a.2.2.1.1 (Int.le_refl _) h0 (by omega) he)⟩
  obtain ⟨v, e, hs, hf⟩ := Of_both b r m
  obtain ⟨rfl, rfl⟩ := hs.one (.least p a h1 hl)
  exact hf k hk
end Go.Proofs.Ytlhcohipnieidaa.Pure
