/- Several texts as one (written by a program): what the walks and the plain laws come to, one behind the other. -/
import Derived.Test.YtlhcohipnieidaaGreatQd
import Derived.Test.YtlhcohipnieidaaGreatQh
import Derived.Test.YtlhcohipnieidaaGreatQc
import Derived.Test.YtlhcohipnieidaaGreatQa
import Derived.Test.YtlhcohipnieidaaGreatQe
import Derived.Test.YtlhcohipnieidaaGreatQf
import Derived.Test.YtlhcohipnieidaaGreatQb
namespace Go.Proofs.YtlhcohipnieidaaGreat.Pure
set_option linter.unusedVariables false
open Go.RowKit Go.Proofs.YtlhcohipnieidaaGreat.P W.PrintWords W.PrintLast W.PrintMore Go.Proofs.YtlhcohipnieidaaGreat.PlainM Go.Proofs.YtlhcohipnieidaaGreat.PlainL
def May (b pay r m : Int) : Prop := (0 <= b /\ b <= 10000000000000) /\ (0 <= pay /\ pay <= 10000000000000) /\ (0 <= r /\ r <= 1000000) /\ 0 <= m /\ m <= 360
instance (b pay r m : Int) : Decidable (May b pay r m) := by unfold May; infer_instance
theorem qVl (b pay r m : Int) : qX6.f b pay r m = some (decide (May b pay r m)) := by
 unfold qX6.f
 simp only [qWx, obind]
 by_cases h : May b pay r m
 ·rw [decide_eq_true h]
  unfold May at h
  rw [if_pos (by omega), if_pos (decide_eq_true (by omega)), if_pos (by omega), if_pos (decide_eq_true (by omega)), if_pos (by omega), if_pos (by omega), if_pos (by omega), decide_eq_true (by omega)]
 ·rw [decide_eq_false h]
  unfold May at h
  simp only [decide_eq_true_eq]
  by_cases c1 : b ≥ 0
  ·rw [if_pos c1]
   by_cases c2 : -10000000000000 <= b /\ b <= 10000000000000
   ·rw [if_pos c2]
    by_cases c3 : pay ≥ 0
    ·rw [if_pos c3]
     by_cases c4 : -10000000000000 <= pay /\ pay <= 10000000000000
     ·rw [if_pos c4]
      by_cases c5 : r ≥ 0
      ·rw [if_pos c5]
       by_cases c6 : r <= 1000000
       ·rw [if_pos c6]
        by_cases c7 : m ≥ 0
        ·rw [if_pos c7, decide_eq_false (by omega)]
        ·rw [if_neg c7]
       ·rw [if_neg c6]
      ·rw [if_neg c5]
     ·rw [if_neg c4]
    ·rw [if_neg c3]
   ·rw [if_neg c2]
  ·rw [if_neg c1]
theorem zWn {b r : Int} (hb : 0 <= b) (hb' : b <= 10000000000000) (hr : 0 <= r) (hr' : r <= 1000000) : mdS b r 12000000 1 = (inter b r, 0) := by
 have hm : b * r <= 10000000000000 * 1000000 := Int.mul_le_mul hb' hr' hr (by omega)
 have hn := Int.mul_nonneg hb hr
 unfold mdS inter roundS
 rw [more1]
 generalize b * r = x at *
 rw [if_neg (by omega), if_neg (by omega)]
 by_cases c : x % 12000000 > 0
 ·rw [decide_eq_true c, if_pos rfl, if_neg (by omega), if_pos c]
 ·rw [decide_eq_false c, if_neg (by simp), if_neg c]
theorem qJ7 {a b : Int} (h1 : 0 <= a) (h2 : a <= 10000000000000) (h3 : 0 <= b) (h4 : b <= 10000000000000) : addS a b = if a + b > 10000000000000 then (0, 14) else (a + b, 0) := by
 unfold addS
 rw [qWz, qWz, qWz, decide_eq_true (by omega), decide_eq_true (by omega)]
 by_cases c : a + b > 10000000000000
 ·rw [decide_eq_false (by omega), if_pos c]; rfl
 ·rw [decide_eq_true (by omega), if_neg c]; rfl
theorem qJk {b pay r : Int} (k : Nat) (hk : 40 <= k) (hb : 0 <= b /\ b <= 10000000000000) (hp : 0 <= pay /\ pay <= 10000000000000) (hr : 0 <= r /\ r <= 1000000) :
  qX1.f k b pay r = some (monthS b pay r) := by
 have i0 := zV0 hb.1 hr.1
 have i1 := zVz hb.1 hb.2 hr.1 hr.2
 unfold qX1.f
 rw [qWl b r 12000000 1 k (by omega) (by omega) (by omega) hk, zWn hb.1 hb.2 hr.1 hr.2]
 simp only [obind, qVm, qJ7 hb.1 hb.2 i0 (by omega : inter b r <= 10000000000000)]
 unfold monthS
 generalize inter b r = i at *
 rw [if_pos trivial]
 by_cases c : b + i > 10000000000000
 ·rw [if_pos c, if_pos c]; rfl
 ·rw [if_neg c, if_neg c, if_pos rfl, w64 (by omega) (by omega), mx_is]
  congr 2
  split <;> split <;> omega
theorem zQd {pay r n : Int} (hp : 0 <= pay /\ pay <= 10000000000000) (hr : 0 <= r /\ r <= 1000000) (hn : n <= 360) : ∀ (d k : Nat) (b i : Int), 0 <= b /\ b <= 10000000000000 -> 0 <= i -> i + d = n -> d + 40 < k ->
  qY2.l0 k b pay r n i = some (leftS pay r d b) := by
 intro d
 induction d with
 | zero =>
  intro k b i hb h0 h1 hk
  obtain ⟨k, rfl⟩ : ∃ m, k = m + 1 := ⟨k - 1, by omega⟩
  simp only [qY2.l0]; rw [if_neg (by omega)]; rfl
 | succ d ih =>
  intro k b i hb h0 h1 hk
  obtain ⟨k, rfl⟩ : ∃ m, k = m + 1 := ⟨k - 1, by omega⟩
  simp only [qY2.l0]
  rw [if_pos (by omega), qJk k (by omega) hb hp hr]
  simp only [obind, leftS]
  by_cases c : (monthS b pay r).2 = 0
  ·rw [if_pos c, if_pos c, w64 (by omega) (by omega)]
   exact ih k _ _ (qK2 hp.1 c) (by omega) (by omega) (by omega)
  ·rw [if_neg c, if_neg c]
theorem zQc {b pay r m : Int} (k : Nat) (hk : 410 <= k) (h : May b pay r m) : qY2.f k b pay r m = some (leftS pay r m.toNat b) := by
 obtain ⟨hb, hp, hr, hm⟩ := h
 unfold qY2.f
 exact zQd hp hr hm.2 m.toNat k b 0 hb (by omega) (by omega) (by omega)
theorem zQl {b r : Int} {n : Nat} (h : En b 10000000000000 r n) : ∃ p, Least b r n p := by
 have key : ∀ N : Nat, (N : Int) <= 10000000000000 -> En b N r n -> ∃ p, Least b r n p := by
  intro N
  induction N using Nat.strongRecOn with
  | _ N ih =>
   intro hN hE
   by_cases c : ∃ q : Nat, q < N /\ En b q r n
   ·obtain ⟨q, h1, h2⟩ := c
    exact ih q h1 (by omega) h2
   ·refine ⟨N, by omega, hN, hE, fun q h0 h1 hq => c ⟨q.toNat, by omega, ?_⟩⟩
    rw [Int.toNat_of_nonneg h0]; exact hq
 exact key 10000000000000 (by omega) h
theorem qK1 {b r : Int} {n : Nat} {p q : Int} (hb : 0 <= b) (hb' : b <= 10000000000000) (hr : 0 <= r) (h : Least b r n p) (hq : 0 <= q) : En b q r n ↔ p <= q := by
 constructor
 ·intro he
  by_cases c : p <= q
  ·exact c
  ·exact absurd he (h.least q hq (by omega))
 ·intro c
  exact zXs hb (Int.le_refl _) hb' hr (Int.le_refl _) h.nn c h.en
theorem en_is {b pay r m : Int} (k : Nat) (hk : 410 <= k) (h : May b pay r m) (t : Bool) (ht : t = true ↔ En b pay r m.toNat) : qZu.en k b r m pay = some t := by
 unfold qZu.en
 rw [zQc k hk h]
 simp only [obind]
 unfold En at ht
 by_cases c : (leftS pay r m.toNat b).2 = 0
 ·rw [if_pos c]
  by_cases c2 : (leftS pay r m.toNat b).1 = 0
  ·rw [ht.2 (Prod.ext c2 c), c2]; rfl
  ·have : t = false := by
    cases t with
    | false => rfl
    | true => exact absurd (congrArg Prod.fst (ht.1 rfl)) c2
   rw [this]; congr 1; exact beq_eq_false_iff_ne.mpr c2
 ·rw [if_neg c]
  cases t with
  | false => rfl
  | true => exact absurd (congrArg Prod.snd (ht.1 rfl)) c
theorem zZu {b r m p : Int} (hb : 0 <= b /\ b <= 10000000000000) (hr : 0 <= r /\ r <= 1000000) (hm : 0 <= m /\ m <= 360) (hl : Least b r m.toNat p) : ∀ (d k : Nat) (lo hi : Int), 0 <= lo -> lo <= p -> p <= hi -> hi <= 10000000000000 -> hi - lo < 2 ^ d -> d + 410 < k ->
  qZu.l0 k b r m lo hi = some (p, 0) := by
 intro d
 induction d with
 | zero =>
  intro k lo hi h0 h1 h2 h3 h4 hk
  obtain ⟨k, rfl⟩ : ∃ m, k = m + 1 := ⟨k - 1, by omega⟩
  simp only [qZu.l0]
  rw [if_neg (by omega), show lo = p by omega]
 | succ d ih =>
  intro k lo hi h0 h1 h2 h3 h4 hk
  obtain ⟨k, rfl⟩ : ∃ m, k = m + 1 := ⟨k - 1, by omega⟩
  simp only [qZu.l0]
  rw [Int.pow_succ] at h4
  by_cases c : lo < hi
  ·rw [if_pos c, w64 (e := lo + hi) (by omega) (by omega), Int.tdiv_eq_ediv_of_nonneg (by omega), w64 (e := (lo + hi) / 2) (by omega) (by omega), w64 (e := (lo + hi) / 2 + 1) (by omega) (by omega)]
   have hiff := qK1 hb.1 hb.2 hr.1 hl (q := (lo + hi) / 2) (by omega)
   rw [en_is k (by omega) (show May b ((lo + hi) / 2) r m from ⟨hb, by omega, hr, hm⟩) (decide (p <= (lo + hi) / 2)) (by rw [decide_eq_true_eq]; exact hiff.symm)]
   simp only [obind]
   by_cases c2 : p <= (lo + hi) / 2
   ·rw [if_pos (decide_eq_true c2)]
    exact ih k lo _ h0 h1 c2 (by omega) (by omega) (by omega)
   ·rw [if_neg (by simpa using c2)]
    exact ih k _ hi (by omega) (by omega) h2 h3 (by omega) (by omega)
  ·rw [if_neg c, show lo = p by omega]
inductive OfS (b r m : Int) : Int -> Int -> Prop
 | bad : ¬ (May b 0 r m /\ 1 <= m) -> OfS b r m 0 1
 | none : May b 0 r m -> 1 <= m -> ¬ En b 10000000000000 r m.toNat -> OfS b r m 0 14
 | least (p : Int) : May b 0 r m -> 1 <= m -> Least b r m.toNat p -> OfS b r m p 0
theorem zK8 (b r m : Int) : ∃ v e, OfS b r m v e /\ (∀ k : Nat, 500 <= k -> qZu.f k b r m = some (v, e)) := by
 by_cases h : May b 0 r m /\ 1 <= m
 ·obtain ⟨h, h1⟩ := h
  have hM : May b 10000000000000 r m := ⟨h.1, by omega, h.2.2⟩
  by_cases hE : En b 10000000000000 r m.toNat
  ·obtain ⟨p, hl⟩ := zQl hE
   refine ⟨p, 0, .least p h h1 hl, fun k hk => ?_⟩
   unfold qZu.f
   rw [qVl, obind, if_pos (decide_eq_true h), if_neg (by omega), en_is k (by omega) hM true (by simp [hE]), obind, if_pos rfl]
   exact zZu h.1 h.2.2.1 h.2.2.2 hl 44 k 0 10000000000000 (by omega) hl.nn hl.le (by omega) (by decide) (by omega)
  ·refine ⟨0, 14, .none h h1 hE, fun k hk => ?_⟩
   unfold qZu.f
   rw [qVl, obind, if_pos (decide_eq_true h), if_neg (by omega), en_is k (by omega) hM false (by simp [hE]), obind, if_neg (by simp)]
 ·refine ⟨0, 1, .bad h, fun k hk => ?_⟩
  unfold qZu.f
  rw [qVl, obind]
  by_cases c : May b 0 r m
  ·have hm1 : ¬ 1 <= m := fun x => h ⟨c, x⟩
   rw [if_pos (decide_eq_true c), if_pos (by omega)]
  ·rw [if_neg (by simpa using c)]
theorem OfS.one {b r m v e v' e' : Int} (h : OfS b r m v e) (h' : OfS b r m v' e') : v = v' /\ e = e' := by
 cases h with
 | bad h =>
  cases h' with
  | bad => exact ⟨rfl, rfl⟩
  | none a b => exact absurd ⟨a, b⟩ h
  | least p a b => exact absurd ⟨a, b⟩ h
 | none a b c =>
  cases h' with
  | bad h => exact absurd ⟨a, b⟩ h
  | none => exact ⟨rfl, rfl⟩
  | least p _ _ l => exact absurd ((qK1 a.1.1 a.1.2 a.2.2.1.1 l (by omega)).2 l.le) c
 | least p a b l =>
  cases h' with
  | bad h => exact absurd ⟨a, b⟩ h
  | none _ _ c => exact absurd ((qK1 a.1.1 a.1.2 a.2.2.1.1 l (by omega)).2 l.le) c
  | least q _ _ l' => exact ⟨l.one l', rfl⟩
theorem of_at {b r m p : Int} (a : May b 0 r m) (h1 : 1 <= m) (hp : 0 <= p) (hp' : p <= 10000000000000) (hE : En b p r m.toNat) (hn : p = 0 \/ ¬ En b (p - 1) r m.toNat) (k : Nat) (hk : 500 <= k) : qZu.f k b r m = some (p, 0) := by
 have hl : Least b r m.toNat p := ⟨hp, hp', hE, fun q h0 hq he => by
  rcases hn with hn | hn
  ·omega
  ·exact hn (zXs a.1.1 (Int.le_refl _) a.1.2 a.2.2.1.1 (Int.le_refl _) h0 (by omega) he)⟩
 obtain ⟨v, e, hs, hf⟩ := zK8 b r m
 obtain ⟨rfl, rfl⟩ := hs.one (.least p a h1 hl)
 exact hf k hk
end Go.Proofs.YtlhcohipnieidaaGreat.Pure
namespace Go.Proofs.YtlhcohipnieidaaGreat.PureSh
set_option linter.unusedVariables false
set_option linter.unusedSimpArgs false
open Go.RowKit Go.Proofs.YtlhcohipnieidaaGreat.P W.PrintWords W.PrintLast W.PrintMore Go.Proofs.YtlhcohipnieidaaGreat.PlainM Go.Proofs.YtlhcohipnieidaaGreat.Pure
def gdm (a : Int) : Prop := 0 <= a /\ a <= 10000000000000
instance (a : Int) : Decidable (gdm a) := by unfold gdm; infer_instance
theorem zWz (l : List Int) (j : Nat) (h : j < l.length) : l.drop j = rd l j :: l.drop (j + 1) := by
 rw [List.drop_eq_getElem_cons h]; congr 1; unfold rd; simp [List.getD_eq_getElem?_getD, h]
theorem zQ2 (l : List Int) (j : Nat) (h : j < l.length) : rd l j ∈ l := by
 have : rd l j = l[j] := by unfold rd; simp [List.getD_eq_getElem?_getD, h]
 rw [this]; exact List.getElem_mem h
theorem zX4 (a : Int) : qZj.bad a = decide (¬ gdm a) := by
 unfold qZj.bad isMoney gdm
 rw [decide_eq_decide, decide_eq_false_iff_not]
 omega
theorem idx_is : ∀ (l : List Int) (j : Nat), qZj.idx l j < 0 ↔ ∀ x ∈ l, gdm x := by
 intro l
 induction l with
 | nil => intro j; simp [qZj.idx]
 | cons a l ih =>
  intro j
  rw [qZj.idx, zX4]
  by_cases h : gdm a
  ·rw [if_neg (by simpa using h), ih]
   exact ⟨fun h2 x hx => (List.mem_cons.1 hx).elim (fun e => e ▸ h) (h2 x), fun h2 x hx => h2 x (List.mem_cons_of_mem _ hx)⟩
  ·rw [if_pos (by simpa using h)]
   exact ⟨fun h2 => by omega, fun h2 => absurd (h2 a (List.mem_cons_self ..)) h⟩
theorem zKm (k : Nat) (t : Int) (l : List Int) (hl : l.length <= 140737488351232) : qZj.f k t l = some (decide (gdm t /\ l.length <= 1000 /\ ∀ x ∈ l, gdm x)) := by
 unfold qZj.f
 rw [if_pos hl]
 congr 1
 rw [decide_eq_decide, idx_is]
 unfold gdm isMoney
 rw [decide_eq_true_eq]
 exact ⟨fun ⟨h1, h2, h3, h4⟩ => ⟨⟨h1, h2.2⟩, h3, h4⟩, fun ⟨h1, h3, h4⟩ => ⟨h1.1, ⟨by omega, h1.2⟩, h3, h4⟩⟩
theorem zQg (a : Int) : qZv.f a = some (decide (gdm a)) := by
 unfold qZv.f
 by_cases c : a ≥ 0
 ·rw [if_pos c, qWf]; simp only [obind]; congr 1; rw [decide_eq_decide]; unfold gdm; omega
 ·rw [if_neg c, decide_eq_false (fun h => c h.1)]
theorem zV6 (l : List Int) (hl : l.length <= 4611686018427387904) : ∀ (d k : Nat) (i : Int), 0 <= i -> i + d = l.length -> d < k -> qZb.l0 k l l i = some true := by
 intro d
 induction d with
 | zero =>
  intro k i h0 h1 hk
  obtain ⟨k, rfl⟩ : ∃ m, k = m + 1 := ⟨k - 1, by omega⟩
  simp only [qZb.l0]; rw [if_neg (by omega)]
 | succ d ih =>
  intro k i h0 h1 hk
  obtain ⟨k, rfl⟩ : ∃ m, k = m + 1 := ⟨k - 1, by omega⟩
  simp only [qZb.l0]
  rw [if_pos (by omega), if_pos h0, if_pos (by omega), if_pos trivial, w64 (by omega) (by omega)]
  exact ih k (i + 1) (by omega) (by omega) (by omega)
theorem qJu (l : List Int) (k : Nat) (hl : l.length <= 4611686018427387904) (hk : l.length < k) : qZb.f k l l = some true := by
 unfold qZb.f
 rw [if_pos rfl]
 exact zV6 l hl l.length k 0 (by omega) (by omega) hk
def sumI : List Int -> Int
 | [] => 0
 | a :: l => a + sumI l
theorem qVi (a b : List Int) : sumI (a ++ b) = sumI a + sumI b := by
 induction a with
 | nil => simp [sumI]
 | cons x a ih => simp only [List.cons_append, sumI, ih]; omega
theorem qX3 : ∀ (l : List Int), (∀ x ∈ l, 0 <= x) -> 0 <= sumI l := by
 intro l
 induction l with
 | nil => intro _; exact Int.le_refl 0
 | cons a l ih => intro h; simp only [sumI]; have := h a (List.mem_cons_self ..); have := ih (fun x hx => h x (List.mem_cons_of_mem _ hx)); omega
theorem qW2 : ∀ (l : List Int), (∀ x ∈ l, 0 <= x) -> ∀ x ∈ l, x <= sumI l := by
 intro l
 induction l with
 | nil => intro _ x hx; cases hx
 | cons a l ih =>
  intro h x hx
  have h1 := h a (List.mem_cons_self ..)
  have h2 := qX3 l (fun x hx => h x (List.mem_cons_of_mem _ hx))
  simp only [sumI]
  rcases List.mem_cons.1 hx with e | e
  ·subst e; omega
  ·have := ih (fun x hx => h x (List.mem_cons_of_mem _ hx)) x e; omega
theorem sum_go : ∀ (l : List Int) (s : Int), (∀ x ∈ l, gdm x) -> gdm s -> qZ3.go l s = if s + sumI l <= 10000000000000 then (s + sumI l, 0) else (0, 14) := by
 intro l
 induction l with
 | nil => intro s _ hs; unfold gdm at hs; rw [show sumI [] = 0 from rfl, Int.add_zero, if_pos (by omega)]; rfl
 | cons a l ih =>
  intro s h hs
  have ha := h a (List.mem_cons_self ..)
  have hl := fun x hx => h x (List.mem_cons_of_mem _ hx)
  have h2 := qX3 l (fun x hx => (hl x hx).1)
  have e1 : isMoney s = true := by unfold isMoney; unfold gdm at hs; exact decide_eq_true (by omega)
  have e2 : isMoney a = true := by unfold isMoney; unfold gdm at ha; exact decide_eq_true (by omega)
  rw [show sumI (a :: l) = a + sumI l from rfl, <- Int.add_assoc]
  simp only [qZ3.go]
  rw [e1, e2, Bool.true_and, Bool.true_and]
  by_cases c : s + a <= 10000000000000
  ·have e3 : isMoney (s + a) = true := by unfold isMoney; unfold gdm at ha hs; exact decide_eq_true (by omega)
   rw [e3, if_pos rfl, ih (s + a) hl (by unfold gdm at *; omega)]
  ·have e3 : isMoney (s + a) = false := by unfold isMoney; exact decide_eq_false (by omega)
   rw [e3, if_neg (by simp), if_neg (by omega)]
def quoS (t S : Int) (l : List Int) : List Int := l.map (fun w => t * w / S)
def rstS (t S : Int) (l : List Int) : List Int := l.map (fun w => t * w % S)
theorem zJx (t S : Int) : ∀ l : List Int, t * sumI l = S * sumI (quoS t S l) + sumI (rstS t S l) := by
 intro l
 induction l with
 | nil => simp [sumI, quoS, rstS]
 | cons a l ih =>
  simp only [sumI, quoS, rstS, List.map_cons] at ih ⊢
  have := Int.mul_ediv_add_emod (t * a) S
  rw [Int.mul_add, Int.mul_add, ih]
  omega
theorem zXm {t S : Int} (hS : 0 < S) (l : List Int) : ∀ x ∈ rstS t S l, 0 <= x := by
 intro x hx
 obtain ⟨w, _, rfl⟩ := List.mem_map.1 hx
 exact Int.emod_nonneg _ (by omega)
theorem rst_lt {t S : Int} (hS : 0 < S) (l : List Int) : ∀ x ∈ rstS t S l, x <= S - 1 := by
 intro x hx
 obtain ⟨w, _, rfl⟩ := List.mem_map.1 hx
 have := Int.emod_lt_of_pos (t * w) hS
 omega
theorem zYd (B : Int) : ∀ l : List Int, (∀ x ∈ l, x <= B) -> sumI l <= l.length * B := by
 intro l
 induction l with
 | nil => intro _; simp [sumI]
 | cons a l ih =>
  intro h
  have h1 := h a (List.mem_cons_self ..)
  have h2 := ih (fun x hx => h x (List.mem_cons_of_mem _ hx))
  simp only [sumI, List.length_cons]
  rw [Int.natCast_succ, Int.add_mul]
  omega
def lftS (t S : Int) (l : List Int) : Int := t - sumI (quoS t S l)
theorem zWi {t : Int} {l : List Int} : lftS t (sumI l) l * sumI l = sumI (rstS t (sumI l) l) := by
 have := zJx t (sumI l) l
 unfold lftS
 rw [Int.sub_mul, this, Int.mul_comm (sumI (quoS t (sumI l) l))]
 omega
theorem qJt {t : Int} {l : List Int} (hS : 0 < sumI l) : 0 <= lftS t (sumI l) l := by
 have h1 := zWi (t := t) (l := l)
 have h2 := qX3 _ (zXm (t := t) hS l)
 by_cases c : 0 <= lftS t (sumI l) l
 ·exact c
 ·have : lftS t (sumI l) l * sumI l <= (-1) * sumI l := Int.mul_le_mul_of_nonneg_right (by omega) (by omega)
  omega
theorem zWh {a b S : Int} (hS : 0 < S) (h : a * S <= b * S) : a <= b := Int.le_of_mul_le_mul_right h hS
theorem zK0 {t : Int} {l : List Int} (hS : 0 < sumI l) : lftS t (sumI l) l <= l.length := by
 have h1 := zWi (t := t) (l := l)
 have h2 := zYd _ _ (rst_lt (t := t) hS l)
 rw [<- h1] at h2
 apply zWh hS
 have e : (rstS t (sumI l) l).length = l.length := List.length_map _
 rw [e, Int.mul_sub] at h2
 omega
def winS (t S : Int) (l : List Int) : List Nat := (plc (rstS t S l)).take (lftS t S l).toNat
def prtS (t S : Int) (l : List Int) : List Int := (List.range l.length).map (fun (j : Nat) => rd (quoS t S l) j + if j ∈ winS t S l then 1 else 0)
theorem qVt (t S : Int) (l : List Int) : (rstS t S l).length = l.length := List.length_map _
theorem qW4 (t S : Int) (l : List Int) : (quoS t S l).length = l.length := List.length_map _
theorem zJu (t S : Int) (l : List Int) : (prtS t S l).length = l.length := by unfold prtS; simp
theorem zVi {t S : Int} {l : List Int} {j : Nat} (h : j ∈ winS t S l) : j < l.length := by
 have := (qWr (rstS t S l)).mem_iff.1 (List.mem_of_mem_take h)
 rw [List.mem_range, qVt] at this
 exact this
theorem qVy (l : List Int) : (plc l).Nodup := (qWr l).nodup_iff.2 List.nodup_range
theorem zZk (t S : Int) (l : List Int) : (winS t S l).Nodup := (List.take_sublist _ _).nodup (qVy _)
theorem zK5 {f : Int -> Int} (l : List Int) (j : Nat) (h : j < l.length) : rd (l.map f) j = f (rd l j) := by
 unfold rd; simp [List.getD_eq_getElem?_getD, h]
theorem zYq {f : Nat -> Int} {n j : Nat} (h : j < n) : rd ((List.range n).map f) j = f j := by
 unfold rd; simp [List.getD_eq_getElem?_getD, h]
theorem zW0 (l : List Int) (i j : Nat) (x : Int) (h : i < l.length) : rd (l.set i x) j = if j = i then x else rd l j := by
 unfold rd
 simp only [Int.toNat_natCast, List.getD_eq_getElem?_getD, List.getElem?_set]
 by_cases c : i = j
 ·subst c; simp [h]
 ·rw [if_neg c, if_neg (fun e => c e.symm)]
theorem ext_rd {a b : List Int} (h : a.length = b.length) (hr : ∀ j < a.length, rd a j = rd b j) : a = b := by
 apply List.ext_getElem h
 intro j h1 h2
 have := hr j h1
 unfold rd at this
 simpa [List.getD_eq_getElem?_getD, h1, h2] using this
def updS (L : List Nat) (p : List Int) : List Int := L.foldl (fun p i => p.set i (rd p i + 1)) p
theorem zYv : ∀ (L : List Nat) (p : List Int), L.Nodup -> (∀ i ∈ L, i < p.length) -> updS L p = (List.range p.length).map (fun (j : Nat) => rd p j + if j ∈ L then 1 else 0) := by
 intro L
 induction L with
 | nil =>
  intro p _ _
  apply ext_rd (by simp [updS])
  intro j hj
  have hj : j < p.length := hj
  rw [zYq hj]; simp [updS]
 | cons a L ih =>
  intro p hn hp
  have ha := hp a (List.mem_cons_self ..)
  have aY := List.nodup_cons.1 hn
  show updS L (p.set a (rd p a + 1)) = _
  rw [ih (p.set a (rd p a + 1)) aY.2 (fun i hi => by rw [List.length_set]; exact hp i (List.mem_cons_of_mem _ hi)), List.length_set]
  apply List.map_congr_left
  intro j hj
  rw [zW0 p a j _ ha]
  by_cases c : j = a
  ·subst c; rw [if_pos rfl, if_neg aY.1, if_pos (List.mem_cons_self ..)]; omega
  ·rw [if_neg c]
   by_cases c2 : j ∈ L
   ·rw [if_pos c2, if_pos (List.mem_cons_of_mem _ c2)]
   ·rw [if_neg c2, if_neg (fun h => (List.mem_cons.1 h).elim c c2)]
theorem zKp (L : List Nat) (n : Nat) (hn : n <= 1000) (hLn : ∀ i ∈ L, i < n) (hLl : L.length <= n) : ∀ (d k j : Nat) (p : List Int), j + d = L.length -> d < k -> p.length = n -> (∀ i : Nat, i < n -> 0 <= rd p i /\ rd p i + d <= 20000000000000) ->
  qQz.l1 k p (L.map (fun (x : Nat) => (x : Int))) (L.length : Int) (j : Int) = some (updS (L.drop j) p, 0) := by
 intro d
 induction d with
 | zero =>
  intro k j p hj hk hp hb
  obtain ⟨k, rfl⟩ : ∃ m, k = m + 1 := ⟨k - 1, by omega⟩
  simp only [qQz.l1]
  rw [if_neg (by omega), List.drop_of_length_le (by omega)]
  rfl
 | succ d ih =>
  intro k j p hj hk hp hb
  obtain ⟨k, rfl⟩ : ∃ m, k = m + 1 := ⟨k - 1, by omega⟩
  have hjL : j < L.length := by omega
  have e : rd (L.map (fun (x : Nat) => (x : Int))) (j : Int) = ((L[j] : Nat) : Int) := by unfold rd; simp [List.getD_eq_getElem?_getD, hjL]
  have hi := hLn L[j] (List.getElem_mem hjL)
  have hb0 := hb L[j] hi
  simp only [qQz.l1]
  rw [e, if_pos (by omega), if_pos (by omega), if_pos (by rw [List.length_map]; omega), if_pos (by omega), if_pos (by omega), Int.toNat_natCast, w64 (e := rd p ((L[j] : Nat) : Int) + 1) (by omega) (by omega), w64 (e := (j : Int) + 1) (by omega) (by omega),
   show (j : Int) + 1 = ((j + 1 : Nat) : Int) by omega, ih k (j + 1) _ (by omega) (by omega) (by rw [List.length_set]; exact hp) (fun i hin => by
    rw [zW0 p L[j] i _ (by omega)]
    have := hb i hin
    split <;> omega), List.drop_eq_getElem_cons hjL]
  rfl
def halfS (f : Int -> Int) (l : List Int) (j : Nat) : List Int := (l.take j).map f ++ List.replicate (l.length - j) 0
theorem qKp (f : Int -> Int) (l : List Int) {j : Nat} (h : j <= l.length) : (halfS f l j).length = l.length := by simp [halfS]; omega
theorem qKq (f : Int -> Int) (l : List Int) {j : Nat} (h : j < l.length) : (halfS f l j).set j (f (rd l j)) = halfS f l (j + 1) := by
 unfold halfS
 rw [show l.length - j = (l.length - (j + 1)) + 1 by omega, List.replicate_succ, List.set_append_right _ _ (by simp; omega), List.take_add_one, List.map_append, List.append_assoc]
 have e : rd l j = l[j] := by unfold rd; simp [List.getD_eq_getElem?_getD, h]
 rw [e]
 simp [h, Nat.min_eq_left (Nat.le_of_lt h)]
theorem zQa (f : Int -> Int) (l : List Int) : halfS f l l.length = l.map f := by simp [halfS]
theorem qKz (f : Int -> Int) (l : List Int) : halfS f l 0 = List.replicate l.length 0 := by simp [halfS]
theorem zJj (f : Int -> Int) (l : List Int) {j : Nat} (h : j < l.length) : rd (halfS f l (j + 1)) j = f (rd l j) := by
 rw [<- qKq f l h, zW0 _ _ _ _ (by rw [qKp f l (by omega)]; exact h), if_pos rfl]
theorem qKg {t S w : Int} (ht : 0 <= t) (hw : 0 <= w) (hwS : w <= S) (hS : 0 < S) : 0 <= t * w / S /\ t * w / S <= t := by
 have h1 : t * w <= t * S := Int.mul_le_mul_of_nonneg_left hwS ht
 have h2 : 0 <= t * w := Int.mul_nonneg ht hw
 refine ⟨Int.ediv_nonneg h2 (by omega), ?_⟩
 have := Int.ediv_le_ediv hS h1
 rwa [Int.mul_ediv_cancel _ (by omega)] at this
theorem zVd {t w S : Int} (ht : gdm t) (hw : gdm w) (hS : 0 < S) (aV : S <= 10000000000000) (hwS : w <= S) (k : Nat) (hk : 30 <= k) :
  qX7.f k (t * w / 18446744073709551616) (t * w % 18446744073709551616) S = some (t * w / S, t * w % S, true) := by
 unfold gdm at ht hw
 have h2 : 0 <= t * w := Int.mul_nonneg ht.1 hw.1
 have h1 : t * w <= t * S := Int.mul_le_mul_of_nonneg_left hwS ht.1
 have h3 : t * S <= 10000000000000 * S := Int.mul_le_mul_of_nonneg_right ht.2 (by omega)
 rw [qKe _ _ S k (by omega) (by omega) (by omega) (by omega) (by omega) hk]
 unfold divS
 rw [if_neg (by omega)]
 congr 2
 ·congr 1; omega
 ·congr 2; omega
theorem zKo (t : Int) (l : List Int) (ht : gdm t) (hl : l.length <= 1000) (hg : ∀ x ∈ l, gdm x) (hS : 0 < sumI l) (aV : sumI l <= 10000000000000) :
  ∀ (d k j : Nat), j + d = l.length -> d + 2000 < k ->
  qQz.l0 k t (sumI l) (halfS (fun w => t * w / sumI l) l j) (halfS (fun w => t * w % sumI l) l j) (t - sumI (quoS t (sumI l) (l.take j))) l (l.length : Int) (j : Int) = some (prtS t (sumI l) l, 0) := by
 intro d
 have aZ : 0 < l.length := by
  cases l with
  | nil => simp [sumI] at hS
  | cons a l => simp
 induction d with
 | zero =>
  intro k j hj hk
  obtain ⟨k, rfl⟩ : ∃ m, k = m + 1 := ⟨k - 1, by omega⟩
  obtain rfl : j = l.length := by omega
  simp only [qQz.l0]
  rw [if_neg (by omega), zQa, zQa, List.take_length]
  show ((qYe.f k (rstS t (sumI l) l)).bind _) = _
  unfold qYe.f
  rw [if_pos (by rw [qVt]; omega)]
  simp only [obind]
  have h1 := qJt (t := t) hS
  have h2 := zK0 (t := t) hS
  have e : t - sumI (quoS t (sumI l) l) = lftS t (sumI l) l := rfl
  have e3 : (plc (rstS t (sumI l) l)).length = l.length := by rw [(qWr _).length_eq, List.length_range, qVt]
  rw [e, if_pos h1, if_pos (by rw [List.length_map, e3]; exact h2), <- List.map_take]
  show qQz.l1 k (quoS t (sumI l) l) ((winS t (sumI l) l).map _) _ _ = _
  have hlen : (winS t (sumI l) l).length <= l.length := by unfold winS; rw [List.length_take, e3]; omega
  rw [List.length_map]
  have := zKp (winS t (sumI l) l) l.length hl (fun i hi => zVi hi) hlen (winS t (sumI l) l).length k 0 (quoS t (sumI l) l) (by omega) (by omega) (qW4 _ _ _) (fun i hi => by
   unfold quoS
   rw [zK5 l i hi]
   have hm := zQ2 l i hi
   have hw := hg _ hm
   have := qKg ht.1 hw.1 (qW2 l (fun x hx => (hg x hx).1) _ hm) hS
   unfold gdm at ht
   omega)
  rw [List.drop_zero, zYv _ _ (zZk _ _ _) (fun i hi => by rw [qW4]; exact zVi hi), qW4] at this
  exact this
 | succ d ih =>
  intro k j hj hk
  obtain ⟨k, rfl⟩ : ∃ m, k = m + 1 := ⟨k - 1, by omega⟩
  have hjl : j < l.length := by omega
  have hm := zQ2 l j hjl
  have hw := hg _ hm
  have hwS := qW2 l (fun x hx => (hg x hx).1) _ hm
  have hq := qKg ht.1 hw.1 hwS hS
  have ht' := ht; have hw' := hw
  unfold gdm at ht' hw'
  have et : l.take (j + 1) = l.take j ++ [rd l j] := by
   rw [List.take_add_one]
   have e : rd l j = l[j] := by unfold rd; simp [List.getD_eq_getElem?_getD, hjl]
   rw [e]; simp [hjl]
  have es : sumI (quoS t (sumI l) (l.take (j + 1))) = sumI (quoS t (sumI l) (l.take j)) + t * rd l j / sumI l := by
   rw [et]; unfold quoS; rw [List.map_append, qVi]; simp only [List.map_cons, List.map_nil, sumI]; omega
  have hb1 : 0 <= sumI (quoS t (sumI l) (l.take j)) := qX3 _ (fun x hx => by
   obtain ⟨w, hw, rfl⟩ := List.mem_map.1 hx
   have aK := List.mem_of_mem_take hw
   exact (qKg ht.1 (hg w aK).1 (qW2 l (fun x hx => (hg x hx).1) _ aK) hS).1)
  have hb2 : sumI (quoS t (sumI l) (l.take j)) <= (quoS t (sumI l) (l.take j)).length * 10000000000000 := zYd _ _ (fun x hx => by
   obtain ⟨w, hw, rfl⟩ := List.mem_map.1 hx
   have aK := List.mem_of_mem_take hw
   have := (qKg ht.1 (hg w aK).1 (qW2 l (fun x hx => (hg x hx).1) _ aK) hS).2
   omega)
  rw [qW4, List.length_take, Nat.min_eq_left (by omega)] at hb2
  simp only [qQz.l0]
  rw [if_pos (by omega), if_pos (by omega), if_pos (by omega), wu_id ht'.1 (by omega), wu_id hw'.1 (by omega), wu_id (n := sumI l) (by omega) (by omega), qKf t (rd l j) ht'.1 (by omega) hw'.1 (by omega)]
  simp only [obind]
  rw [zVd ht hw hS aV hwS k (by omega)]
  simp only [obind]
  rw [qKp _ l (by omega), qKp _ l (by omega), if_pos (by omega), if_pos (by omega), w64 (e := t * rd l j / sumI l) (by omega) (by omega), Int.toNat_natCast, qKq (fun w => t * w / sumI l) l hjl, qKq (fun w => t * w % sumI l) l hjl, zJj (fun w => t * w / sumI l) l hjl,
   w64 (e := t - sumI (quoS t (sumI l) (l.take j)) - t * rd l j / sumI l) (by omega) (by omega), w64 (e := (j : Int) + 1) (by omega) (by omega),
   show t - sumI (quoS t (sumI l) (l.take j)) - t * rd l j / sumI l = t - sumI (quoS t (sumI l) (l.take (j + 1))) by omega, show (j : Int) + 1 = ((j + 1 : Nat) : Int) by omega]
  exact ih k (j + 1) (by omega) (by omega)
def splitG (t : Int) (l : List Int) : Prop := gdm t /\ l.length <= 1000 /\ (∀ x ∈ l, gdm x) /\ sumI l <= 10000000000000 /\ 0 < sumI l
instance (t : Int) (l : List Int) : Decidable (splitG t l) := by unfold splitG; infer_instance
def splitF (t : Int) (l : List Int) : List Int × Int := if splitG t l then (prtS t (sumI l) l, 0) else ([], 1)
theorem zKn (t : Int) (l : List Int) (k : Nat) (hl : l.length <= 2000) (hk : 3010 <= k) : qQz.f k t l = some (splitF t l) := by
 obtain ⟨k, rfl⟩ : ∃ m, k = m + 1 := ⟨k - 1, by omega⟩
 have e0 : ∀ S, qQz.j0 (k + 1) t l S true = some ([], 1) := fun S => by simp only [qQz.j0, if_true]
 unfold qQz.f qZ3.f splitF
 rw [if_pos (by omega), zKm _ t l (by omega)]
 simp only [obind, decide_eq_true_eq]
 by_cases c : gdm t /\ l.length <= 1000 /\ ∀ x ∈ l, gdm x
 case neg => rw [if_neg c, if_neg (fun h : splitG t l => c ⟨h.1, h.2.1, h.2.2.1⟩), e0]
 obtain ⟨ht, hn, hg⟩ := c
 rw [if_pos ⟨ht, hn, hg⟩, sum_go l 0 hg (by unfold gdm; omega), Int.zero_add]
 by_cases c1 : sumI l <= 10000000000000
 case neg => rw [if_neg c1, if_neg (fun h : splitG t l => c1 h.2.2.2.1)]; rw [if_neg (by simp), e0]
 rw [if_pos c1, if_pos rfl]
 by_cases c2 : 0 < sumI l
 case neg => rw [if_neg (fun h : splitG t l => c2 h.2.2.2.2), decide_eq_true (by omega), e0]
 rw [if_pos ⟨ht, hn, hg, c1, c2⟩, decide_eq_false (by omega)]
 simp only [qQz.j0]
 rw [if_neg (by simp), if_pos (by omega), if_pos (by omega), Int.toNat_natCast]
 have := zKo t l ht hn hg c2 c1 l.length k 0 (by omega) (by omega)
 rw [qKz, qKz, List.take_zero] at this
 simpa [quoS, sumI] using this
end Go.Proofs.YtlhcohipnieidaaGreat.PureSh
namespace Go.Proofs.YtlhcohipnieidaaGreat.PureIn
set_option linter.unusedVariables false
open Go.RowKit Go.Proofs.YtlhcohipnieidaaGreat.P W.PrintWords W.PrintLast W.PrintMore Go.Proofs.YtlhcohipnieidaaGreat.PlainM Go.Proofs.YtlhcohipnieidaaGreat.Pure
def upFrom : List Int -> Int -> Bool
 | [], _ => true
 | x :: l, s => decide (s <= x) && (decide (x <= 1000000000) && upFrom l x)
def goodT (l : List Int) : Bool := decide (1 <= l.length /\ l.length <= 30) && upFrom l 0
theorem qJi (l : List Int) (hl : l.length <= 4611686018427387904) : ∀ (d k j : Nat) (s : Int), j + d = l.length -> d < k -> qZt.l0 k s l l.length j = some (upFrom (l.drop j) s) := by
 intro d
 induction d with
 | zero =>
  intro k j s hj hk
  obtain ⟨k, rfl⟩ : ∃ m, k = m + 1 := ⟨k - 1, by omega⟩
  simp only [qZt.l0]
  rw [if_neg (by omega), List.drop_of_length_le (by omega)]; rfl
 | succ d ih =>
  intro k j s hj hk
  obtain ⟨k, rfl⟩ : ∃ m, k = m + 1 := ⟨k - 1, by omega⟩
  simp only [qZt.l0]
  rw [if_pos (by omega), if_pos (by omega), if_pos (by omega), rd_at l j (by omega)]
  simp only [upFrom]
  by_cases c1 : rd l j < s
  ·rw [if_pos c1, decide_eq_false (by omega), Bool.false_and]
  ·rw [if_neg c1, decide_eq_true (by omega), Bool.true_and]
   by_cases c2 : rd l j > 1000000000
   ·rw [if_pos c2, decide_eq_false (by omega), Bool.false_and]
   ·rw [if_neg c2, decide_eq_true (by omega), Bool.true_and, w64 (by omega) (by omega)]
    exact ih k (j + 1) _ (by omega) (by omega)
theorem qVs (l : List Int) (k : Nat) (hl : l.length <= 4611686018427387904) (hk : 40 <= k) : qZt.f k l = some (goodT l) := by
 obtain ⟨k, rfl⟩ : ∃ m, k = m + 1 := ⟨k - 1, by omega⟩
 unfold qZt.f goodT
 simp only [qZt.j0]
 by_cases c1 : (l.length : Int) < 1
 ·rw [if_pos c1, if_pos trivial, decide_eq_false (by omega), Bool.false_and]
 ·rw [if_neg c1]
  by_cases c2 : (l.length : Int) > 30
  ·rw [if_pos (decide_eq_true c2), decide_eq_false (by omega), Bool.false_and]
  ·rw [if_neg (by simpa using c2), decide_eq_true (by omega), Bool.true_and]
   exact qJi l hl l.length k 0 0 (by omega) (by omega)
theorem zZ6 (l : List Int) (hl : l.length <= 4611686018427387904) : ∀ (d k j : Nat) (s : Int), j + d = l.length -> d < k -> (0 < j -> s = rd l ((j : Int) - 1)) -> 0 <= s -> (j = 0 -> s = 0) ->
  qZc.l0 k l j = some (decide (1 <= l.length /\ l.length <= 30) && upFrom (l.drop j) s) := by
 intro d
 induction d with
 | zero =>
  intro k j s hj hk _ _ _
  obtain ⟨k, rfl⟩ : ∃ m, k = m + 1 := ⟨k - 1, by omega⟩
  simp only [qZc.l0]
  rw [if_neg (by omega), List.drop_of_length_le (by omega)]
  simp only [upFrom, Bool.and_true]
  by_cases c : (l.length : Int) ≥ 1
  ·rw [if_pos c]; congr 1; rw [decide_eq_decide]; omega
  ·rw [if_neg c, decide_eq_false (by omega)]
 | succ d ih =>
  intro k j s hj hk hs hs0 hj0
  obtain ⟨k, rfl⟩ : ∃ m, k = m + 1 := ⟨k - 1, by omega⟩
  simp only [qZc.l0]
  rw [if_pos (by omega), if_pos (by omega), rd_at l j (by omega)]
  simp only [upFrom]
  by_cases c0 : rd l j < 0
  ·rw [if_pos c0, decide_eq_false (by omega : ¬ s <= rd l j), Bool.false_and, Bool.and_false]
  ·rw [if_neg c0]
   by_cases c2 : rd l j > 1000000000
   ·rw [if_pos c2, decide_eq_false (by omega : ¬ rd l j <= 1000000000), Bool.false_and, Bool.and_false, Bool.and_false]
   ·rw [if_neg c2, decide_eq_true (by omega : rd l j <= 1000000000), Bool.true_and]
    have nx := ih k (j + 1) (rd l j) (by omega) (by omega) (fun _ => by rw [show ((j + 1 : Nat) : Int) - 1 = j by omega]) (by omega) (by omega)
    by_cases c3 : (j : Int) > 0
    ·rw [if_pos c3, w64 (e := (j : Int) - 1) (by omega) (by omega), if_pos (by omega), if_pos (by omega), <- hs (by omega)]
     by_cases c4 : rd l j < s
     ·rw [if_pos c4, decide_eq_false (by omega : ¬ s <= rd l j), Bool.false_and, Bool.and_false]
     ·rw [if_neg c4, decide_eq_true (by omega : s <= rd l j), Bool.true_and, w64 (by omega) (by omega)]
      exact nx
    ·rw [if_neg c3, decide_eq_true (by have := hj0 (by omega); omega : s <= rd l j), Bool.true_and, w64 (by omega) (by omega)]
     exact nx
theorem qKi (l : List Int) (k : Nat) (hl : l.length <= 4611686018427387904) (hk : l.length < k) : qZc.f k l = some (goodT l) := by
 unfold qZc.f goodT
 exact zZ6 l hl l.length k 0 0 (by omega) (by omega) (fun h => absurd h (by omega)) (by omega) (fun _ => rfl)
theorem zZj : ∀ (l : List Int) (s : Int), upFrom l s = true -> ∀ j : Nat, j < l.length -> s <= rd l j /\ rd l j <= 1000000000
 | [], _, _, _, h => absurd h (by simp)
 | x :: l, s, hu, 0, _ => by
  simp only [upFrom, Bool.and_eq_true, decide_eq_true_eq] at hu
  exact ⟨hu.1, hu.2.1⟩
 | x :: l, s, hu, j + 1, hj => by
  simp only [upFrom, Bool.and_eq_true, decide_eq_true_eq] at hu
  have := zZj l x hu.2.2 j (by simpa using hj)
  have e : rd (x :: l) ((j + 1 : Nat) : Int) = rd l (j : Int) := by unfold rd; simp
  rw [e]; omega
theorem qK0 (a n : Int) (k : Nat) (hk : 3 <= k) : qYh.f k a [n] = some (mn a n) := by
 obtain ⟨k, rfl⟩ : ∃ m, k = m + 2 := ⟨k - 2, by omega⟩
 unfold qYh.f
 simp only [qYh.l0, List.length_singleton]
 rw [if_pos (by omega), if_pos (by omega), if_pos (by omega), w64 (e := 0 + 1) (by omega) (by omega), if_neg (by omega)]
 rfl
def lineS (l : List Int) (n : Int) : Int × Int := if goodT l = true /\ 1 <= n /\ n <= 30 then mdS (rd l (mn n l.length - 1)) 3 2 1 else (0, 1)
def freeS (l : List Int) (n x : Int) : Int × Int := if (lineS l n).2 = 0 /\ 0 <= x /\ x <= 1000000000 then (mx (x - (lineS l n).1) 0, 0) else (0, 1)
def askS (l : List Int) (n x : Int) : Int × Int := if (freeS l n x).2 = 0 then mdS (freeS l n x).1 1 120 2 else (0, (freeS l n x).2)
theorem zZo {l : List Int} {n : Int} (hg : goodT l = true) (h1 : 1 <= n) (h2 : n <= 30) : 0 <= mn n l.length - 1 /\ mn n l.length - 1 < l.length /\ mn n l.length <= 30 /\ 0 <= rd l (mn n l.length - 1) /\ rd l (mn n l.length - 1) <= 1000000000 := by
 unfold goodT at hg
 simp only [Bool.and_eq_true, decide_eq_true_eq] at hg
 obtain ⟨⟨h3, h4⟩, hu⟩ := hg
 have hm : 0 <= mn n l.length - 1 /\ mn n l.length - 1 < l.length /\ mn n l.length <= 30 := by rw [mn_is]; split <;> omega
 have := zZj l 0 hu (mn n l.length - 1).toNat (by omega)
 rw [Int.toNat_of_nonneg hm.1] at this
 exact ⟨hm.1, hm.2.1, hm.2.2, this.1, this.2⟩
theorem zZv {l : List Int} {n : Int} (h : (lineS l n).2 = 0) : goodT l = true /\ (1 <= n /\ n <= 30) /\ lineS l n = (rq (rd l (mn n l.length - 1) * 3) 2 1, 0) /\ 0 <= (lineS l n).1 /\ (lineS l n).1 <= 1500000001 := by
 unfold lineS at *
 by_cases c : goodT l = true /\ 1 <= n /\ n <= 30
 ·rw [if_pos c] at h ⊢
  obtain ⟨a1, a2, a3, a4, a5⟩ := zZo c.1 c.2.1 c.2.2
  rw [mdS_rq _ 3 2 1 a4 (by omega) (by omega) (by omega) (by omega) (by omega)]
  refine ⟨c.1, c.2, rfl, ?_⟩
  rw [rq1]
  simp only
  split <;> omega
 ·rw [if_neg c] at h; simp at h
theorem qJj (l : List Int) (n : Int) (k : Nat) (hl : l.length <= 4611686018427387904) (hk : 100 <= k) : qYi.f k l n = some (lineS l n) := by
 obtain ⟨k, rfl⟩ : ∃ m, k = m + 1 := ⟨k - 1, by omega⟩
 unfold qYi.f
 rw [qVs l (k + 1) hl (by omega)]
 simp only [qYi.j0, obind]
 rw [qK0 n l.length k (by omega)]
 simp only [obind]
 by_cases hg : goodT l = true
 ·rw [if_pos hg]
  by_cases c1 : n < 1
  ·rw [if_pos c1, if_pos trivial]; unfold lineS; rw [if_neg (by omega)]
  ·rw [if_neg c1]
   by_cases c2 : n > 30
   ·rw [if_pos (decide_eq_true c2)]; unfold lineS; rw [if_neg (by omega)]
   ·obtain ⟨a1, a2, a3, a4, a5⟩ := zZo hg (by omega : 1 <= n) (by omega)
    rw [if_neg (by simpa using c2), w64 (by omega) (by omega), if_pos a1, if_pos a2, qWl _ _ _ _ k (by omega) (by omega) (by omega) (by omega)]
    unfold lineS
    rw [if_pos ⟨hg, by omega, by omega⟩]; rfl
 ·rw [if_neg hg, if_pos trivial]; unfold lineS; rw [if_neg (fun h => hg h.1)]
theorem zZ7 (l : List Int) (n : Int) (k : Nat) (hl : l.length <= 100) (hk : 300 <= k) : qYf.f k l n = some (lineS l n) := by
 unfold qYf.f
 rw [qKi l k (by omega) (by omega)]
 simp only [obind]
 by_cases hg : goodT l = true
 ·rw [if_pos hg]
  by_cases c1 : n < 1
  ·rw [if_pos c1]; unfold lineS; rw [if_neg (by omega)]
  ·rw [if_neg c1]
   by_cases c2 : n > 30
   ·rw [if_pos c2]; unfold lineS; rw [if_neg (by omega)]
   ·obtain ⟨a1, a2, a3, a4, a5⟩ := zZo hg (by omega : 1 <= n) (by omega)
    rw [if_neg c2, w64 (by omega) (by omega), if_pos a1, if_pos a2, qVg _ _ _ _ k (by omega) (by omega) (by omega) (by omega)]
    unfold lineS
    rw [if_pos ⟨hg, by omega, by omega⟩]; rfl
 ·rw [if_neg hg]; unfold lineS; rw [if_neg (fun h => hg h.1)]
theorem qJh (l : List Int) (n x : Int) (k : Nat) (hl : l.length <= 4611686018427387904) (hk : 100 <= k) : qX0.f k l n x = some (freeS l n x) := by
 unfold qX0.f
 rw [qJj l n k hl (by omega)]
 simp only [obind]
 unfold freeS
 by_cases c : (lineS l n).2 = 0
 ·obtain ⟨b1, b2, b3, b4, b5⟩ := zZv c
  rw [if_pos c]
  by_cases c1 : x < 0
  ·rw [if_pos c1, if_neg (by omega)]
  ·rw [if_neg c1]
   by_cases c2 : x > 1000000000
   ·rw [if_pos c2, if_neg (by omega)]
   ·rw [if_neg c2, if_pos ⟨c, by omega, by omega⟩, w64 (by omega) (by omega)]
 ·rw [if_neg c, if_neg (fun h => c h.1)]
theorem zJp (a b : Int) : mx a b = mx b a := by rw [mx_is, mx_is]; split <;> split <;> omega
theorem zZ5 (l : List Int) (n x : Int) (k : Nat) (hl : l.length <= 100) (hk : 300 <= k) : qY0.f k l n x = some (freeS l n x) := by
 unfold qY0.f
 rw [zZ7 l n k hl (by omega)]
 simp only [obind]
 unfold freeS
 by_cases c : (lineS l n).2 = 0
 ·obtain ⟨b1, b2, b3, b4, b5⟩ := zZv c
  rw [if_pos c]
  by_cases c1 : x < 0
  ·rw [if_pos c1, if_neg (by omega)]
  ·rw [if_neg c1]
   by_cases c2 : x > 1000000000
   ·rw [if_pos c2, if_neg (by omega)]
   ·rw [if_neg c2, if_pos ⟨c, by omega, by omega⟩, w64 (by omega) (by omega), zJp]
 ·rw [if_neg c, if_neg (fun h => c h.1)]
theorem zWf {l : List Int} {n x : Int} (h : (freeS l n x).2 = 0) : 0 <= (freeS l n x).1 /\ (freeS l n x).1 <= 1000000000 := by
 unfold freeS at *
 by_cases c : (lineS l n).2 = 0 /\ 0 <= x /\ x <= 1000000000
 ·obtain ⟨b1, b2, b3, b4, b5⟩ := zZv c.1
  rw [if_pos c]
  simp only
  rw [mx_is]; split <;> omega
 ·rw [if_neg c] at h; simp at h
theorem zQb (l : List Int) (n x : Int) (k : Nat) (hl : l.length <= 4611686018427387904) (hk : 100 <= k) : qWe.f k l n x = some (askS l n x) := by
 unfold qWe.f
 rw [qJh l n x k hl hk]
 simp only [obind]
 unfold askS
 by_cases c : (freeS l n x).2 = 0
 ·have := zWf c
  rw [if_pos c, if_pos c, qWl _ _ _ _ k (by omega) (by omega) (by omega) (by omega)]; rfl
 ·rw [if_neg c, if_neg c]
theorem zXj (l : List Int) (n x : Int) (k : Nat) (hl : l.length <= 100) (hk : 300 <= k) : qY8.f k l n x = some (askS l n x) := by
 unfold qY8.f
 rw [zZ5 l n x k hl hk]
 simp only [obind]
 unfold askS
 by_cases c : (freeS l n x).2 = 0
 ·have := zWf c
  rw [if_pos c, if_pos c, qVg _ _ _ _ k (by omega) (by omega) (by omega) (by omega)]; rfl
 ·rw [if_neg c, if_neg c]
end Go.Proofs.YtlhcohipnieidaaGreat.PureIn
namespace Go.Proofs.YtlhcohipnieidaaGreat.PurePl
set_option linter.unusedVariables false
set_option linter.unusedSimpArgs false
open Go.RowKit Go.Proofs.YtlhcohipnieidaaGreat.P W.PrintWords W.PrintLast W.PrintMore Go.Proofs.YtlhcohipnieidaaGreat.PlainM
open Go.Proofs.YtlhcohipnieidaaGreat.PureLo (gd mon owesS qKy zZy)
abbrev LT := S48
abbrev BT := S54
def gdL (x : LT) : Prop := gd x.f0 x.f1 x.f2 x.f3 x.f4 x.f5 x.f7 x.f8 x.f9 x.f10 x.f11 x.f12
instance (x : LT) : Decidable (gdL x) := by unfold gdL; infer_instance
def owesL (x : LT) : Int × Int := owesS x.f0 x.f1 x.f2 x.f3 x.f4 x.f5 x.f7 x.f8 x.f9 x.f10 x.f11 x.f12
def capL (x : LT) (n : Int) : Int × Int := if (owesL x).2 = 0 then (mn n (owesL x).1, 0) else (0, (owesL x).2)
def partL (x : LT) : Bool := decide (x.f8 = 0 /\ x.f7 = 5)
def wholeD (a b : Int) : Int := (qYr.f 3000 a b).getD 0
theorem zYw (a b : Int) : ∃ r, r <= 3000 /\ ∀ k, 3000 <= k -> qYr.f k a b = some r := by
 by_cases h : a < 0 \/ 87658 < a \/ b < 0 \/ 87658 < b \/ b < a
 ·exact ⟨0, by omega, fun k hk => PureD.qKc a b k h (by omega)⟩
 ·obtain ⟨m, hm, h1, h2⟩ := Plain.mo_ex a (by omega) (by omega)
  obtain ⟨n, hn, g1, g2⟩ := Plain.mo_ex b (by omega) (by omega)
  refine ⟨_, ?_, fun k hk => PureD.qKd m n k a b hm h1 h2 hn g1 g2 (by omega) (by omega)⟩
  unfold PureD.wholeS
  split <;> omega
theorem zYx (a b : Int) (k : Nat) (hk : 3000 <= k) : qYr.f k a b = some (wholeD a b) := by
 obtain ⟨r, _, h⟩ := zYw a b
 unfold wholeD
 rw [h k hk, h 3000 (Nat.le_refl _)]; rfl
theorem zYy (a b : Int) : wholeD a b <= 3000 := by
 obtain ⟨r, hr, h⟩ := zYw a b
 unfold wholeD
 rw [h 3000 (Nat.le_refl _)]; exact hr
def valL (x : LT) (how day : Int) : Int × Int := if how = 1 then (x.f10, 0) else if how = 2 then (x.f11, 0) else PureSt.stepS x.f10 (wholeD x.f9 day)
def ofL (x : LT) (how day : Int) : Int × Int :=
 if gdL x /\ (1 <= how /\ how <= 3) /\ (0 <= day /\ day <= 87658) then (if partL x = true then (if (valL x how day).2 = 0 then capL x (valL x how day).1 else (0, (valL x how day).2)) else (0, 0)) else (0, 1)
theorem zYk (x : LT) (k : Nat) (hk : 10 <= k) : qQt.f k x.f0 x.f1 x.f2 x.f3 x.f4 x.f5 x.f6 x.f7 x.f8 x.f9 x.f10 x.f11 x.f12 = some (decide (gdL x)) := qKy _ _ _ _ _ _ _ _ _ _ _ _ _ k hk
theorem zQo (x : LT) (n : Int) (k : Nat) (hk : 10 <= k) : qYs.f k x.f0 x.f1 x.f2 x.f3 x.f4 x.f5 x.f6 x.f7 x.f8 x.f9 x.f10 x.f11 x.f12 n = some (capL x n) := by
 unfold qYs.f capL owesL
 rw [zZy _ _ _ _ _ _ _ _ _ _ _ _ _ k hk, obind]
 split <;> rfl
theorem zZz (x : LT) : qYm.f x.f0 x.f1 x.f2 x.f3 x.f4 x.f5 x.f6 x.f7 x.f8 x.f9 x.f10 x.f11 x.f12 = some (partL x) := by
 unfold qYm.f partL
 by_cases h : x.f8 = 0
 ·rw [if_pos h]
  by_cases h2 : x.f7 = 5
  ·rw [decide_eq_true ⟨h, h2⟩, beq_iff_eq.2 h2]
  ·rw [decide_eq_false (fun z => h2 z.2), beq_eq_false_iff_ne.2 h2]
 ·rw [if_neg h, decide_eq_false (fun z => h z.1)]
theorem val_is (x : LT) (how day : Int) (k : Nat) (hk : 3000 <= k) : qYk.val k x.f0 x.f1 x.f2 x.f3 x.f4 x.f5 x.f6 x.f7 x.f8 x.f9 x.f10 x.f11 x.f12 how day = some (valL x how day) := by
 unfold qYk.val valL qXn.f qXo.f qYd.f
 by_cases h1 : how = 1
 ·rw [if_pos h1, if_pos h1]
 rw [if_neg h1, if_neg h1]
 by_cases h2 : how = 2
 ·rw [if_pos h2, if_pos h2]
 rw [if_neg h2, if_neg h2, zYx _ _ k hk, obind, PureSt.zXp _ _ k (by have := zYy x.f9 day; omega) (by omega), obind]
theorem of_is (x : LT) (how day : Int) (k : Nat) (hk : 3000 <= k) : qYk.f k x.f0 x.f1 x.f2 x.f3 x.f4 x.f5 x.f6 x.f7 x.f8 x.f9 x.f10 x.f11 x.f12 how day = some (ofL x how day) := by
 unfold qYk.f ofL
 rw [zYk x k (by omega), obind]
 by_cases hg : gdL x
 case neg => rw [decide_eq_false hg, if_neg (by simp), if_neg (fun h => hg h.1)]
 rw [decide_eq_true hg, if_pos rfl]
 by_cases hh : 1 <= how /\ how <= 3
 case neg => rw [if_neg hh, if_neg (fun h => hh h.2.1)]
 rw [if_pos hh, PureD.qXz, obind]
 by_cases hd : 0 <= day /\ day <= 87658
 case neg => rw [decide_eq_false hd, if_neg (by simp), if_neg (fun h => hd h.2.2)]
 rw [decide_eq_true hd, if_pos rfl, if_pos ⟨hg, hh, hd⟩, zZz, obind]
 by_cases hp : partL x = true
 case neg => rw [if_neg hp, if_neg hp]
 rw [if_pos hp, if_pos hp, val_is x how day k hk, obind]
 by_cases hv : (valL x how day).2 = 0
 ·rw [if_pos hv, if_pos hv, zQo x _ k (by omega)]
 ·rw [if_neg hv, if_neg hv]
def badL (l : List LT) : Bool := l.any (fun x => !decide (gdL x))
theorem bad_go (k : Nat) (hk : 10 <= k) : ∀ (l : List LT) (j : Nat), ∃ i, qXb.go k l j = some i /\ decide (0 <= i) = badL l := by
 intro l
 induction l with
 | nil => intro j; exact ⟨-1, rfl, rfl⟩
 | cons x l ih =>
  intro j
  unfold qXb.go
  rw [zYk x k hk, obind]
  by_cases hg : gdL x
  ·rw [decide_eq_true hg, if_pos rfl]
   obtain ⟨i, h1, h2⟩ := ih (j + 1)
   refine ⟨i, h1, h2.trans ?_⟩
   show badL l = (!decide (gdL x) || badL l)
   rw [decide_eq_true hg]; rfl
  ·rw [decide_eq_false hg, if_neg (by simp)]
   refine ⟨_, rfl, ?_⟩
   show _ = (!decide (gdL x) || badL l)
   rw [decide_eq_false hg, decide_eq_true (by omega)]; rfl
theorem zX4 (l : List LT) (k : Nat) (hl : l.length <= 100000) (hk : 10 <= k) : qXb.f k l = some (badL l) := by
 unfold qXb.f
 obtain ⟨i, h1, h2⟩ := bad_go k hk l 0
 rw [if_pos hl, h1, obind, h2]
def addD (a n : Int) : Int × Int := (qZ2.f 400 a n).getD (0, 0)
theorem zX0 (a n : Int) (k : Nat) (hk : 400 <= k) : qZ2.f k a n = some (addD a n) := by
 have h : ∃ r, ∀ k, 400 <= k -> qZ2.f k a n = some r := by
  by_cases h : a < 0 \/ 87658 < a
  ·exact ⟨_, fun k hk => PureD.qKb a n k h (by omega)⟩
  ·obtain ⟨m, hm, h1, h2⟩ := Plain.mo_ex a (by omega) (by omega)
   by_cases hx : (m : Int) + n < 0 \/ 2880 <= (m : Int) + n
   ·exact ⟨_, fun k hk => PureD.qKw m k a n hm h1 h2 hx (by omega)⟩
   ·exact ⟨_, fun k hk => PureD.qVb m ((m : Int) + n).toNat k a n hm h1 h2 (by omega) (by omega) (by omega)⟩
 obtain ⟨r, h⟩ := h
 unfold addD
 rw [h k hk, h 400 (Nat.le_refl _)]; rfl
def holdsS (plan since day : Int) : Int := if plan = 0 then 1 else if plan = 4 then (if (addD since 12).2 = 0 then (if day ≥ (addD since 12).1 then 1 else plan) else 1) else plan
theorem zVx (d : Int) (L : List LT) (plan since inc fam : Int) (B : List BT) (a b c e f g day : Int) (k : Nat) (hk : 400 <= k) : qWp.f k d L plan since inc fam B a b c e f g day = some (holdsS plan since day) := by
 unfold qWp.f holdsS
 by_cases h0 : plan = 0
 ·rw [if_pos h0, if_pos h0]
 rw [if_neg h0, if_neg h0]
 by_cases h4 : plan = 4
 ·rw [if_pos h4, if_pos h4, zX0 _ _ k hk, obind]
  split
  ·split <;> rfl
  ·rfl
 ·rw [if_neg h4, if_neg h4]
theorem qV1 (l : List LT) (j : Nat) (h : j < l.length) : l.drop j = qQb l j :: l.drop (j + 1) := by
 rw [List.drop_eq_getElem_cons h]; congr 1; unfold qQb; simp [List.getD_eq_getElem?_getD, h]
theorem zZ1 (l : List LT) (j : Nat) (h : j < l.length) : (qQb l j).f1 = rd (l.map fun x => x.f1) j := by
 unfold qQb rd; simp [List.getD_eq_getElem?_getD, h]
def prinL (l : List LT) : List Int := l.map fun x => x.f1
def anyP (l : List Int) : Bool := l.any fun a => decide (a > 0)
def sharesS (total : Int) (l : List LT) : List Int × Int := if anyP (prinL l) = true then PureSh.splitF total (prinL l) else (prinL l, 0)
theorem zYh (l : List Int) (j : Nat) (h : j < l.length) : anyP (l.take (j + 1)) = (anyP (l.take j) || decide (rd l j > 0)) := by
 unfold anyP
 rw [List.take_add_one, List.any_append]
 have e : rd l j = l[j] := by unfold rd; simp [List.getD_eq_getElem?_getD, h]
 rw [e]
 simp [h]
theorem zVc (total : Int) (l : List LT) (hl : l.length <= 1000) : ∀ (d k j : Nat), j + d = l.length -> d + 3010 < k ->
  qZ5.l0 k total (PureSh.halfS id (prinL l) j) (anyP ((prinL l).take j)) l l.length j = some (sharesS total l) := by
 have hpl : (prinL l).length = l.length := by unfold prinL; simp
 intro d
 induction d with
 | zero =>
  intro k j hj hk
  obtain ⟨k, rfl⟩ : ∃ m, k = m + 1 := ⟨k - 1, by omega⟩
  obtain rfl : j = l.length := by omega
  simp only [qZ5.l0]
  rw [if_neg (by omega)]
  have e1 : PureSh.halfS id (prinL l) l.length = prinL l := by
   rw [show l.length = (prinL l).length from hpl.symm, PureSh.zQa]; simp
  have e2 : (prinL l).take l.length = prinL l := List.take_of_length_le (by omega)
  rw [e1, e2]
  unfold sharesS
  by_cases c : anyP (prinL l) = true
  ·rw [if_pos c, if_pos c, PureSh.zKn total (prinL l) k (by omega) (by omega), obind]
  ·rw [if_neg c, if_neg c]
 | succ d ih =>
  intro k j hj hk
  obtain ⟨k, rfl⟩ : ∃ m, k = m + 1 := ⟨k - 1, by omega⟩
  have hlt : j < l.length := by omega
  simp only [qZ5.l0]
  rw [if_pos (by omega), if_pos (by omega), if_pos (by omega), if_pos (by rw [PureSh.qKp id _ (by omega)]; omega), obind, Int.toNat_natCast]
  have e1 : (PureSh.halfS id (prinL l) j).set j ((qQb l j).f1) = PureSh.halfS id (prinL l) (j + 1) := by
   rw [zZ1 l j hlt]; exact PureSh.qKq id (prinL l) (by omega)
  have e2 := zYh (prinL l) j (by omega)
  have e3 : (qQb l j).f1 = rd (prinL l) j := zZ1 l j hlt
  rw [e1, w64 (e := (j : Int) + 1) (by omega) (by omega)]
  have nx := ih k (j + 1) (by omega) (by omega)
  rw [e2, show ((j + 1 : Nat) : Int) = (j : Int) + 1 by omega] at nx
  by_cases c : anyP ((prinL l).take j) = true
  ·rw [if_pos c]; rw [c, Bool.true_or] at nx; exact nx
  ·rw [if_neg c, e3]; rw [Bool.eq_false_iff.2 c, Bool.false_or] at nx; exact nx
def sharesF (poor : List Int) (fam inc : Int) (l : List LT) : List Int × Int := if (PureIn.askS poor fam inc).2 = 0 then sharesS (PureIn.askS poor fam inc).1 l else ([], (PureIn.askS poor fam inc).2)
theorem zVb (m : Int) (poor : List Int) (d : Int) (L : List LT) (plan since inc fam : Int) (B : List BT) (a b c e f g : Int) (l : List LT) (k : Nat) (hl : l.length <= 1000) (hp : poor.length <= 4611686018427387904) (hk : 4100 <= k) :
  qZ5.f k m poor d L plan since inc fam B a b c e f g l = some (sharesF poor fam inc l) := by
 unfold qZ5.f sharesF
 rw [PureIn.zQb _ _ _ k hp (by omega), obind]
 by_cases h : (PureIn.askS poor fam inc).2 = 0
 ·rw [if_pos h, if_pos h, if_pos (by omega), if_pos (by omega), Int.toNat_natCast]
  have := zVc (PureIn.askS poor fam inc).1 l hl l.length k 0 (by omega) (by omega)
  rw [PureSh.qKz, show (prinL l).length = l.length by unfold prinL; simp] at this
  exact this
 ·rw [if_neg h, if_neg h]
def valsS (how day : Int) : List LT -> List Int -> List (Int × Int)
 | x :: l, n :: m => (if how = 4 then capL x n else ofL x how day) :: valsS how day l m
 | _, _ => []
def firstE : List (Int × Int) -> Int × List Int
 | [] => (0, [])
 | v :: l => if v.2 = 0 then (if (firstE l).1 = 0 then (0, v.1 :: (firstE l).2) else ((firstE l).1, [])) else (v.2, [])
def finS (ids acc : List Int) (r : Int × List Int) : List Int × List Int × Int := if r.1 = 0 then (ids, acc ++ r.2, 0) else ([], [], r.1)
theorem zX3 (day : Int) (ids : List Int) (how : Int) (all : List Int) (part : List LT) (hall : all.length = part.length) (hl : part.length <= 1000) : ∀ (d k j : Nat) (acc : List Int), j + d = part.length -> d + 3010 < k -> acc.length + d <= 100000 ->
  qZa.l1 k day ids acc how all part part.length j = some (finS ids acc (firstE (valsS how day (part.drop j) (all.drop j)))) := by
 intro d
 induction d with
 | zero =>
  intro k j acc hj hk ha
  obtain ⟨k, rfl⟩ : ∃ m, k = m + 1 := ⟨k - 1, by omega⟩
  simp only [qZa.l1]
  rw [if_neg (by omega), List.drop_of_length_le (by omega)]
  simp [valsS, firstE, finS]
 | succ d ih =>
  intro k j acc hj hk ha
  obtain ⟨k, rfl⟩ : ∃ m, k = m + 1 := ⟨k - 1, by omega⟩
  have hlt : j < part.length := by omega
  rw [qV1 part j hlt, PureSh.zWz all j (by omega)]
  simp only [qZa.l1]
  rw [if_pos (by omega), if_pos (by omega), if_pos (by omega), if_pos (by omega), w64 (e := (j : Int) + 1) (by omega) (by omega)]
  have nx := fun q => ih k (j + 1) (acc ++ [q]) (by omega) (by omega) (by simp; omega)
  rw [show ((j + 1 : Nat) : Int) = (j : Int) + 1 by omega] at nx
  have key : ∀ v : Int × Int, ((some v).bind fun bt : Int × Int => (if bt.2 = 0 then (if acc.length < 17592186044416 then qZa.l1 k day ids (acc ++ [bt.1]) how all part part.length ((j : Int) + 1) else none) else some (([] : List Int), ([] : List Int), bt.2))) = some (finS ids acc (firstE (v :: valsS how day (part.drop (j + 1)) (all.drop (j + 1))))) := by
   intro v
   rw [obind]
   by_cases hv : v.2 = 0
   ·rw [if_pos hv, if_pos (by omega), nx v.1]
    simp only [firstE, if_pos hv, finS]
    by_cases h2 : (firstE (valsS how day (part.drop (j + 1)) (all.drop (j + 1)))).1 = 0
    ·rw [if_pos h2, if_pos h2, if_pos rfl]; simp
    ·rw [if_neg h2, if_neg h2, if_neg h2]
   ·rw [if_neg hv]
    simp only [firstE, if_neg hv, finS]
  simp only [valsS]
  by_cases h4 : how = 4
  ·rw [if_pos h4, if_pos h4, zQo _ _ k (by omega)]
   exact key _
  ·rw [if_neg h4, if_neg h4, of_is _ _ _ k (by omega)]
   exact key _
theorem qJe {t : Int} {l : List Int} (h : (PureSh.splitF t l).2 = 0) : (PureSh.splitF t l).1.length = l.length := by
 unfold PureSh.splitF at h ⊢
 split
 ·exact PureSh.zJu _ _ _
 ·rename_i hc; rw [if_neg hc] at h; cases h
theorem zXn {poor : List Int} {fam inc : Int} {l : List LT} (h : (sharesF poor fam inc l).2 = 0) : (sharesF poor fam inc l).1.length = l.length := by
 unfold sharesF at h ⊢
 by_cases c : (PureIn.askS poor fam inc).2 = 0
 ·rw [if_pos c] at h ⊢
  unfold sharesS at h ⊢
  by_cases c2 : anyP (prinL l) = true
  ·rw [if_pos c2] at h ⊢
   rw [qJe h]; unfold prinL; simp
  ·rw [if_neg c2]; unfold prinL; simp
 ·rw [if_neg c] at h; exact absurd h c
def partS (poor : List Int) (plan since inc fam day : Int) (part : List LT) : List Int × List Int × Int :=
 if part = [] then ([], [], 0) else
 if holdsS plan since day = 4 then (if (sharesF poor fam inc part).2 = 0 then finS (part.map fun x => x.f0) [] (firstE (valsS 4 day part (sharesF poor fam inc part).1)) else ([], [], (sharesF poor fam inc part).2))
 else finS (part.map fun x => x.f0) [] (firstE (valsS (holdsS plan since day) day part (List.replicate part.length 0)))
def asksS (poor : List Int) (L : List LT) (plan since inc fam day : Int) : List Int × List Int × Int :=
 if PureIn.goodT poor = true /\ (0 <= day /\ day <= 87658) /\ badL L = false then partS poor plan since inc fam day (L.filter partL) else ([], [], 1)
section
variable (m : Int) (poor : List Int) (d0 : Int) (L : List LT) (plan since inc fam : Int) (B : List BT) (a b c e f g day : Int)
theorem zVr (hp : poor.length <= 4611686018427387904) (part : List LT) (n : Int) (hn : (L.length : Int) = n) (hl : part.length <= 1000) (k : Nat) (hk : 5200 <= k) :
  qZa.l0 (k + 1) day (part.map fun x => x.f0) [] part L n n m poor d0 L plan since inc fam B a b c e f g = some (partS poor plan since inc fam day part) := by
 obtain ⟨k, rfl⟩ : ∃ q, k = q + 1 := ⟨k - 1, by omega⟩
 simp only [qZa.l0]
 unfold partS
 rw [if_neg (by omega)]
 cases part with
 | nil => rfl
 | cons x part =>
  rw [if_neg (by simp; omega), if_neg (by simp), zVx _ _ _ _ _ _ _ _ _ _ _ _ _ _ (k + 1) (by omega), obind, if_pos (by omega), if_pos (by simp at hl ⊢; omega)]
  generalize hP : x :: part = P at hl ⊢
  by_cases h4 : holdsS plan since day = 4
  ·rw [if_pos h4, if_pos h4, zVb _ _ _ _ _ _ _ _ _ _ _ _ _ _ _ P (k + 1) hl hp (by omega), obind]
   by_cases hs : (sharesF poor fam inc P).2 = 0
   ·rw [if_pos hs, if_pos hs]
    simp only [qZa.j2]
    have := zX3 day (P.map fun x => x.f0) 4 (sharesF poor fam inc P).1 P (zXn hs) hl P.length k 0 [] (by omega) (by omega) (by simp; omega)
    rw [h4]
    exact this
   ·rw [if_neg hs, if_neg hs]
  ·rw [if_neg h4, if_neg h4, Int.toNat_natCast]
   simp only [qZa.j2]
   exact zX3 day (P.map fun x => x.f0) (holdsS plan since day) (List.replicate P.length 0) P (by simp) hl P.length k 0 [] (by omega) (by omega) (by simp; omega)
theorem zJe (hp : poor.length <= 4611686018427387904) (hL : L.length <= 1000) : ∀ (d k j : Nat) (part : List LT), j + d = L.length -> d + 5300 < k -> part.length + d <= 1000 ->
  qZa.l0 k day (part.map fun x => x.f0) [] part L L.length j m poor d0 L plan since inc fam B a b c e f g = some (partS poor plan since inc fam day (part ++ (L.drop j).filter partL)) := by
 intro d
 induction d with
 | zero =>
  intro k j part hj hk hq
  obtain ⟨k, rfl⟩ : ∃ q, k = q + 1 := ⟨k - 1, by omega⟩
  obtain rfl : j = L.length := by omega
  rw [List.drop_length, List.filter_nil, List.append_nil]
  exact zVr m poor d0 L plan since inc fam B a b c e f g day hp part L.length rfl (by omega) k (by omega)
 | succ d ih =>
  intro k j part hj hk hq
  obtain ⟨k, rfl⟩ : ∃ q, k = q + 1 := ⟨k - 1, by omega⟩
  have hlt : j < L.length := by omega
  rw [qV1 L j hlt]
  generalize hX : qQb L j = X
  simp only [qZa.l0, hX]
  rw [if_pos (by omega), if_pos (by omega), if_pos (by omega), zZz X, obind, w64 (e := (j : Int) + 1) (by omega) (by omega)]
  by_cases hx : partL X = true
  ·rw [if_pos hx, if_pos (by omega), if_pos (by simp; omega), List.filter_cons_of_pos hx]
   have nx := ih k (j + 1) (part ++ [X]) (by omega) (by omega) (by simp; omega)
   rw [List.map_append, List.append_assoc, show ((j + 1 : Nat) : Int) = (j : Int) + 1 by omega] at nx
   exact nx
  ·rw [if_neg hx, List.filter_cons_of_neg hx]
   have nx := ih k (j + 1) part (by omega) (by omega) (by omega)
   rw [show ((j + 1 : Nat) : Int) = (j : Int) + 1 by omega] at nx
   exact nx
theorem zX2 (hp : poor.length <= 4611686018427387904) (hL : L.length <= 1000) (k : Nat) (hk : 7000 <= k) :
  qZa.f k m poor d0 L plan since inc fam B a b c e f g day = some (asksS poor L plan since inc fam day) := by
 obtain ⟨k, rfl⟩ : ∃ q, k = q + 1 := ⟨k - 1, by omega⟩
 unfold qZa.f asksS
 rw [PureIn.qVs poor (k + 1) hp (by omega), obind]
 by_cases h1 : PureIn.goodT poor = true
 case neg =>
  rw [if_neg h1, if_neg (fun h => h1 h.1)]
  simp only [qZa.j0, if_true]
 rw [if_pos h1, PureD.qXz, obind]
 by_cases h2 : 0 <= day /\ day <= 87658
 case neg =>
  rw [decide_eq_false h2, if_neg (by simp), if_neg (fun h => h2 h.2.1)]
  simp only [qZa.j0, if_true]
 rw [decide_eq_true h2, if_pos rfl, zX4 L (k + 1) (by omega) (by omega), obind]
 simp only [qZa.j0]
 by_cases h3 : badL L = true
 ·rw [if_pos h3, if_neg (fun h => by rw [h3] at h; exact absurd h.2.2 (by simp))]
 ·rw [if_neg h3, if_pos ⟨h1, h2, by simpa using h3⟩]
  exact zJe m poor d0 L plan since inc fam B a b c e f g day hp hL L.length k 0 [] (by omega) (by omega) (by simp; omega)
end
def wl : LT := ⟨1, 120000, 0, 0, 0, 0, false, 5, 0, 0, 1000, 400, 0⟩
theorem zVa (k : Nat) (hk : 600 <= k) : qVd.f k 1 120000 0 0 0 0 false 5 0 0 0 0 0 = some (1, 120000, 0, 0, 0, 0, false, 5, 0, 0, 1000, 400, 0, 0) := by
 unfold qVd.f
 rw [qKy _ _ _ _ _ _ _ _ _ _ _ _ _ k (by omega), decide_eq_true (show gd 1 120000 0 0 0 0 5 0 0 0 0 0 by decide), obind, if_pos rfl, if_pos rfl,
  Pure.of_at (b := 120000) (r := 0) (m := 120) (p := 1000) (by decide) (by omega) (by omega) (by omega) (by unfold PlainL.En; decide +kernel) (.inr (by unfold PlainL.En; decide +kernel)) k (by omega), obind, if_pos rfl,
  Pure.of_at (b := 120000) (r := 0) (m := 300) (p := 400) (by decide) (by omega) (by omega) (by omega) (by unfold PlainL.En; decide +kernel) (.inr (by unfold PlainL.En; decide +kernel)) k (by omega), obind, if_pos rfl]
theorem zWp : ofL wl 1 40 = (1000, 0) := by decide +kernel
theorem zX1 : addD 30 12 = (396, 0) := by
 have h := zX0 30 12 400 (Nat.le_refl _)
 rw [PureD.qVb 0 12 400 30 12 (by omega) (by decide +kernel) (by decide +kernel) (by omega) (by omega) (by omega)] at h
 rw [<- Option.some.inj h]
 decide +kernel
theorem zZq : holdsS 4 30 40 = 4 := by
 unfold holdsS
 rw [zX1]; rfl
theorem zZh : sharesF [0] 1 12000 [wl] = ([100], 0) := by decide +kernel
theorem zZn : asksS [0] [wl] 4 30 12000 1 40 = ([1], [100], 0) := by
 unfold asksS
 rw [if_pos (by decide +kernel), show List.filter partL [wl] = [wl] from rfl]
 unfold partS
 rw [if_neg (by simp), zZq, if_pos rfl, zZh, if_pos rfl]
 decide +kernel
theorem wakes18 (k : Nat) (hk : 7000 <= k) : qZw.f k = some true := by
 unfold qZw.f
 rw [zVa k (by omega), obind]
 dsimp only
 have h1 : qYk.f k 1 120000 0 0 0 0 false 5 0 0 1000 400 0 1 40 = some (ofL wl 1 40) := of_is wl 1 40 k (by omega)
 rw [h1, zWp, obind]
 have h2 := zX2 0 [0] 0 [wl] 4 30 12000 1 ([] : List BT) 0 0 0 0 0 0 40 (by simp) (by simp) k hk
 rw [zZn] at h2
 unfold wl at h2
 rw [h2, obind, if_pos rfl, if_pos rfl, if_pos rfl, if_pos rfl, if_pos rfl, if_pos rfl, PureD.qW3 [1] k (by simp) (by simp; omega), obind, if_pos rfl, PureSh.qJu [100] k (by simp) (by simp; omega), obind, if_pos rfl]
 rfl
theorem zKf (l : List BT) (j : Nat) (h : j < l.length) : l.drop j = qQu l j :: l.drop (j + 1) := by
 rw [List.drop_eq_getElem_cons h]; congr 1; unfold qQu; simp [List.getD_eq_getElem?_getD, h]
theorem qJy (x : LT) : qYg.f x.f0 x.f1 x.f2 x.f3 x.f4 x.f5 x.f6 x.f7 x.f8 x.f9 x.f10 x.f11 x.f12 = some (partL x) := zZz x
theorem qKa (x : LT) : qZx.f x.f0 x.f1 x.f2 x.f3 x.f4 x.f5 x.f6 x.f7 x.f8 x.f9 x.f10 x.f11 x.f12 = some (owesL x) := PureLo.zYa _ _ _ _ _ _ _ _ _ _ _ _ _
theorem zW1 (a n : Int) (k : Nat) (hk : 2900 <= k) : qQs.f k a n = some (addD a n) := by
 obtain ⟨r, h⟩ := PureD.zVq a n
 have h1 := zX0 a n k (by omega)
 rw [(h k hk).1] at h1
 rw [(h k hk).2, h1]
theorem zZ2 (d : Int) (L : List LT) (plan since inc fam : Int) (B : List BT) (a b c e f g day : Int) (k : Nat) (hk : 2900 <= k) : qYv.f k d L plan since inc fam B a b c e f g day = some (holdsS plan since day) := by
 unfold qYv.f holdsS
 by_cases h0 : plan = 0
 ·rw [if_pos h0, if_pos h0]
 rw [if_neg h0, if_neg h0]
 by_cases h4 : plan = 4
 ·rw [if_pos h4, if_pos h4, zW1 _ _ k hk, obind]
  by_cases c1 : (addD since 12).2 = 0
  ·rw [if_pos c1, if_pos c1]
   by_cases c2 : day < (addD since 12).1
   ·rw [if_pos c2, if_neg (by omega), h4]
   ·rw [if_neg c2, if_pos (by omega)]
  ·rw [if_neg c1, if_neg c1]
 ·rw [if_neg h4, if_neg h4]
theorem zV4 (d : Int) (L : List LT) (p s i f : Int) (B : List BT) (a b c e g h : Int) (hB : B.length <= 400) : ∀ (m k j : Nat), j + m = B.length -> m < k -> ∃ t, qQ5.l0 k j d L p s i f B a b c e g h = some t /\ (t = false -> ∀ x ∈ B.drop j, x.f5.length <= 100) := by
 intro m
 induction m with
 | zero =>
  intro k j hj hk
  obtain ⟨k, rfl⟩ : ∃ q, k = q + 1 := ⟨k - 1, by omega⟩
  simp only [qQ5.l0]
  rw [if_neg (by omega), List.drop_of_length_le (by omega)]; exact ⟨_, rfl, fun _ x hx => absurd hx (by simp)⟩
 | succ m ih =>
  intro k j hj hk
  obtain ⟨k, rfl⟩ : ∃ q, k = q + 1 := ⟨k - 1, by omega⟩
  have hlt : j < B.length := by omega
  rw [zKf B j hlt]
  generalize hX : qQu B j = X
  simp only [qQ5.l0, hX]
  rw [if_pos (by omega), if_pos (by omega), w64 (e := (j : Int) + 1) (by omega) (by omega)]
  by_cases c1 : (X.f5.length : Int) > 100
  ·rw [if_pos c1]; exact ⟨_, rfl, fun h => by cases h⟩
  ·rw [if_neg c1]
   obtain ⟨t, h1, h2⟩ := ih k (j + 1) (by omega) (by omega)
   rw [show ((j + 1 : Nat) : Int) = (j : Int) + 1 by omega] at h1
   refine ⟨t, h1, fun h x hx => ?_⟩
   rcases List.mem_cons.1 hx with rfl | hx
   ·omega
   ·exact h2 h x hx
theorem zV3 (d : Int) (L : List LT) (p s i f : Int) (B : List BT) (a b c e g h : Int) (k : Nat) (hk : 500 <= k) : ∃ t, qQ5.f k d L p s i f B a b c e g h = some t /\ (t = false -> L.length <= 100 /\ B.length <= 400 /\ ∀ x ∈ B, x.f5.length <= 100) := by
 obtain ⟨k, rfl⟩ : ∃ q, k = q + 1 := ⟨k - 1, by omega⟩
 unfold qQ5.f
 by_cases c1 : (L.length : Int) > 100
 ·rw [if_pos c1]
  simp only [qQ5.j0, if_true]
  exact ⟨_, rfl, fun h => by cases h⟩
 ·rw [if_neg c1]
  simp only [qQ5.j0]
  by_cases c2 : (B.length : Int) > 400
  ·rw [decide_eq_true c2, if_pos rfl]
   exact ⟨_, rfl, fun h => by cases h⟩
  ·rw [decide_eq_false c2, if_neg (by simp)]
   obtain ⟨t, ht, h2⟩ := zV4 d L p s i f B a b c e g h (by omega) B.length k 0 (by omega) (by omega)
   exact ⟨t, ht, fun h => ⟨by omega, by omega, by have := h2 h; rw [List.drop_zero] at this; exact this⟩⟩
end Go.Proofs.YtlhcohipnieidaaGreat.PurePl
namespace Go.Proofs.YtlhcohipnieidaaGreat.PureSh
set_option linter.unusedVariables false
open Go.RowKit Go.Proofs.YtlhcohipnieidaaGreat.P W.PrintWords W.PrintLast W.PrintMore Go.Proofs.YtlhcohipnieidaaGreat.PlainM Go.Proofs.YtlhcohipnieidaaGreat.Pure
def bstOk (r : List Int) (W : List Nat) (j : Nat) (b : Int) : Prop := (b = -1 /\ ∀ i : Nat, i < j -> i ∈ W) \/ ∃ m : Nat, b = (m : Int) /\ m < j /\ m ∉ W /\ ∀ i : Nat, i < j -> i ∉ W -> i = m \/ plR r m i
theorem zVt (r : List Int) (W : List Nat) : bstOk r W 0 (-1) := .inl ⟨rfl, fun i h => by omega⟩
theorem zJg {r : List Int} {W : List Nat} {j : Nat} {b : Int} (h : bstOk r W j b) (hj : j ∈ W) : bstOk r W (j + 1) b := by
 rcases h with ⟨h1, h2⟩ | ⟨m, h1, h2, h3, h4⟩
 ·exact .inl ⟨h1, fun i hi => by
   by_cases c : i = j
   ·rw [c]; exact hj
   ·exact h2 i (by omega)⟩
 ·refine .inr ⟨m, h1, by omega, h3, fun i hi hw => ?_⟩
  by_cases c : i = j
  ·rw [c] at hw; exact absurd hj hw
  ·exact h4 i (by omega) hw
theorem zX7 {r : List Int} {W : List Nat} {j : Nat} {b : Int} (h : bstOk r W j b) (hj : j ∉ W) (hb : b < 0) : bstOk r W (j + 1) (j : Int) := by
 rcases h with ⟨h1, h2⟩ | ⟨m, h1, _⟩
 ·refine .inr ⟨j, rfl, by omega, hj, fun i hi hw => ?_⟩
  by_cases c : i = j
  ·exact .inl c
  ·exact absurd (h2 i (by omega)) hw
 ·omega
theorem zY3 {r : List Int} {W : List Nat} {j m : Nat} (h : bstOk r W j (m : Int)) (hj : j ∉ W) (hb : rd r j > rd r m) : bstOk r W (j + 1) (j : Int) := by
 rcases h with ⟨h1, h2⟩ | ⟨m', h1, h2, h3, h4⟩
 ·omega
 ·obtain rfl : m = m' := by omega
  have p : plR r j m := .inl hb
  refine .inr ⟨j, rfl, by omega, hj, fun i hi hw => ?_⟩
  by_cases c : i = j
  ·exact .inl c
  ·rcases h4 i (by omega) hw with e | e
   ·rw [e]; exact .inr p
   ·exact .inr (qK5 p e)
theorem zX8 {r : List Int} {W : List Nat} {j m : Nat} (h : bstOk r W j (m : Int)) (hj : j ∉ W) (hb : ¬ rd r j > rd r m) : bstOk r W (j + 1) (m : Int) := by
 rcases h with ⟨h1, h2⟩ | ⟨m', h1, h2, h3, h4⟩
 ·omega
 ·obtain rfl : m = m' := by omega
  refine .inr ⟨m, rfl, by omega, h3, fun i hi hw => ?_⟩
  by_cases c : i = j
  ·right; rw [c]; unfold plR; omega
  ·exact h4 i (by omega) hw
theorem bst_lt {r : List Int} {W : List Nat} {j : Nat} {b : Int} (h : bstOk r W j b) : b < 0 \/ ∃ m : Nat, b = m /\ m < j := by
 rcases h with ⟨h1, h2⟩ | ⟨m, h1, h2, _⟩
 ·left; omega
 ·exact .inr ⟨m, h1, h2⟩
theorem zJf {r : List Int} {m : Nat} (hm : m < (plc r).length) {b : Int} (h : bstOk r ((plc r).take m) r.length b) : b = (((plc r)[m] : Nat) : Int) := by
 have hp := zK3 r
 have nd := qVy r
 have hx : (plc r)[m] < r.length := by have := (qWr r).mem_iff.1 (List.getElem_mem hm); rwa [List.mem_range] at this
 have hin : (plc r)[m] ∉ (plc r).take m := by
  intro hc
  obtain ⟨p, hpl, e⟩ := List.getElem_of_mem hc
  rw [List.length_take] at hpl
  rw [List.getElem_take] at e
  have := (List.getElem_inj nd).1 e
  omega
 rcases h with ⟨h1, h2⟩ | ⟨q, h1, h2, h3, h4⟩
 ·exact absurd (h2 _ hx) hin
 ·rw [h1]
  by_cases c : (plc r)[m] = q
  ·rw [c]
  ·exfalso
   have hq : q ∈ plc r := (qWr r).mem_iff.2 (List.mem_range.2 h2)
   rw [<- List.take_append_drop m (plc r), List.drop_eq_getElem_cons hm] at hp hq
   have hq2 : q ∈ (plc r).drop (m + 1) := by
    rcases List.mem_append.1 hq with e | e
    ·exact absurd e h3
    ·rcases List.mem_cons.1 e with e | e
     ·exact absurd e.symm c
     ·exact e
   have o := (List.pairwise_cons.1 (List.pairwise_append.1 hp).2.1).1 q hq2
   rcases h4 _ hx hin with e | e
   ·exact c e
   ·exact qJw o e
theorem zKh (G : List Bool) (i j : Nat) (h : i < G.length) : rdOf false (G.set i true) (j : Int) = (decide (j = i) || rdOf false G (j : Int)) := by
 unfold rdOf
 simp only [Int.toNat_natCast, List.getD_eq_getElem?_getD, List.getElem?_set]
 by_cases c : i = j
 ·subst c; simp [h]
 ·rw [if_neg c, decide_eq_false (fun e => c e.symm), Bool.false_or]
def marks (G : List Bool) (W : List Nat) : Prop := G.length = 1000 /\ ∀ i : Nat, i < 1000 -> rdOf false G (i : Int) = decide (i ∈ W)
theorem zKg (n i : Nat) : rdOf false (List.replicate n false) (i : Int) = false := by
 unfold rdOf
 rw [List.getD_eq_getElem?_getD, List.getElem?_replicate]
 split <;> rfl
theorem zY8 : marks (List.replicate 1000 false) [] := ⟨List.length_replicate, fun i h => by rw [zKg]; exact (decide_eq_false (by simp)).symm⟩
theorem zWm {G : List Bool} {W : List Nat} {p : Nat} (h : marks G W) (hp : p < 1000) : marks (G.set p true) (W ++ [p]) := by
 refine ⟨by rw [List.length_set]; exact h.1, fun i hi => ?_⟩
 rw [zKh G p i (by rw [h.1]; exact hp), h.2 i hi]
 by_cases c : i = p
 ·subst c; simp
 ·simp [c]
section
variable {t : Int} {l : List Int}
theorem zKq (L : List Nat) (a : Nat) (p : List Int) : updS (L ++ [a]) p = (updS L p).set a (rd (updS L p) a + 1) := by
 unfold updS; rw [List.foldl_append]; rfl
theorem zXc (r : List Int) : (plc r).length = r.length := by rw [(qWr r).length_eq, List.length_range]
theorem plc_at {r : List Int} {m : Nat} (h : m < (plc r).length) : (plc r)[m] < r.length := by
 have := (qWr r).mem_iff.1 (List.getElem_mem h)
 rwa [List.mem_range] at this
theorem take_snoc {r : List Int} {m : Nat} (h : m < (plc r).length) : (plc r).take (m + 1) = (plc r).take m ++ [(plc r)[m]] := by
 rw [List.take_add_one]; simp [h]
theorem zVg {r : List Int} {m i : Nat} (h : i ∈ (plc r).take m) : i < r.length := by
 have := (qWr r).mem_iff.1 (List.mem_of_mem_take h)
 rwa [List.mem_range] at this
theorem zJ3 (r : List Int) (m : Nat) (q : List Int) (h : q.length = r.length) : (updS ((plc r).take m) q).length = q.length := by
 rw [zYv _ _ ((List.take_sublist _ _).nodup (qVy r)) (fun i hi => by rw [h]; exact zVg hi)]
 simp
theorem upd_bd (r : List Int) (m : Nat) (q : List Int) (h : q.length = r.length) (hb : ∀ i : Nat, i < q.length -> 0 <= rd q i /\ rd q i <= 10000000000000) (i : Nat) (hi : i < q.length) :
  0 <= rd (updS ((plc r).take m) q) i /\ rd (updS ((plc r).take m) q) i <= 10000000000001 := by
 rw [zYv _ _ ((List.take_sublist _ _).nodup (qVy r)) (fun i hi => by rw [h]; exact zVg hi), zYq hi]
 have := hb i hi
 split <;> omega
theorem zW8 (r q : List Int) (m : Nat) (aW : Int) (G : List Bool) (res : List Int × Int) (R : Nat) (hr : r.length <= 1000) (hq : q.length = r.length) (hb : ∀ i : Nat, i < q.length -> 0 <= rd q i /\ rd q i <= 10000000000000)
  (hm : m < (plc r).length) (hx : 0 < aW /\ aW <= 2000) (hG : marks G ((plc r).take m))
  (hn : ∀ k G', R <= k -> marks G' ((plc r).take (m + 1)) -> qQf.l2 k (updS ((plc r).take (m + 1)) q) r (aW - 1) G' = some res) : ∀ (d k j : Nat) (b : Int), j + d = r.length -> d + R < k -> bstOk r ((plc r).take m) j b ->
  qQf.l3 k (updS ((plc r).take m) q) r aW G b (j : Int) = some res := by
 intro d
 induction d with
 | zero =>
  intro k j b hj hk hbs
  obtain ⟨k, rfl⟩ : ∃ m, k = m + 1 := ⟨k - 1, by omega⟩
  obtain rfl : j = r.length := by omega
  have e := zJf hm hbs
  have hp := plc_at hm
  have hu := upd_bd r m q hq hb (plc r)[m] (by omega)
  simp only [qQf.l3]
  rw [if_neg (by omega), e, if_neg (by omega), if_pos (by omega), if_pos (by rw [hG.1]; omega), if_pos (by rw [zJ3 r m q hq]; omega), Int.toNat_natCast, w64 (e := rd (updS ((plc r).take m) q) (((plc r)[m] : Nat) : Int) + 1) (by omega) (by omega), w64 (e := aW - 1) (by omega) (by omega), <- zKq, <- take_snoc hm]
  exact hn k _ (by omega) (by rw [take_snoc hm]; exact zWm hG (by omega))
 | succ d ih =>
  intro k j b hj hk hbs
  obtain ⟨k, rfl⟩ : ∃ m, k = m + 1 := ⟨k - 1, by omega⟩
  have hjl : j < r.length := by omega
  simp only [qQf.l3]
  rw [if_pos (by omega), if_pos (by omega), if_pos (by rw [hG.1]; omega), w64 (e := (j : Int) + 1) (by omega) (by omega), show (j : Int) + 1 = ((j + 1 : Nat) : Int) by omega, hG.2 j (by omega)]
  by_cases c : j ∈ (plc r).take m
  ·rw [decide_eq_true c, if_pos rfl]
   exact ih k (j + 1) b (by omega) (by omega) (zJg hbs c)
  ·rw [decide_eq_false c, if_neg (by simp)]
   by_cases c2 : b < 0
   ·rw [if_pos c2]
    exact ih k (j + 1) _ (by omega) (by omega) (zX7 hbs c c2)
   ·rw [if_neg c2]
    obtain ⟨p, rfl, hp⟩ : ∃ p : Nat, b = p /\ p < j := by
     rcases bst_lt hbs with h | h
     ·exact absurd h c2
     ·exact h
    rw [if_pos (by omega), if_pos (by omega)]
    by_cases c3 : rd r j > rd r p
    ·rw [if_pos c3]
     exact ih k (j + 1) _ (by omega) (by omega) (zY3 hbs c c3)
    ·rw [if_neg c3]
     exact ih k (j + 1) _ (by omega) (by omega) (zX8 hbs c c3)
theorem zW7 (r q : List Int) (L : Nat) (hr : r.length <= 1000) (hq : q.length = r.length) (hb : ∀ i : Nat, i < q.length -> 0 <= rd q i /\ rd q i <= 10000000000000) (hL : L <= r.length) : ∀ (e m : Nat), m + e = L -> ∀ (k : Nat) (G : List Bool), e * 1100 + 10 <= k -> marks G ((plc r).take m) ->
  qQf.l2 k (updS ((plc r).take m) q) r (e : Int) G = some (updS ((plc r).take L) q, 0) := by
 intro e
 induction e with
 | zero =>
  intro m hm k G hk hG
  obtain ⟨k, rfl⟩ : ∃ m, k = m + 1 := ⟨k - 1, by omega⟩
  obtain rfl : m = L := by omega
  simp only [qQf.l2]
  rw [if_neg (by omega)]
 | succ e ih =>
  intro m hm k G hk hG
  obtain ⟨k, rfl⟩ : ∃ m, k = m + 1 := ⟨k - 1, by omega⟩
  simp only [qQf.l2]
  rw [if_pos (by omega)]
  have := zW8 r q m ((e + 1 : Nat) : Int) G (updS ((plc r).take L) q, 0) (e * 1100 + 10) hr hq hb (by rw [zXc]; omega) ⟨by omega, by omega⟩ hG (fun k G' h1 h2 => by
   rw [show ((e + 1 : Nat) : Int) - 1 = (e : Int) by omega]
   exact ih (m + 1) (by omega) k G' h1 h2) r.length k 0 (-1) (by omega) (by omega) (zVt _ _)
  exact this
end
theorem zXl {t w S : Int} (ht : gdm t) (hw : gdm w) (hS : 0 < S) (aV : S <= 10000000000000) (hwS : w <= S) (k : Nat) (hk : 70 <= k) :
  qQw.f k (t * w / 18446744073709551616) (t * w % 18446744073709551616) S = some (t * w / S, t * w % S, true) := by
 unfold gdm at ht hw
 have h2 : 0 <= t * w := Int.mul_nonneg ht.1 hw.1
 have h1 : t * w <= t * S := Int.mul_le_mul_of_nonneg_left hwS ht.1
 have h3 : t * S <= 10000000000000 * S := Int.mul_le_mul_of_nonneg_right ht.2 (by omega)
 rw [qJ0 _ _ S k (by omega) (by omega) (by omega) (by omega) (by omega) hk]
 unfold divS
 rw [if_neg (by omega)]
 congr 2
 ·congr 1; omega
 ·congr 2; omega
theorem zW6 (t : Int) (l : List Int) (ht : gdm t) (hl : l.length <= 1000) (hg : ∀ x ∈ l, gdm x) (hS : 0 < sumI l) (aV : sumI l <= 10000000000000) :
  ∀ (d k j : Nat), j + d = l.length -> d + 1200000 < k ->
  qQf.l1 k t l (sumI l) (quoS t (sumI l) (l.take j)) (rstS t (sumI l) (l.take j)) (t - sumI (quoS t (sumI l) (l.take j))) (j : Int) = some (prtS t (sumI l) l, 0) := by
 intro d
 have qb : ∀ i : Nat, i < (quoS t (sumI l) l).length -> 0 <= rd (quoS t (sumI l) l) i /\ rd (quoS t (sumI l) l) i <= 10000000000000 := fun i hi => by
  rw [qW4] at hi
  unfold quoS
  rw [zK5 l i hi]
  have hm := zQ2 l i hi
  have := qKg ht.1 (hg _ hm).1 (qW2 l (fun x hx => (hg x hx).1) _ hm) hS
  unfold gdm at ht
  omega
 induction d with
 | zero =>
  intro k j hj hk
  obtain ⟨k, rfl⟩ : ∃ m, k = m + 1 := ⟨k - 1, by omega⟩
  obtain rfl : j = l.length := by omega
  simp only [qQf.l1]
  rw [if_neg (by omega), if_pos (by omega), List.take_length]
  have h1 := qJt (t := t) hS
  have h2 := zK0 (t := t) hS
  have e : t - sumI (quoS t (sumI l) l) = ((lftS t (sumI l) l).toNat : Int) := by
   show lftS t (sumI l) l = _
   omega
  rw [e]
  have := zW7 (rstS t (sumI l) l) (quoS t (sumI l) l) (lftS t (sumI l) l).toNat (by rw [qVt]; exact hl) (by rw [qVt, qW4]) qb (by rw [qVt]; omega) (lftS t (sumI l) l).toNat 0 (by omega) k (List.replicate 1000 false) (by omega) zY8
  rw [List.take_zero] at this
  have e2 : updS [] (quoS t (sumI l) l) = quoS t (sumI l) l := rfl
  rw [e2] at this
  rw [this]
  congr 2
  show updS (winS t (sumI l) l) _ = _
  rw [zYv _ _ (zZk _ _ _) (fun i hi => by rw [qW4]; exact zVi hi), qW4]
  rfl
 | succ d ih =>
  intro k j hj hk
  obtain ⟨k, rfl⟩ : ∃ m, k = m + 1 := ⟨k - 1, by omega⟩
  have hjl : j < l.length := by omega
  have hm := zQ2 l j hjl
  have hw := hg _ hm
  have hwS := qW2 l (fun x hx => (hg x hx).1) _ hm
  have hq := qKg ht.1 hw.1 hwS hS
  have ht' := ht; have hw' := hw
  unfold gdm at ht' hw'
  have et : l.take (j + 1) = l.take j ++ [rd l j] := by
   rw [List.take_add_one]
   have e : rd l j = l[j] := by unfold rd; simp [List.getD_eq_getElem?_getD, hjl]
   rw [e]; simp [hjl]
  have eq : quoS t (sumI l) (l.take (j + 1)) = quoS t (sumI l) (l.take j) ++ [t * rd l j / sumI l] := by rw [et]; unfold quoS; rw [List.map_append]; rfl
  have er : rstS t (sumI l) (l.take (j + 1)) = rstS t (sumI l) (l.take j) ++ [t * rd l j % sumI l] := by rw [et]; unfold rstS; rw [List.map_append]; rfl
  have es : sumI (quoS t (sumI l) (l.take (j + 1))) = sumI (quoS t (sumI l) (l.take j)) + t * rd l j / sumI l := by rw [eq, qVi]; simp [sumI]
  have hb1 : 0 <= sumI (quoS t (sumI l) (l.take j)) := qX3 _ (fun x hx => by
   obtain ⟨w, hw, rfl⟩ := List.mem_map.1 hx
   have aK := List.mem_of_mem_take hw
   exact (qKg ht.1 (hg w aK).1 (qW2 l (fun x hx => (hg x hx).1) _ aK) hS).1)
  have hb2 : sumI (quoS t (sumI l) (l.take j)) <= (quoS t (sumI l) (l.take j)).length * 10000000000000 := zYd _ _ (fun x hx => by
   obtain ⟨w, hw, rfl⟩ := List.mem_map.1 hx
   have aK := List.mem_of_mem_take hw
   have := (qKg ht.1 (hg w aK).1 (qW2 l (fun x hx => (hg x hx).1) _ aK) hS).2
   omega)
  rw [qW4, List.length_take, Nat.min_eq_left (by omega)] at hb2
  simp only [qQf.l1]
  rw [if_pos (by omega), if_pos (by omega), wu_id ht'.1 (by omega), wu_id hw'.1 (by omega), wu_id (n := sumI l) (by omega) (by omega), qJ1 t (rd l j) ht'.1 (by omega) hw'.1 (by omega)]
  simp only [obind]
  rw [zXl ht hw hS aV hwS k (by omega)]
  simp only [obind]
  rw [qW4, qVt, List.length_take, Nat.min_eq_left (by omega), if_pos (by omega), if_pos (by omega), w64 (e := t * rd l j / sumI l) (by omega) (by omega), <- eq, <- er,
   w64 (e := t - sumI (quoS t (sumI l) (l.take j)) - t * rd l j / sumI l) (by omega) (by omega), w64 (e := (j : Int) + 1) (by omega) (by omega),
   show t - sumI (quoS t (sumI l) (l.take j)) - t * rd l j / sumI l = t - sumI (quoS t (sumI l) (l.take (j + 1))) by omega, show (j : Int) + 1 = ((j + 1 : Nat) : Int) by omega]
  exact ih k (j + 1) (by omega) (by omega)
theorem zW5 (t : Int) (l : List Int) (ht : gdm t) (hl : l.length <= 1000) : ∀ (d k j : Nat), j + d = l.length -> d + 1300000 < k -> (∀ x ∈ l.take j, gdm x) -> sumI (l.take j) <= 10000000000000 ->
  qQf.l0 k t l (sumI (l.take j)) (j : Int) = some (if (∀ x ∈ l, gdm x) /\ sumI l <= 10000000000000 /\ 0 < sumI l then (prtS t (sumI l) l, 0) else ([], 1)) := by
 intro d
 induction d with
 | zero =>
  intro k j hj hk hg hs
  obtain ⟨k, rfl⟩ : ∃ m, k = m + 1 := ⟨k - 1, by omega⟩
  obtain rfl : j = l.length := by omega
  rw [List.take_length] at hg hs ⊢
  simp only [qQf.l0]
  rw [if_neg (by omega)]
  have h0 := qX3 l (fun x hx => (hg x hx).1)
  by_cases c : sumI l = 0
  ·rw [if_pos c, if_neg (by omega)]
  ·rw [if_neg c, if_pos ⟨hg, hs, by omega⟩]
   have := zW6 t l ht hl hg (by omega) hs l.length k 0 (by omega) (by omega)
   rw [List.take_zero] at this
   have e : t - sumI (quoS t (sumI l) []) = t := by simp [quoS, sumI]
   rw [e] at this
   exact this
 | succ d ih =>
  intro k j hj hk hg hs
  obtain ⟨k, rfl⟩ : ∃ m, k = m + 1 := ⟨k - 1, by omega⟩
  have hjl : j < l.length := by omega
  have h0 := qX3 (l.take j) (fun x hx => (hg x hx).1)
  have et : l.take (j + 1) = l.take j ++ [rd l j] := by
   rw [List.take_add_one]
   have e : rd l j = l[j] := by unfold rd; simp [List.getD_eq_getElem?_getD, hjl]
   rw [e]; simp [hjl]
  have es : sumI (l.take (j + 1)) = sumI (l.take j) + rd l j := by rw [et, qVi]; simp [sumI]
  simp only [qQf.l0]
  rw [if_pos (by omega), if_pos (by omega), zQg]
  simp only [obind]
  by_cases c : gdm (rd l j)
  ·have c' := c
   unfold gdm at c'
   rw [decide_eq_true c, if_pos rfl, w64 (e := sumI (l.take j) + rd l j) (by omega) (by omega), zQg, <- es]
   simp only [obind]
   by_cases c2 : gdm (sumI (l.take (j + 1)))
   ·rw [decide_eq_true c2, if_pos rfl, w64 (e := (j : Int) + 1) (by omega) (by omega), show (j : Int) + 1 = ((j + 1 : Nat) : Int) by omega]
    exact ih k (j + 1) (by omega) (by omega) (fun x hx => by
     rw [et] at hx
     rcases List.mem_append.1 hx with h | h
     ·exact hg x h
     ·obtain rfl := List.mem_singleton.1 h; exact c) c2.2
   ·rw [decide_eq_false c2, if_neg (by simp), if_neg]
    rintro ⟨h1, h2, _⟩
    apply c2
    have e : sumI l = sumI (l.take (j + 1)) + sumI (l.drop (j + 1)) := by rw [<- qVi, List.take_append_drop]
    have := qX3 (l.drop (j + 1)) (fun x hx => (h1 x (List.mem_of_mem_drop hx)).1)
    unfold gdm
    omega
  ·rw [decide_eq_false c, if_neg (by simp), if_neg (fun h => c (h.1 _ (zQ2 l j hjl)))]
theorem zW4 (t : Int) (l : List Int) (k : Nat) (hl : l.length <= 1200) (hk : 1400000 <= k) : qQf.f k t l = some (splitF t l) := by
 obtain ⟨k, rfl⟩ : ∃ m, k = m + 1 := ⟨k - 1, by omega⟩
 have e0 : qQf.j0 (k + 1) t l true = some ([], 1) := by simp only [qQf.j0, if_true]
 unfold qQf.f splitF
 rw [zQg]
 simp only [obind, decide_eq_true_eq]
 by_cases ht : gdm t
 case neg => rw [if_neg ht, if_neg (fun h : splitG t l => ht h.1)]; exact e0
 rw [if_pos ht]
 by_cases n0 : (l.length : Int) < 1
 ·rw [if_pos n0, if_neg (fun h : splitG t l => by
   have e : l = [] := List.eq_nil_of_length_eq_zero (by omega)
   have := h.2.2.2.2
   rw [e] at this
   simp [sumI] at this)]
  exact e0
 rw [if_neg n0]
 by_cases n : l.length <= 1000
 case neg => rw [decide_eq_true (by omega), if_neg (fun h : splitG t l => n h.2.1)]; exact e0
 rw [decide_eq_false (by omega)]
 simp only [qQf.j0]
 rw [if_neg (by simp)]
 have := zW5 t l ht n l.length k 0 (by omega) (by omega) (by simp) (by simp [sumI])
 rw [List.take_zero] at this
 refine this.trans ?_
 by_cases c : (∀ x ∈ l, gdm x) /\ sumI l <= 10000000000000 /\ 0 < sumI l
 ·rw [if_pos c, if_pos (show splitG t l from ⟨ht, n, c.1, c.2.1, c.2.2⟩)]
 ·rw [if_neg c, if_neg (fun h : splitG t l => c ⟨h.2.2.1, h.2.2.2.1, h.2.2.2.2⟩)]
end Go.Proofs.YtlhcohipnieidaaGreat.PureSh
namespace Go.Proofs.YtlhcohipnieidaaGreat.PurePl
set_option linter.unusedVariables false
set_option linter.unusedSimpArgs false
open Go.RowKit Go.Proofs.YtlhcohipnieidaaGreat.P W.PrintWords W.PrintLast W.PrintMore Go.Proofs.YtlhcohipnieidaaGreat.PlainM
open Go.Proofs.YtlhcohipnieidaaGreat.PureLo (owesS qKy zZy)
theorem qJx (x : LT) : qZm.f x.f0 x.f1 x.f2 x.f3 x.f4 x.f5 x.f6 x.f7 x.f8 x.f9 x.f10 x.f11 x.f12 = some (decide (gdL x)) := PureLo.qK9 _ _ _ _ _ _ _ _ _ _ _ _ _
theorem zZ3 (a b : Int) (k : Nat) (hk : 3000 <= k) : qZd.f k a b = some (wholeD a b) := by
 obtain ⟨r, h⟩ := PureD.zXq a b
 have h1 := zYx a b k hk
 rw [(h k hk).1] at h1
 rw [(h k hk).2, h1]
theorem zYs (x : LT) (how day v : Int) (k : Nat) (hk : 3000 <= k) (hv : how ≠ 3 -> v = (valL x how day).1) (h1 : 1 <= how /\ how <= 3) :
  qQp.j1 (k + 1) how day v x.f0 x.f1 x.f2 x.f3 x.f4 x.f5 x.f6 x.f7 x.f8 x.f9 x.f10 x.f11 x.f12 = some (if (valL x how day).2 = 0 then capL x (valL x how day).1 else (0, (valL x how day).2)) := by
 simp only [qQp.j1]
 by_cases h3 : how = 3
 ·have e : valL x how day = PureSt.stepS x.f10 (wholeD x.f9 day) := by unfold valL; rw [if_neg (by omega), if_neg (by omega)]
  rw [if_pos h3, zZ3 _ _ k hk, obind, PureSt.zZ9 _ _ k (by have := zYy x.f9 day; omega) (by omega), obind, qKa x, obind, e]
  by_cases c : (PureSt.stepS x.f10 (wholeD x.f9 day)).2 = 0
  ·rw [if_pos c, if_pos c]
   unfold capL
   split <;> rfl
  ·rw [if_neg c, if_neg c]
 ·have e : (valL x how day).2 = 0 := by
   unfold valL
   split
   ·rfl
   ·rw [if_pos (by omega)]
  rw [if_neg h3, qKa x, obind, if_pos e, hv h3]
  unfold capL
  split <;> rfl
theorem zKi (x : LT) (how day : Int) (k : Nat) (hk : 3002 <= k) : qQp.f k x.f0 x.f1 x.f2 x.f3 x.f4 x.f5 x.f6 x.f7 x.f8 x.f9 x.f10 x.f11 x.f12 how day = some (ofL x how day) := by
 obtain ⟨k, rfl⟩ : ∃ q, k = q + 2 := ⟨k - 2, by omega⟩
 have et : qQp.j0 (k + 2) how day true x.f0 x.f1 x.f2 x.f3 x.f4 x.f5 x.f6 x.f7 x.f8 x.f9 x.f10 x.f11 x.f12 = some (0, 1) := by simp only [qQp.j0, if_true]
 unfold qQp.f ofL
 rw [qJx x, obind]
 by_cases hg : gdL x
 case neg => rw [decide_eq_false hg, if_neg (by simp), if_neg (fun h => hg h.1)]; exact et
 rw [decide_eq_true hg, if_pos rfl]
 by_cases c1 : how < 1
 ·rw [if_pos c1, if_neg (fun h => by omega)]; exact et
 rw [if_neg c1]
 by_cases c2 : how > 3
 ·rw [if_pos c2, if_neg (fun h => by omega)]; exact et
 rw [if_neg c2, PureD.qWd, obind]
 by_cases hd : 0 <= day /\ day <= 87658
 case neg => rw [decide_eq_false hd, if_neg (fun h => hd h.2.2)]; exact et
 rw [decide_eq_true hd, if_pos ⟨hg, by omega, hd⟩]
 simp only [qQp.j0, Bool.not_true, Bool.false_eq_true, if_false]
 rw [qJy x, obind]
 by_cases hp : partL x = true
 ·rw [if_pos hp, if_pos hp]
  by_cases h2 : how = 2
  ·rw [if_pos h2]
   exact zYs x how day x.f11 k (by omega) (fun _ => by unfold valL; rw [if_neg (by omega), if_pos h2]) (by omega)
  ·rw [if_neg h2]
   exact zYs x how day x.f10 k (by omega) (fun _ => by unfold valL; rw [if_pos (by omega)]) (by omega)
 ·rw [if_neg hp, if_neg hp]
def finR (ids : List Int) (l : List LT) (acc : List Int) (r : Int × List Int) : List Int × List Int × Int := if r.1 = 0 then (ids ++ l.map (fun x => x.f0), acc ++ r.2, 0) else ([], [], r.1)
theorem zYj (l : List LT) (r : Int × List Int) : finR [] l [] r = finS (l.map fun x => x.f0) [] r := by unfold finR finS; split <;> simp
theorem zQu (ids : List Int) (x : LT) (l : List LT) (acc : List Int) (v : Int × Int) (r : Int × List Int) (hv : v.2 = 0) :
  finR (ids ++ [x.f0]) l (acc ++ [v.1]) r = finR ids (x :: l) acc (if v.2 = 0 then (if r.1 = 0 then (0, v.1 :: r.2) else (r.1, [])) else (v.2, [])) := by
 rw [if_pos hv]
 unfold finR
 by_cases c : r.1 = 0
 ·rw [if_pos c, if_pos c, if_pos rfl]; simp
 ·rw [if_neg c, if_neg c, if_neg c]
theorem by_l1 (day : Int) (part : List LT) (all : List Int) (hall : all.length = part.length) (hl : part.length <= 1000) : ∀ (d k j : Nat) (ids acc : List Int), j + d = part.length -> d + 10 < k -> ids.length + d <= 2000 -> acc.length + d <= 2000 ->
  qQc.l1 k part all j ids acc = some (finR ids (part.drop j) acc (firstE (valsS 4 day (part.drop j) (all.drop j)))) := by
 intro d
 induction d with
 | zero =>
  intro k j ids acc hj hk h1 h2
  obtain ⟨k, rfl⟩ : ∃ m, k = m + 1 := ⟨k - 1, by omega⟩
  simp only [qQc.l1]
  rw [if_neg (by omega), List.drop_of_length_le (by omega)]
  simp [valsS, firstE, finR]
 | succ d ih =>
  intro k j ids acc hj hk h1 h2
  obtain ⟨k, rfl⟩ : ∃ m, k = m + 1 := ⟨k - 1, by omega⟩
  have hlt : j < part.length := by omega
  rw [qV1 part j hlt, PureSh.zWz all j (by omega)]
  generalize hX : qQb part j = X
  simp only [qQc.l1, hX]
  rw [if_pos (by omega), if_pos (by omega), qKa X, obind, w64 (e := (j : Int) + 1) (by omega) (by omega)]
  simp only [valsS, if_true, firstE]
  by_cases ho : (owesL X).2 = 0
  ·have hc : capL X (rd all j) = (mn (rd all j) (owesL X).1, 0) := by unfold capL; rw [if_pos ho]
   rw [if_pos ho, obind, if_pos (by simp; omega), if_pos (by omega), obind, if_pos (by simp; omega), hc, <- zQu ids X _ acc (mn (rd all j) (owesL X).1, 0) _ rfl]
   have nx := ih k (j + 1) (ids ++ [X.f0]) (acc ++ [mn (rd all j) (owesL X).1]) (by omega) (by omega) (by simp; omega) (by simp; omega)
   rw [show ((j + 1 : Nat) : Int) = (j : Int) + 1 by omega] at nx
   exact nx
  ·have hc : capL X (rd all j) = (0, (owesL X).2) := by unfold capL; rw [if_neg ho]
   rw [if_neg ho, hc, if_neg ho]
   unfold finR
   rw [if_neg ho]
def byS (day total : Int) (part : List LT) : List Int × List Int × Int := if (sharesS total part).2 = 0 then finS (part.map fun x => x.f0) [] (firstE (valsS 4 day part (sharesS total part).1)) else ([], [], (sharesS total part).2)
theorem zYz : ∀ (l : List Int), anyP l = false -> (∀ x ∈ l, 0 <= x) -> l = List.replicate l.length 0
 | [], _, _ => rfl
 | a :: l, h, hn => by
  have h1 : (decide (a > 0) || anyP l) = false := h
  rw [Bool.or_eq_false_iff] at h1
  have e := zYz l h1.2 (fun x hx => hn x (List.mem_cons_of_mem _ hx))
  have h2 := of_decide_eq_false h1.1
  have h3 := hn a (List.mem_cons_self ..)
  rw [List.length_cons, List.replicate_succ, <- e, show a = 0 by omega]
theorem by_l0 (day total : Int) (part : List LT) (hl : part.length <= 1000) (hg : ∀ x ∈ part, 0 <= x.f1 /\ x.f1 <= 10000000000000) : ∀ (d k j : Nat) (S : Int), j + d = part.length -> d + 1401000 < k -> 0 <= S -> S <= 1010000000000000 -> (0 < S ↔ anyP ((prinL part).take j) = true) ->
  qQc.l0 k part total ((prinL part).take j) S j = some (byS day total part) := by
 have hpl : (prinL part).length = part.length := by unfold prinL; simp
 intro d
 induction d with
 | zero =>
  intro k j S hj hk h0 h1 hS
  obtain ⟨k, rfl⟩ : ∃ m, k = m + 2 := ⟨k - 2, by omega⟩
  obtain rfl : j = part.length := by omega
  rw [List.take_of_length_le (by omega)] at hS ⊢
  have en : ∀ all : List Int, all.length = part.length -> qQc.j1 (k + 1) part all = some (finS (part.map fun x => x.f0) [] (firstE (valsS 4 day part all))) := fun all ha => by
   simp only [qQc.j1]
   have := by_l1 day part all ha hl part.length k 0 [] [] (by omega) (by omega) (by simp; omega) (by simp; omega)
   rw [List.drop_zero, List.drop_zero, zYj] at this
   exact this
  simp only [qQc.l0]
  rw [if_neg (by omega), if_pos (by omega), if_pos (by omega)]
  unfold byS sharesS
  by_cases c : anyP (prinL part) = true
  ·rw [if_pos (hS.2 c), if_pos c, PureSh.zW4 total (prinL part) (k + 1) (by omega) (by omega), obind]
   by_cases c2 : (PureSh.splitF total (prinL part)).2 = 0
   ·rw [if_pos c2, if_pos c2]
    exact en _ (by rw [qJe c2]; exact hpl)
   ·rw [if_neg c2, if_neg c2]
  ·have hz := zYz (prinL part) (by simpa using c) (fun x hx => by
    obtain ⟨y, hy, rfl⟩ := List.mem_map.1 hx
    exact (hg y hy).1)
   rw [if_neg (fun z => c (hS.1 z)), if_neg c, if_pos rfl, Int.toNat_natCast]
   rw [hpl] at hz
   rw [hz]
   exact en _ (by simp)
 | succ d ih =>
  intro k j S hj hk h0 h1 hS
  obtain ⟨k, rfl⟩ : ∃ m, k = m + 1 := ⟨k - 1, by omega⟩
  have hlt : j < part.length := by omega
  have hm : qQb part j ∈ part := by
   have : qQb part j = part[j] := by unfold qQb; simp [List.getD_eq_getElem?_getD, hlt]
   rw [this]; exact List.getElem_mem hlt
  have hb := hg _ hm
  have e3 : (qQb part j).f1 = rd (prinL part) j := zZ1 part j hlt
  have e2 := zYh (prinL part) j (by omega)
  have et : (prinL part).take j ++ [(qQb part j).f1] = (prinL part).take (j + 1) := by
   rw [List.take_add_one, e3]
   congr 1
   unfold rd
   simp [List.getD_eq_getElem?_getD, hpl, hlt]
  simp only [qQc.l0]
  rw [if_pos (by omega), if_pos (by omega), obind, if_pos (by simp; omega), obind, et, w64 (e := (j : Int) + 1) (by omega) (by omega)]
  rw [e3] at hb ⊢
  by_cases c : S < 1000000000000000
  ·rw [if_pos c, w64 (e := S + rd (prinL part) j) (by omega) (by omega)]
   have nx := ih k (j + 1) (S + rd (prinL part) j) (by omega) (by omega) (by omega) (by omega) (by
    rw [e2, Bool.or_eq_true, decide_eq_true_eq, <- hS]
    omega)
   rw [show ((j + 1 : Nat) : Int) = (j : Int) + 1 by omega] at nx
   exact nx
  ·rw [if_neg c]
   have nx := ih k (j + 1) S (by omega) (by omega) (by omega) (by omega) (by
    rw [e2, Bool.or_eq_true, <- hS]
    exact ⟨fun z => .inl z, fun _ => by omega⟩)
   rw [show ((j + 1 : Nat) : Int) = (j : Int) + 1 by omega] at nx
   exact nx
section
variable (m : Int) (poor : List Int) (d0 : Int) (L : List LT) (plan since inc fam : Int) (B : List BT) (a b c e f g day : Int)
theorem by_is (hp : poor.length <= 100) (part : List LT) (hl : part.length <= 1000) (hg : ∀ x ∈ part, 0 <= x.f1 /\ x.f1 <= 10000000000000) (k : Nat) (hk : 1403000 <= k) :
  qQc.f k m poor d0 L plan since inc fam B a b c e f g part = some (if (PureIn.askS poor fam inc).2 = 0 then byS day (PureIn.askS poor fam inc).1 part else ([], [], (PureIn.askS poor fam inc).2)) := by
 unfold qQc.f
 rw [PureIn.zXj _ _ _ k hp (by omega), obind]
 by_cases h : (PureIn.askS poor fam inc).2 = 0
 ·rw [if_pos h, if_pos h]
  have := by_l0 day (PureIn.askS poor fam inc).1 part hl hg part.length k 0 0 (by omega) (by omega) (by omega) (by omega) (by simp [anyP])
  rw [List.take_zero] at this
  exact this
 ·rw [if_neg h, if_neg h]
theorem ref_l1 (how : Int) (h4 : how ≠ 4) (part : List LT) (hl : part.length <= 1000) : ∀ (d k j : Nat) (ids acc : List Int), j + d = part.length -> d + 3010 < k -> ids.length + d <= 2000 -> acc.length + d <= 2000 ->
  qQe.l1 k day part how j ids acc = some (finR ids (part.drop j) acc (firstE (valsS how day (part.drop j) (List.replicate (part.length - j) 0)))) := by
 intro d
 induction d with
 | zero =>
  intro k j ids acc hj hk h1 h2
  obtain ⟨k, rfl⟩ : ∃ m, k = m + 1 := ⟨k - 1, by omega⟩
  simp only [qQe.l1]
  rw [if_neg (by omega), List.drop_of_length_le (by omega)]
  simp [valsS, firstE, finR]
 | succ d ih =>
  intro k j ids acc hj hk h1 h2
  obtain ⟨k, rfl⟩ : ∃ m, k = m + 1 := ⟨k - 1, by omega⟩
  have hlt : j < part.length := by omega
  rw [qV1 part j hlt, show part.length - j = (part.length - (j + 1)) + 1 by omega, List.replicate_succ]
  generalize hX : qQb part j = X
  simp only [qQe.l1, hX]
  rw [if_pos (by omega), if_pos (by omega), zKi X how day k (by omega), obind, w64 (e := (j : Int) + 1) (by omega) (by omega)]
  simp only [valsS, if_neg h4, firstE]
  by_cases ho : (ofL X how day).2 = 0
  ·rw [if_pos ho, obind, if_pos (by simp; omega), obind, if_pos (by simp; omega), <- zQu ids X _ acc (ofL X how day) _ ho]
   have nx := ih k (j + 1) (ids ++ [X.f0]) (acc ++ [(ofL X how day).1]) (by omega) (by omega) (by simp; omega) (by simp; omega)
   rw [show ((j + 1 : Nat) : Int) = (j : Int) + 1 by omega] at nx
   exact nx
  ·rw [if_neg ho, if_neg ho]
   unfold finR
   rw [if_neg ho]
theorem zJz (hp : poor.length <= 100) (part : List LT) (hl : part.length <= 1000) (hg : ∀ x ∈ part, gdL x) (k : Nat) (hk : 1404000 <= k) :
  qQe.l0 (k + 1) day part L.length m poor d0 L plan since inc fam B a b c e f g = some (partS poor plan since inc fam day part) := by
 simp only [qQe.l0]
 unfold partS
 rw [if_neg (by omega)]
 cases part with
 | nil => rfl
 | cons x part =>
  rw [if_neg (by simp; omega), if_neg (by simp), zZ2 _ _ _ _ _ _ _ _ _ _ _ _ _ _ k (by omega), obind]
  generalize hP : x :: part = P at hl hg ⊢
  by_cases h4 : holdsS plan since day = 4
  ·rw [if_pos h4, if_pos h4, by_is m poor d0 L plan since inc fam B a b c e f g day hp P hl (fun x hx => by have q := hg x hx; unfold gdL PureLo.gd PureLo.mon at q; omega) k (by omega), obind]
   unfold byS sharesF
   by_cases h : (PureIn.askS poor fam inc).2 = 0
   ·rw [if_pos h, if_pos h]
   ·rw [if_neg h, if_neg h, if_neg h]
  ·rw [if_neg h4, if_neg h4]
   have := ref_l1 day (holdsS plan since day) h4 P hl P.length k 0 [] [] (by omega) (by omega) (by simp; omega) (by simp; omega)
   rw [List.drop_zero, zYj, Nat.sub_zero] at this
   exact this
theorem ref_l0 (hp : poor.length <= 100) (hL : L.length <= 1000) : ∀ (d k j : Nat) (part : List LT), j + d = L.length -> d + 1404010 < k -> part.length + d <= 1000 -> (∀ x ∈ part, gdL x) ->
  qQe.l0 k day part j m poor d0 L plan since inc fam B a b c e f g = some (if badL (L.drop j) = true then ([], [], 1) else partS poor plan since inc fam day (part ++ (L.drop j).filter partL)) := by
 intro d
 induction d with
 | zero =>
  intro k j part hj hk hq hg
  obtain ⟨k, rfl⟩ : ∃ q, k = q + 1 := ⟨k - 1, by omega⟩
  obtain rfl : j = L.length := by omega
  rw [List.drop_length, List.filter_nil, List.append_nil, if_neg (by simp [badL])]
  exact zJz m poor d0 L plan since inc fam B a b c e f g day hp part (by omega) hg k (by omega)
 | succ d ih =>
  intro k j part hj hk hq hg
  obtain ⟨k, rfl⟩ : ∃ q, k = q + 1 := ⟨k - 1, by omega⟩
  have hlt : j < L.length := by omega
  rw [qV1 L j hlt]
  generalize hX : qQb L j = X
  have eb : badL (X :: L.drop (j + 1)) = (!decide (gdL X) || badL (L.drop (j + 1))) := rfl
  simp only [qQe.l0, hX]
  rw [if_pos (by omega), if_pos (by omega), qJx X, obind, w64 (e := (j : Int) + 1) (by omega) (by omega), eb]
  by_cases aX : gdL X
  case neg => rw [decide_eq_false aX, if_neg (by simp), if_pos (by simp)]
  rw [decide_eq_true aX, if_pos rfl, qJy X, obind, Bool.not_true, Bool.false_or]
  by_cases hx : partL X = true
  ·rw [if_pos hx, obind, if_pos (by simp; omega), List.filter_cons_of_pos hx]
   have nx := ih k (j + 1) (part ++ [X]) (by omega) (by omega) (by simp; omega) (fun y hy => by
    rcases List.mem_append.1 hy with h | h
    ·exact hg y h
    ·rw [List.mem_singleton.1 h]; exact aX)
   rw [List.append_assoc, show ((j + 1 : Nat) : Int) = (j : Int) + 1 by omega] at nx
   exact nx
  ·rw [if_neg hx, List.filter_cons_of_neg hx]
   have nx := ih k (j + 1) part (by omega) (by omega) (by omega) hg
   rw [show ((j + 1 : Nat) : Int) = (j : Int) + 1 by omega] at nx
   exact nx
theorem zXh (hp : poor.length <= 100) (hL : L.length <= 1000) (k : Nat) (hk : 1410000 <= k) :
  qQe.f k m poor d0 L plan since inc fam B a b c e f g day = some (asksS poor L plan since inc fam day) := by
 obtain ⟨k, rfl⟩ : ∃ q, k = q + 1 := ⟨k - 1, by omega⟩
 unfold qQe.f asksS
 rw [PureIn.qKi poor (k + 1) (by omega) (by omega), obind]
 by_cases h1 : PureIn.goodT poor = true
 case neg =>
  rw [if_neg h1, if_neg (fun h => h1 h.1)]
  simp only [qQe.j0, if_true]
 rw [if_pos h1, PureD.qWd, obind]
 by_cases h2 : 0 <= day /\ day <= 87658
 case neg =>
  rw [decide_eq_false h2, if_neg (fun h => h2 h.2.1)]
  simp only [qQe.j0, Bool.not_false, if_true]
 rw [decide_eq_true h2]
 simp only [qQe.j0, Bool.not_true, Bool.false_eq_true, if_false]
 have := ref_l0 m poor d0 L plan since inc fam B a b c e f g day hp hL L.length k 0 [] (by omega) (by omega) (by simp; omega) (by simp)
 rw [List.drop_zero, List.nil_append] at this
 refine this.trans ?_
 by_cases h3 : badL L = true
 ·rw [if_pos h3, if_neg (fun h => by rw [h3] at h; exact absurd h.2.2 (by simp))]
 ·rw [if_neg h3, if_pos ⟨h1, h2, by simpa using h3⟩]
end
theorem zX5 (x0 x1 x2 x3 x4 : Int) (x5 : List Int) (k : Nat) (hl : x5.length <= 100) (hk : 200 <= k) : qXh.f k x0 x1 x2 x3 x4 x5 x0 x1 x2 x3 x4 x5 = some true := by
 unfold qXh.f
 rw [if_pos rfl, if_pos rfl, if_pos rfl, if_pos rfl, if_pos rfl, PureD.qW3 x5 k (by omega) (by omega)]
 rfl
theorem zWy (l : List BT) (j : Nat) (h : j < l.length) : qQu l j ∈ l := by
 have : qQu l j = l[j] := by unfold qQu; simp [List.getD_eq_getElem?_getD, h]
 rw [this]; exact List.getElem_mem h
theorem zVs (l : List BT) (hl : l.length <= 4000) (hf : ∀ x ∈ l, x.f5.length <= 100) : ∀ (d k j : Nat), j + d = l.length -> d + 300 < k -> qQ7.l0 k l l (j : Int) = some true := by
 intro d
 induction d with
 | zero =>
  intro k j hj hk
  obtain ⟨k, rfl⟩ : ∃ m, k = m + 1 := ⟨k - 1, by omega⟩
  simp only [qQ7.l0]; rw [if_neg (by omega)]
 | succ d ih =>
  intro k j hj hk
  obtain ⟨k, rfl⟩ : ∃ m, k = m + 1 := ⟨k - 1, by omega⟩
  simp only [qQ7.l0]
  rw [if_pos (by omega), if_pos (by omega), if_pos (by omega), zX5 _ _ _ _ _ _ k (hf _ (zWy l j (by omega))) (by omega)]
  simp only [obind]
  rw [if_pos trivial, w64 (e := (j : Int) + 1) (by omega) (by omega), show (j : Int) + 1 = ((j + 1 : Nat) : Int) by omega]
  exact ih k (j + 1) (by omega) (by omega)
theorem zY2 (l : List BT) (k : Nat) (hl : l.length <= 4000) (hf : ∀ x ∈ l, x.f5.length <= 100) (hk : 5000 <= k) : qQ7.f k l l = some true := by
 unfold qQ7.f
 rw [if_pos rfl]
 exact zVs l hl hf l.length k 0 (by omega) (by omega)
theorem zWj (x : LT) : qXi.f x.f0 x.f1 x.f2 x.f3 x.f4 x.f5 x.f6 x.f7 x.f8 x.f9 x.f10 x.f11 x.f12 x.f0 x.f1 x.f2 x.f3 x.f4 x.f5 x.f6 x.f7 x.f8 x.f9 x.f10 x.f11 x.f12 = some true := by
 simp [qXi.f]
theorem zV5 (l : List LT) (hl : l.length <= 4000) : ∀ (d k j : Nat), j + d = l.length -> d < k -> qQ8.l0 k l l (j : Int) = some true := by
 intro d
 induction d with
 | zero =>
  intro k j hj hk
  obtain ⟨k, rfl⟩ : ∃ m, k = m + 1 := ⟨k - 1, by omega⟩
  simp only [qQ8.l0]; rw [if_neg (by omega)]
 | succ d ih =>
  intro k j hj hk
  obtain ⟨k, rfl⟩ : ∃ m, k = m + 1 := ⟨k - 1, by omega⟩
  simp only [qQ8.l0]
  rw [if_pos (by omega), if_pos (by omega), if_pos (by omega), zWj]
  simp only [obind]
  rw [if_pos trivial, w64 (e := (j : Int) + 1) (by omega) (by omega), show (j : Int) + 1 = ((j + 1 : Nat) : Int) by omega]
  exact ih k (j + 1) (by omega) (by omega)
theorem zY7 (l : List LT) (k : Nat) (hl : l.length <= 4000) (hk : 5000 <= k) : qQ8.f k l l = some true := by
 unfold qQ8.f
 rw [if_pos rfl]
 exact zV5 l hl l.length k 0 (by omega) (by omega)
theorem zXo (d : Int) (L : List LT) (p s i f : Int) (B : List BT) (a b c e g h : Int) (k : Nat) (hL : L.length <= 4000) (hB : B.length <= 4000) (hf : ∀ x ∈ B, x.f5.length <= 100) (hk : 5000 <= k) :
  qYn.f k d L p s i f B a b c e g h d L p s i f B a b c e g h = some true := by
 have hq : qXa.f b c e g b c e g = some true := by simp [qXa.f]
 unfold qYn.f
 rw [if_pos rfl, zY7 L k hL hk, obind, if_pos rfl, if_pos rfl, if_pos rfl, if_pos rfl, if_pos rfl, zY2 B k hB hf hk, obind, if_pos rfl, if_pos rfl, hq, obind, if_pos rfl]
 simp
theorem zVv (l : List BT) (hl : l.length <= 4000) (hf : ∀ x ∈ l, x.f5.length <= 100) : ∀ (d k j : Nat), j + d = l.length -> d < k ->
  qQ9.l0 k l (l.take j) (j : Int) = some l := by
 intro d
 induction d with
 | zero =>
  intro k j hj hk
  obtain ⟨k, rfl⟩ : ∃ m, k = m + 1 := ⟨k - 1, by omega⟩
  simp only [qQ9.l0]
  rw [if_neg (by omega), List.take_of_length_le (by omega)]
 | succ d ih =>
  intro k j hj hk
  obtain ⟨k, rfl⟩ : ∃ m, k = m + 1 := ⟨k - 1, by omega⟩
  have h5 := hf _ (zWy l j (by omega))
  simp only [qQ9.l0]
  rw [if_pos (by omega), if_pos (by omega)]
  simp only [obind, List.nil_append, List.length_nil]
  rw [if_pos (by omega), if_pos (by rw [List.length_take]; omega), w64 (e := (j : Int) + 1) (by omega) (by omega), show (j : Int) + 1 = ((j + 1 : Nat) : Int) by omega]
  have e : l.take (j + 1) = l.take j ++ [qQu l j] := by
   have : qQu l j = l[j] := by unfold qQu; simp [List.getD_eq_getElem?_getD, show j < l.length by omega]
   rw [List.take_add_one, this]; simp [show j < l.length by omega]
  have nx := ih k (j + 1) (by omega) (by omega)
  rw [e] at nx
  exact nx
theorem zQq (d : Int) (L : List LT) (p s i f : Int) (B : List BT) (a b c e g h : Int) (k : Nat) (hL : L.length <= 1000) (hB : B.length <= 4000) (hf : ∀ x ∈ B, x.f5.length <= 100) (hk : 5000 <= k) :
  qZh.f k d L p s i f B a b c e g h = some (d, L, p, s, i, f, B, a, b, c, e, g, h) := by
 have h1 : qYl.f L = some L := by
  unfold qYl.f
  rw [obind, if_pos (by simp; omega), List.nil_append]
 have h2 : qQ9.f k B = some B := by
  unfold qQ9.f
  have := zVv B hB hf B.length k 0 (by omega) (by omega)
  rw [List.take_zero] at this
  exact this
 unfold qZh.f
 rw [h1, obind, h2, obind]
theorem zJd (poor : List Int) (L : List LT) (plan since inc fam day : Int) (hL : L.length <= 100) : (asksS poor L plan since inc fam day).1.length <= 100 /\ (asksS poor L plan since inc fam day).2.1.length <= 100 := by
 have hv : ∀ (how : Int) (l : List LT) (m : List Int), (firstE (valsS how day l m)).2.length <= l.length := by
  intro how l
  induction l with
  | nil => intro m; cases m <;> simp [valsS, firstE]
  | cons x l ih =>
   intro m
   cases m with
   | nil => simp [valsS, firstE]
   | cons n m =>
    simp only [valsS, firstE]
    have := ih m
    (repeat' split) <;> simp <;> omega
 have hfl : (L.filter partL).length <= L.length := List.length_filter_le _ _
 unfold asksS
 split
 ·generalize L.filter partL = P at *
  unfold partS
  have hfin : ∀ r : Int × List Int, r.2.length <= P.length -> (finS (P.map fun x => x.f0) [] r).1.length <= 100 /\ (finS (P.map fun x => x.f0) [] r).2.1.length <= 100 := fun r hr => by
   unfold finS
   split
   ·simp; omega
   ·simp
  split
  ·simp
  ·split
   ·split
    ·exact hfin _ (hv _ _ _)
    ·simp
   ·exact hfin _ (hv _ _ _)
 ·simp
theorem PlanAsks (l0 : List Int) (aN : Int) (aE : List LT) (aG aH aI aJ : Int) (aM : List BT) (aQ aT aU aA aC aD a2 : Int) (hm0 : l0.length <= maxLen) (hm1 : aE.length <= maxLen) (hm6 : aM.length <= maxLen) :
  ∃ k, qZi.f k l0 aN aE aG aH aI aJ aM aQ aT aU aA aC aD a2 = some true := by
 obtain ⟨k, hk⟩ : ∃ k : Nat, 1500000 <= k := ⟨_, Nat.le_refl _⟩
 refine ⟨k, ?_⟩
 unfold qZi.f
 obtain ⟨t, ht, hL⟩ := zV3 aN aE aG aH aI aJ aM aQ aT aU aA aC aD k (by omega)
 rw [ht, obind]
 cases t with
 | true => rw [if_pos rfl, wakes18 k (by omega)]; rfl
 | false =>
  rw [if_neg (by simp)]
  by_cases cp : (l0.length : Int) > 100
  ·rw [if_pos cp, wakes18 k (by omega)]; rfl
  obtain ⟨b1, b2, b3⟩ := hL rfl
  have hb := zJd l0 aE aG aH aI aJ a2 b1
  rw [if_neg cp, zQq _ _ _ _ _ _ _ _ _ _ _ _ _ k (by omega) (by omega) b3 (by omega), obind, obind, if_pos (by simp; omega)]
  dsimp only
  rw [List.nil_append, zX2 5 l0 aN aE aG aH aI aJ aM aQ aT aU aA aC aD a2 (by omega) (by omega) k (by omega), obind,
   zXh 5 l0 aN aE aG aH aI aJ aM aQ aT aU aA aC aD a2 (by omega) (by omega) k (by omega), obind,
   PureD.qW3 _ k (by omega) (by omega), obind, if_pos rfl, PureSh.qJu _ k (by omega) (by omega), obind, if_pos rfl, if_pos rfl,
   zXo _ _ _ _ _ _ _ _ _ _ _ _ _ k (by omega) (by omega) b3 (by omega), obind, if_pos rfl, wakes18 k (by omega)]
  rfl
end Go.Proofs.YtlhcohipnieidaaGreat.PurePl
