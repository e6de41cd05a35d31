/- What the functions on bills, the program's and the reference's, come to, in plain numbers. -/
import Derived.Test.YtibjbgfphhmogaaZc
import Derived.Test.YtibjbgfphhmogaaZd
import Derived.Test.YtibjbgfphhmogaaZf
import Derived.Test.YtibjbgfphhmogaaZg
import Derived.Test.YtibjbgfphhmogaaZo
import Derived.Test.YtibjbgfphhmogaaZr
import Derived.Test.YtibjbgfphhmogaaPx3
import Derived.Test.YtibjbgfphhmogaaPx6
import Derived.Test.YtibjbgfphhmogaaPx7
import Derived.Test.YtibjbgfphhmogaaPx10
import Derived.Test.YtibjbgfphhmogaaPx11
import Derived.Test.YtibjbgfphhmogaaPx12
import Derived.Test.YtibjbgfphhmogaaPx14
import Derived.Test.YtibjbgfphhmogaaPx15
import Derived.Test.YtibjbgfphhmogaaPx16
import Derived.Test.YtibjbgfphhmogaaPx17
import Derived.Test.YtibjbgfphhmogaaBillDate
namespace Go.Proofs.Ytibjbgfphhmogaa.Pure
set_option linter.unusedVariables false
set_option linter.unusedSimpArgs false
open Go.RowKit Go.Proofs.Ytibjbgfphhmogaa.P Go.Proofs.YtibjbgfphhmogaaW.PrintWords Go.Proofs.YtibjbgfphhmogaaW.PrintLast Go.Proofs.YtibjbgfphhmogaaW.PrintMore Go.Proofs.Ytibjbgfphhmogaa.Plain
theorem rdT_at (l : List S45) (j : Nat) (h : j < l.length) : l.drop j = rd_T45 l j :: l.drop (j + 1) := rdT_drop l j h
theorem rdT_mem (l : List S45) (j : Nat) (h : j < l.length) : rd_T45 l j ∈ l := by
  have : rd_T45 l j = l[j] := by unfold rd_T45; simp [List.getD_eq_getElem?_getD, h]
  rw [this]; exact List.getElem_mem h
theorem rdT_take (l : List S45) (j : Nat) (h : j < l.length) : l.take (j + 1) = l.take j ++ [rd_T45 l j] := by
  rw [List.take_add_one]; unfold rd_T45; simp [List.getD_eq_getElem?_getD, h]
/-- Not too many, and none with too many loans. -/
def smallB (l : List S45) : Prop := l.length ≤ 400 ∧ ∀ x ∈ l, x.f5.length ≤ 100
theorem large_l0 (l : List S45) (hl : l.length ≤ 400) : ∀ (d k j : Nat), j + d = l.length → d < k → (∀ x ∈ l.take j, x.f5.length ≤ 100) →
    annuitykeep_Large.l0 k (j : Int) 0 [] 0 0 0 0 l 0 0 0 0 0 0 = some true ∨ (annuitykeep_Large.l0 k (j : Int) 0 [] 0 0 0 0 l 0 0 0 0 0 0 = some false ∧ ∀ x ∈ l, x.f5.length ≤ 100) := by
  intro d
  induction d with
  | zero =>
    intro k j hj hk ht
    obtain ⟨k, rfl⟩ : ∃ m, k = m + 1 := ⟨k - 1, by omega⟩
    right
    simp only [annuitykeep_Large.l0]
    rw [if_neg (by omega)]
    rw [List.take_of_length_le (by omega)] at ht
    exact ⟨rfl, ht⟩
  | succ d ih =>
    intro k j hj hk ht
    obtain ⟨k, rfl⟩ : ∃ m, k = m + 1 := ⟨k - 1, by omega⟩
    simp only [annuitykeep_Large.l0]
    rw [if_pos (by omega), if_pos (by omega)]
    by_cases c : ((rd_T45 l (j : Int)).f5.length : Int) > 100
    · rw [if_pos c]; exact .inl rfl
    · rw [if_neg c, w64 (e := (j : Int) + 1) (by omega) (by omega), show (j : Int) + 1 = ((j + 1 : Nat) : Int) by omega]
      refine ih k (j + 1) (by omega) (by omega) (fun x hx => ?_)
      rw [rdT_take l j (by omega)] at hx
      rcases List.mem_append.1 hx with h | h
      · exact ht x h
      · obtain rfl := List.mem_singleton.1 h; omega
theorem large_or (l : List S45) (k : Nat) (hk : 500 ≤ k) : annuitylaw19_Large.f k l = some true ∨ (annuitylaw19_Large.f k l = some false ∧ smallB l) := by
  obtain ⟨k, rfl⟩ : ∃ m, k = m + 1 := ⟨k - 1, by omega⟩
  unfold annuitylaw19_Large.f annuitykeep_Large.f
  rw [if_neg (by simp)]
  by_cases c : (l.length : Int) > 400
  · left; rw [decide_eq_true c]; simp only [annuitykeep_Large.j0, if_true, obind]
  · rw [decide_eq_false c]
    simp only [annuitykeep_Large.j0]
    rw [if_neg (by simp)]
    have H := large_l0 l (by omega) l.length k 0 (by omega) (by omega) (by simp)
    rw [show ((0 : Nat) : Int) = 0 from rfl] at H
    rcases H with h | ⟨h, h2⟩
    · left; rw [h]; rfl
    · right; refine ⟨?_, by omega, h2⟩; rw [h]; rfl
theorem copy_l0 (l : List S45) (hl : l.length ≤ 4000) (hf : ∀ x ∈ l, x.f5.length ≤ 100) : ∀ (d k j : Nat), j + d = l.length → d < k →
    annuitykeep_CopyBills.l0 k l (l.take j) (j : Int) = some l := by
  intro d
  induction d with
  | zero =>
    intro k j hj hk
    obtain ⟨k, rfl⟩ : ∃ m, k = m + 1 := ⟨k - 1, by omega⟩
    simp only [annuitykeep_CopyBills.l0]
    rw [if_neg (by omega), List.take_of_length_le (by omega)]
  | succ d ih =>
    intro k j hj hk
    obtain ⟨k, rfl⟩ : ∃ m, k = m + 1 := ⟨k - 1, by omega⟩
    have := hf _ (rdT_mem l j (by omega))
    simp only [annuitykeep_CopyBills.l0]
    rw [if_pos (by omega), if_pos (by omega)]
    simp only [obind, List.nil_append, List.length_nil]
    rw [if_pos (by omega), if_pos (by rw [List.length_take]; omega), w64 (e := (j : Int) + 1) (by omega) (by omega), show (j : Int) + 1 = ((j + 1 : Nat) : Int) by omega]
    have e := rdT_take l j (by omega)
    rw [← e]
    exact ih k (j + 1) (by omega) (by omega)
theorem copy_is (l : List S45) (k : Nat) (hl : l.length ≤ 4000) (hf : ∀ x ∈ l, x.f5.length ≤ 100) (hk : 4001 ≤ k) : annuitykeep_CopyBills.f k l = some l := by
  unfold annuitykeep_CopyBills.f
  have := copy_l0 l hl hf l.length k 0 (by omega) (by omega)
  rw [List.take_zero] at this
  exact this
theorem clone_is (l : List Int) (k : Nat) (hl : l.length ≤ 100) : slices_Clone_int_int.f k l = some l := by unfold slices_Clone_int_int.f; rw [if_pos (by omega)]
theorem copied_is (l : List S45) (k : Nat) (hl : l.length ≤ 4000) (hf : ∀ x ∈ l, x.f5.length ≤ 100) : bill_copied.f k l = some l := by
  unfold bill_copied.f; rw [if_pos ⟨hl, fun x hx => by have := hf x hx; omega⟩]
/-! ### Good -/
def moneyP (a : Int) : Prop := 0 ≤ a ∧ a ≤ 10000000000000
instance (a : Int) : Decidable (moneyP a) := by unfold moneyP; infer_instance
theorem cents_is (a : Int) : bill_cents.f a = some (decide (moneyP a)) := by
  unfold bill_cents.f money_Good.f
  by_cases c : a ≥ 0
  · rw [if_pos c, if_pos (by omega)]; simp only [obind]; congr 1; rw [decide_eq_decide]; unfold moneyP; omega
  · rw [if_neg c, decide_eq_false (fun h : moneyP a => c h.1)]
theorem rcents_is (a : Int) : annuityref19_money.f a = some (decide (moneyP a)) := rmoney_is a
/-- Is a bill good behind a month? -/
def okB (last : Int) (x : S45) : Prop := last < x.f0 ∧ x.f0 < 2880 ∧ moneyP x.f1 ∧ 0 ≤ x.f2 ∧ x.f2 ≤ x.f1 ∧ ((x.f2 = 0 ∧ 0 ≤ x.f3 ∧ x.f3 ≤ 87658) ∨ (0 < x.f2 ∧ x.f3 = -1))
instance (last : Int) (x : S45) : Decidable (okB last x) := by unfold okB; infer_instance
def gdB (last : Int) : List S45 → Bool
  | [] => true
  | x :: r => decide (okB last x) && gdB x.f0 r
theorem bill_j1 (k : Nat) (last : Int) (c : Bool) (l : List S45) (n j : Int) (f0 f1 f2 f3 f4 : Int) (f5 : List Int) :
    bill_Good.j1 (k + 1) last c l n j f0 f1 f2 f3 f4 f5 = bill_Good.j2 k l n j (decide (last < f0 ∧ f0 < 2880 ∧ moneyP f1 ∧ 0 ≤ f2 ∧ f2 ≤ f1) && c) f0 f1 f2 f3 f4 f5 := by
  simp only [bill_Good.j1]
  by_cases c1 : f0 > last
  case neg => rw [if_neg c1, decide_eq_false (fun h => c1 h.1), Bool.false_and]
  rw [if_pos c1]
  by_cases c2 : f0 < 2880
  case neg => rw [if_neg c2, decide_eq_false (fun h => c2 h.2.1), Bool.false_and]
  rw [if_pos c2, cents_is]
  simp only [obind, decide_eq_true_eq]
  by_cases c3 : moneyP f1
  case neg => rw [if_neg c3, decide_eq_false (fun h => c3 h.2.2.1), Bool.false_and]
  rw [if_pos c3]
  by_cases c4 : f2 ≥ 0
  case neg => rw [if_neg c4, decide_eq_false (fun h => c4 h.2.2.2.1), Bool.false_and]
  rw [if_pos c4]
  by_cases c5 : f2 ≤ f1
  case neg => rw [if_neg c5, decide_eq_false (fun h => c5 h.2.2.2.2), Bool.false_and]
  rw [if_pos c5, decide_eq_true ⟨c1, c2, c3, c4, c5⟩, Bool.true_and]
theorem good_l0 (l : List S45) (hl : l.length ≤ 2880) : ∀ (d k j : Nat) (last : Int), j + d = l.length → 3 * d + 3 < k → bill_Good.l0 k last l (l.length : Int) (j : Int) = some (gdB last (l.drop j)) := by
  intro d
  induction d with
  | zero =>
    intro k j last hj hk
    obtain ⟨k, rfl⟩ : ∃ m, k = m + 1 := ⟨k - 1, by omega⟩
    simp only [bill_Good.l0]
    rw [if_neg (by omega), List.drop_of_length_le (by omega)]
    rfl
  | succ d ih =>
    intro k j last hj hk
    obtain ⟨k, rfl⟩ : ∃ m, k = m + 1 + 1 + 1 := ⟨k - 3, by omega⟩
    have hd := rdT_at l j (by omega)
    obtain ⟨x, hx⟩ : ∃ x, x = rd_T45 l (j : Int) := ⟨_, rfl⟩
    -- what both ways come to
    have T : ∀ c : Bool, (c = true ↔ ((x.f2 = 0 ∧ 0 ≤ x.f3 ∧ x.f3 ≤ 87658) ∨ (0 < x.f2 ∧ x.f3 = -1))) → bill_Good.j1 (k + 1 + 1) last c l (l.length : Int) (j : Int) x.f0 x.f1 x.f2 x.f3 x.f4 x.f5 = some (gdB last (l.drop j)) := by
      intro c hc
      rw [bill_j1, hd, ← hx, gdB]
      simp only [bill_Good.j2]
      by_cases o : okB last x
      · have hc2 : c = true := hc.mpr o.2.2.2.2.2
        rw [decide_eq_true ⟨o.1, o.2.1, o.2.2.1, o.2.2.2.1, o.2.2.2.2.1⟩, hc2, Bool.true_and, if_pos rfl, w64 (e := (j : Int) + 1) (by omega) (by omega), show (j : Int) + 1 = ((j + 1 : Nat) : Int) by omega, decide_eq_true o, Bool.true_and]
        exact ih k (j + 1) x.f0 (by omega) (by omega)
      · rw [decide_eq_false o, Bool.false_and, if_neg]
        intro h
        rw [Bool.and_eq_true, decide_eq_true_eq] at h
        exact o ⟨h.1.1, h.1.2.1, h.1.2.2.1, h.1.2.2.2.1, h.1.2.2.2.2, hc.mp h.2⟩
    simp only [bill_Good.l0]
    rw [if_pos (by omega), if_pos (by omega), if_pos (by omega), ← hx]
    by_cases z : x.f2 = 0
    · rw [if_pos z, date_Good_is]
      simp only [obind, decide_eq_true_eq]
      by_cases g : 0 ≤ x.f3 ∧ x.f3 ≤ 87658
      · rw [if_pos g]; exact T true ⟨fun _ => .inl ⟨z, g⟩, fun _ => rfl⟩
      · rw [if_neg g, if_neg (by omega)]; exact T false ⟨fun h => (by cases h), fun h => (by omega)⟩
    · rw [if_neg z]
      by_cases p : x.f2 > 0
      · rw [if_pos p]
        exact T _ ⟨fun h => .inr ⟨p, by simpa using h⟩, fun h => by simp; omega⟩
      · rw [if_neg p]; exact T false ⟨fun h => (by cases h), fun h => (by omega)⟩
/-- Are bills good? -/
def goodB (l : List S45) : Bool := decide (l.length ≤ 2880) && gdB (-1) l
theorem good_is (l : List S45) (k : Nat) (hk : 9000 ≤ k) : bill_Good.f k l = some (goodB l) := by
  unfold bill_Good.f goodB
  by_cases c : (l.length : Int) > 2880
  · rw [if_pos c, decide_eq_false (by omega), Bool.false_and]
  · rw [if_neg c, decide_eq_true (by omega), Bool.true_and]
    exact good_l0 l (by omega) l.length k 0 (-1) (by omega) (by omega)
theorem rgFrom_is (l : List S45) : ∀ (d j : Nat) (last : Int), j + d = l.length → -1 ≤ last → (last = if j = 0 then -1 else (rd_T45 l ((j : Int) - 1)).f0) → rgFrom l d j = (decide ((l.length : Int) ≤ 2880) && gdB last (l.drop j)) := by
  intro d
  induction d with
  | zero =>
    intro j last hj h0 hl
    rw [rgFrom, List.drop_of_length_le (by omega), gdB, Bool.and_true]
  | succ d ih =>
    intro j last hj h0 hl
    rw [rgFrom, rdT_at l j (by omega), gdB]
    obtain ⟨x, hx⟩ : ∃ x, x = rd_T45 l (j : Int) := ⟨_, rfl⟩
    rw [← hx]
    have e : rgAt l j = decide (okB last x) := by
      unfold rgAt
      rw [← hx, decide_eq_decide]
      unfold rgOk okB moneyP
      by_cases c : j = 0
      · rw [if_pos c] at hl; subst hl; omega
      · rw [if_neg c] at hl; rw [← hl]; omega
    rw [e]
    by_cases o : okB last x
    · rw [decide_eq_true o, Bool.true_and, Bool.true_and]
      have := ih (j + 1) x.f0 (by omega) (by have := o.1; omega) (by rw [if_neg (by omega), hx, show ((j + 1 : Nat) : Int) - 1 = (j : Int) by omega])
      exact this
    · rw [decide_eq_false o, Bool.false_and, Bool.false_and, Bool.and_false]
theorem rgood_is (l : List S45) (k : Nat) (hl : l.length ≤ 4000) : annuityref19_Good.f k l = some (goodB l) := by
  unfold annuityref19_Good.f goodB
  rw [if_pos hl, rgFrom_is l l.length 0 (-1) (by omega) (by omega) (by simp), List.drop_zero]
  congr 2
  rw [decide_eq_decide]
  omega
theorem gdB_mem : ∀ (l : List S45) (last : Int), gdB last l = true → ∀ x ∈ l, 0 ≤ x.f2 ∧ x.f2 ≤ x.f1 ∧ moneyP x.f1 ∧ x.f0 < 2880 ∧ last < x.f0 := by
  intro l
  induction l with
  | nil => intro _ _ x hx; cases hx
  | cons y l ih =>
    intro last h x hx
    rw [gdB, Bool.and_eq_true, decide_eq_true_eq] at h
    rcases List.mem_cons.1 hx with e | e
    · rw [e]; exact ⟨h.1.2.2.2.1, h.1.2.2.2.2.1, h.1.2.2.1, h.1.2.1, h.1.1⟩
    · obtain ⟨a1, a2, a3, a4, a5⟩ := ih y.f0 h.2 x e
      exact ⟨a1, a2, a3, a4, by have := h.1.1; omega⟩
theorem good_mem {l : List S45} (h : goodB l = true) : ∀ x ∈ l, 0 ≤ x.f2 ∧ x.f2 ≤ x.f1 ∧ moneyP x.f1 ∧ x.f0 < 2880 ∧ -1 < x.f0 := by
  unfold goodB at h
  rw [Bool.and_eq_true] at h
  exact gdB_mem l (-1) h.2
/-! ### What is alike -/
theorem ints_l0 (l : List Int) (hl : l.length ≤ 100000) : ∀ (d k j : Nat), j + d = l.length → d < k → annuitykeep_Ints.l0 k l l (j : Int) = some true := by
  intro d
  induction d with
  | zero =>
    intro k j hj hk
    obtain ⟨k, rfl⟩ : ∃ m, k = m + 1 := ⟨k - 1, by omega⟩
    simp only [annuitykeep_Ints.l0]; rw [if_neg (by omega)]
  | succ d ih =>
    intro k j hj hk
    obtain ⟨k, rfl⟩ : ∃ m, k = m + 1 := ⟨k - 1, by omega⟩
    simp only [annuitykeep_Ints.l0]
    rw [if_pos (by omega), if_pos (by omega), if_pos (by omega), if_pos trivial, w64 (e := (j : Int) + 1) (by omega) (by omega), show (j : Int) + 1 = ((j + 1 : Nat) : Int) by omega]
    exact ih k (j + 1) (by omega) (by omega)
theorem ints_same (l : List Int) (k : Nat) (hl : l.length ≤ 100) (hk : 200 ≤ k) : annuitykeep_Ints.f k l l = some true := by
  unfold annuitykeep_Ints.f
  rw [if_pos rfl]
  exact ints_l0 l (by omega) l.length k 0 (by omega) (by omega)
theorem bill_same (x0 x1 x2 x3 x4 : Int) (x5 : List Int) (k : Nat) (hl : x5.length ≤ 100) (hk : 200 ≤ k) : annuitykeep_Bill.f k x0 x1 x2 x3 x4 x5 x0 x1 x2 x3 x4 x5 = some true := by
  unfold annuitykeep_Bill.f
  rw [if_pos rfl, if_pos rfl, if_pos rfl, if_pos rfl, if_pos rfl, ints_same x5 k hl hk]
  rfl
theorem bills_l0 (l : List S45) (hl : l.length ≤ 4000) (hf : ∀ x ∈ l, x.f5.length ≤ 100) : ∀ (d k j : Nat), j + d = l.length → d + 300 < k → annuitykeep_Bills.l0 k l l (j : Int) = some true := by
  intro d
  induction d with
  | zero =>
    intro k j hj hk
    obtain ⟨k, rfl⟩ : ∃ m, k = m + 1 := ⟨k - 1, by omega⟩
    simp only [annuitykeep_Bills.l0]; rw [if_neg (by omega)]
  | succ d ih =>
    intro k j hj hk
    obtain ⟨k, rfl⟩ : ∃ m, k = m + 1 := ⟨k - 1, by omega⟩
    simp only [annuitykeep_Bills.l0]
    rw [if_pos (by omega), if_pos (by omega), if_pos (by omega), bill_same _ _ _ _ _ _ k (hf _ (rdT_mem l j (by omega))) (by omega)]
    simp only [obind]
    rw [if_pos trivial, w64 (e := (j : Int) + 1) (by omega) (by omega), show (j : Int) + 1 = ((j + 1 : Nat) : Int) by omega]
    exact ih k (j + 1) (by omega) (by omega)
theorem bills_same (l : List S45) (k : Nat) (hl : l.length ≤ 4000) (hf : ∀ x ∈ l, x.f5.length ≤ 100) (hk : 5000 ≤ k) : annuitykeep_Bills.f k l l = some true := by
  unfold annuitykeep_Bills.f
  rw [if_pos rfl]
  exact bills_l0 l hl hf l.length k 0 (by omega) (by omega)
/-! ### Issue -/
/-- The last bill's month. -/
def lastM (l : List S45) : Int := if l.length = 0 then -1 else (rd_T45 l ((l.length : Int) - 1)).f0
/-- What Issue tells. -/
def issS (l : List S45) (month amount ahead plan : Int) (loans : List Int) : List S45 × Int × Int :=
  if goodB l = false then ([], 0, 11) else if month < 0 ∨ 2880 ≤ month ∨ (0 < l.length ∧ month ≤ lastM l) ∨ ¬ moneyP amount ∨ ¬ moneyP ahead then ([], 0, 1) else
    (l ++ [⟨month, amount, amount - mn amount ahead, if amount - mn amount ahead = 0 then st month.toNat else -1, plan, loans⟩], ahead - mn amount ahead, 0)
theorem iss_j0 (l : List S45) (k : Nat) (month amount ahead plan day : Int) (loans : List Int) (hl : l.length ≤ 4000) (hf : ∀ x ∈ l, x.f5.length ≤ 100) (hlo : loans.length ≤ 100) (h1 : moneyP amount) (h2 : moneyP ahead) :
    bill_Issue.j0 (k + 1) l month amount ahead plan loans day false = some (l ++ [⟨month, amount, amount - mn amount ahead, if amount - mn amount ahead = 0 then day else -1, plan, loans⟩], ahead - mn amount ahead, 0) := by
  unfold moneyP at h1 h2
  have m1 : mx (wrap64 (amount - ahead)) 0 = amount - mn amount ahead := by rw [w64 (by omega) (by omega)]; unfold mx mn; split <;> split <;> omega
  have m2 : mx (wrap64 (ahead - amount)) 0 = ahead - mn amount ahead := by rw [w64 (by omega) (by omega)]; unfold mx mn; split <;> split <;> omega
  simp only [bill_Issue.j0]
  rw [if_neg (by simp), clone_is loans k hlo]
  simp only [obind]
  rw [m1, m2, copied_is l k hl hf]
  simp only [obind, List.length_singleton]
  have hb : l.length + 1 < 2199023255552 := by omega
  by_cases c : amount - mn amount ahead = 0
  · rw [if_pos c, if_pos hb, if_pos c]
  · rw [if_neg c, if_pos hb, if_neg c]
theorem issue_is (l : List S45) (k : Nat) (month amount ahead plan : Int) (loans : List Int) (hl : l.length ≤ 2000) (hf : ∀ x ∈ l, x.f5.length ≤ 100) (hlo : loans.length ≤ 100) (hk : 9010 ≤ k) :
    bill_Issue.f k l month amount ahead plan loans = some (issS l month amount ahead plan loans) := by
  obtain ⟨k, rfl⟩ : ∃ m, k = m + 1 := ⟨k - 1, by omega⟩
  have e0 : ∀ d, bill_Issue.j0 (k + 1) l month amount ahead plan loans d true = some ([], 0, 1) := fun d => by simp only [bill_Issue.j0, if_true]
  unfold bill_Issue.f issS
  by_cases mb : month < 0 ∨ 2880 ≤ month
  · rw [date_First_no month _ mb]
    simp only [obind]
    rw [good_is l _ (by omega)]
    simp only [obind]
    cases hg : goodB l with
    | false => rw [if_neg (by simp), if_pos rfl]
    | true => rw [if_pos rfl, if_neg (by omega), if_neg (by simp), if_pos (by omega), e0]
  obtain ⟨m, rfl⟩ : ∃ m : Nat, month = m := ⟨month.toNat, by omega⟩
  rw [date_First_ok m _ (by omega) (by omega)]
  simp only [obind]
  rw [good_is l _ (by omega)]
  simp only [obind]
  cases hg : goodB l with
  | false => rw [if_neg (by simp), if_pos rfl]
  | true =>
    rw [if_pos rfl, if_pos trivial, if_neg (show ¬ (true = false) by simp)]
    have F : ((bill_cents.f amount).bind fun t => (if t = true then ((bill_cents.f ahead).bind fun t2 => (bill_Issue.j0 (k + 1) l m amount ahead plan loans (st m) (!t2))) else (bill_Issue.j0 (k + 1) l m amount ahead plan loans (st m) true))) =
        some (if ¬ moneyP amount ∨ ¬ moneyP ahead then ([], 0, 1) else (l ++ [⟨m, amount, amount - mn amount ahead, if amount - mn amount ahead = 0 then st m else -1, plan, loans⟩], ahead - mn amount ahead, 0)) := by
      rw [cents_is, cents_is]
      simp only [obind]
      by_cases h1 : moneyP amount
      · rw [decide_eq_true h1, if_pos rfl]
        by_cases h2 : moneyP ahead
        · rw [decide_eq_true h2, if_neg (by simp [h1, h2])]
          exact iss_j0 l k m amount ahead plan (st m) loans (by omega) hf hlo h1 h2
        · rw [decide_eq_false h2, if_pos (.inr h2)]
          exact e0 _
      · rw [decide_eq_false h1, if_neg (by simp), if_pos (.inl h1), e0]
    rw [Int.toNat_natCast]
    by_cases z : l.length = 0
    · rw [if_neg (by omega), F]
      congr 1
      by_cases h : ¬ moneyP amount ∨ ¬ moneyP ahead
      · rw [if_pos h, if_pos (.inr (.inr (.inr h)))]
      · have hn : ¬ ((m : Int) < 0 ∨ 2880 ≤ (m : Int) ∨ (0 < l.length ∧ (m : Int) ≤ lastM l) ∨ ¬ moneyP amount ∨ ¬ moneyP ahead) := by
          rintro (h1 | h1 | h1 | h1)
          · omega
          · omega
          · omega
          · exact h h1
        rw [if_neg h, if_neg hn]
    · have eL : lastM l = (rd_T45 l ((l.length : Int) - 1)).f0 := by unfold lastM; rw [if_neg z]
      rw [if_pos (by omega), w64 (e := (l.length : Int) - 1) (by omega) (by omega), if_pos (by omega), if_pos (by omega), ← eL]
      by_cases c : lastM l ≥ m
      · rw [if_pos c, e0, if_pos (.inr (.inr (.inl ⟨by omega, c⟩)))]
      · rw [if_neg c, F]
        congr 1
        by_cases h : ¬ moneyP amount ∨ ¬ moneyP ahead
        · rw [if_pos h, if_pos (.inr (.inr (.inr h)))]
        · have hn : ¬ ((m : Int) < 0 ∨ 2880 ≤ (m : Int) ∨ (0 < l.length ∧ (m : Int) ≤ lastM l) ∨ ¬ moneyP amount ∨ ¬ moneyP ahead) := by
            rintro (h1 | h1 | h1 | h1)
            · omega
            · omega
            · exact c h1.2
            · exact h h1
          rw [if_neg h, if_neg hn]
theorem riss_j0 (l : List S45) (k m : Nat) (amount ahead plan : Int) (loans : List Int) (hl : l.length ≤ 4000) (hf : ∀ x ∈ l, x.f5.length ≤ 100) (hlo : loans.length ≤ 100) (h1 : moneyP amount) (h2 : moneyP ahead) (hm : m < 2880) (hk : 4100 ≤ k) :
    annuityref19_Issue.j0 (k + 1) l m amount ahead plan loans false = some (l ++ [⟨m, amount, amount - mn amount ahead, if amount - mn amount ahead = 0 then st m else -1, plan, loans⟩], ahead - mn amount ahead, 0) := by
  unfold moneyP at h1 h2
  have m0 : 0 ≤ mn amount ahead ∧ mn amount ahead ≤ 10000000000000 := by unfold mn; split <;> omega
  simp only [annuityref19_Issue.j0]
  rw [if_neg (by simp)]
  simp only [obind, List.nil_append, List.length_nil]
  rw [if_pos (by omega), w64 (e := amount - mn amount ahead) (by omega) (by omega), w64 (e := ahead - mn amount ahead) (by omega) (by omega), copy_is l k hl hf (by omega), ref_First_ok m k hm (by omega)]
  simp only [obind, List.length_singleton]
  have hb : l.length + 1 < 2199023255552 := by omega
  by_cases c : amount - mn amount ahead = 0
  · rw [if_pos c, if_pos hb, if_pos c]
  · rw [if_neg c, if_pos hb, if_neg c]
theorem rissue_is (l : List S45) (k : Nat) (month amount ahead plan : Int) (loans : List Int) (hl : l.length ≤ 2000) (hf : ∀ x ∈ l, x.f5.length ≤ 100) (hlo : loans.length ≤ 100) (hk : 9010 ≤ k) :
    annuityref19_Issue.f k l month amount ahead plan loans = some (issS l month amount ahead plan loans) := by
  obtain ⟨k, rfl⟩ : ∃ m, k = m + 1 := ⟨k - 1, by omega⟩
  have e0 : annuityref19_Issue.j0 (k + 1) l month amount ahead plan loans true = some ([], 0, 1) := by simp only [annuityref19_Issue.j0, if_true]
  unfold annuityref19_Issue.f issS
  rw [rgood_is l _ (by omega)]
  simp only [obind]
  cases hg : goodB l with
  | false => rw [if_neg (by simp), if_pos rfl]
  | true =>
    rw [if_pos rfl, if_neg (show ¬ (true = false) by simp)]
    by_cases m0 : month < 0
    · rw [if_pos m0, e0, if_pos (.inl m0)]
    rw [if_neg m0]
    by_cases m1 : month > 2879
    · rw [if_pos m1, e0, if_pos (.inr (.inl (by omega)))]
    rw [if_neg m1]
    obtain ⟨m, rfl⟩ : ∃ m : Nat, month = m := ⟨month.toNat, by omega⟩
    rw [Int.toNat_natCast]
    have F : ((annuityref19_money.f amount).bind fun t => (if t = true then ((annuityref19_money.f ahead).bind fun t2 => (annuityref19_Issue.j0 (k + 1) l m amount ahead plan loans (!t2))) else (annuityref19_Issue.j0 (k + 1) l m amount ahead plan loans true))) =
        some (if ¬ moneyP amount ∨ ¬ moneyP ahead then ([], 0, 1) else (l ++ [⟨m, amount, amount - mn amount ahead, if amount - mn amount ahead = 0 then st m else -1, plan, loans⟩], ahead - mn amount ahead, 0)) := by
      rw [rcents_is, rcents_is]
      simp only [obind]
      by_cases h1 : moneyP amount
      · rw [decide_eq_true h1, if_pos rfl]
        by_cases h2 : moneyP ahead
        · rw [decide_eq_true h2, if_neg (by simp [h1, h2])]
          exact riss_j0 l k m amount ahead plan loans (by omega) hf hlo h1 h2 (by omega) (by omega)
        · rw [decide_eq_false h2, if_pos (.inr h2)]
          exact e0
      · rw [decide_eq_false h1, if_neg (by simp), if_pos (.inl h1), e0]
    by_cases z : l.length = 0
    · rw [if_neg (by omega), F]
      congr 1
      by_cases h : ¬ moneyP amount ∨ ¬ moneyP ahead
      · rw [if_pos h, if_pos (.inr (.inr (.inr h)))]
      · have hn : ¬ ((m : Int) < 0 ∨ 2880 ≤ (m : Int) ∨ (0 < l.length ∧ (m : Int) ≤ lastM l) ∨ ¬ moneyP amount ∨ ¬ moneyP ahead) := by
          rintro (h1 | h1 | h1 | h1)
          · omega
          · omega
          · omega
          · exact h h1
        rw [if_neg h, if_neg hn]
    · have eL : lastM l = (rd_T45 l ((l.length : Int) - 1)).f0 := by unfold lastM; rw [if_neg z]
      rw [if_pos (by omega), w64 (e := (l.length : Int) - 1) (by omega) (by omega), if_pos (by omega), if_pos (by omega), ← eL]
      by_cases c : (m : Int) ≤ lastM l
      · rw [if_pos c, e0, if_pos (.inr (.inr (.inl ⟨by omega, c⟩)))]
      · rw [if_neg c, F]
        congr 1
        by_cases h : ¬ moneyP amount ∨ ¬ moneyP ahead
        · rw [if_pos h, if_pos (.inr (.inr (.inr h)))]
        · have hn : ¬ ((m : Int) < 0 ∨ 2880 ≤ (m : Int) ∨ (0 < l.length ∧ (m : Int) ≤ lastM l) ∨ ¬ moneyP amount ∨ ¬ moneyP ahead) := by
            rintro (h1 | h1 | h1 | h1)
            · omega
            · omega
            · exact c h1.2
            · exact h h1
          rw [if_neg h, if_neg hn]
theorem issS_small (l : List S45) (month amount ahead plan : Int) (loans : List Int) (hl : l.length ≤ 2000) (hf : ∀ x ∈ l, x.f5.length ≤ 100) (hlo : loans.length ≤ 100) :
    (issS l month amount ahead plan loans).1.length ≤ 2001 ∧ ∀ x ∈ (issS l month amount ahead plan loans).1, x.f5.length ≤ 100 := by
  unfold issS
  split
  · exact ⟨by simp, fun x hx => by simp at hx⟩
  · split
    · exact ⟨by simp, fun x hx => by simp at hx⟩
    · refine ⟨by simp; omega, fun x hx => ?_⟩
      rcases List.mem_append.1 hx with h | h
      · exact hf x h
      · obtain rfl := List.mem_singleton.1 h; exact hlo
/-! ### Credit -/
/-- What Credit tells. -/
def credS (l : List S45) (amount day : Int) : List S45 × Int × Int :=
  if goodB l = false then ([], 0, 11) else if ¬ moneyP amount ∨ ¬ (0 ≤ day ∧ day ≤ 87658) then ([], 0, 1) else ((creS day l amount).1, (creS day l amount).2, 0)
theorem credit_is (l : List S45) (k : Nat) (amount day : Int) (hl : l.length ≤ 2001) (hf : ∀ x ∈ l, x.f5.length ≤ 100) (hk : 9000 ≤ k) : bill_Credit.f k l amount day = some (credS l amount day) := by
  unfold bill_Credit.f credS
  rw [good_is l k hk]
  simp only [obind]
  cases hg : goodB l with
  | false => rw [if_neg (by simp), if_pos rfl]
  | true =>
    rw [if_pos rfl, if_neg (by simp), cents_is]
    simp only [obind]
    by_cases h1 : moneyP amount
    · rw [decide_eq_true h1, if_pos rfl, date_Good_is]
      simp only [obind]
      by_cases h2 : 0 ≤ day ∧ day ≤ 87658
      · rw [decide_eq_true h2, if_pos rfl, copied_is l k (by omega) hf, if_neg (by simp [h1, h2])]
        rfl
      · rw [decide_eq_false h2, if_neg (by simp), if_pos (.inr h2)]
    · rw [decide_eq_false h1, if_neg (by simp), if_pos (.inl h1)]
theorem creS_none (day : Int) : ∀ (l : List S45), (∀ x ∈ l, 0 ≤ x.f2) → creS day l 0 = (l, 0) := by
  intro l
  induction l with
  | nil => intro _; rfl
  | cons x l ih =>
    intro h
    rw [creS]
    by_cases c : x.f2 = 0
    · rw [if_pos c, ih (fun y hy => h y (List.mem_cons_of_mem _ hy))]
    · rw [if_neg c, if_pos rfl]
theorem mnc (a b : Int) : mn a b = mn b a := by unfold mn; split <;> split <;> omega
theorem rcred_l0 (day : Int) (R : List S45 × Int) : ∀ (d k j : Nat) (L : List S45) (a : Int), j + d = L.length → d < k → L.length ≤ 4000 → (∀ x ∈ L, 0 ≤ x.f2 ∧ x.f2 ≤ 10000000000000) → 0 ≤ a → a ≤ 10000000000000 → creAt day L j a R →
    annuityref19_Credit.l0 k a day L (j : Int) = some (R.1, R.2, 0) := by
  intro d
  induction d with
  | zero =>
    intro k j L a hj hk hn hb h0 h1 hR
    obtain ⟨k, rfl⟩ : ∃ m, k = m + 1 := ⟨k - 1, by omega⟩
    obtain rfl : j = L.length := by omega
    simp only [annuityref19_Credit.l0]
    rw [if_neg (by omega), creAt_end hR]
  | succ d ih =>
    intro k j L a hj hk hn hb h0 h1 hR
    obtain ⟨k, rfl⟩ : ∃ m, k = m + 1 := ⟨k - 1, by omega⟩
    have hjl : j < L.length := by omega
    have bx := hb _ (rdT_mem L j hjl)
    simp only [annuityref19_Credit.l0]
    rw [if_pos (by omega), if_pos (by omega), w64 (e := (j : Int) + 1) (by omega) (by omega), show (j : Int) + 1 = ((j + 1 : Nat) : Int) by omega]
    by_cases z : (rd_T45 L (j : Int)).f2 = 0
    · rw [if_pos z]
      exact ih k (j + 1) L a (by omega) (by omega) hn hb h0 h1 (creAt_skip hR hjl z)
    rw [if_neg z, mnc a]
    have mb : 0 ≤ mn (rd_T45 L (j : Int)).f2 a ∧ mn (rd_T45 L (j : Int)).f2 a ≤ (rd_T45 L (j : Int)).f2 ∧ mn (rd_T45 L (j : Int)).f2 a ≤ a := by unfold mn; split <;> omega
    simp only [obind]
    rw [Int.toNat_natCast, w64 (e := a - mn (rd_T45 L (j : Int)).f2 a) (by omega) (by omega), w64 (e := (rd_T45 L (j : Int)).f2 - mn (rd_T45 L (j : Int)).f2 a) (by omega) (by omega)]
    have g1 : ∀ y : S45, rd_T45 (L.set j y) (j : Int) = y := fun y => by unfold rd_T45; simp [List.getD_eq_getElem?_getD, hjl]
    rw [g1]
    by_cases ca : a = 0
    · subst ca
      have e0 : mn (rd_T45 L (j : Int)).f2 0 = 0 := by unfold mn; split <;> omega
      have hE := creAt_break hR hjl z
      subst hE
      rw [e0, Int.sub_zero, if_neg z]
      have same : L.set j (⟨(rd_T45 L (j : Int)).f0, (rd_T45 L (j : Int)).f1, (rd_T45 L (j : Int)).f2, (rd_T45 L (j : Int)).f3, (rd_T45 L (j : Int)).f4, (rd_T45 L (j : Int)).f5⟩ : S45) = L := by
        have : rd_T45 L (j : Int) = L[j] := by unfold rd_T45; simp [List.getD_eq_getElem?_getD, hjl]
        rw [this]; exact List.set_getElem_self hjl
      rw [same]
      refine ih k (j + 1) L (0 - 0) (by omega) (by omega) hn hb (by omega) (by omega) ?_
      have := creS_none day (L.drop (j + 1)) (fun x hx => (hb x (List.mem_of_mem_drop hx)).1)
      unfold creAt
      rw [show (0 : Int) - 0 = 0 from rfl, this]
      exact ⟨List.take_append_drop _ _, rfl⟩
    have S := creAt_step hR hjl z ca
    rw [w64 (e := a - mn (rd_T45 L (j : Int)).f2 a) (by omega) (by omega), w64 (e := (rd_T45 L (j : Int)).f2 - mn (rd_T45 L (j : Int)).f2 a) (by omega) (by omega)] at S
    have hb2 : ∀ y : S45, 0 ≤ y.f2 ∧ y.f2 ≤ 10000000000000 → ∀ x ∈ L.set j y, 0 ≤ x.f2 ∧ x.f2 ≤ 10000000000000 := fun y hy x hx => by
      rcases List.mem_or_eq_of_mem_set hx with h | h
      · exact hb x h
      · rw [h]; exact hy
    by_cases cy : (rd_T45 L (j : Int)).f2 - mn (rd_T45 L (j : Int)).f2 a = 0
    · rw [if_pos cy] at S ⊢
      rw [List.set_set]
      refine ih k (j + 1) _ _ (by rw [List.length_set]; omega) (by omega) (by rw [List.length_set]; exact hn) (hb2 _ ⟨?_, ?_⟩) (by omega) (by omega) S
      · show 0 ≤ (rd_T45 L (j : Int)).f2 - mn (rd_T45 L (j : Int)).f2 a; omega
      · show (rd_T45 L (j : Int)).f2 - mn (rd_T45 L (j : Int)).f2 a ≤ _; omega
    · rw [if_neg cy] at S ⊢
      refine ih k (j + 1) _ _ (by rw [List.length_set]; omega) (by omega) (by rw [List.length_set]; exact hn) (hb2 _ ⟨?_, ?_⟩) (by omega) (by omega) S
      · show 0 ≤ (rd_T45 L (j : Int)).f2 - mn (rd_T45 L (j : Int)).f2 a; omega
      · show (rd_T45 L (j : Int)).f2 - mn (rd_T45 L (j : Int)).f2 a ≤ _; omega
theorem rcredit_is (l : List S45) (k : Nat) (amount day : Int) (hl : l.length ≤ 2001) (hf : ∀ x ∈ l, x.f5.length ≤ 100) (hk : 9000 ≤ k) : annuityref19_Credit.f k l amount day = some (credS l amount day) := by
  obtain ⟨k, rfl⟩ : ∃ m, k = m + 1 := ⟨k - 1, by omega⟩
  have e0 : annuityref19_Credit.j0 (k + 1) l amount day true = some ([], 0, 1) := by simp only [annuityref19_Credit.j0, if_true]
  unfold annuityref19_Credit.f credS
  rw [rgood_is l _ (by omega)]
  simp only [obind]
  cases hg : goodB l with
  | false => rw [if_neg (by simp), if_pos rfl]
  | true =>
    rw [if_pos rfl, if_neg (by simp), rcents_is]
    simp only [obind]
    by_cases h1 : moneyP amount
    · rw [decide_eq_true h1, if_pos rfl, ref_Good_is]
      simp only [obind]
      by_cases h2 : 0 ≤ day ∧ day ≤ 87658
      · rw [decide_eq_true h2, if_neg (by simp [h1, h2])]
        simp only [annuityref19_Credit.j0]
        rw [if_neg (by simp), copy_is l k (by omega) hf (by omega)]
        simp only [obind]
        exact rcred_l0 day (creS day l amount) l.length k 0 l amount (by omega) (by omega) (by omega) (fun x hx => by have := good_mem hg x hx; unfold moneyP at this; omega) h1.1 h1.2 ⟨by rw [List.drop_zero]; rfl, by rw [List.drop_zero]⟩
      · rw [decide_eq_false h2, if_pos (.inr h2)]
        exact e0
    · rw [decide_eq_false h1, if_neg (by simp), if_pos (.inl h1), e0]
theorem creS_small (day : Int) : ∀ (l : List S45) (a : Int), (creS day l a).1.length = l.length ∧ ((∀ x ∈ l, x.f5.length ≤ 100) → ∀ x ∈ (creS day l a).1, x.f5.length ≤ 100) := by
  intro l
  induction l with
  | nil => intro a; exact ⟨rfl, fun _ x hx => by simp [creS] at hx⟩
  | cons x l ih =>
    intro a
    rw [creS]
    by_cases c : x.f2 = 0
    · rw [if_pos c]
      refine ⟨by simp [(ih a).1], fun h y hy => ?_⟩
      rcases List.mem_cons.1 hy with e | e
      · rw [e]; exact h x (List.mem_cons_self ..)
      · exact (ih a).2 (fun z hz => h z (List.mem_cons_of_mem _ hz)) y e
    · rw [if_neg c]
      by_cases ca : a = 0
      · rw [if_pos ca]; exact ⟨rfl, fun h => h⟩
      · rw [if_neg ca]
        refine ⟨by simp [(ih _).1], fun h y hy => ?_⟩
        rcases List.mem_cons.1 hy with e | e
        · rw [e]; exact h x (List.mem_cons_self ..)
        · exact (ih _).2 (fun z hz => h z (List.mem_cons_of_mem _ hz)) y e
theorem credS_small (l : List S45) (amount day : Int) (hl : l.length ≤ 2001) (hf : ∀ x ∈ l, x.f5.length ≤ 100) : (credS l amount day).1.length ≤ 2001 ∧ ∀ x ∈ (credS l amount day).1, x.f5.length ≤ 100 := by
  unfold credS
  split
  · exact ⟨by simp, fun x hx => by simp at hx⟩
  · split
    · exact ⟨by simp, fun x hx => by simp at hx⟩
    · have := creS_small day l amount
      exact ⟨by rw [this.1]; exact hl, this.2 hf⟩
/-! ### Open, Late, Find -/
theorem ropen_l0 (l : List S45) (hl : l.length ≤ 2001) (hg : goodB l = true) : ∀ (d k j : Nat), j + d = l.length → 2 * d + 3 < k → annuityref19_Open.l0 k l (j : Int) = some (idxB (fun x => decide (x.f2 > 0)) (l.drop j) j) := by
  intro d
  induction d with
  | zero =>
    intro k j hj hk
    obtain ⟨k, rfl⟩ : ∃ m, k = m + 1 + 1 := ⟨k - 2, by omega⟩
    simp only [annuityref19_Open.l0]
    rw [rgood_is l _ (by omega), hg]
    simp only [obind, if_true, annuityref19_Open.j1]
    rw [decide_eq_false (by omega), if_neg (by simp), List.drop_of_length_le (by omega)]
    rfl
  | succ d ih =>
    intro k j hj hk
    obtain ⟨k, rfl⟩ : ∃ m, k = m + 1 + 1 := ⟨k - 2, by omega⟩
    simp only [annuityref19_Open.l0]
    rw [rgood_is l _ (by omega), hg]
    simp only [obind, if_true, annuityref19_Open.j1]
    rw [decide_eq_true (show (j : Int) < (l.length : Int) by omega), if_pos rfl, if_pos (by omega), if_pos (by omega), rdT_at l j (by omega), idxB]
    by_cases c : (rd_T45 l (j : Int)).f2 > 0
    · rw [if_pos c, if_pos (decide_eq_true c)]
    · rw [if_neg c, if_neg (by simpa using c), w64 (e := (j : Int) + 1) (by omega) (by omega), show (j : Int) + 1 = ((j + 1 : Nat) : Int) by omega]
      exact ih k (j + 1) (by omega) (by omega)
/-- Where the first bill stands with something left. -/
def openS (l : List S45) : Int := if goodB l = true then idxB (fun x => decide (x.f2 > 0)) l 0 else -1
theorem open_is (l : List S45) (k : Nat) (hk : 9000 ≤ k) : bill_Open.f k l = some (openS l) := by
  unfold bill_Open.f openS
  rw [good_is l k hk]
  simp only [obind]
  cases goodB l <;> simp
theorem ropen_is (l : List S45) (k : Nat) (hl : l.length ≤ 2001) (hk : 9000 ≤ k) : annuityref19_Open.f k l = some (openS l) := by
  unfold annuityref19_Open.f openS
  cases hg : goodB l with
  | true =>
    rw [if_pos rfl]
    exact ropen_l0 l hl hg l.length k 0 (by omega) (by omega)
  | false =>
    obtain ⟨k, rfl⟩ : ∃ m, k = m + 1 + 1 := ⟨k - 2, by omega⟩
    simp only [annuityref19_Open.l0]
    rw [rgood_is l _ (by omega), hg]
    simp only [obind]
    rw [if_neg (by simp), if_neg (by simp)]
    simp only [annuityref19_Open.j1]
    rw [if_neg (by simp)]
theorem open_bd (l : List S45) : openS l < 0 ∨ ∃ q : Nat, openS l = q ∧ q < l.length ∧ goodB l = true := by
  unfold openS
  cases hg : goodB l with
  | false => left; simp
  | true =>
    rw [if_pos rfl]
    rcases idxB_bd (fun x => decide (x.f2 > 0)) l 0 with h | ⟨q, h1, _, h2⟩
    · exact .inl h
    · exact .inr ⟨q, h1, by omega, rfl⟩
/-- How late. -/
def lateS (l : List S45) (day : Int) : Int := if openS l < 0 ∨ ¬ (0 ≤ day ∧ day ≤ 87658) then 0 else mx (wrap64 (day - st (rd_T45 l (openS l)).f0.toNat)) 0
theorem late_is (l : List S45) (k : Nat) (day : Int) (hk : 9000 ≤ k) : bill_Late.f k l day = some (lateS l day) := by
  unfold bill_Late.f lateS
  rw [open_is l k hk]
  simp only [obind]
  rcases open_bd l with h | ⟨q, h1, h2, h3⟩
  · rw [if_pos h, if_pos (.inl h)]
  · rw [h1, if_neg (by omega), date_Good_is]
    simp only [obind]
    by_cases d : 0 ≤ day ∧ day ≤ 87658
    · have gm := good_mem h3 _ (rdT_mem l q h2)
      obtain ⟨m, hm⟩ : ∃ m : Nat, (rd_T45 l (q : Int)).f0 = m := ⟨(rd_T45 l (q : Int)).f0.toNat, by omega⟩
      rw [decide_eq_true d, if_pos rfl, if_pos (by omega), if_pos (by omega), if_neg (by omega), hm, date_First_ok m k (by omega) (by omega), Int.toNat_natCast]
      rfl
    · rw [decide_eq_false d, if_neg (by simp), if_pos (.inr d)]
theorem rlate_is (l : List S45) (k : Nat) (day : Int) (hl : l.length ≤ 2001) (hk : 9000 ≤ k) : annuityref19_Late.f k l day = some (lateS l day) := by
  unfold annuityref19_Late.f lateS
  rw [ropen_is l k hl hk]
  simp only [obind]
  rcases open_bd l with h | ⟨q, h1, h2, h3⟩
  · rw [if_pos h, if_pos (.inl h)]
  · rw [h1, if_neg (by omega), ref_Good_is]
    simp only [obind]
    by_cases d : 0 ≤ day ∧ day ≤ 87658
    · have gm := good_mem h3 _ (rdT_mem l q h2)
      obtain ⟨m, hm⟩ : ∃ m : Nat, (rd_T45 l (q : Int)).f0 = m := ⟨(rd_T45 l (q : Int)).f0.toNat, by omega⟩
      rw [decide_eq_true d, if_pos rfl, if_pos (by omega), if_pos (by omega), if_neg (by omega), hm, ref_First_ok m k (by omega) (by omega), Int.toNat_natCast]
      simp only [obind]
      congr 1
      unfold mx; split <;> split <;> omega
    · rw [decide_eq_false d, if_neg (by simp), if_pos (.inr d)]
/-- A month's bill. -/
def findS (l : List S45) (m : Int) : Int × Int × Int × Int × Int × List Int × Bool :=
  if idxB (fun x => decide (x.f0 = m)) l 0 < 0 ∨ goodB l = false then (0, 0, 0, 0, 0, [], false) else
    ((rd_T45 l (idxB (fun x => decide (x.f0 = m)) l 0)).f0, (rd_T45 l (idxB (fun x => decide (x.f0 = m)) l 0)).f1, (rd_T45 l (idxB (fun x => decide (x.f0 = m)) l 0)).f2, (rd_T45 l (idxB (fun x => decide (x.f0 = m)) l 0)).f3, (rd_T45 l (idxB (fun x => decide (x.f0 = m)) l 0)).f4, (rd_T45 l (idxB (fun x => decide (x.f0 = m)) l 0)).f5, true)
theorem find_is (l : List S45) (k : Nat) (m : Int) (hl : l.length ≤ 2001) (hf : ∀ x ∈ l, x.f5.length ≤ 100) (hk : 9000 ≤ k) : bill_Find.f k l m = some (findS l m) := by
  unfold bill_Find.f findS
  rcases idxB_bd (fun x => decide (x.f0 = m)) l 0 with h | ⟨q, h1, _, h2⟩
  · rw [if_pos h, if_pos (by omega), if_pos (.inl h)]
  · rw [h1, if_neg (by omega), good_is l k hk]
    simp only [obind]
    cases hg : goodB l with
    | false => rw [if_neg (by simp), if_pos (by omega), if_pos (.inr rfl)]
    | true =>
      rw [if_pos rfl, clone_is _ k (hf _ (rdT_mem l q (by omega))), if_neg]
      · rfl
      · rintro (h | h)
        · omega
        · cases h
theorem rfind_l0 (l : List S45) (m : Int) (hl : l.length ≤ 2001) (hg : goodB l = true) : ∀ (d k j : Nat), j + d = l.length → 2 * d + 3 < k → annuityref19_Find.l0 k l m (j : Int) =
    some (if idxB (fun x => decide (x.f0 = m)) (l.drop j) j < 0 then (0, 0, 0, 0, 0, [], false) else
    ((rd_T45 l (idxB (fun x => decide (x.f0 = m)) (l.drop j) j)).f0, (rd_T45 l (idxB (fun x => decide (x.f0 = m)) (l.drop j) j)).f1, (rd_T45 l (idxB (fun x => decide (x.f0 = m)) (l.drop j) j)).f2, (rd_T45 l (idxB (fun x => decide (x.f0 = m)) (l.drop j) j)).f3, (rd_T45 l (idxB (fun x => decide (x.f0 = m)) (l.drop j) j)).f4, (rd_T45 l (idxB (fun x => decide (x.f0 = m)) (l.drop j) j)).f5, true)) := by
  intro d
  induction d with
  | zero =>
    intro k j hj hk
    obtain ⟨k, rfl⟩ : ∃ m, k = m + 1 + 1 := ⟨k - 2, by omega⟩
    simp only [annuityref19_Find.l0]
    rw [rgood_is l _ (by omega), hg]
    simp only [obind, if_true, annuityref19_Find.j1]
    rw [decide_eq_false (by omega), if_neg (by simp), List.drop_of_length_le (by omega)]
    rfl
  | succ d ih =>
    intro k j hj hk
    obtain ⟨k, rfl⟩ : ∃ m, k = m + 1 + 1 := ⟨k - 2, by omega⟩
    simp only [annuityref19_Find.l0]
    rw [rgood_is l _ (by omega), hg]
    simp only [obind, if_true, annuityref19_Find.j1]
    rw [decide_eq_true (show (j : Int) < (l.length : Int) by omega), if_pos rfl, if_pos (by omega), if_pos (by omega), rdT_at l j (by omega)]
    by_cases c : (rd_T45 l (j : Int)).f0 = m
    · have e : idxB (fun x => decide (x.f0 = m)) (rd_T45 l (j : Int) :: l.drop (j + 1)) j = (j : Int) := by rw [idxB, if_pos (decide_eq_true c)]
      rw [if_pos c, e, if_neg (by omega)]
    · have e : idxB (fun x => decide (x.f0 = m)) (rd_T45 l (j : Int) :: l.drop (j + 1)) j = idxB (fun x => decide (x.f0 = m)) (l.drop (j + 1)) (j + 1) := by rw [idxB, if_neg (by simpa using c)]
      rw [if_neg c, e, w64 (e := (j : Int) + 1) (by omega) (by omega), show (j : Int) + 1 = ((j + 1 : Nat) : Int) by omega]
      exact ih k (j + 1) (by omega) (by omega)
theorem rfind_is (l : List S45) (k : Nat) (m : Int) (hl : l.length ≤ 2001) (hk : 9000 ≤ k) : annuityref19_Find.f k l m = some (findS l m) := by
  unfold annuityref19_Find.f findS
  cases hg : goodB l with
  | true =>
    have := rfind_l0 l m hl hg l.length k 0 (by omega) (by omega)
    rw [List.drop_zero] at this
    refine this.trans ?_
    congr 1
    by_cases c : idxB (fun x => decide (x.f0 = m)) l 0 < 0
    · rw [if_pos c, if_pos (.inl c)]
    · rw [if_neg c, if_neg (fun h => h.elim c (fun h => by cases h))]
  | false =>
    obtain ⟨k, rfl⟩ : ∃ m, k = m + 1 + 1 := ⟨k - 2, by omega⟩
    simp only [annuityref19_Find.l0]
    rw [rgood_is l _ (by omega), hg]
    simp only [obind]
    rw [if_neg (by simp), if_pos (.inr trivial)]
    simp only [annuityref19_Find.j1]
    rw [if_neg (by simp)]
theorem findS_small (l : List S45) (m : Int) (hf : ∀ x ∈ l, x.f5.length ≤ 100) : (findS l m).2.2.2.2.2.1.length ≤ 100 := by
  unfold findS
  split
  · simp
  · rename_i h
    rcases idxB_bd (fun x => decide (x.f0 = m)) l 0 with h1 | ⟨q, h1, _, h2⟩
    · exact absurd (.inl h1) h
    · rw [h1]; exact hf _ (rdT_mem l q (by omega))
/-! ### The witness -/
theorem st_2 : st 2 = 60 := by decide +kernel
theorem wakes19 (k : Nat) (hk : 9020 ≤ k) : annuitylaw19_wakes.f k = some true := by
  unfold annuitylaw19_wakes.f
  have i1 : issS [] 1 5 0 1 [3] = ([⟨1, 5, 5, -1, 1, [3]⟩], 0, 0) := by kernel_rfl
  have i2 : issS [⟨1, 5, 5, -1, 1, [3]⟩] 2 5 1 1 [] = ([⟨1, 5, 5, -1, 1, [3]⟩, ⟨2, 5, 4, -1, 1, []⟩], 0, 0) := by kernel_rfl
  have c1 : credS [⟨1, 5, 5, -1, 1, [3]⟩, ⟨2, 5, 4, -1, 1, []⟩] 7 40 = ([⟨1, 5, 0, 40, 1, [3]⟩, ⟨2, 5, 2, -1, 1, []⟩], 0, 0) := by kernel_rfl
  rw [issue_is [] k 1 5 0 1 [3] (by simp) (by simp) (by simp) (by omega), i1]
  simp only [obind]
  rw [issue_is _ k 2 5 1 1 [] (by simp) (by simp) (by simp) (by omega), i2]
  simp only [obind]
  rw [credit_is _ k 7 40 (by simp) (by simp) (by omega), c1]
  simp only [obind]
  rw [if_pos trivial, if_pos trivial, if_pos trivial, if_pos trivial, if_pos trivial, if_pos trivial, if_pos (by simp), if_pos (by simp), if_pos (by rfl), if_pos (by rfl), if_pos (by simp), if_pos (by rfl), open_is _ k (by omega),
    show openS [⟨1, 5, 0, 40, 1, [3]⟩, ⟨2, 5, 2, -1, 1, []⟩] = 1 by decide +kernel]
  simp only [obind, if_true]
  rw [late_is _ k 65 (by omega), show lateS [⟨1, 5, 0, 40, 1, [3]⟩, ⟨2, 5, 2, -1, 1, []⟩] 65 = 5 by decide +kernel]
  simp only [obind, if_true]
  rfl
end Go.Proofs.Ytibjbgfphhmogaa.Pure
