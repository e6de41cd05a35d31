/- What the functions of the order come to, in plain words. -/
import Derived.Test.YtjdhhbjnihhncaaZr
import Derived.Test.YtjdhhbjnihhncaaPx4
import Derived.Test.YtjdhhbjnihhncaaPx7
import Derived.Test.YtjdhhbjnihhncaaPx10
import Derived.Test.YtjdhhbjnihhncaaPx11
import Derived.Test.YtjdhhbjnihhncaaPx12
namespace Go.Proofs.Ytjdhhbjnihhncaa.Ord
open Go.RowKit Go.Proofs.Ytjdhhbjnihhncaa.P Go.Proofs.YtjdhhbjnihhncaaW.PrintWords Go.Proofs.YtjdhhbjnihhncaaW.PrintLast
set_option linter.unusedVariables false
set_option linter.unusedSimpArgs false
theorem ob {β γ : Type} (a : β) (f : β → Option γ) : (some a).bind f = f a := rfl
theorem w1 {i : Int} (h1 : 0 ≤ i) (h2 : i < 1000000) : wrap64 (i + 1) = i + 1 := by unfold wrap64; omega
theorem w2 {i : Int} (h1 : 0 ≤ i) (h2 : i < 1000000) : wrap64 (i - 1) = i - 1 := by unfold wrap64; omega
theorem rd_cons {l : List S26} {j : Nat} (h : j < l.length) : l.drop j = rd_T26 l (j : Int) :: l.drop (j + 1) := by
  rw [List.drop_eq_getElem_cons h]; congr 1; unfold rd_T26; simp [List.getD_eq_getElem?_getD, h]
theorem rd_mem {l : List S26} {j : Nat} (h : j < l.length) : rd_T26 l (j : Int) ∈ l := by
  unfold rd_T26; rw [Int.toNat_natCast, List.getD_eq_getElem?_getD, List.getElem?_eq_getElem h]; exact List.getElem_mem h
theorem rd_get {l : List S26} {j : Nat} (h : j < l.length) : rd_T26 l (j : Int) = l[j] := by
  unfold rd_T26; rw [Int.toNat_natCast, List.getD_eq_getElem?_getD, List.getElem?_eq_getElem h]; rfl
/-! ### The last day -/
def la : Int → List S26 → Int
  | m, [] => m
  | m, y :: t => la (if y.f1 > m then y.f1 else m) t
def lastE : List S26 → Int
  | [] => -1
  | y :: t => la y.f1 t
theorem la_le : ∀ (t : List S26) (m : Int), m ≤ la m t ∧ ∀ x ∈ t, x.f1 ≤ la m t := by
  intro t
  induction t with
  | nil => intro m; exact ⟨Int.le_refl _, fun x h => by cases h⟩
  | cons y t ih =>
    intro m
    have := ih (if y.f1 > m then y.f1 else m)
    have h : m ≤ (if y.f1 > m then y.f1 else m) ∧ y.f1 ≤ (if y.f1 > m then y.f1 else m) := by split <;> omega
    refine ⟨Int.le_trans h.1 this.1, fun x hx => ?_⟩
    rcases List.mem_cons.1 hx with e | e
    · rw [e]; exact Int.le_trans h.2 this.1
    · exact this.2 x e
theorem la_mem : ∀ (t : List S26) (m : Int), la m t = m ∨ ∃ x ∈ t, x.f1 = la m t := by
  intro t
  induction t with
  | nil => intro m; exact .inl rfl
  | cons y t ih =>
    intro m
    rcases ih (if y.f1 > m then y.f1 else m) with h | ⟨x, hx, h⟩
    · by_cases c : y.f1 > m
      · rw [if_pos c] at h
        exact .inr ⟨y, List.mem_cons_self .., by show y.f1 = la (if y.f1 > m then y.f1 else m) t; rw [if_pos c, h]⟩
      · rw [if_neg c] at h
        exact .inl (by show la (if y.f1 > m then y.f1 else m) t = m; rw [if_neg c, h])
    · exact .inr ⟨x, List.mem_cons_of_mem _ hx, h⟩
theorem lastE_max {l : List S26} (h : l ≠ []) : (∀ x ∈ l, x.f1 ≤ lastE l) ∧ ∃ x ∈ l, x.f1 = lastE l := by
  cases l with
  | nil => exact absurd rfl h
  | cons y t =>
    have a := la_le t y.f1
    refine ⟨fun x hx => ?_, ?_⟩
    · rcases List.mem_cons.1 hx with e | e
      · rw [e]; exact a.1
      · exact a.2 x e
    · rcases la_mem t y.f1 with e | ⟨x, hx, e⟩
      · exact ⟨y, List.mem_cons_self .., e.symm⟩
      · exact ⟨x, List.mem_cons_of_mem _ hx, e⟩
theorem lastE_perm {l m : List S26} (h : l.Perm m) : lastE l = lastE m := by
  by_cases c : l = []
  · subst c; rw [List.nil_perm.1 h]
  · have c2 : m ≠ [] := fun e => c (by subst e; exact h.eq_nil)
    obtain ⟨a1, x, hx, e1⟩ := lastE_max c
    obtain ⟨a2, y, hy, e2⟩ := lastE_max c2
    have := a2 x (h.mem_iff.1 hx)
    have := a1 y (h.mem_iff.2 hy)
    omega
theorem oLast_go (l : List S26) (hl : l.length ≤ 1000) : ∀ (d : Nat) (i : Nat) (k : Nat) (m : Int), l.length = i + d → 0 < i → d < k → order_Last.l0 k m l (l.length : Int) (i : Int) = some (la m (l.drop i)) := by
  intro d
  induction d with
  | zero =>
    intro i k m h h0 hk
    obtain ⟨k, rfl⟩ : ∃ q, k = q + 1 := ⟨k - 1, by omega⟩
    rw [order_Last.l0, if_neg (by omega), List.drop_of_length_le (by omega)]
    rfl
  | succ d ih =>
    intro i k m h h0 hk
    obtain ⟨k, rfl⟩ : ∃ q, k = q + 1 := ⟨k - 1, by omega⟩
    have e : ((i : Int) + 1) = ((i + 1 : Nat) : Int) := by omega
    rw [order_Last.l0, if_pos (by omega), if_pos (by omega), if_pos (by omega), if_neg (by omega), w1 (by omega) (by omega), e, rd_cons (show i < l.length by omega), la]
    by_cases c : (rd_T26 l (i : Int)).f1 > m
    · rw [if_pos c, if_pos c]; exact ih (i + 1) k _ (by omega) (by omega) (by omega)
    · rw [if_neg c, if_neg c]; exact ih (i + 1) k _ (by omega) (by omega) (by omega)
theorem oLast_f (l : List S26) (hl : l.length ≤ 1000) (k : Nat) (hk : l.length + 1 < k) : order_Last.f k l = some (lastE l) := by
  obtain ⟨k, rfl⟩ : ∃ q, k = q + 1 := ⟨k - 1, by omega⟩
  unfold order_Last.f
  cases l with
  | nil => rw [order_Last.l0, if_neg (by simp)]; rfl
  | cons y t =>
    have hp : 0 < (y :: t).length := by simp
    rw [order_Last.l0, if_pos (by omega), if_pos (by omega), if_pos (by omega), if_pos rfl, w1 (by omega) (by omega)]
    have := oLast_go (y :: t) hl t.length 1 k ((rd_T26 (y :: t) 0).f1) (by simp; omega) (by omega) (by simp at hk; omega)
    exact this
theorem rLast_go (l : List S26) (hl : l.length ≤ 1000) : ∀ (d : Nat) (i : Nat) (k : Nat) (m : Int), l.length = i + d → 0 < i → d < k → annuityref23_Last.l0 k l m (i : Int) = some (la m (l.drop i)) := by
  intro d
  induction d with
  | zero =>
    intro i k m h h0 hk
    obtain ⟨k, rfl⟩ : ∃ q, k = q + 1 := ⟨k - 1, by omega⟩
    rw [annuityref23_Last.l0, if_neg (by omega), List.drop_of_length_le (by omega)]
    rfl
  | succ d ih =>
    intro i k m h h0 hk
    obtain ⟨k, rfl⟩ : ∃ q, k = q + 1 := ⟨k - 1, by omega⟩
    have e : ((i : Int) + 1) = ((i + 1 : Nat) : Int) := by omega
    rw [annuityref23_Last.l0, if_pos (by omega), if_neg (by omega), if_pos (by omega), w1 (by omega) (by omega), e, rd_cons (show i < l.length by omega), la]
    by_cases c : (rd_T26 l (i : Int)).f1 > m
    · rw [if_pos c, if_pos c]; exact ih (i + 1) k _ (by omega) (by omega) (by omega)
    · rw [if_neg c, if_neg c]; exact ih (i + 1) k _ (by omega) (by omega) (by omega)
theorem rLast_f (l : List S26) (hl : l.length ≤ 1000) (k : Nat) (hk : l.length + 1 < k) : annuityref23_Last.f k l = some (lastE l) := by
  obtain ⟨k, rfl⟩ : ∃ q, k = q + 1 := ⟨k - 1, by omega⟩
  unfold annuityref23_Last.f
  cases l with
  | nil => rw [annuityref23_Last.l0, if_neg (by simp)]; rfl
  | cons y t =>
    have hp : 0 < (y :: t).length := by simp
    rw [annuityref23_Last.l0, if_pos (by omega), if_pos rfl, if_pos (by omega), w1 (by omega) (by omega)]
    exact rLast_go (y :: t) hl t.length 1 k ((rd_T26 (y :: t) 0).f1) (by simp; omega) (by omega) (by simp at hk; omega)
/-! ### The place of a key -/
def idxK (a : Int) (l : List S26) (j : Nat) : Int := idxB (fun x => x.f2 == a) l j
theorem idxK_ge (a : Int) : ∀ (l : List S26) (j : Nat), (∀ x ∈ l, x.f2 ≠ a) ∧ idxK a l j = -1 ∨ ∃ q, q < l.length ∧ (rd_T26 l (q : Int)).f2 = a ∧ idxK a l j = ((j + q : Nat) : Int) := by
  intro l
  induction l with
  | nil => intro j; exact .inl ⟨fun x h => by (cases h), rfl⟩
  | cons y l ih =>
    intro j
    have e : idxK a (y :: l) j = if (y.f2 == a) = true then (j : Int) else idxK a l (j + 1) := rfl
    by_cases c : y.f2 = a
    · exact .inr ⟨0, by simp, c, by rw [e, if_pos (by simpa using c)]; rfl⟩
    · rw [if_neg (by simpa using c)] at e
      rcases ih (j + 1) with ⟨h1, h2⟩ | ⟨q, h1, h2, h3⟩
      · refine .inl ⟨fun x hx => ?_, by rw [e, h2]⟩
        rcases List.mem_cons.1 hx with h | h
        · rw [h]; exact c
        · exact h1 x h
      · refine .inr ⟨q + 1, by simpa using h1, ?_, by rw [e, h3]; congr 1; omega⟩
        rw [← h2]
        unfold rd_T26
        simp
theorem rFind_go (a : Int) (l : List S26) (hl : l.length ≤ 1000) : ∀ (d : Nat) (i : Nat) (k : Nat), l.length = i + d → d < k → annuityref23_Find.l0 k l a (i : Int) = some (idxK a (l.drop i) i) := by
  intro d
  induction d with
  | zero =>
    intro i k h hk
    obtain ⟨k, rfl⟩ : ∃ q, k = q + 1 := ⟨k - 1, by omega⟩
    rw [annuityref23_Find.l0, if_neg (by omega), List.drop_of_length_le (by omega)]
    rfl
  | succ d ih =>
    intro i k h hk
    obtain ⟨k, rfl⟩ : ∃ q, k = q + 1 := ⟨k - 1, by omega⟩
    have e : ((i : Int) + 1) = ((i + 1 : Nat) : Int) := by omega
    have e2 : ∀ y : S26, ∀ t : List S26, idxK a (y :: t) i = if (y.f2 == a) = true then (i : Int) else idxK a t (i + 1) := fun _ _ => rfl
    rw [annuityref23_Find.l0, if_pos (by omega), if_pos (by omega), w1 (by omega) (by omega), e, rd_cons (show i < l.length by omega), e2]
    by_cases c : (rd_T26 l (i : Int)).f2 = a
    · rw [if_pos c, if_pos (by simpa using c)]
    · rw [if_neg c, if_neg (by simpa using c)]; exact ih (i + 1) k (by omega) (by omega)
theorem rFind_f (a : Int) (l : List S26) (hl : l.length ≤ 1000) (k : Nat) (hk : l.length < k) : annuityref23_Find.f k l a = some (idxK a l 0) := rFind_go a l hl l.length 0 k (by omega) hk
theorem oFind_f (a : Int) (l : List S26) (hl : l.length ≤ 1000) (k : Nat) : order_Find.f k l a = some (idxK a l 0) := by rw [order_Find.f, if_pos (by omega)]; rfl
theorem oSort_f (l : List S26) (hl : l.length ≤ 1000) (k : Nat) : order_Sort.f k l = some (sortE l) := by rw [order_Sort.f, if_pos (by omega)]
theorem rSort_f (l : List S26) (hl : l.length ≤ 1000) (k : Nat) : annuityref23_Sort.f k l = some (sortE l) := by rw [annuityref23_Sort.f, if_pos (by omega)]
/-! ### Two rows that are alike -/
theorem event_f (k : Nat) (x : S26) : annuitykeep_Event.f k x.f0 x.f1 x.f2 x.f3 x.f4 x.f5 x.f6 x.f7 x.f8 x.f9 x.f10 x.f0 x.f1 x.f2 x.f3 x.f4 x.f5 x.f6 x.f7 x.f8 x.f9 x.f10 = some true := by
  unfold annuitykeep_Event.f annuitykeep_Float.f
  rw [if_pos rfl, if_pos rfl, if_pos rfl, if_pos rfl, if_pos rfl, ob, if_pos (by simp), ob, if_pos (by simp), if_pos (by simp), if_pos rfl, if_pos rfl]
  simp
theorem events_go (l : List S26) (hl : l.length ≤ 1000) : ∀ (d : Nat) (i : Nat) (k : Nat), l.length = i + d → d < k → annuitykeep_Events.l0 k l l (i : Int) = some true := by
  intro d
  induction d with
  | zero =>
    intro i k h hk
    obtain ⟨k, rfl⟩ : ∃ q, k = q + 1 := ⟨k - 1, by omega⟩
    rw [annuitykeep_Events.l0, if_neg (by omega)]
  | succ d ih =>
    intro i k h hk
    obtain ⟨k, rfl⟩ : ∃ q, k = q + 1 := ⟨k - 1, by omega⟩
    have e : ((i : Int) + 1) = ((i + 1 : Nat) : Int) := by omega
    rw [annuitykeep_Events.l0, if_pos (by omega), if_pos (by omega), if_pos (by omega), event_f, ob, if_pos rfl, w1 (by omega) (by omega), e]
    exact ih (i + 1) k (by omega) (by omega)
theorem events_f (l : List S26) (hl : l.length ≤ 1000) (k : Nat) (hk : l.length < k) : annuitykeep_Events.f k l l = some true := by
  rw [annuitykeep_Events.f, if_pos rfl]
  exact events_go l hl l.length 0 k (by omega) hk
/-! ### One more -/
theorem oPut_f (l : List S26) (hl : l.length ≤ 1000) (x : S26) (k : Nat) : order_Put.f k l x.f0 x.f1 x.f2 x.f3 x.f4 x.f5 x.f6 x.f7 x.f8 x.f9 x.f10 = some (insE x l, ((atE x l : Nat) : Int)) := by rw [order_Put.f, if_pos (by omega)]
theorem rPut_go (l : List S26) (hl : l.length ≤ 1000) (x : S26) : ∀ (d : Nat) (i : Nat) (k : Nat), l.length = i + d → d + 9 < k →
    annuityref23_Put.l0 k l (i : Int) x.f0 x.f1 x.f2 x.f3 x.f4 x.f5 x.f6 x.f7 x.f8 x.f9 x.f10 = some (l.take (i + atE x (l.drop i)) ++ x :: l.drop (i + atE x (l.drop i)), ((i + atE x (l.drop i) : Nat) : Int)) := by
  have fin : ∀ i : Nat, i ≤ l.length → ((some (([] : List (S26)) : List (S26))).bind fun y168 => (if (i : Int) ≤ (l.length : Int) then ((some (l.take ((i : Int) : Int).toNat : List (S26))).bind fun y171 => (if y168.length + y171.length < 1599289640401 then ((some (y168 ++ y171 : List (S26))).bind fun y175 => ((some (([(⟨x.f0, x.f1, x.f2, x.f3, x.f4, x.f5, x.f6, x.f7, x.f8, x.f9, x.f10⟩ : S26)] : List (S26)) : List (S26))).bind fun y178 => (if y175.length + y178.length < 1599289640401 then ((some (y175 ++ y178 : List (S26))).bind fun y181 => ((some (l.drop ((i : Int) : Int).toNat : List (S26))).bind fun y184 => (if y181.length + y184.length < 1599289640401 then some ((y181 ++ y184), (i : Int)) else (none)))) else (none)))) else (none))) else (none))) = some (l.take i ++ x :: l.drop i, (i : Int)) := fun i hi => by
    rw [ob, if_pos (by omega), Int.toNat_natCast, ob, if_pos (by simp; omega), ob, ob, if_pos (by simp; omega), ob, ob, if_pos (by simp; omega)]
    simp
  intro d
  induction d with
  | zero =>
    intro i k h hk
    obtain ⟨k, rfl⟩ : ∃ q, k = q + 1 := ⟨k - 1, by omega⟩
    rw [List.drop_of_length_le (show l.length ≤ i by omega)]
    rw [annuityref23_Put.l0, if_neg (by omega)]
    first | (rw [if_pos (show (0 : Int) ≤ (i : Int) by omega)]; exact fin i (by omega)) | exact fin i (by omega)
  | succ d ih =>
    intro i k h hk
    obtain ⟨k, rfl⟩ : ∃ q, k = q + 1 := ⟨k - 1, by omega⟩
    have e : ((i : Int) + 1) = ((i + 1 : Nat) : Int) := by omega
    obtain ⟨k9, rfl⟩ : ∃ q, k = q + 9 := ⟨k - 9, by omega⟩
    have hc := refcmp_f k9 (rd_T26 l (i : Int)) x
    have hd : atE x (l.drop i) = if cmE (rd_T26 l (i : Int)) x > 0 then 0 else atE x (l.drop (i + 1)) + 1 := by rw [rd_cons (show i < l.length by omega), atE]
    rw [annuityref23_Put.l0, if_pos (by omega), if_pos (by omega), hc, ob]
    by_cases c : cmE (rd_T26 l (i : Int)) x > 0
    · rw [if_neg (by omega), hd, if_pos c]
      exact fin i (by omega)
    · rw [if_pos (by omega), hd, if_neg c, w1 (by omega) (by omega), e, ih (i + 1) (k9 + 9) (by omega) (by omega)]
      rw [show i + 1 + atE x (l.drop (i + 1)) = i + (atE x (l.drop (i + 1)) + 1) by omega]
theorem rPut_f (l : List S26) (hl : l.length ≤ 1000) (x : S26) (k : Nat) (hk : l.length + 9 < k) : annuityref23_Put.f k l x.f0 x.f1 x.f2 x.f3 x.f4 x.f5 x.f6 x.f7 x.f8 x.f9 x.f10 = some (insE x l, ((atE x l : Nat) : Int)) := by
  have := rPut_go l hl x l.length 0 k (by omega) hk
  unfold annuityref23_Put.f
  rw [List.drop_zero, Nat.zero_add] at this
  exact this
theorem oCmp_f (x y : S26) (k : Nat) (hk : 9 ≤ k) : order_Compare.f k x.f0 x.f1 x.f2 x.f3 x.f4 x.f5 x.f6 x.f7 x.f8 x.f9 x.f10 y.f0 y.f1 y.f2 y.f3 y.f4 y.f5 y.f6 y.f7 y.f8 y.f9 y.f10 = some (cmE x y) := by
  obtain ⟨q, rfl⟩ : ∃ q, k = q + 4 := ⟨k - 4, by omega⟩
  exact cmE_f q x y
theorem rCmp_f (x y : S26) (k : Nat) (hk : 9 ≤ k) : annuityref23_Compare.f k x.f0 x.f1 x.f2 x.f3 x.f4 x.f5 x.f6 x.f7 x.f8 x.f9 x.f10 y.f0 y.f1 y.f2 y.f3 y.f4 y.f5 y.f6 y.f7 y.f8 y.f9 y.f10 = some (cmE x y) := by
  obtain ⟨q, rfl⟩ : ∃ q, k = q + 9 := ⟨k - 9, by omega⟩
  exact refcmp_f q x y
theorem rRank_f (n : Int) (k : Nat) (hk : 9 ≤ k) : annuityref23_Rank.f k n = some (rankOf n) := by
  obtain ⟨q, rfl⟩ : ∃ q, k = q + 9 := ⟨k - 9, by omega⟩
  exact refrank_f q n
/-! ### The law's own beginning -/
theorem wakes_f (k : Nat) (hk : 100 ≤ k) : annuitylaw23_wakes.f k = some true := by
  have e1 : sortE [(⟨3, 5, 1, 0, 0, (0 : Nat), (0 : Nat), false, 0, 0, 0⟩ : S26), (⟨1, 5, 2, 0, 0, (0 : Nat), (0 : Nat), false, 0, 0, 0⟩ : S26)] = [⟨1, 5, 2, 0, 0, 0, 0, false, 0, 0, 0⟩, ⟨3, 5, 1, 0, 0, 0, 0, false, 0, 0, 0⟩] := rfl
  have h2 := oPut_f [⟨1, 5, 2, 0, 0, 0, 0, false, 0, 0, 0⟩, ⟨3, 5, 1, 0, 0, 0, 0, false, 0, 0, 0⟩] (by decide) ⟨3, 5, 1, 0, 0, 0, 0, false, 0, 0, 0⟩ k
  have h3 := oCmp_f ⟨1, 5, 2, 0, 0, 0, 0, false, 0, 0, 0⟩ ⟨3, 5, 1, 0, 0, 0, 0, false, 0, 0, 0⟩ k (by omega)
  have h4 := oFind_f 1 [⟨1, 5, 2, 0, 0, 0, 0, false, 0, 0, 0⟩, ⟨3, 5, 1, 0, 0, 0, 0, false, 0, 0, 0⟩] (by decide) k
  have h5 := oLast_f [⟨1, 5, 2, 0, 0, 0, 0, false, 0, 0, 0⟩, ⟨3, 5, 1, 0, 0, 0, 0, false, 0, 0, 0⟩] (by decide) k (by simp; omega)
  have h6 := oLast_f [] (by decide) k (by simp; omega)
  have h7 : order_Rank.f k 9 = some 9 := rfl
  dsimp only at h2 h3
  unfold annuitylaw23_wakes.f
  rw [oSort_f _ (by decide), e1, ob, h2, ob, if_pos (by decide), if_pos (by decide), if_pos (by decide), if_pos (by decide), if_pos (by decide), h3, ob, if_pos (by decide), h4, ob, if_pos (by decide), h5, ob, if_pos (by decide), h6, ob, if_pos (by decide), h7, ob]
  rfl
end Go.Proofs.Ytjdhhbjnihhncaa.Ord
