/- Events in their order, in plain words: one put among others, a list sorted. No program in sight. -/
import Derived.Test.YtjdhhbjnihhncaaZq
namespace Go.Proofs.Ytjdhhbjnihhncaa.P
open Go.RowKit Go.Proofs.YtjdhhbjnihhncaaW.PrintWords Go.Proofs.YtjdhhbjnihhncaaW.PrintLast Go.Proofs.YtjdhhbjnihhncaaW.PrintMore
set_option linter.unusedVariables false
set_option linter.unusedSimpArgs false
theorem revInd {α : Type} {motive : List α → Prop} (l : List α) (nil : motive []) (append_singleton : ∀ (l : List α) (x : α), motive l → motive (l ++ [x])) : motive l := by
  have h : ∀ m : List α, motive m.reverse := fun m => by
    induction m with
    | nil => exact nil
    | cons x m ih => rw [List.reverse_cons]; exact append_singleton _ x ih
  have := h l.reverse
  rwa [List.reverse_reverse] at this
theorem cmE_val (x y : S26) : (cmE x y = -1 ∧ (x.f1 < y.f1 ∨ x.f1 = y.f1 ∧ (rankOf x.f0 < rankOf y.f0 ∨ rankOf x.f0 = rankOf y.f0 ∧ x.f2 < y.f2))) ∨ (cmE x y = 0 ∧ x.f1 = y.f1 ∧ rankOf x.f0 = rankOf y.f0 ∧ x.f2 = y.f2) ∨ (cmE x y = 1 ∧ (y.f1 < x.f1 ∨ y.f1 = x.f1 ∧ (rankOf y.f0 < rankOf x.f0 ∨ rankOf y.f0 = rankOf x.f0 ∧ y.f2 < x.f2))) := by
  unfold cmE cmI
  generalize rankOf x.f0 = a, rankOf y.f0 = b
  repeat' split
  all_goals omega
theorem cmE_flip (x y : S26) : cmE x y = - cmE y x := by have := cmE_val x y; have := cmE_val y x; omega
theorem cmE_tr {x y z : S26} (h1 : cmE x y ≤ 0) (h2 : cmE y z ≤ 0) : cmE x z ≤ 0 := by have := cmE_val x y; have := cmE_val y z; have := cmE_val x z; omega
theorem cmE_tr1 {x y z : S26} (h1 : cmE x y < 0) (h2 : cmE y z ≤ 0) : cmE x z < 0 := by have := cmE_val x y; have := cmE_val y z; have := cmE_val x z; omega
theorem cmE_tr2 {x y z : S26} (h1 : cmE x y ≤ 0) (h2 : cmE y z < 0) : cmE x z < 0 := by have := cmE_val x y; have := cmE_val y z; have := cmE_val x z; omega
theorem cmE_tr0 {x y z : S26} (h1 : cmE x y = 0) (h2 : cmE y z = 0) : cmE x z = 0 := by have := cmE_val x y; have := cmE_val y z; have := cmE_val x z; omega
/-- How many stand ahead of an event, from the first one on. -/
def atE (x : S26) : List S26 → Nat
  | [] => 0
  | y :: l => if cmE y x > 0 then 0 else atE x l + 1
/-- Events with one more among them. -/
def insE (x : S26) (l : List S26) : List S26 := l.take (atE x l) ++ x :: l.drop (atE x l)
/-- Events sorted. -/
def sortE (l : List S26) : List S26 := l.foldl (fun o x => insE x o) []
theorem atE_le (x : S26) : ∀ l, atE x l ≤ l.length
  | [] => Nat.le_refl _
  | y :: l => by have := atE_le x l; unfold atE; split <;> simp <;> omega
theorem insE_len (x : S26) (l : List S26) : (insE x l).length = l.length + 1 := by
  have := atE_le x l
  unfold insE; simp; omega
theorem insE_perm (x : S26) (l : List S26) : (insE x l).Perm (x :: l) := by
  unfold insE
  refine List.perm_middle.trans ?_
  rw [List.take_append_drop]
theorem insE_cons (x y : S26) (l : List S26) : insE x (y :: l) = if cmE y x > 0 then x :: y :: l else y :: insE x l := by
  simp only [insE, atE]
  split <;> simp
theorem sortE_snoc (l : List S26) (x : S26) : sortE (l ++ [x]) = insE x (sortE l) := by unfold sortE; rw [List.foldl_append]; rfl
theorem sortE_perm (l : List S26) : (sortE l).Perm l := by
  induction l using revInd with
  | nil => exact List.Perm.refl _
  | append_singleton l x ih =>
    rw [sortE_snoc]
    exact (insE_perm x _).trans ((List.Perm.cons x ih).trans (List.perm_append_singleton x l).symm)
theorem sortE_len (l : List S26) : (sortE l).length = l.length := (sortE_perm l).length_eq
/-- Each stands ahead of those behind it, or beside them. -/
def Ord (l : List S26) : Prop := l.Pairwise (fun x y => cmE x y ≤ 0)
theorem insE_ord (x : S26) : ∀ l, Ord l → Ord (insE x l) := by
  intro l
  induction l with
  | nil => intro _; exact List.pairwise_singleton _ _
  | cons y l ih =>
    intro h
    have h2 := List.pairwise_cons.1 h
    rw [insE_cons]
    by_cases c : cmE y x > 0
    · rw [if_pos c]
      have c2 : cmE x y ≤ 0 := by have := cmE_flip x y; omega
      refine List.pairwise_cons.2 ⟨fun z hz => ?_, h⟩
      rcases List.mem_cons.1 hz with e | e
      · rw [e]; exact c2
      · exact cmE_tr c2 (h2.1 z e)
    · rw [if_neg c]
      refine List.pairwise_cons.2 ⟨fun z hz => ?_, ih h2.2⟩
      rcases List.mem_cons.1 ((insE_perm x l).mem_iff.1 hz) with e | e
      · rw [e]; omega
      · exact h2.1 z e
theorem sortE_ord (l : List S26) : Ord (sortE l) := by
  induction l using revInd with
  | nil => exact List.Pairwise.nil
  | append_singleton l x ih => rw [sortE_snoc]; exact insE_ord x _ ih
theorem insE_last (x : S26) : ∀ l, (∀ y ∈ l, cmE y x ≤ 0) → insE x l = l ++ [x] := by
  intro l
  induction l with
  | nil => intro _; rfl
  | cons y l ih =>
    intro h
    rw [insE_cons, if_neg (by have := h y (List.mem_cons_self ..); omega), ih (fun z hz => h z (List.mem_cons_of_mem _ hz))]
    rfl
theorem sortE_of_ord (l : List S26) (h : Ord l) : sortE l = l := by
  induction l using revInd with
  | nil => rfl
  | append_singleton l x ih =>
    have h2 := List.pairwise_append.1 h
    rw [sortE_snoc, ih h2.1, insE_last x l (fun y hy => h2.2.2 y hy x (List.mem_singleton_self x))]
/-- Sorted events, no two of which stand beside each other, are told by what they are. -/
theorem ord_unique {l m : List S26} (hp : l.Perm m) (hl : Ord l) (hm : Ord m) (hd : ∀ x ∈ l, ∀ y ∈ l, cmE x y = 0 → x = y) : l = m :=
  List.Perm.eq_of_pairwise (le := fun x y => cmE x y ≤ 0) (fun a b ha hb h1 h2 => hd a ha b (hp.mem_iff.2 hb) (by have := cmE_flip a b; omega)) hl hm hp
/-! ### The same with places beside the events -/
def insT (x : S26 × Nat) : List (S26 × Nat) → List (S26 × Nat)
  | [] => [x]
  | y :: l => if cmE y.1 x.1 > 0 then x :: y :: l else y :: insT x l
def sortT (l : List (S26 × Nat)) : List (S26 × Nat) := l.foldl (fun o x => insT x o) []
/-- Ahead, or beside and from the lower place. -/
def RlT (x y : S26 × Nat) : Prop := cmE x.1 y.1 < 0 ∨ cmE x.1 y.1 = 0 ∧ x.2 < y.2
theorem RlT_tr (x y z : S26 × Nat) (h1 : RlT x y) (h2 : RlT y z) : RlT x z := by
  unfold RlT at *
  rcases h1 with h1 | ⟨h1, h3⟩ <;> rcases h2 with h2 | ⟨h2, h4⟩
  · exact .inl (cmE_tr1 h1 (by omega))
  · exact .inl (cmE_tr1 h1 (by omega))
  · exact .inl (cmE_tr2 (by omega) h2)
  · exact .inr ⟨cmE_tr0 h1 h2, by omega⟩
theorem RlT_as {x y : S26 × Nat} (h1 : RlT x y) (h2 : RlT y x) : False := by
  unfold RlT at *
  have := cmE_flip x.1 y.1
  omega
theorem insT_map (x : S26 × Nat) : ∀ l : List (S26 × Nat), (insT x l).map Prod.fst = insE x.1 (l.map Prod.fst) := by
  intro l
  induction l with
  | nil => rfl
  | cons y l ih => rw [insT, List.map_cons, insE_cons]; split <;> simp [ih]
theorem insT_perm (x : S26 × Nat) : ∀ l, (insT x l).Perm (x :: l) := by
  intro l
  induction l with
  | nil => exact List.Perm.refl _
  | cons y l ih =>
    rw [insT]; split
    · exact List.Perm.refl _
    · exact (List.Perm.cons y ih).trans (List.Perm.swap x y l)
theorem insT_pw (x : S26 × Nat) : ∀ l, l.Pairwise RlT → (∀ y ∈ l, y.2 < x.2) → (insT x l).Pairwise RlT := by
  intro l
  induction l with
  | nil => intro _ _; exact List.pairwise_singleton _ _
  | cons y l ih =>
    intro h ht
    have h2 := List.pairwise_cons.1 h
    rw [insT]
    by_cases c : cmE y.1 x.1 > 0
    · rw [if_pos c]
      have c2 : cmE x.1 y.1 < 0 := by have := cmE_flip x.1 y.1; omega
      refine List.pairwise_cons.2 ⟨fun z hz => ?_, h⟩
      rcases List.mem_cons.1 hz with e | e
      · rw [e]; exact .inl c2
      · have := h2.1 z e
        exact .inl (cmE_tr1 c2 (by unfold RlT at this; omega))
    · rw [if_neg c]
      refine List.pairwise_cons.2 ⟨fun z hz => ?_, ih h2.2 (fun z hz => ht z (List.mem_cons_of_mem _ hz))⟩
      rcases List.mem_cons.1 ((insT_perm x l).mem_iff.1 hz) with e | e
      · rw [e]; unfold RlT; have := ht y (List.mem_cons_self ..); omega
      · exact h2.1 z e
theorem sortT_all : ∀ l : List (S26 × Nat), l.Pairwise (fun a b => a.2 < b.2) → (sortT l).Perm l ∧ (sortT l).Pairwise RlT ∧ (sortT l).map Prod.fst = sortE (l.map Prod.fst) := by
  intro l
  induction l using revInd with
  | nil => intro _; exact ⟨List.Perm.refl _, List.Pairwise.nil, rfl⟩
  | append_singleton l x ih =>
    intro h
    have h2 := List.pairwise_append.1 h
    obtain ⟨i1, i2, i3⟩ := ih h2.1
    have e : sortT (l ++ [x]) = insT x (sortT l) := by unfold sortT; rw [List.foldl_append]; rfl
    rw [e]
    refine ⟨(insT_perm x _).trans ((List.Perm.cons x i1).trans (List.perm_append_singleton x l).symm), insT_pw x _ i2 (fun y hy => h2.2.2 y (i1.mem_iff.1 hy) x (List.mem_singleton_self x)), ?_⟩
    rw [insT_map, i3, List.map_append]
    exact (sortE_snoc _ _).symm
theorem zip_pw (l : List S26) : l.zipIdx.Pairwise (fun a b => a.2 < b.2) := by
  rw [List.pairwise_iff_getElem]
  intro i j hi hj hij
  simp only [List.getElem_zipIdx]
  omega
/-- What is a permutation and stands in order is the sorted list. -/
theorem sorted_is (l : List S26) (t : List (S26 × Nat)) (hp : t.Perm l.zipIdx) (hw : t.Pairwise RlT) : t.map Prod.fst = sortE l := by
  obtain ⟨i1, i2, i3⟩ := sortT_all l.zipIdx (zip_pw l)
  have e : t = sortT l.zipIdx := List.Perm.eq_of_pairwise (le := RlT) (fun a b _ _ h3 h4 => (RlT_as h3 h4).elim) hw i2 (hp.trans i1.symm)
  rw [e, i3, List.zipIdx_map_fst]
end Go.Proofs.Ytjdhhbjnihhncaa.P
