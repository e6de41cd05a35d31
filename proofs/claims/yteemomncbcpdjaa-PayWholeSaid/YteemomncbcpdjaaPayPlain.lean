/- Money that fills rooms, one behind the other; places in an order. In plain numbers, no program in sight. -/
import Derived.Test.YteemomncbcpdjaaPx0
namespace Go.Proofs.Yteemomncbcpdjaa.Plain
set_option linter.unusedVariables false
set_option linter.unusedSimpArgs false
open Go.Proofs.Yteemomncbcpdjaa.P Go.Proofs.YteemomncbcpdjaaW.PrintWords Go.Proofs.YteemomncbcpdjaaW.PrintLast Go.Proofs.YteemomncbcpdjaaW.PrintMore
/-- What fills the rooms. -/
def fl : List Int → Int → List Int
  | [], _ => []
  | a :: l, t => mn a t :: fl l (t - mn a t)
/-- What is left. -/
def fr : List Int → Int → Int
  | [], t => t
  | a :: l, t => fr l (t - mn a t)
theorem mn_bd {a t : Int} (ha : 0 ≤ a) (ht : 0 ≤ t) : 0 ≤ mn a t ∧ mn a t ≤ a ∧ mn a t ≤ t ∧ (mn a t = a ∨ mn a t = t) := by unfold mn; split <;> omega
theorem fl_len : ∀ (l : List Int) (t : Int), (fl l t).length = l.length := by
  intro l
  induction l with
  | nil => intro t; rfl
  | cons a l ih => intro t; simp [fl, ih]
theorem fr_bd : ∀ (l : List Int) (t : Int), (∀ x ∈ l, 0 ≤ x) → 0 ≤ t → 0 ≤ fr l t ∧ fr l t ≤ t := by
  intro l
  induction l with
  | nil => intro t _ h; exact ⟨h, Int.le_refl _⟩
  | cons a l ih =>
    intro t h ht
    have m := mn_bd (h a (List.mem_cons_self ..)) ht
    have := ih (t - mn a t) (fun x hx => h x (List.mem_cons_of_mem _ hx)) (by omega)
    rw [fr]; omega
theorem fl_app : ∀ (a b : List Int) (t : Int), fl (a ++ b) t = fl a t ++ fl b (fr a t) ∧ fr (a ++ b) t = fr b (fr a t) := by
  intro a b
  induction a with
  | nil => intro t; exact ⟨rfl, rfl⟩
  | cons x a ih => intro t; rw [List.cons_append, fl, fl, fr, fr, (ih _).1, (ih _).2, List.cons_append]; exact ⟨rfl, rfl⟩
theorem fl_sum : ∀ (l : List Int) (t : Int), (fl l t).sum + fr l t = t := by
  intro l
  induction l with
  | nil => intro t; simp [fl, fr]
  | cons a l ih => intro t; have := ih (t - mn a t); rw [fl, fr, List.sum_cons]; omega
theorem fl_zero : ∀ (l : List Int), (∀ x ∈ l, 0 ≤ x) → fl l 0 = List.replicate l.length 0 ∧ fr l 0 = 0 := by
  intro l
  induction l with
  | nil => intro _; exact ⟨rfl, rfl⟩
  | cons a l ih =>
    intro h
    have m := mn_bd (h a (List.mem_cons_self ..)) (Int.le_refl 0)
    have e : mn a 0 = 0 := by omega
    have := ih (fun x hx => h x (List.mem_cons_of_mem _ hx))
    rw [fl, fr, e, show (0 : Int) - 0 = 0 from rfl, this.1, this.2]
    exact ⟨rfl, rfl⟩
/-- Something is left just if all are full. -/
theorem fl_rest : ∀ (l : List Int) (t : Int), (∀ x ∈ l, 0 ≤ x) → 0 ≤ t → 0 < fr l t → fl l t = l := by
  intro l
  induction l with
  | nil => intro t _ _ _; rfl
  | cons a l ih =>
    intro t h ht hp
    have hl := fun x hx => h x (List.mem_cons_of_mem a hx)
    have m := mn_bd (h a (List.mem_cons_self ..)) ht
    rw [fr] at hp
    have e := ih (t - mn a t) hl (by omega) hp
    have b := fr_bd l (t - mn a t) hl (by omega)
    rw [fl, e]
    have : mn a t = a := by omega
    rw [this]
theorem zip_zero : ∀ (l : List Int), List.zipWith (· - ·) l (List.replicate l.length 0) = l := by
  intro l
  induction l with
  | nil => rfl
  | cons a l ih => rw [List.length_cons, List.replicate_succ, List.zipWith_cons_cons, ih, Int.sub_zero]
theorem zip_zero' : ∀ (l : List Int) (n : Nat), l.length = n → List.zipWith (· + ·) (List.replicate n 0) l = l := by
  intro l
  induction l with
  | nil => intro n h; subst h; rfl
  | cons a l ih => intro n h; subst h; rw [List.length_cons, List.replicate_succ, List.zipWith_cons_cons, ih _ rfl, Int.zero_add]
theorem fl_two : ∀ (l : List Int) (a b : Int), (∀ x ∈ l, 0 ≤ x) → 0 ≤ a → 0 ≤ b → fr l a = 0 →
    fl l (a + b) = List.zipWith (· + ·) (fl l a) (fl (List.zipWith (· - ·) l (fl l a)) b) ∧ fr l (a + b) = fr (List.zipWith (· - ·) l (fl l a)) b := by
  intro l
  induction l with
  | nil =>
    intro a b _ ha hb h
    have h : a = 0 := h
    subst h
    exact ⟨rfl, by show 0 + b = b; omega⟩
  | cons x l ih =>
    intro a b h ha hb hz
    have hl := fun y hy => h y (List.mem_cons_of_mem x hy)
    have hx := h x (List.mem_cons_self ..)
    rw [fr] at hz
    rw [fl, fr, fl, List.zipWith_cons_cons, fl, List.zipWith_cons_cons, fr]
    by_cases c : x ≤ a
    · have e1 : mn x a = x := by unfold mn; split <;> omega
      have e2 : mn x (a + b) = x := by unfold mn; split <;> omega
      have e3 : mn (x - x) b = 0 := by unfold mn; split <;> omega
      rw [e1] at hz
      obtain ⟨h1, h2⟩ := ih (a - x) b hl (by omega) hb hz
      rw [e1, e2, e3, show a + b - x = (a - x) + b by omega, h1, h2, Int.add_zero, Int.sub_zero]
      exact ⟨rfl, rfl⟩
    · have e1 : mn x a = a := by unfold mn; split <;> omega
      have e2 : mn x (a + b) = a + mn (x - a) b := by unfold mn; split <;> split <;> omega
      rw [e1, e2, show a - a = (0 : Int) by omega, (fl_zero l hl).1, zip_zero, show a + b - (a + mn (x - a) b) = b - mn (x - a) b by omega, zip_zero' _ _ (fl_len _ _)]
      exact ⟨rfl, rfl⟩
/-! ### Who gets what -/
/-- The value of a place in a row of places. -/
def val : List Nat → List Int → Nat → Int
  | x :: a, y :: v, i => if i = x then y else val a v i
  | _, _, _ => 0
theorem val_not : ∀ (a : List Nat) (v : List Int) (i : Nat), i ∉ a → val a v i = 0 := by
  intro a
  induction a with
  | nil => intro v i _; cases v <;> rfl
  | cons x a ih =>
    intro v i h
    cases v with
    | nil => rfl
    | cons y v => rw [val, if_neg (show ¬ i = x from fun e => h (by rw [e]; exact List.mem_cons_self ..)), ih v i (fun hm => h (List.mem_cons_of_mem _ hm))]
theorem val_map : ∀ (a : List Nat) (v : List Int), a.Nodup → a.length = v.length → a.map (val a v) = v := by
  intro a
  induction a with
  | nil => intro v _ h; cases v with | nil => rfl | cons => simp at h
  | cons x a ih =>
    intro v hn h
    cases v with
    | nil => simp at h
    | cons y v =>
      have hn := List.nodup_cons.1 hn
      rw [List.map_cons, val, if_pos rfl]
      congr 1
      rw [← ih v hn.2 (by simpa using h)]
      refine List.map_congr_left (fun i hi => ?_)
      rw [val, if_neg (show ¬ i = x from fun e => hn.1 (by rw [← e]; exact hi))]
      rw [ih v hn.2 (by simpa using h)]
theorem val_at (a : List Nat) (v : List Int) (hn : a.Nodup) (h : a.length = v.length) (k : Nat) (hk : k < a.length) : val a v a[k] = v[k]'(h ▸ hk) := by
  have e := congrArg (fun l => l[k]?) (val_map a v hn h)
  simp only [List.getElem?_map, List.getElem?_eq_getElem hk, List.getElem?_eq_getElem (h ▸ hk), Option.map_some, Option.some.injEq] at e
  exact e
theorem val_add : ∀ (a : List Nat) (u v : List Int) (i : Nat), u.length = v.length → val a (List.zipWith (· + ·) u v) i = val a u i + val a v i := by
  intro a
  induction a with
  | nil => intro u v i _; cases u <;> cases v <;> rfl
  | cons x a ih =>
    intro u v i h
    cases u with
    | nil => cases v with | nil => rfl | cons => simp at h
    | cons p u =>
      cases v with
      | nil => simp at h
      | cons q v =>
        rw [List.zipWith_cons_cons, val, val, val]
        by_cases c : i = x
        · rw [if_pos c, if_pos c, if_pos c]
        · rw [if_neg c, if_neg c, if_neg c, ih u v i (by simpa using h)]
theorem val_sub (a : List Nat) (g : Nat → Int) (v : List Int) (hn : a.Nodup) (h : a.length = v.length) : List.zipWith (· - ·) (a.map g) v = a.map (fun i => g i - val a v i) := by
  conv => lhs; rw [← val_map a v hn h]
  rw [List.zipWith_map, List.zipWith_self]
/-- What one of a row gets lies within its room. -/
theorem val_bd (g : Nat → Int) : ∀ (a : List Nat) (t : Int), (∀ i ∈ a, 0 ≤ g i) → 0 ≤ t → ∀ i, 0 ≤ val a (fl (a.map g) t) i ∧ (i ∈ a → val a (fl (a.map g) t) i ≤ g i) := by
  intro a
  induction a with
  | nil => intro t _ _ i; exact ⟨Int.le_refl _, fun h => by cases h⟩
  | cons x a ih =>
    intro t h ht i
    have m := mn_bd (h x (List.mem_cons_self ..)) ht
    have := ih (t - mn (g x) t) (fun j hj => h j (List.mem_cons_of_mem _ hj)) (by omega) i
    rw [List.map_cons, fl, val]
    by_cases c : i = x
    · rw [if_pos c, c]; exact ⟨m.1, fun _ => m.2.1⟩
    · rw [if_neg c]; exact ⟨this.1, fun hi => this.2 ((List.mem_cons.1 hi).resolve_left c)⟩
/-- Who has no room may be left out. -/
theorem val_filter (g : Nat → Int) (o : Nat → Bool) : ∀ (a : List Nat) (t : Int), a.Nodup → (∀ i ∈ a, 0 ≤ g i) → (∀ i ∈ a, o i = false → g i = 0) → 0 ≤ t →
    fr ((a.filter o).map g) t = fr (a.map g) t ∧ (fl ((a.filter o).map g) t).sum = (fl (a.map g) t).sum ∧ ∀ i, val (a.filter o) (fl ((a.filter o).map g) t) i = val a (fl (a.map g) t) i := by
  intro a
  induction a with
  | nil => intro t _ _ _ _; exact ⟨rfl, rfl, fun _ => rfl⟩
  | cons x a ih =>
    intro t hn h hz ht
    have hn := List.nodup_cons.1 hn
    have m := mn_bd (h x (List.mem_cons_self ..)) ht
    have IH := ih (t - mn (g x) t) hn.2 (fun j hj => h j (List.mem_cons_of_mem _ hj)) (fun j hj => hz j (List.mem_cons_of_mem _ hj)) (by omega)
    cases ho : o x with
    | true =>
      rw [List.filter_cons_of_pos ho, List.map_cons, List.map_cons, fr, fr, fl, fl, List.sum_cons, List.sum_cons, IH.1, IH.2.1]
      refine ⟨rfl, rfl, fun i => ?_⟩
      rw [val, val, IH.2.2]
    | false =>
      have e := hz x (List.mem_cons_self ..) ho
      have e2 : mn (g x) t = 0 := by omega
      rw [e2, Int.sub_zero] at IH
      rw [List.filter_cons_of_neg (by simp [ho]), List.map_cons, fr, fl, List.sum_cons, e2, Int.sub_zero, Int.zero_add]
      refine ⟨IH.1, IH.2.1, fun i => ?_⟩
      rw [IH.2.2, val]
      by_cases c : i = x
      · rw [if_pos c, c, val_not a _ x hn.1]
      · rw [if_neg c]
/-! ### Places in an order -/
def inN (R : Nat → Nat → Bool) (x : Nat) : List Nat → List Nat
  | [] => [x]
  | y :: r => if R x y = true then x :: y :: r else y :: inN R x r
def srt (R : Nat → Nat → Bool) (l : List Nat) : List Nat := l.foldr (inN R) []
theorem inN_perm (R : Nat → Nat → Bool) (x : Nat) : ∀ L : List Nat, (inN R x L).Perm (x :: L) := by
  intro L
  induction L with
  | nil => exact List.Perm.refl _
  | cons y r ih =>
    unfold inN
    by_cases c : R x y = true
    · rw [if_pos c]
    · rw [if_neg c]; exact (List.Perm.cons y ih).trans (List.Perm.swap x y r)
theorem srt_perm (R : Nat → Nat → Bool) : ∀ L : List Nat, (srt R L).Perm L := by
  intro L
  induction L with
  | nil => exact List.Perm.refl _
  | cons x L ih => exact (inN_perm R x _).trans (List.Perm.cons x ih)
/-- An order in which of two one stands first. -/
structure Lin (R : Nat → Nat → Bool) : Prop where
  trans : ∀ x y z, R x y = true → R y z = true → R x z = true
  asym : ∀ x y, R x y = true → R y x = true → False
  tot : ∀ x y, x ≠ y → R x y = false → R y x = true
theorem inN_pw {R : Nat → Nat → Bool} (hR : Lin R) (x : Nat) : ∀ L : List Nat, x ∉ L → L.Pairwise (fun a b => R a b = true) → (inN R x L).Pairwise (fun a b => R a b = true) := by
  intro L
  induction L with
  | nil => intro _ _; exact List.pairwise_singleton _ _
  | cons y r ih =>
    intro hx hp
    have hp2 := List.pairwise_cons.1 hp
    unfold inN
    by_cases c : R x y = true
    · rw [if_pos c]
      refine List.pairwise_cons.2 ⟨fun z hz => ?_, hp⟩
      rcases List.mem_cons.1 hz with e | e
      · rw [e]; exact c
      · exact hR.trans _ _ _ c (hp2.1 z e)
    · rw [if_neg c]
      refine List.pairwise_cons.2 ⟨fun z hz => ?_, ih (fun h => hx (List.mem_cons_of_mem _ h)) hp2.2⟩
      rcases List.mem_cons.1 ((inN_perm R x r).mem_iff.1 hz) with e | e
      · rw [e]; exact hR.tot x y (fun e2 => hx (by rw [e2]; exact List.mem_cons_self ..)) (by simpa using c)
      · exact hp2.1 z e
theorem srt_pw {R : Nat → Nat → Bool} (hR : Lin R) : ∀ L : List Nat, L.Nodup → (srt R L).Pairwise (fun a b => R a b = true) := by
  intro L
  induction L with
  | nil => intro _; exact List.Pairwise.nil
  | cons x L ih =>
    intro h
    have h2 := List.nodup_cons.1 h
    exact inN_pw hR x _ (fun hx => h2.1 ((srt_perm R L).mem_iff.1 hx)) (ih h2.2)
theorem srt_unique {R : Nat → Nat → Bool} (hR : Lin R) {L M : List Nat} (hn : M.Nodup) (h1 : L.Perm M) (h2 : L.Pairwise (fun a b => R a b = true)) : L = srt R M :=
  List.Perm.eq_of_pairwise (le := fun a b => R a b = true) (fun a b _ _ h3 h4 => (hR.asym a b h3 h4).elim) h2 (srt_pw hR M hn) (h1.trans (srt_perm R M).symm)
theorem srt_filter {R : Nat → Nat → Bool} (hR : Lin R) (o : Nat → Bool) (M : List Nat) (hn : M.Nodup) : srt R (M.filter o) = (srt R M).filter o :=
  (srt_unique hR (hn.filter _) ((srt_perm R M).filter o) ((srt_pw hR M hn).filter _)).symm
end Go.Proofs.Yteemomncbcpdjaa.Plain
