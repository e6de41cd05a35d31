/- A part of a proof. -/
import Derived.Test.YteemomncbcpdjaaPx0
namespace Go.Proofs.Yteemomncbcpdjaa.Plain
set_option linter.unusedVariables false
set_option linter.unusedSimpArgs false
open Go.Proofs.Yteemomncbcpdjaa.P W.PrintWords W.PrintLast W.PrintMore
def fl : List Int → Int → List Int
  | [], _ => []
  | a :: l, t => mn a t :: fl l (t - mn a t)
def fr : List Int → Int → Int
  | [], t => t
  | a :: l, t => fr l (t - mn a t)
theorem mn_bd {a t : Int} (ha : 0 ≤ a) (ht : 0 ≤ t) : 0 ≤ mn a t ∧ mn a t ≤ a ∧ mn a t ≤ t ∧ (mn a t = a ∨ mn a t = t) := by unfold mn; split <;> omega
theorem qJv : ∀ (l : List Int) (t : Int), (fl l t).length = l.length := by
  intro l
  induction l with
  | nil => intro t; rfl
  | cons a l ih => intro t; simp [fl, ih]
theorem fr_bd : ∀ (l : List Int) (t : Int), (∀ x ∈ l, 0 ≤ x) → 0 ≤ t → 0 ≤ fr l t ∧ fr l t ≤ t := by
  intro l
  induction l with
  | nil => intro t _ h; exact ⟨h, Int.le_refl _⟩
  | cons a l ih =>
    intro t h ht
    have m := mn_bd (h a (List.mem_cons_self ..)) ht
    have := ih (t - mn a t) (fun x hx => h x (List.mem_cons_of_mem _ hx)) (by omega)
    rw [fr]; omega
theorem qVy : ∀ (a b : List Int) (t : Int), fl (a ++ b) t = fl a t ++ fl b (fr a t) ∧ fr (a ++ b) t = fr b (fr a t) := by
  intro a b
  induction a with
  | nil => intro t; exact ⟨rfl, rfl⟩
  | cons x a ih => intro t; rw [List.cons_append, fl, fl, fr, fr, (ih _).1, (ih _).2, List.cons_append]; exact ⟨rfl, rfl⟩
theorem qJ1 : ∀ (l : List Int) (t : Int), (fl l t).sum + fr l t = t := by
  intro l
  induction l with
  | nil => intro t; simp [fl, fr]
  | cons a l ih => intro t; have := ih (t - mn a t); rw [fl, fr, List.sum_cons]; omega
def val : List Nat → List Int → Nat → Int
  | x :: a, y :: v, i => if i = x then y else val a v i
  | _, _, _ => 0
theorem qKj : ∀ (a : List Nat) (v : List Int), a.Nodup → a.length = v.length → a.map (val a v) = v := by
  intro a
  induction a with
  | nil => intro v _ h; cases v with | nil => rfl | cons => simp at h
  | cons x a ih =>
    intro v hn h
    cases v with
    | nil => simp at h
    | cons y v =>
      have hn := List.nodup_cons.1 hn
      rw [List.map_cons, val, if_pos rfl]
      congr 1
      rw [← ih v hn.2 (by simpa using h)]
      refine List.map_congr_left (fun i hi => ?_)
      rw [val, if_neg (show ¬ i = x from fun e => hn.1 (by rw [← e]; exact hi))]
      rw [ih v hn.2 (by simpa using h)]
theorem qJt (g : Nat → Int) : ∀ (a : List Nat) (t : Int), (∀ i ∈ a, 0 ≤ g i) → 0 ≤ t → ∀ i, 0 ≤ val a (fl (a.map g) t) i ∧ (i ∈ a → val a (fl (a.map g) t) i ≤ g i) := by
  intro a
  induction a with
  | nil => intro t _ _ i; exact ⟨Int.le_refl _, fun h => by cases h⟩
  | cons x a ih =>
    intro t h ht i
    have m := mn_bd (h x (List.mem_cons_self ..)) ht
    have := ih (t - mn (g x) t) (fun j hj => h j (List.mem_cons_of_mem _ hj)) (by omega) i
    rw [List.map_cons, fl, val]
    by_cases c : i = x
    · rw [if_pos c, c]; exact ⟨m.1, fun _ => m.2.1⟩
    · rw [if_neg c]; exact ⟨this.1, fun hi => this.2 ((List.mem_cons.1 hi).resolve_left c)⟩
def inN (R : Nat → Nat → Bool) (x : Nat) : List Nat → List Nat
  | [] => [x]
  | y :: r => if R x y = true then x :: y :: r else y :: inN R x r
def srt (R : Nat → Nat → Bool) (l : List Nat) : List Nat := l.foldr (inN R) []
theorem qKo (R : Nat → Nat → Bool) (x : Nat) : ∀ L : List Nat, (inN R x L).Perm (x :: L) := by
  intro L
  induction L with
  | nil => exact List.Perm.refl _
  | cons y r ih =>
    unfold inN
    by_cases c : R x y = true
    · rw [if_pos c]
    · rw [if_neg c]; exact (List.Perm.cons y ih).trans (List.Perm.swap x y r)
theorem qY7 (R : Nat → Nat → Bool) : ∀ L : List Nat, (srt R L).Perm L := by
  intro L
  induction L with
  | nil => exact List.Perm.refl _
  | cons x L ih => exact (qKo R x _).trans (List.Perm.cons x ih)
structure Lin (R : Nat → Nat → Bool) : Prop where
  trans : ∀ x y z, R x y = true → R y z = true → R x z = true
  asym : ∀ x y, R x y = true → R y x = true → False
  tot : ∀ x y, x ≠ y → R x y = false → R y x = true
theorem inN_pw {R : Nat → Nat → Bool} (hR : Lin R) (x : Nat) : ∀ L : List Nat, x ∉ L → L.Pairwise (fun a b => R a b = true) → (inN R x L).Pairwise (fun a b => R a b = true) := by
  intro L
  induction L with
  | nil => intro _ _; exact List.pairwise_singleton _ _
  | cons y r ih =>
    intro hx hp
    have hp2 := List.pairwise_cons.1 hp
    unfold inN
    by_cases c : R x y = true
    · rw [if_pos c]
      refine List.pairwise_cons.2 ⟨fun z hz => ?_, hp⟩
      rcases List.mem_cons.1 hz with e | e
      · rw [e]; exact c
      · exact hR.trans _ _ _ c (hp2.1 z e)
    · rw [if_neg c]
      refine List.pairwise_cons.2 ⟨fun z hz => ?_, ih (fun h => hx (List.mem_cons_of_mem _ h)) hp2.2⟩
      rcases List.mem_cons.1 ((qKo R x r).mem_iff.1 hz) with e | e
      · rw [e]; exact hR.tot x y (fun e2 => hx (by rw [e2]; exact List.mem_cons_self ..)) (by simpa using c)
      · exact hp2.1 z e
theorem qJg {R : Nat → Nat → Bool} (hR : Lin R) : ∀ L : List Nat, L.Nodup → (srt R L).Pairwise (fun a b => R a b = true) := by
  intro L
  induction L with
  | nil => intro _; exact List.Pairwise.nil
  | cons x L ih =>
    intro h
    have h2 := List.nodup_cons.1 h
    exact inN_pw hR x _ (fun hx => h2.1 ((qY7 R L).mem_iff.1 hx)) (ih h2.2)
theorem qVi {R : Nat → Nat → Bool} (hR : Lin R) {L M : List Nat} (hn : M.Nodup) (h1 : L.Perm M) (h2 : L.Pairwise (fun a b => R a b = true)) : L = srt R M :=
  List.Perm.eq_of_pairwise (le := fun a b => R a b = true) (fun a b _ _ h3 h4 => (hR.asym a b h3 h4).elim) h2 (qJg hR M hn) (h1.trans (qY7 R M).symm)
end Go.Proofs.Yteemomncbcpdjaa.Plain
