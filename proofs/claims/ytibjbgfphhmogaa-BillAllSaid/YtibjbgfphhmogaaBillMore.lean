/- What bills come to in two parts, and with one more: in plain numbers. -/
import Derived.Test.YtibjbgfphhmogaaBillEv
import Derived.Test.YtibjbgfphhmogaaPx15
namespace Go.Proofs.Ytibjbgfphhmogaa.Pure
set_option linter.unusedVariables false
set_option linter.unusedSimpArgs false
open Go.RowKit Go.Proofs.Ytibjbgfphhmogaa.P Go.Proofs.YtibjbgfphhmogaaW.PrintWords Go.Proofs.YtibjbgfphhmogaaW.PrintLast Go.Proofs.YtibjbgfphhmogaaW.PrintMore Go.Proofs.Ytibjbgfphhmogaa.Plain
theorem wfu32 {n : Int} (h : (Lit.int .u32 n).wf = true) : 0 ≤ n ∧ n ≤ 4294967295 := by
  simp only [Lit.wf, Bool.and_eq_true, decide_eq_true_eq] at h; exact h
theorem mod_is (a n : Int) (h1 : 1 ≤ n) (h2 : n ≤ 1000000) : ∃ d, annuitykeep_Mod.f a n = some d ∧ 0 ≤ d ∧ d < n := by
  unfold annuitykeep_Mod.f
  rw [if_neg (by omega), if_neg (by omega)]
  have b1 : -n < Int.tmod a n := by have := Int.lt_tmod_of_pos a (b := n) (by omega); omega
  have b2 : Int.tmod a n < n := Int.tmod_lt_of_pos a (by omega)
  rw [w64 (e := Int.tmod a n + n) (by omega) (by omega), tmod_nn (x := Int.tmod a n + n) (by omega)]
  exact ⟨_, rfl, Int.emod_nonneg _ (by omega), Int.emod_lt_of_pos _ (by omega)⟩
/-- Bills with money in them. -/
def monB (l : List S45) : Prop := ∀ x ∈ l, 0 ≤ x.f2 ∧ x.f2 ≤ 10000000000000
theorem monB_tl {x : S45} {l : List S45} (h : monB (x :: l)) : monB l := fun y hy => h y (List.mem_cons_of_mem _ hy)
theorem monB_good {l : List S45} (h : goodB l = true) : monB l := fun x hx => by
  have := good_mem h x hx; unfold moneyP at this; omega
theorem creS_zero (day : Int) (l : List S45) (h : monB l) : creS day l 0 = (l, 0) := creS_none day l (fun x hx => (h x hx).1)
/-- One bill, without the wraps. -/
theorem creS_cons (day : Int) (x : S45) (l : List S45) (a : Int) (h : 0 ≤ x.f2 ∧ x.f2 ≤ 10000000000000) (h0 : 0 ≤ a) (h1 : a ≤ 10000000000000) (c : x.f2 ≠ 0) (ca : a ≠ 0) :
    creS day (x :: l) a = ((⟨x.f0, x.f1, x.f2 - mn x.f2 a, if x.f2 - mn x.f2 a = 0 then day else x.f3, x.f4, x.f5⟩ : S45) :: (creS day l (a - mn x.f2 a)).1, (creS day l (a - mn x.f2 a)).2) := by
  have m : 0 ≤ mn x.f2 a ∧ mn x.f2 a ≤ x.f2 ∧ mn x.f2 a ≤ a := by unfold mn; split <;> omega
  rw [creS, if_neg c, if_neg ca, w64 (e := x.f2 - mn x.f2 a) (by omega) (by omega), w64 (e := a - mn x.f2 a) (by omega) (by omega)]
theorem creS_skip (day : Int) (x : S45) (l : List S45) (a : Int) (c : x.f2 = 0) : creS day (x :: l) a = (x :: (creS day l a).1, (creS day l a).2) := by rw [creS, if_pos c]
theorem creS_add (day : Int) : ∀ (l : List S45) (a b : Int), monB l → 0 ≤ a → 0 ≤ b → a + b ≤ 10000000000000 →
    creS day l (a + b) = ((creS day (creS day l a).1 b).1, (creS day l a).2 + (creS day (creS day l a).1 b).2) := by
  intro l
  induction l with
  | nil => intro a b _ _ _ _; rfl
  | cons x l ih =>
    intro a b hm h0 h1 h2
    by_cases c : x.f2 = 0
    · rw [creS_skip day x l (a + b) c, creS_skip day x l a c, creS_skip day x _ b c, ih a b (monB_tl hm) h0 h1 h2]
    by_cases ca : a = 0
    · subst ca
      rw [creS_zero day (x :: l) hm, Int.zero_add, Int.zero_add]
    have hx := hm x (List.mem_cons_self ..)
    rw [creS_cons day x l (a + b) hx (by omega) h2 c (by omega), creS_cons day x l a hx h0 (by omega) c ca]
    by_cases g : x.f2 ≤ a
    · have m1 : mn x.f2 a = x.f2 := by unfold mn; split <;> omega
      have m2 : mn x.f2 (a + b) = x.f2 := by unfold mn; split <;> omega
      have H := ih (a - x.f2) b (monB_tl hm) (by omega) h1 (by omega)
      rw [m1, m2, Int.sub_self, if_pos rfl, show a + b - x.f2 = (a - x.f2) + b by omega, H]
      rw [creS_skip day _ _ b (by rfl)]
    · have m1 : mn x.f2 a = a := by unfold mn; split <;> omega
      have m2 : mn x.f2 (a + b) = a + mn (x.f2 - a) b := by unfold mn; split <;> split <;> omega
      have e1 : (if x.f2 - a = 0 then day else x.f3) = x.f3 := if_neg (by omega)
      rw [m1, m2, Int.sub_self, creS_zero day l (monB_tl hm), e1, show a + b - (a + mn (x.f2 - a) b) = b - mn (x.f2 - a) b by omega, show x.f2 - (a + mn (x.f2 - a) b) = x.f2 - a - mn (x.f2 - a) b by omega]
      dsimp only
      by_cases cb : b = 0
      · subst cb
        have m3 : mn (x.f2 - a) 0 = 0 := by unfold mn; split <;> omega
        have hy : monB ((⟨x.f0, x.f1, x.f2 - a, x.f3, x.f4, x.f5⟩ : S45) :: l) := fun y hy => by
          rcases List.mem_cons.1 hy with e | e
          · rw [e]; show 0 ≤ x.f2 - a ∧ x.f2 - a ≤ _; omega
          · exact hm y (List.mem_cons_of_mem _ e)
        rw [creS_zero day _ hy, m3, Int.sub_zero, Int.sub_zero, creS_zero day l (monB_tl hm), e1]
        rfl
      · rw [creS_cons day _ l b (by show 0 ≤ x.f2 - a ∧ x.f2 - a ≤ _; omega) h1 (by omega) (by show x.f2 - a ≠ 0; omega) cb]
        dsimp only
        rw [Int.zero_add]
theorem creS_left (day : Int) : ∀ (l : List S45) (a : Int), monB l → 0 ≤ a → a ≤ 10000000000000 → 0 ≤ (creS day l a).2 ∧ (creS day l a).2 ≤ a := by
  intro l
  induction l with
  | nil => intro a _ h _; exact ⟨h, Int.le_refl _⟩
  | cons x l ih =>
    intro a hm h0 h1
    by_cases c : x.f2 = 0
    · rw [creS_skip day x l a c]; exact ih a (monB_tl hm) h0 h1
    by_cases ca : a = 0
    · subst ca; rw [creS_zero day _ hm]; exact ⟨Int.le_refl _, Int.le_refl _⟩
    have hx := hm x (List.mem_cons_self ..)
    have m : 0 ≤ mn x.f2 a ∧ mn x.f2 a ≤ x.f2 ∧ mn x.f2 a ≤ a := by unfold mn; split <;> omega
    rw [creS_cons day x l a hx h0 h1 c ca]
    have := ih (a - mn x.f2 a) (monB_tl hm) (by omega) (by omega)
    exact ⟨this.1, by show (creS day l (a - mn x.f2 a)).2 ≤ a; omega⟩
theorem creS_gd (day : Int) (d0 : 0 ≤ day) (d1 : day ≤ 87658) : ∀ (l : List S45) (a last : Int), monB l → 0 ≤ a → a ≤ 10000000000000 → gdB last l = true → gdB last (creS day l a).1 = true := by
  intro l
  induction l with
  | nil => intro a last _ _ _ h; exact h
  | cons x l ih =>
    intro a last hm h0 h1 h
    by_cases c : x.f2 = 0
    · rw [creS_skip day x l a c]
      rw [gdB, Bool.and_eq_true] at h ⊢
      exact ⟨h.1, ih a x.f0 (monB_tl hm) h0 h1 h.2⟩
    by_cases ca : a = 0
    · subst ca; rw [creS_zero day _ hm]; exact h
    have hx := hm x (List.mem_cons_self ..)
    have m : 0 ≤ mn x.f2 a ∧ mn x.f2 a ≤ x.f2 ∧ mn x.f2 a ≤ a := by unfold mn; split <;> omega
    rw [creS_cons day x l a hx h0 h1 c ca]
    rw [gdB, Bool.and_eq_true, decide_eq_true_eq] at h ⊢
    refine ⟨?_, ih _ x.f0 (monB_tl hm) (by omega) (by omega) h.2⟩
    obtain ⟨o1, o2, o3, o4, o5, o6⟩ := h.1
    refine ⟨o1, o2, o3, ?_, ?_, ?_⟩
    · show 0 ≤ x.f2 - mn x.f2 a; omega
    · show x.f2 - mn x.f2 a ≤ x.f1; omega
    · show (x.f2 - mn x.f2 a = 0 ∧ 0 ≤ (if x.f2 - mn x.f2 a = 0 then day else x.f3) ∧ (if x.f2 - mn x.f2 a = 0 then day else x.f3) ≤ 87658) ∨ (0 < x.f2 - mn x.f2 a ∧ (if x.f2 - mn x.f2 a = 0 then day else x.f3) = -1)
      by_cases z : x.f2 - mn x.f2 a = 0
      · rw [if_pos z]; exact .inl ⟨z, d0, d1⟩
      · rw [if_neg z]
        rcases o6 with ⟨o, _⟩ | ⟨_, o⟩
        · omega
        · exact .inr ⟨by omega, o⟩
theorem creS_goodB (day : Int) (d0 : 0 ≤ day) (d1 : day ≤ 87658) (l : List S45) (a : Int) (h0 : 0 ≤ a) (h1 : a ≤ 10000000000000) (h : goodB l = true) : goodB (creS day l a).1 = true := by
  have hm := monB_good h
  unfold goodB at h ⊢
  rw [Bool.and_eq_true, decide_eq_true_eq] at h ⊢
  exact ⟨by rw [(creS_small day l a).1]; exact h.1, creS_gd day d0 d1 l a (-1) hm h0 h1 h.2⟩
/-- What a step through both lists finds, at any place. -/
theorem creS_at (day : Int) (l A : List S45) (K : Int) (hm : monB l) (j : Nat) (a : Int) (hj : j < l.length) (hA : A.length = l.length) (h0 : 0 ≤ a) (h1 : a ≤ 10000000000000) (H : creS day (l.drop j) a = (A.drop j, K)) :
    ∃ a' : Int, creS day (l.drop (j + 1)) a' = (A.drop (j + 1), K) ∧ 0 ≤ a' ∧ a' = a - ((rd_T45 l (j : Int)).f2 - (rd_T45 A (j : Int)).f2) ∧ (rd_T45 A (j : Int)).f2 ≤ (rd_T45 l (j : Int)).f2 ∧ 0 ≤ (rd_T45 A (j : Int)).f2 ∧ (rd_T45 l (j : Int)).f2 ≤ 10000000000000 ∧ (0 < (rd_T45 A (j : Int)).f2 → a' = 0 ∧ K = 0) := by
  obtain ⟨x, hx⟩ : ∃ x, x = rd_T45 l (j : Int) := ⟨_, rfl⟩
  obtain ⟨y, hy⟩ : ∃ y, y = rd_T45 A (j : Int) := ⟨_, rfl⟩
  have ht : monB (l.drop (j + 1)) := fun z hz => hm z (List.mem_of_mem_drop hz)
  have hxm : 0 ≤ x.f2 ∧ x.f2 ≤ 10000000000000 := hx ▸ hm _ (rdT_mem l j hj)
  rw [rdT_at l j hj, rdT_at A j (by omega), ← hx, ← hy] at H
  rw [← hx, ← hy]
  by_cases c : x.f2 = 0
  · rw [creS_skip day x _ a c] at H
    have e := congrArg Prod.fst H
    have e2 := congrArg Prod.snd H
    simp only [List.cons.injEq] at e e2
    refine ⟨a, ?_, h0, ?_, ?_, ?_, hxm.2, ?_⟩
    · rw [← e.2, ← e2]
    all_goals (rw [← e.1]; try omega)
  by_cases ca : a = 0
  · subst ca
    have hm2 : monB (x :: l.drop (j + 1)) := fun z hz => by
      rcases List.mem_cons.1 hz with e | e
      · rw [e]; exact hxm
      · exact ht z e
    rw [creS_zero day _ hm2] at H
    have e := congrArg Prod.fst H
    have e2 := congrArg Prod.snd H
    simp only [List.cons.injEq] at e e2
    refine ⟨0, ?_, by omega, ?_, ?_, ?_, hxm.2, ?_⟩
    · rw [creS_zero day _ ht, e.2, ← e2]
    all_goals (rw [← e.1]; try omega)
  · have m : 0 ≤ mn x.f2 a ∧ mn x.f2 a ≤ x.f2 ∧ mn x.f2 a ≤ a ∧ (x.f2 - mn x.f2 a = 0 ∨ a - mn x.f2 a = 0) := by unfold mn; split <;> omega
    rw [creS_cons day x _ a hxm h0 h1 c ca] at H
    have e := congrArg Prod.fst H
    have e2 := congrArg Prod.snd H
    simp only [List.cons.injEq] at e e2
    refine ⟨a - mn x.f2 a, ?_, by omega, ?_, ?_, ?_, hxm.2, ?_⟩
    · rw [← e.2, ← e2]
    · rw [← e.1]; show _ = a - (x.f2 - (x.f2 - mn x.f2 a)); omega
    · rw [← e.1]; show x.f2 - mn x.f2 a ≤ _; omega
    · rw [← e.1]; show 0 ≤ x.f2 - mn x.f2 a; omega
    · rw [← e.1]; show 0 < x.f2 - mn x.f2 a → _
      intro p
      have z : a - mn x.f2 a = 0 := by omega
      refine ⟨z, ?_⟩
      rw [← e2, z, creS_zero day _ ht]
/-! ### One bill more -/
theorem gdB_app (x : S45) : ∀ (l : List S45) (last : Int), gdB last l = true → okB (if l.length = 0 then last else (rd_T45 l ((l.length : Int) - 1)).f0) x → gdB last (l ++ [x]) = true := by
  intro l
  induction l with
  | nil => intro last _ h; rw [List.nil_append, gdB, gdB, Bool.and_true]; exact decide_eq_true (by simpa using h)
  | cons y l ih =>
    intro last h ho
    rw [gdB, Bool.and_eq_true] at h
    rw [List.cons_append, gdB, Bool.and_eq_true]
    refine ⟨h.1, ih y.f0 h.2 ?_⟩
    rw [if_neg (by simp)] at ho
    by_cases c : l.length = 0
    · rw [if_pos c]
      rw [List.length_cons, c, show (((0 + 1 : Nat) : Int) - 1) = ((0 : Nat) : Int) by omega] at ho
      exact ho
    · rw [if_neg c]
      obtain ⟨n, hn⟩ : ∃ n, l.length = n + 1 := ⟨l.length - 1, by omega⟩
      rw [List.length_cons, hn, show (((n + 1 + 1 : Nat) : Int) - 1) = ((n + 1 : Nat) : Int) by omega] at ho
      rw [hn, show (((n + 1 : Nat) : Int) - 1) = ((n : Nat) : Int) by omega]
      unfold rd_T45 at ho ⊢
      simpa using ho
theorem goodB_app (x : S45) (l : List S45) (h : goodB l = true) (hl : l.length < 2880) (ho : okB (lastM l) x) : goodB (l ++ [x]) = true := by
  unfold goodB at h ⊢
  rw [Bool.and_eq_true] at h ⊢
  exact ⟨decide_eq_true (by simp; omega), gdB_app x l (-1) h.2 ho⟩
theorem gdB_lt : ∀ (l : List S45) (last m : Int), gdB last l = true → (l.length = 0 ∨ (rd_T45 l ((l.length : Int) - 1)).f0 < m) → ∀ x ∈ l, x.f0 < m := by
  intro l
  induction l with
  | nil => intro _ _ _ _ x hx; cases hx
  | cons y l ih =>
    intro last m h hm x hx
    rw [gdB, Bool.and_eq_true, decide_eq_true_eq] at h
    rcases hm with hm | hm
    · simp at hm
    by_cases c : l.length = 0
    · rw [List.length_cons, c, show (((0 + 1 : Nat) : Int) - 1) = ((0 : Nat) : Int) by omega] at hm
      have e : l = [] := List.length_eq_zero_iff.mp c
      subst e
      obtain rfl := List.mem_singleton.1 hx
      exact hm
    · obtain ⟨n, hn⟩ : ∃ n, l.length = n + 1 := ⟨l.length - 1, by omega⟩
      have hm2 : (rd_T45 l ((l.length : Int) - 1)).f0 < m := by
        rw [List.length_cons, hn, show (((n + 1 + 1 : Nat) : Int) - 1) = ((n + 1 : Nat) : Int) by omega] at hm
        rw [hn, show (((n + 1 : Nat) : Int) - 1) = ((n : Nat) : Int) by omega]
        unfold rd_T45 at hm ⊢
        simpa using hm
      have H := ih y.f0 m h.2 (.inr hm2)
      rcases List.mem_cons.1 hx with e | e
      · rw [e]
        have h1 := H _ (rdT_mem l n (by omega))
        have h2 := (gdB_mem l y.f0 h.2 _ (rdT_mem l n (by omega))).2.2.2.2
        omega
      · exact H x e
theorem idxB_app (p : S45 → Bool) (x : S45) (hx : p x = true) : ∀ (l : List S45) (j : Nat), (∀ y ∈ l, p y = false) → idxB p (l ++ [x]) j = ((j + l.length : Nat) : Int) := by
  intro l
  induction l with
  | nil => intro j _; rw [List.nil_append, idxB, if_pos hx]; simp
  | cons y l ih =>
    intro j h
    rw [List.cons_append, idxB, if_neg (by rw [h y (List.mem_cons_self ..)]; simp), ih (j + 1) (fun z hz => h z (List.mem_cons_of_mem _ hz)), List.length_cons]
    congr 1; omega
theorem rd_app (l : List S45) (x : S45) : rd_T45 (l ++ [x]) (l.length : Int) = x := by unfold rd_T45; simp
theorem find_app (l : List S45) (x : S45) (hg : goodB (l ++ [x]) = true) (hlt : ∀ y ∈ l, y.f0 < x.f0) : findS (l ++ [x]) x.f0 = (x.f0, x.f1, x.f2, x.f3, x.f4, x.f5, true) := by
  have e : idxB (fun y => decide (y.f0 = x.f0)) (l ++ [x]) 0 = (l.length : Int) := by
    rw [idxB_app _ x (by simp) l 0 (fun y hy => by have := hlt y hy; simp; omega)]; rw [Nat.zero_add]
  unfold findS
  rw [e, hg, if_neg (by simp), rd_app]
end Go.Proofs.Ytibjbgfphhmogaa.Pure
