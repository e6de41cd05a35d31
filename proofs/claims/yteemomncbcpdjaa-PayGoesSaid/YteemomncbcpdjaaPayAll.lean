/- A part of a proof. -/
import Derived.Test.YteemomncbcpdjaaZg
import Derived.Test.YteemomncbcpdjaaPx2
import Derived.Test.YteemomncbcpdjaaPx6
import Derived.Test.YteemomncbcpdjaaPx8
import Derived.Test.YteemomncbcpdjaaPx9
import Derived.Test.YteemomncbcpdjaaPx16
import Derived.Test.YteemomncbcpdjaaPayEv
import Derived.Test.YteemomncbcpdjaaPayPlain
namespace Go.Proofs.Yteemomncbcpdjaa.Pure
set_option linter.unusedVariables false
set_option linter.unusedSimpArgs false
open Go.RowKit Go.Proofs.Yteemomncbcpdjaa.P W.PrintWords W.PrintLast W.PrintMore Go.Proofs.Yteemomncbcpdjaa.PlainM Go.Proofs.Yteemomncbcpdjaa.Plain
def rn (l : List S43) (i : Nat) : S43 := qQc l (i : Int)
def gdL (x : S43) : Prop := gd x.f0 x.f1 x.f2 x.f3 x.f4 x.f5 x.f7 x.f8 x.f9 x.f10 x.f11 x.f12
instance (x : S43) : Decidable (gdL x) := by unfold gdL; infer_instance
theorem qWg {l : List S43} {i : Nat} (h : i < l.length) : rn l i ∈ l := by
  unfold rn qQc
  rw [Int.toNat_natCast, List.getD_eq_getElem?_getD, List.getElem?_eq_getElem h]; exact List.getElem_mem h
theorem rn_at {l : List S43} {i : Nat} (h : i < l.length) : rn l i = l[i] := by
  unfold rn qQc
  rw [Int.toNat_natCast, List.getD_eq_getElem?_getD, List.getElem?_eq_getElem h]; rfl
theorem qWf {A : List Nat} {j : Nat} (h : j < A.length) : rd (toI A) (j : Int) = ((A[j] : Nat) : Int) := by
  unfold rd toI
  rw [Int.toNat_natCast, List.getD_eq_getElem?_getD, List.getElem?_map, List.getElem?_eq_getElem h]; rfl
theorem rd_at {A : List Int} {j : Nat} (h : j < A.length) : rd A (j : Int) = A[j] := by
  unfold rd
  rw [Int.toNat_natCast, List.getD_eq_getElem?_getD, List.getElem?_eq_getElem h]; rfl
theorem qYk (A : List Nat) : (toI A).length = A.length := by simp [toI]
def badL (l : List S43) : Bool := !(l.all (fun x => decide (gdL x)))
theorem bad_go (k : Nat) (hk : 10 ≤ k) : ∀ (l : List S43) (j : Nat), ∃ i, qYh.go k l j = some i ∧ (0 ≤ i ↔ badL l = true) := by
  intro l
  induction l with
  | nil => intro j; exact ⟨-1, rfl, by simp [badL]⟩
  | cons x l ih =>
    intro j
    unfold qYh.go
    rw [qJl _ _ _ _ _ _ _ _ _ _ _ _ _ k hk]
    simp only [obind, decide_eq_true_eq]
    by_cases g : gdL x
    · obtain ⟨i, e, h⟩ := ih (j + 1)
      refine ⟨i, by rw [if_pos (show gd _ _ _ _ _ _ _ _ _ _ _ _ from g)]; exact e, ?_⟩
      rw [h]; unfold badL; rw [List.all_cons, decide_eq_true g, Bool.true_and]
    · refine ⟨(j : Int), by rw [if_neg (show ¬ gd _ _ _ _ _ _ _ _ _ _ _ _ from g)], ?_⟩
      unfold badL; rw [List.all_cons, decide_eq_false g]; simp
theorem bad_is (l : List S43) (hl : l.length ≤ 100000) (k : Nat) (hk : 10 ≤ k) : qYh.f k l = some (badL l) := by
  unfold qYh.f
  obtain ⟨i, e, h⟩ := bad_go k hk l 0
  rw [if_pos hl, e]
  simp only [obind]
  congr 1
  cases c : badL l with
  | true => rw [decide_eq_true (h.mpr c)]
  | false => rw [decide_eq_false (fun hh => by rw [h.mp hh] at c; cases c)]
theorem qKr {l : List S43} (h : badL l = false) : ∀ x ∈ l, gdL x := by
  intro x hx
  unfold badL at h
  have h2 : ∀ x, x ∈ l → gdL x := by simpa using h
  exact h2 x hx
theorem zZj : ∀ (m j : Nat) (acc rooms : List Int) (t : Int) (k : Nat), j + m = rooms.length → rooms.length ≤ 1000 → acc.length ≤ 1000 → acc.length = j → (∀ x ∈ rooms, 0 ≤ x) → 0 ≤ t → t ≤ 10000000000000 →
    qZx.l0 (m + 1 + k) acc t rooms (rooms.length : Int) (j : Int) = some (acc ++ fl (rooms.drop j) t, fr (rooms.drop j) t, 0) := by
  intro m
  induction m with
  | zero =>
    intro j acc rooms t k hj hr ha haj hp ht ht'
    rw [show 0 + 1 + k = k + 1 by omega]
    simp only [qZx.l0]
    rw [if_neg (by omega), List.drop_of_length_le (by omega)]
    simp [fl, fr]
  | succ m ih =>
    intro j acc rooms t k hj hr ha haj hp ht ht'
    rw [show m + 1 + 1 + k = (m + 1 + k) + 1 by omega]
    simp only [qZx.l0]
    have hjl : j < rooms.length := by omega
    rw [if_pos (by omega), if_pos (by omega), if_pos (by omega), if_pos (by omega), rd_at hjl]
    have b := mn_bd (hp _ (List.getElem_mem hjl)) ht
    rw [w64 (e := t - mn rooms[j] t) (by omega) (by omega), w64 (e := (j : Int) + 1) (by omega) (by omega), show ((j : Int) + 1) = ((j + 1 : Nat) : Int) by omega,
      ih (j + 1) _ rooms _ k (by omega) hr (by rw [List.length_append]; simp; omega) (by rw [List.length_append]; simp; omega) hp (by omega) (by omega),
      List.drop_eq_getElem_cons hjl, fl, fr]
    simp
theorem zQm : ∀ (l : List Int) (j : Nat), (∀ x ∈ l, 0 ≤ x ∧ x ≤ 10000000000000) → qQ9.idx l j = -1 := by
  intro l
  induction l with
  | nil => intro j _; rfl
  | cons a l ih =>
    intro j h
    have ha := h a (List.mem_cons_self ..)
    unfold qQ9.idx
    rw [if_neg (by unfold qQ9.bad isMoney; simp; omega)]
    exact ih _ (fun x hx => h x (List.mem_cons_of_mem _ hx))
theorem zQ5 (rooms : List Int) (t : Int) (k : Nat) (hk : rooms.length + 1 ≤ k) (hr : rooms.length ≤ 1000) (hp : ∀ x ∈ rooms, 0 ≤ x ∧ x ≤ 10000000000000) (ht : 0 ≤ t) (ht' : t ≤ 10000000000000) :
    qZx.f k t rooms = some (fl rooms t, fr rooms t, 0) := by
  obtain ⟨m, rfl⟩ : ∃ m, k = rooms.length + 1 + m := ⟨k - (rooms.length + 1), by omega⟩
  unfold qZx.f qQ9.f
  rw [if_pos (by omega), zQm _ _ hp, decide_eq_true (show 0 ≤ t ∧ isMoney t = true ∧ rooms.length ≤ 1000 ∧ (-1 : Int) < 0 from ⟨ht, by unfold isMoney; simp; omega, hr, by decide⟩)]
  simp only [obind, if_true]
  have := zZj rooms.length 0 [] rooms t m (by omega) hr (by simp) rfl (fun x hx => (hp x hx).1) ht ht'
  simpa using this
end Go.Proofs.Yteemomncbcpdjaa.Pure
