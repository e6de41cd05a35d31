/- bill.Credit: bills that something covers, the first ones first: walked by hand (a pointer to an element among it). -/
import Derived.Test.YtibjbgfphhmogaaZd
import Derived.Test.YtibjbgfphhmogaaPx3
import Derived.WalkMore
namespace Go.Proofs.Ytibjbgfphhmogaa.P
open Go.RowKit Go.Proofs.YtibjbgfphhmogaaW.PrintWords Go.Proofs.YtibjbgfphhmogaaW.PrintLast Go.Proofs.YtibjbgfphhmogaaW.PrintMore
attribute [local go_sem] max2_int min2_int max_two min_two max_three min_three max_four min_four   -- for this text's walks alone
set_option linter.unusedVariables false
set_option linter.unusedSimpArgs false
/-- Bills, and what is left, when so much has been credited. -/
def creS (day : Int) : List S45 → Int → List S45 × Int
  | [], a => ([], a)
  | x :: l, a => if x.f2 = 0 then (x :: (creS day l a).1, (creS day l a).2) else if a = 0 then (x :: l, a) else
      ((⟨x.f0, x.f1, wrap64 (x.f2 - mn x.f2 a), if wrap64 (x.f2 - mn x.f2 a) = 0 then day else x.f3, x.f4, x.f5⟩ : S45) :: (creS day l (wrap64 (a - mn x.f2 a))).1, (creS day l (wrap64 (a - mn x.f2 a))).2)
def bill_Credit.f (k : Nat) (l0 : List S45) (a1 : Int) (a2 : Int) : Option (List S45 × Int × Int) :=
  (bill_Good.f k l0).bind fun g => if g = true then (bill_cents.f a1).bind fun c => if c = true then (date_Good.f a2).bind fun d => if d = true then (bill_copied.f k l0).bind fun t => some ((creS a2 t a1).1, (creS a2 t a1).2, 0) else some ([], 0, 1) else some ([], 0, 1) else some ([], 0, 11)
theorem bill_Credit.mono : ∀ l0 a1 a2 k, LeO (bill_Credit.f k l0 a1 a2) (bill_Credit.f (k + 1) l0 a1 a2) := fun l0 a1 a2 k => LeO.bind (bill_Good.mono _ _) (fun _ => LeO.refl _)
theorem set_take {α : Type} (l : List α) (j : Nat) (x : α) (h : j < l.length) : (l.set j x).take (j + 1) = l.take j ++ [x] := by
  rw [List.take_add_one, List.take_set_of_le (Nat.le_refl _)]
  simp [h]
theorem set_drop {α : Type} (l : List α) (j : Nat) (x : α) : (l.set j x).drop (j + 1) = l.drop (j + 1) := List.drop_set_of_lt (by omega)
theorem rdT_drop (l : List S45) (j : Nat) (h : j < l.length) : l.drop j = rd_T45 l j :: l.drop (j + 1) := by
  rw [List.drop_eq_getElem_cons h]; congr 1; unfold rd_T45; simp [List.getD_eq_getElem?_getD, h]
/-- How far the crediting has come. -/
def creAt (day : Int) (L : List S45) (j : Nat) (a : Int) (R : List S45 × Int) : Prop := L.take j ++ (creS day (L.drop j) a).1 = R.1 ∧ (creS day (L.drop j) a).2 = R.2
theorem creAt_skip {day : Int} {L : List S45} {j : Nat} {a : Int} {R : List S45 × Int} (h : creAt day L j a R) (hj : j < L.length) (hx : (rd_T45 L j).f2 = 0) : creAt day L (j + 1) a R := by
  unfold creAt at *
  rw [rdT_drop L j hj, creS, if_pos hx] at h
  have e : L.take (j + 1) = L.take j ++ [rd_T45 L j] := by
    rw [List.take_add_one]; unfold rd_T45; simp [List.getD_eq_getElem?_getD, hj]
  rw [e, List.append_assoc]
  exact h
theorem creAt_break {day : Int} {L : List S45} {j : Nat} {R : List S45 × Int} (h : creAt day L j 0 R) (hj : j < L.length) (hx : (rd_T45 L j).f2 ≠ 0) : R = (L, 0) := by
  unfold creAt at *
  rw [rdT_drop L j hj, creS, if_neg hx, if_pos rfl, ← rdT_drop L j hj, List.take_append_drop] at h
  exact Prod.ext h.1.symm h.2.symm
theorem creAt_end {day : Int} {L : List S45} {a : Int} {R : List S45 × Int} (h : creAt day L L.length a R) : R = (L, a) := by
  unfold creAt at *
  rw [List.drop_length, List.take_length, creS, List.append_nil] at h
  exact Prod.ext h.1.symm h.2.symm
theorem creAt_step {day : Int} {L : List S45} {j : Nat} {a : Int} {R : List S45 × Int} (h : creAt day L j a R) (hj : j < L.length) (hx : (rd_T45 L j).f2 ≠ 0) (ha : a ≠ 0) :
    creAt day (L.set j ⟨(rd_T45 L j).f0, (rd_T45 L j).f1, wrap64 ((rd_T45 L j).f2 - mn (rd_T45 L j).f2 a), if wrap64 ((rd_T45 L j).f2 - mn (rd_T45 L j).f2 a) = 0 then day else (rd_T45 L j).f3, (rd_T45 L j).f4, (rd_T45 L j).f5⟩) (j + 1) (wrap64 (a - mn (rd_T45 L j).f2 a)) R := by
  unfold creAt at *
  rw [rdT_drop L j hj, creS, if_neg hx, if_neg ha] at h
  rw [set_take L j _ hj, set_drop, List.append_assoc]
  exact h
set_option maxHeartbeats 8000000 in
set_option maxRecDepth 100000 in
theorem bill_Credit.calls (k : Nat) (A0 : Option Addr) (c0 : Nat) (l0 : List S45) (a1 a2 : Int) (r1 : List S45) (r2 r3 : Int) (w : World) (hr0 : Kd.C k45 w A0 l0.length l0) (hc0 : l0.length ≤ c0) (h : bill_Credit.f k l0 a1 a2 = some (r1, r2, r3)) :
    Calls Try.prog 14 #[.slice A0 l0.length c0, .int .i64 a1, .int .i64 a2] w fun e w' => ∃ v0_ : Value, e = .returned (.tuple #[v0_, .int .i64 r2, .int .i64 r3]) ∧ Kd.N k45 45 w' w.heap.size (fun k_ => w.heap.size ≤ k_) v0_ r1 ∧ Below w.heap.size w w' := by
  have hu45 := Try.underlying45
  obtain ⟨g, hg, h⟩ := Option.bind_eq_some_iff.mp h
  have hcall := Aside0.mk (bill_Good.calls k A0 c0 l0 g w hr0 hc0 hg)
  have HB := Aside0.mk (Below.refl w.heap.size w)
  obtain ⟨n, hn⟩ : ∃ n, l0.length = n := ⟨_, rfl⟩
  have HN0 := Aside0.mk hn
  have HR0 := Aside0.mk hr0
  have HC0 := Aside0.mk hc0
  rw [hn] at hcall HR0 HC0 ⊢
  cases g with
  | false =>
    rw [if_neg (by simp)] at h
    simp only [Option.some.injEq, Prod.mk.injEq] at h
    obtain ⟨rfl, rfl, rfl⟩ := h
    clear hr0 hc0 hg hn
    have HCE := HB
    have HDA := HB
    have HCO := HB
    have HN := HB
    go_enter Try.func14, Try.ntmps14
    try go_step3
    go_wp2_with (first | (go_at_call 20; refine hcall.out.mono ?_; rintro e w1 ⟨rfl, hb1⟩; have n_ := Aside0.mk (below_step (by repeat (first | (with_reducible first | exact HB.out | apply below_alloc | apply pw_below_drewN | apply below_drew1) | exact HB.out)) hb1); clear HB; have HB := n_; clear n_ hb1) | (go_at_call 29; refine (bill_cents.calls a1 _ _ HCE.out).mono ?_; rintro e w' ⟨rfl, ⟨nd, rfl⟩⟩) | (go_at_call 34; refine (date_Good.calls a2 _ _ HDA.out).mono ?_; rintro e w' ⟨rfl, ⟨nd, rfl⟩⟩) | (go_at_call 31; refine (HCO.out _ (by repeat (first | (with_reducible first | exact HB.out | apply below_alloc | apply pw_below_drewN | apply below_drew1) | exact HB.out))).mono ?_; rintro e w1 ⟨v6, rfl, ho, hb1⟩; have HO := Aside0.mk (Kd.N_lower (Kd.N_mono (ok' := fun k_ => w.heap.size ≤ k_) ho (fun k_ hk_ => Nat.le_trans (below_size (by repeat (first | (with_reducible first | exact HB.out | apply below_alloc | apply pw_below_drewN | apply below_drew1) | exact HB.out))) hk_)) (below_size (by repeat (first | (with_reducible first | exact HB.out | apply below_alloc | apply pw_below_drewN | apply below_drew1) | exact HB.out)))); clear ho; have n_ := Aside0.mk (below_step (by repeat (first | (with_reducible first | exact HB.out | apply below_alloc | apply pw_below_drewN | apply below_drew1) | exact HB.out)) hb1); clear HB; have HB := n_; clear n_ hb1; obtain ⟨A6, c6, e6⟩ := Kd.N_slice HO.out; rw [HN.out] at e6; subst e6))
    try (go_step3; go_wp2_with (first | (go_at_call 20; refine hcall.out.mono ?_; rintro e w1 ⟨rfl, hb1⟩; have n_ := Aside0.mk (below_step (by repeat (first | (with_reducible first | exact HB.out | apply below_alloc | apply pw_below_drewN | apply below_drew1) | exact HB.out)) hb1); clear HB; have HB := n_; clear n_ hb1) | (go_at_call 29; refine (bill_cents.calls a1 _ _ HCE.out).mono ?_; rintro e w' ⟨rfl, ⟨nd, rfl⟩⟩) | (go_at_call 34; refine (date_Good.calls a2 _ _ HDA.out).mono ?_; rintro e w' ⟨rfl, ⟨nd, rfl⟩⟩) | (go_at_call 31; refine (HCO.out _ (by repeat (first | (with_reducible first | exact HB.out | apply below_alloc | apply pw_below_drewN | apply below_drew1) | exact HB.out))).mono ?_; rintro e w1 ⟨v6, rfl, ho, hb1⟩; have HO := Aside0.mk (Kd.N_lower (Kd.N_mono (ok' := fun k_ => w.heap.size ≤ k_) ho (fun k_ hk_ => Nat.le_trans (below_size (by repeat (first | (with_reducible first | exact HB.out | apply below_alloc | apply pw_below_drewN | apply below_drew1) | exact HB.out))) hk_)) (below_size (by repeat (first | (with_reducible first | exact HB.out | apply below_alloc | apply pw_below_drewN | apply below_drew1) | exact HB.out)))); clear ho; have n_ := Aside0.mk (below_step (by repeat (first | (with_reducible first | exact HB.out | apply below_alloc | apply pw_below_drewN | apply below_drew1) | exact HB.out)) hb1); clear HB; have HB := n_; clear n_ hb1; obtain ⟨A6, c6, e6⟩ := Kd.N_slice HO.out; rw [HN.out] at e6; subst e6)))
    try simp only [Exit.noGoto_ret]
    go_ret3
    exact ⟨_, rfl, Kd.N_nil _ _ _ _ _, (by repeat (first | (with_reducible first | exact HB.out | apply below_alloc | apply pw_below_drewN | apply below_drew1) | exact HB.out))⟩
  | true =>
  rw [if_pos rfl] at h
  clear hg
  obtain ⟨c, hce, h⟩ := Option.bind_eq_some_iff.mp h
  have HCE := Aside0.mk hce
  cases c with
  | false =>
    rw [if_neg (by simp)] at h
    simp only [Option.some.injEq, Prod.mk.injEq] at h
    obtain ⟨rfl, rfl, rfl⟩ := h
    clear hr0 hc0 hn hce
    have HDA := HB
    have HCO := HB
    have HN := HB
    go_enter Try.func14, Try.ntmps14
    try go_step3
    go_wp2_with (first | (go_at_call 20; refine hcall.out.mono ?_; rintro e w1 ⟨rfl, hb1⟩; have n_ := Aside0.mk (below_step (by repeat (first | (with_reducible first | exact HB.out | apply below_alloc | apply pw_below_drewN | apply below_drew1) | exact HB.out)) hb1); clear HB; have HB := n_; clear n_ hb1) | (go_at_call 29; refine (bill_cents.calls a1 _ _ HCE.out).mono ?_; rintro e w' ⟨rfl, ⟨nd, rfl⟩⟩) | (go_at_call 34; refine (date_Good.calls a2 _ _ HDA.out).mono ?_; rintro e w' ⟨rfl, ⟨nd, rfl⟩⟩) | (go_at_call 31; refine (HCO.out _ (by repeat (first | (with_reducible first | exact HB.out | apply below_alloc | apply pw_below_drewN | apply below_drew1) | exact HB.out))).mono ?_; rintro e w1 ⟨v6, rfl, ho, hb1⟩; have HO := Aside0.mk (Kd.N_lower (Kd.N_mono (ok' := fun k_ => w.heap.size ≤ k_) ho (fun k_ hk_ => Nat.le_trans (below_size (by repeat (first | (with_reducible first | exact HB.out | apply below_alloc | apply pw_below_drewN | apply below_drew1) | exact HB.out))) hk_)) (below_size (by repeat (first | (with_reducible first | exact HB.out | apply below_alloc | apply pw_below_drewN | apply below_drew1) | exact HB.out)))); clear ho; have n_ := Aside0.mk (below_step (by repeat (first | (with_reducible first | exact HB.out | apply below_alloc | apply pw_below_drewN | apply below_drew1) | exact HB.out)) hb1); clear HB; have HB := n_; clear n_ hb1; obtain ⟨A6, c6, e6⟩ := Kd.N_slice HO.out; rw [HN.out] at e6; subst e6))
    try (go_step3; go_wp2_with (first | (go_at_call 20; refine hcall.out.mono ?_; rintro e w1 ⟨rfl, hb1⟩; have n_ := Aside0.mk (below_step (by repeat (first | (with_reducible first | exact HB.out | apply below_alloc | apply pw_below_drewN | apply below_drew1) | exact HB.out)) hb1); clear HB; have HB := n_; clear n_ hb1) | (go_at_call 29; refine (bill_cents.calls a1 _ _ HCE.out).mono ?_; rintro e w' ⟨rfl, ⟨nd, rfl⟩⟩) | (go_at_call 34; refine (date_Good.calls a2 _ _ HDA.out).mono ?_; rintro e w' ⟨rfl, ⟨nd, rfl⟩⟩) | (go_at_call 31; refine (HCO.out _ (by repeat (first | (with_reducible first | exact HB.out | apply below_alloc | apply pw_below_drewN | apply below_drew1) | exact HB.out))).mono ?_; rintro e w1 ⟨v6, rfl, ho, hb1⟩; have HO := Aside0.mk (Kd.N_lower (Kd.N_mono (ok' := fun k_ => w.heap.size ≤ k_) ho (fun k_ hk_ => Nat.le_trans (below_size (by repeat (first | (with_reducible first | exact HB.out | apply below_alloc | apply pw_below_drewN | apply below_drew1) | exact HB.out))) hk_)) (below_size (by repeat (first | (with_reducible first | exact HB.out | apply below_alloc | apply pw_below_drewN | apply below_drew1) | exact HB.out)))); clear ho; have n_ := Aside0.mk (below_step (by repeat (first | (with_reducible first | exact HB.out | apply below_alloc | apply pw_below_drewN | apply below_drew1) | exact HB.out)) hb1); clear HB; have HB := n_; clear n_ hb1; obtain ⟨A6, c6, e6⟩ := Kd.N_slice HO.out; rw [HN.out] at e6; subst e6)))
    try simp only [Exit.noGoto_ret]
    go_ret3
    exact ⟨_, rfl, Kd.N_nil _ _ _ _ _, (by repeat (first | (with_reducible first | exact HB.out | apply below_alloc | apply pw_below_drewN | apply below_drew1) | exact HB.out))⟩
  | true =>
  rw [if_pos rfl] at h
  clear hce
  obtain ⟨d, hda, h⟩ := Option.bind_eq_some_iff.mp h
  have HDA := Aside0.mk hda
  cases d with
  | false =>
    rw [if_neg (by simp)] at h
    simp only [Option.some.injEq, Prod.mk.injEq] at h
    obtain ⟨rfl, rfl, rfl⟩ := h
    clear hr0 hc0 hn hda
    have HCO := HB
    have HN := HB
    go_enter Try.func14, Try.ntmps14
    try go_step3
    go_wp2_with (first | (go_at_call 20; refine hcall.out.mono ?_; rintro e w1 ⟨rfl, hb1⟩; have n_ := Aside0.mk (below_step (by repeat (first | (with_reducible first | exact HB.out | apply below_alloc | apply pw_below_drewN | apply below_drew1) | exact HB.out)) hb1); clear HB; have HB := n_; clear n_ hb1) | (go_at_call 29; refine (bill_cents.calls a1 _ _ HCE.out).mono ?_; rintro e w' ⟨rfl, ⟨nd, rfl⟩⟩) | (go_at_call 34; refine (date_Good.calls a2 _ _ HDA.out).mono ?_; rintro e w' ⟨rfl, ⟨nd, rfl⟩⟩) | (go_at_call 31; refine (HCO.out _ (by repeat (first | (with_reducible first | exact HB.out | apply below_alloc | apply pw_below_drewN | apply below_drew1) | exact HB.out))).mono ?_; rintro e w1 ⟨v6, rfl, ho, hb1⟩; have HO := Aside0.mk (Kd.N_lower (Kd.N_mono (ok' := fun k_ => w.heap.size ≤ k_) ho (fun k_ hk_ => Nat.le_trans (below_size (by repeat (first | (with_reducible first | exact HB.out | apply below_alloc | apply pw_below_drewN | apply below_drew1) | exact HB.out))) hk_)) (below_size (by repeat (first | (with_reducible first | exact HB.out | apply below_alloc | apply pw_below_drewN | apply below_drew1) | exact HB.out)))); clear ho; have n_ := Aside0.mk (below_step (by repeat (first | (with_reducible first | exact HB.out | apply below_alloc | apply pw_below_drewN | apply below_drew1) | exact HB.out)) hb1); clear HB; have HB := n_; clear n_ hb1; obtain ⟨A6, c6, e6⟩ := Kd.N_slice HO.out; rw [HN.out] at e6; subst e6))
    try (go_step3; go_wp2_with (first | (go_at_call 20; refine hcall.out.mono ?_; rintro e w1 ⟨rfl, hb1⟩; have n_ := Aside0.mk (below_step (by repeat (first | (with_reducible first | exact HB.out | apply below_alloc | apply pw_below_drewN | apply below_drew1) | exact HB.out)) hb1); clear HB; have HB := n_; clear n_ hb1) | (go_at_call 29; refine (bill_cents.calls a1 _ _ HCE.out).mono ?_; rintro e w' ⟨rfl, ⟨nd, rfl⟩⟩) | (go_at_call 34; refine (date_Good.calls a2 _ _ HDA.out).mono ?_; rintro e w' ⟨rfl, ⟨nd, rfl⟩⟩) | (go_at_call 31; refine (HCO.out _ (by repeat (first | (with_reducible first | exact HB.out | apply below_alloc | apply pw_below_drewN | apply below_drew1) | exact HB.out))).mono ?_; rintro e w1 ⟨v6, rfl, ho, hb1⟩; have HO := Aside0.mk (Kd.N_lower (Kd.N_mono (ok' := fun k_ => w.heap.size ≤ k_) ho (fun k_ hk_ => Nat.le_trans (below_size (by repeat (first | (with_reducible first | exact HB.out | apply below_alloc | apply pw_below_drewN | apply below_drew1) | exact HB.out))) hk_)) (below_size (by repeat (first | (with_reducible first | exact HB.out | apply below_alloc | apply pw_below_drewN | apply below_drew1) | exact HB.out)))); clear ho; have n_ := Aside0.mk (below_step (by repeat (first | (with_reducible first | exact HB.out | apply below_alloc | apply pw_below_drewN | apply below_drew1) | exact HB.out)) hb1); clear HB; have HB := n_; clear n_ hb1; obtain ⟨A6, c6, e6⟩ := Kd.N_slice HO.out; rw [HN.out] at e6; subst e6)))
    try simp only [Exit.noGoto_ret]
    go_ret3
    exact ⟨_, rfl, Kd.N_nil _ _ _ _ _, (by repeat (first | (with_reducible first | exact HB.out | apply below_alloc | apply pw_below_drewN | apply below_drew1) | exact HB.out))⟩
  | true =>
  rw [if_pos rfl] at h
  clear hda
  obtain ⟨t, hco, h⟩ := Option.bind_eq_some_iff.mp h
  have ht : t.length = l0.length ∧ l0.length ≤ 4000 := by
    unfold bill_copied.f at hco
    split at hco
    · rename_i q; rw [Option.some.inj hco] at q ⊢; exact ⟨rfl, q.1⟩
    · cases hco
  have hn4 : n ≤ 4000 := by rw [← hn]; exact ht.2
  have HCO : Aside0 (∀ W, Below w.heap.size w W → Calls Try.prog 31 #[.slice A0 n c0] W fun e w' => ∃ v0_ : Value, e = .returned v0_ ∧ Kd.N k45 45 w' W.heap.size (fun k_ => W.heap.size ≤ k_) v0_ t ∧ Below W.heap.size W w') := ⟨fun W hW => by
    have := bill_copied.calls k A0 c0 l0 t W (Kd.C_below hr0 hW) hc0 hco
    rwa [hn] at this⟩
  have HN : Aside0 (t.length = n) := ⟨ht.1.trans hn⟩
  simp only [Option.some.injEq, Prod.mk.injEq] at h
  obtain ⟨rfl, rfl, rfl⟩ := h
  have hR0 : creAt a2 t 0 a1 (creS a2 t a1) := ⟨by rw [List.drop_zero]; rfl, by rw [List.drop_zero]⟩
  obtain ⟨R, hR⟩ : ∃ R, R = creS a2 t a1 := ⟨_, rfl⟩
  rw [← hR] at hR0 ⊢
  have HR := Aside0.mk hR0
  clear hr0 hc0 hn hco ht hR hR0
  go_enter Try.func14, Try.ntmps14
  try try go_step3
  go_wp2_with (first | (go_at_call 20; refine hcall.out.mono ?_; rintro e w1 ⟨rfl, hb1⟩; have n_ := Aside0.mk (below_step (by repeat (first | (with_reducible first | exact HB.out | apply below_alloc | apply pw_below_drewN | apply below_drew1) | exact HB.out)) hb1); clear HB; have HB := n_; clear n_ hb1) | (go_at_call 29; refine (bill_cents.calls a1 _ _ HCE.out).mono ?_; rintro e w' ⟨rfl, ⟨nd, rfl⟩⟩) | (go_at_call 34; refine (date_Good.calls a2 _ _ HDA.out).mono ?_; rintro e w' ⟨rfl, ⟨nd, rfl⟩⟩) | (go_at_call 31; refine (HCO.out _ (by repeat (first | (with_reducible first | exact HB.out | apply below_alloc | apply pw_below_drewN | apply below_drew1) | exact HB.out))).mono ?_; rintro e w1 ⟨v6, rfl, ho, hb1⟩; have HO := Aside0.mk (Kd.N_lower (Kd.N_mono (ok' := fun k_ => w.heap.size ≤ k_) ho (fun k_ hk_ => Nat.le_trans (below_size (by repeat (first | (with_reducible first | exact HB.out | apply below_alloc | apply pw_below_drewN | apply below_drew1) | exact HB.out))) hk_)) (below_size (by repeat (first | (with_reducible first | exact HB.out | apply below_alloc | apply pw_below_drewN | apply below_drew1) | exact HB.out)))); clear ho; have n_ := Aside0.mk (below_step (by repeat (first | (with_reducible first | exact HB.out | apply below_alloc | apply pw_below_drewN | apply below_drew1) | exact HB.out)) hb1); clear HB; have HB := n_; clear n_ hb1; obtain ⟨A6, c6, e6⟩ := Kd.N_slice HO.out; rw [HN.out] at e6; subst e6))
  try (go_step3; go_wp2_with (first | (go_at_call 20; refine hcall.out.mono ?_; rintro e w1 ⟨rfl, hb1⟩; have n_ := Aside0.mk (below_step (by repeat (first | (with_reducible first | exact HB.out | apply below_alloc | apply pw_below_drewN | apply below_drew1) | exact HB.out)) hb1); clear HB; have HB := n_; clear n_ hb1) | (go_at_call 29; refine (bill_cents.calls a1 _ _ HCE.out).mono ?_; rintro e w' ⟨rfl, ⟨nd, rfl⟩⟩) | (go_at_call 34; refine (date_Good.calls a2 _ _ HDA.out).mono ?_; rintro e w' ⟨rfl, ⟨nd, rfl⟩⟩) | (go_at_call 31; refine (HCO.out _ (by repeat (first | (with_reducible first | exact HB.out | apply below_alloc | apply pw_below_drewN | apply below_drew1) | exact HB.out))).mono ?_; rintro e w1 ⟨v6, rfl, ho, hb1⟩; have HO := Aside0.mk (Kd.N_lower (Kd.N_mono (ok' := fun k_ => w.heap.size ≤ k_) ho (fun k_ hk_ => Nat.le_trans (below_size (by repeat (first | (with_reducible first | exact HB.out | apply below_alloc | apply pw_below_drewN | apply below_drew1) | exact HB.out))) hk_)) (below_size (by repeat (first | (with_reducible first | exact HB.out | apply below_alloc | apply pw_below_drewN | apply below_drew1) | exact HB.out)))); clear ho; have n_ := Aside0.mk (below_step (by repeat (first | (with_reducible first | exact HB.out | apply below_alloc | apply pw_below_drewN | apply below_drew1) | exact HB.out)) hb1); clear HB; have HB := n_; clear n_ hb1; obtain ⟨A6, c6, e6⟩ := Kd.N_slice HO.out; rw [HN.out] at e6; subst e6)))
  try (go_step3; go_wp2_with (first | (go_at_call 20; refine hcall.out.mono ?_; rintro e w1 ⟨rfl, hb1⟩; have n_ := Aside0.mk (below_step (by repeat (first | (with_reducible first | exact HB.out | apply below_alloc | apply pw_below_drewN | apply below_drew1) | exact HB.out)) hb1); clear HB; have HB := n_; clear n_ hb1) | (go_at_call 29; refine (bill_cents.calls a1 _ _ HCE.out).mono ?_; rintro e w' ⟨rfl, ⟨nd, rfl⟩⟩) | (go_at_call 34; refine (date_Good.calls a2 _ _ HDA.out).mono ?_; rintro e w' ⟨rfl, ⟨nd, rfl⟩⟩) | (go_at_call 31; refine (HCO.out _ (by repeat (first | (with_reducible first | exact HB.out | apply below_alloc | apply pw_below_drewN | apply below_drew1) | exact HB.out))).mono ?_; rintro e w1 ⟨v6, rfl, ho, hb1⟩; have HO := Aside0.mk (Kd.N_lower (Kd.N_mono (ok' := fun k_ => w.heap.size ≤ k_) ho (fun k_ hk_ => Nat.le_trans (below_size (by repeat (first | (with_reducible first | exact HB.out | apply below_alloc | apply pw_below_drewN | apply below_drew1) | exact HB.out))) hk_)) (below_size (by repeat (first | (with_reducible first | exact HB.out | apply below_alloc | apply pw_below_drewN | apply below_drew1) | exact HB.out)))); clear ho; have n_ := Aside0.mk (below_step (by repeat (first | (with_reducible first | exact HB.out | apply below_alloc | apply pw_below_drewN | apply below_drew1) | exact HB.out)) hb1); clear HB; have HB := n_; clear n_ hb1; obtain ⟨A6, c6, e6⟩ := Kd.N_slice HO.out; rw [HN.out] at e6; subst e6)))
  try (go_step3; go_wp2)
  go_loopg [1, 29] n (fun kq v1 v29 wr => ∃ (j : Nat) (a : Int) (L : List S45), v1 = .int .i64 a ∧ v29 = .int .i64 j ∧ j ≤ n ∧ n - j ≤ kq ∧ Aside0 (L.length = n) ∧ Aside0 (creAt a2 L j a R) ∧ Aside0 (Kd.N k45 45 wr w.heap.size (fun k_ => w.heap.size ≤ k_) (.slice A6 n c6) L) ∧ Aside0 (Below w.heap.size w wr))
  case atStart => exact ⟨0, a1, t, rfl, rfl, by omega, by omega, HN, HR, ⟨by (with_reducible repeat (first | apply Kd.N_alloc | apply Kd.N_drewN | apply Kd.N_drew)); exact HO.out⟩, ⟨(by repeat (first | (with_reducible first | exact HB.out | apply below_alloc | apply pw_below_drewN | apply below_drew1) | exact HB.out))⟩⟩
  case round =>
    clear HO HB HR HN HCO HDA HCE
    obtain ⟨j, a, L, rfl, rfl, hjn, hkx, HN, HR, HO, HB⟩ := hrel
    by_cases hlt : j < n
    case neg =>
      have hltz : ¬ (j : Int) < (n : Int) := by omega
      obtain rfl : j = n := by omega
      have hE : R = (L, a) := by have := HR.out; rw [← HN.out] at this; exact creAt_end this
      subst hE
      go_wp2
      try simp only [Exit.noGoto_ret]
      go_ret3
      exact ⟨_, rfl, by (with_reducible repeat (first | apply Kd.N_alloc | apply Kd.N_drewN | apply Kd.N_drew)); exact HO.out, (by repeat (first | (with_reducible first | exact HB.out | apply below_alloc | apply pw_below_drewN | apply below_drew1) | exact HB.out))⟩
    case pos =>
      have hltz : (j : Int) < (n : Int) := by omega
      have hltn : (0 : Int) ≤ (j : Int) := by omega
      have hjL : j < L.length := by rw [HN.out]; exact hlt
      obtain ⟨g, cap, e3, hbg, hgl, _, _⟩ := Kd.N_form HO.out (by rw [HN.out]; omega)
      rw [HN.out] at e3
      cases e3
      obtain ⟨ce, hcl, hM, hcc, hfr⟩ := Kd.N_elem HO.out z45 (j : Int) (by omega) (by omega)
      simp only [Int.toNat_natCast] at hM hcc hfr
      obtain ⟨x, hx⟩ : ∃ x, x = rd_T45 L j := ⟨_, rfl⟩
      have hM2 : Kd.FK k45 wr (fun k_ => w.heap.size ≤ k_ ∧ k_ ≠ g) x ce := by rw [hx]; exact hM
      obtain ⟨A5, c5, rfl, l5, g5⟩ := k45_openF hM2
      have HX := Aside0.mk hx
      have hx2 : wr.cell? ⟨g, j * 6 + 2, none⟩ = some (.int .i64 x.f2) := hcc 2 _ rfl
      have hx3 : wr.cell? ⟨g, j * 6 + 3, none⟩ = some (.int .i64 x.f3) := hcc 3 _ rfl
      have hf2 : wr.frozen? ⟨g, j * 6 + 2, none⟩ = false := hfr 2
      have hf3 : wr.frozen? ⟨g, j * 6 + 3, none⟩ = false := hfr 3
      have HGB := Aside0.mk hbg
      by_cases cz : x.f2 = 0
      case pos =>
        have dz : (x.f2 == 0) = true := beq_iff_eq.mpr cz
        have HR2 : Aside0 (creAt a2 L (j + 1) a R) := ⟨creAt_skip HR.out hjL (by rw [← hx]; exact cz)⟩
        clear hcl hM hcc hfr hx hM2 l5 g5 cz hgl hbg hjL
        go_wp2
        go_roundg (n - (j + 1))
        case measure => omega
        case rel => exact ⟨j + 1, a, L, rfl, by first | rfl | go_num, by omega, Nat.le_refl _, HN, HR2, ⟨by (with_reducible repeat (first | apply Kd.N_alloc | apply Kd.N_drewN | apply Kd.N_drew)); exact HO.out⟩, ⟨(by repeat (first | (with_reducible first | exact HB.out | apply below_alloc | apply pw_below_drewN | apply below_drew1) | exact HB.out))⟩⟩
      have dz : (x.f2 == 0) = false := beq_eq_false_iff_ne.mpr cz
      by_cases ca : a = 0
      case pos =>
        subst ca
        have hE : R = (L, 0) := creAt_break HR.out hjL (by rw [← hx]; exact cz)
        subst hE
        clear hcl hM hcc hfr hx hM2 l5 g5 cz hgl hbg hjL
        go_wp2
        try simp only [Exit.noGoto_ret]
        go_ret3
        exact ⟨_, rfl, by (with_reducible repeat (first | apply Kd.N_alloc | apply Kd.N_drewN | apply Kd.N_drew)); exact HO.out, (by repeat (first | (with_reducible first | exact HB.out | apply below_alloc | apply pw_below_drewN | apply below_drew1) | exact HB.out))⟩
      have da : (a == 0) = false := beq_eq_false_iff_ne.mpr ca
      have HR2 := Aside0.mk (creAt_step HR.out hjL (by rw [← hx]; exact cz) ca)
      rw [← hx] at HR2
      obtain ⟨m, hm⟩ : ∃ m, mn x.f2 a = m := ⟨_, rfl⟩
      rw [hm] at HR2
      have hm_ : (if a < x.f2 then a else x.f2) = m := hm
      -- the first store
      have S1 := Kd.N_seg HO.out (j : Int) (by omega) (by omega) (seg := [.int .i64 (wrap64 (x.f2 - m))]) (j := 2) (x' := (⟨x.f0, x.f1, wrap64 (x.f2 - m), x.f3, x.f4, x.f5⟩ : S45)) (okp := fun k_ => w.heap.size ≤ k_ ∧ k_ ≠ g) hcl hcc (show 3 ≤ 6 from by decide) (k45_mkF wr _ (⟨x.f0, x.f1, wrap64 (x.f2 - m), x.f3, x.f4, x.f5⟩ : S45) l5 g5) (fun k_ hk_ => hk_)
      simp only [Int.toNat_natCast] at S1
      have HS1 := Aside0.mk S1
      have HL := Aside0.mk hjL
      clear hcl hM hcc hfr hM2 l5 g5 hm cz ca hgl hbg hjL S1 hx
      by_cases cy : wrap64 (x.f2 - m) = 0
      case pos =>
        have dy : (wrap64 (x.f2 - m) == 0) = true := beq_iff_eq.mpr cy
        rw [if_pos cy] at HR2
        obtain ⟨y, hy⟩ : ∃ y, wrap64 (x.f2 - m) = y := ⟨_, rfl⟩
        rw [hy] at HS1 HR2 dy
        clear cy
        go_wp2_with (first | ((with_reducible refine gate_store (t := 2) (p := 55) rfl ?_); refine store_event (t := 2) (p := 55) (v := ?vo) (w1 := (wr.setCell ⟨g, j * 6 + 2, none⟩ (.int .i64 y))) ?hg ?ho ?hn ?hr ?_; (case ho => rfl); (case hg => rfl); (case hn => rfl); (case hr => first | (go_simp; done) | (go_simp; rfl)); intro w3 hw; have O2 : Aside0 (Kd.N k45 45 w3 w.heap.size (fun k_ => w.heap.size ≤ k_) (.slice (some ⟨g, 0, none⟩) n c6) (L.set j ⟨x.f0, x.f1, y, x.f3, x.f4, x.f5⟩)) := ⟨by rw [hw]; exact HS1.out.1⟩; have B2 : Aside0 (Below w.heap.size w w3) := ⟨by rw [hw]; exact below_set HB.out HGB.out⟩; clear hw HS1 HO HB hx2 hx3 hf2 hf3; obtain ⟨ce2, hcl2, hM2, hcc2, hfr2⟩ := Kd.N_elem O2.out z45 (j : Int) (by omega) (by omega); simp only [Int.toNat_natCast] at hM2 hcc2 hfr2; have hg2 : (L.set j ⟨x.f0, x.f1, y, x.f3, x.f4, x.f5⟩).getD j z45 = (⟨x.f0, x.f1, y, x.f3, x.f4, x.f5⟩ : S45) := (by simp [List.getD_eq_getElem?_getD, HL.out]); rw [hg2] at hM2; obtain ⟨A5', c5', rfl, l5', g5'⟩ := k45_openF hM2; have hy2 : w3.cell? ⟨g, j * 6 + 2, none⟩ = some (.int .i64 y) := hcc2 2 _ rfl; have hy3 : w3.cell? ⟨g, j * 6 + 3, none⟩ = some (.int .i64 x.f3) := hcc2 3 _ rfl; have hyf3 : w3.frozen? ⟨g, j * 6 + 3, none⟩ = false := hfr2 3; have S2 := Kd.N_seg O2.out (j : Int) (by omega) (by omega) (seg := [.int .i64 a2]) (j := 3) (x' := (⟨x.f0, x.f1, y, a2, x.f4, x.f5⟩ : S45)) (okp := fun k_ => w.heap.size ≤ k_ ∧ k_ ≠ g) hcl2 hcc2 (show 4 ≤ 6 from by decide) (k45_mkF w3 _ (⟨x.f0, x.f1, y, a2, x.f4, x.f5⟩ : S45) l5' g5') (fun k_ hk_ => hk_); simp only [Int.toNat_natCast, List.set_set] at S2; have HS2 := Aside0.mk S2; clear S2))
        go_roundg (n - (j + 1))
        case measure => omega
        case rel => exact ⟨j + 1, _, _, by first | rfl | (simp only [← hm_] <;> rfl), by first | rfl | go_num, by omega, Nat.le_refl _, ⟨by rw [List.length_set]; exact HN.out⟩, HR2, ⟨HS2.out.1⟩, ⟨below_set B2.out HGB.out⟩⟩
      have dy : (wrap64 (x.f2 - m) == 0) = false := beq_eq_false_iff_ne.mpr cy
      rw [if_neg cy] at HR2
      obtain ⟨y, hy⟩ : ∃ y, wrap64 (x.f2 - m) = y := ⟨_, rfl⟩
      rw [hy] at HS1 HR2 dy
      clear cy
      go_wp2_with (first | ((with_reducible refine gate_store (t := 2) (p := 55) rfl ?_); refine store_event (t := 2) (p := 55) (v := ?vo) (w1 := (wr.setCell ⟨g, j * 6 + 2, none⟩ (.int .i64 y))) ?hg ?ho ?hn ?hr ?_; (case ho => rfl); (case hg => rfl); (case hn => rfl); (case hr => first | (go_simp; done) | (go_simp; rfl)); intro w3 hw; have O2 : Aside0 (Kd.N k45 45 w3 w.heap.size (fun k_ => w.heap.size ≤ k_) (.slice (some ⟨g, 0, none⟩) n c6) (L.set j ⟨x.f0, x.f1, y, x.f3, x.f4, x.f5⟩)) := ⟨by rw [hw]; exact HS1.out.1⟩; have B2 : Aside0 (Below w.heap.size w w3) := ⟨by rw [hw]; exact below_set HB.out HGB.out⟩; clear hw HS1 HO HB hx2 hx3 hf2 hf3; obtain ⟨ce2, hcl2, hM2, hcc2, hfr2⟩ := Kd.N_elem O2.out z45 (j : Int) (by omega) (by omega); simp only [Int.toNat_natCast] at hM2 hcc2 hfr2; have hg2 : (L.set j ⟨x.f0, x.f1, y, x.f3, x.f4, x.f5⟩).getD j z45 = (⟨x.f0, x.f1, y, x.f3, x.f4, x.f5⟩ : S45) := (by simp [List.getD_eq_getElem?_getD, HL.out]); rw [hg2] at hM2; obtain ⟨A5', c5', rfl, l5', g5'⟩ := k45_openF hM2; have hy2 : w3.cell? ⟨g, j * 6 + 2, none⟩ = some (.int .i64 y) := hcc2 2 _ rfl; have hy3 : w3.cell? ⟨g, j * 6 + 3, none⟩ = some (.int .i64 x.f3) := hcc2 3 _ rfl; have hyf3 : w3.frozen? ⟨g, j * 6 + 3, none⟩ = false := hfr2 3))
      go_roundg (n - (j + 1))
      case measure => omega
      case rel => exact ⟨j + 1, _, _, by first | rfl | (simp only [← hm_] <;> rfl), by first | rfl | go_num, by omega, Nat.le_refl _, ⟨by rw [List.length_set]; exact HN.out⟩, HR2, O2, B2⟩
end Go.Proofs.Ytibjbgfphhmogaa.P
