/- bill.Open: where the first bill stands with something left: walked by hand (slices.IndexFunc and the function literal among it). -/
import Derived.Test.YtibjbgfphhmogaaPx3
namespace Go.Proofs.Ytibjbgfphhmogaa.P
open Go.RowKit Go.Proofs.YtibjbgfphhmogaaW.PrintWords Go.Proofs.YtibjbgfphhmogaaW.PrintLast Go.Proofs.YtibjbgfphhmogaaW.PrintMore
attribute [local go_sem] max2_int min2_int max_two min_two max_three min_three max_four min_four   -- for this text's walks alone
set_option linter.unusedVariables false
set_option linter.unusedSimpArgs false
/-- Where the first one stands for which something is so. -/
def idxB (p : S45 → Bool) : List S45 → Nat → Int
  | [], _ => -1
  | x :: l, j => if p x = true then (j : Int) else idxB p l (j + 1)
set_option maxHeartbeats 8000000 in
set_option maxRecDepth 100000 in
theorem bill_Open.in_ (x : S45) (A : Option Addr) (c : Nat) (w : World) :
    Calls Try.prog 38 #[.agg #[.int .i64 x.f0, .int .i64 x.f1, .int .i64 x.f2, .int .i64 x.f3, .int .i64 x.f4, .slice A x.f5.length c]] w fun e w' => e = .returned (.bool (decide (x.f2 > 0))) ∧ Below w.heap.size w w' := by
  have hu45 := Try.underlying45
  obtain ⟨x0, x1, x2, x3, x4, x5⟩ := x
  dsimp only
  have HB := Aside0.mk (Below.refl w.heap.size w)
  go_enter Try.func38, Try.ntmps38
  go_wp2_with ((with_reducible refine gate_dst (N := 1) rfl ?_); refine box_event ?hg (N := 1) ?hd (cs := #[.int .i64 x0, .int .i64 x1, .int .i64 x2, .int .i64 x3, .int .i64 x4, .slice A x5.length c]) (t := 45) ?hr ?_; (case hd => rfl); (case hg => rfl); (case hr => first | (go_simp; done) | (go_simp; rfl)); intro gb hgq w6 hbox hb1; have hc2 : w6.cell? ⟨gb, 2, none⟩ = some (.int .i64 x2) := (blk_cell hbox 2).trans rfl; have n_ := Aside0.mk (below_step (by repeat (first | (with_reducible first | exact HB.out | apply below_alloc | apply pw_below_drewN | apply below_drew1) | exact HB.out)) hb1); clear HB; have HB := n_; clear n_ hb1 hbox hgq)
  go_ret
  exact ⟨by first | rfl | (simp; done), (by repeat (first | (with_reducible first | exact HB.out | apply below_alloc | apply pw_below_drewN | apply below_drew1) | exact HB.out))⟩
set_option maxHeartbeats 8000000 in
set_option maxRecDepth 100000 in
theorem bill_Open.index (A0 : Option Addr) (c0 : Nat) (l0 : List S45) (w : World) (hr0 : Kd.C k45 w A0 l0.length l0) (hlen : l0.length ≤ 140737488351232) :
    Calls Try.prog 36 #[.slice A0 l0.length c0, .func (.func 38) #[] #[]] w fun e w' => e = .returned (.int .i64 (idxB (fun x => decide (x.f2 > 0)) l0 0)) ∧ Below w.heap.size w w' := by
  have hu45 := Try.underlying45
  have HR0 := Aside0.mk hr0
  clear hr0
  obtain ⟨r, hr⟩ : ∃ r, r = idxB (fun x => decide (x.f2 > 0)) l0 0 := ⟨_, rfl⟩
  rw [← hr]
  have HR := Aside0.mk hr
  clear hr
  have HB := Aside0.mk (Below.refl w.heap.size w)
  go_enter Try.func36, Try.ntmps36
  go_wp2
  go_loopw [5, 8] (fun v5 v8 wr => ∃ (j : Nat), j ≤ l0.length ∧ v8 = .int .i64 j ∧ Aside0 (idxB (fun x => decide (x.f2 > 0)) (l0.drop j) j = r) ∧ Aside0 (Below w.heap.size w wr)) (fun _ v8 _ => l0.length - (intOf v8).toNat)
  case atStart => exact ⟨0, Nat.zero_le _, rfl, ⟨by rw [List.drop_zero]; exact HR.out.symm⟩, ⟨(by repeat (first | (with_reducible first | exact HB.out | apply below_alloc | apply pw_below_drewN | apply below_drew1) | exact HB.out))⟩⟩
  case round =>
    clear HB
    obtain ⟨j, hj, rfl, HS, HB⟩ := hrel
    by_cases hlt : j < l0.length
    · have hd : l0.drop j = rd_T45 l0 j :: l0.drop (j + 1) := by
        rw [List.drop_eq_getElem_cons hlt]; congr 1; unfold rd_T45; simp [List.getD_eq_getElem?_getD, hlt]
      have h0 := HS.out
      rw [hd, idxB] at h0
      obtain ⟨ad, A5, c5, ea, hx0, hx1, hx2, hx3, hx4, hx5, hl5, hi5⟩ := at_T45 (Kd.C_below HR0.out HB.out) j (by omega) (by omega)
      cases ea
      simp only [Int.toNat_natCast] at hx0 hx1 hx2 hx3 hx4 hx5
      have hltz : (j : Int) < (l0.length : Int) := by omega
      have hltn : (0 : Int) ≤ (j : Int) := by omega
      have hcall := bill_Open.in_ (rd_T45 l0 j) A5 c5
      obtain ⟨x, hxx⟩ : ∃ x, x = rd_T45 l0 j := ⟨_, rfl⟩
      rw [← hxx] at h0 hx0 hx1 hx2 hx3 hx4 hx5 hcall
      obtain ⟨x0, x1, x2, x3, x4, x5⟩ := x
      dsimp only at h0 hx0 hx1 hx2 hx3 hx4 hx5 hcall
      clear hxx hd HS hl5 hi5
      obtain ⟨b, hb⟩ : ∃ b : Bool, b = decide (x2 > 0) := ⟨_, rfl⟩
      rw [← hb] at hcall h0
      cases b with
      | true =>
        rw [if_pos rfl] at h0
        subst h0
        clear hb
        go_wp2_with (go_at_call 38; refine (hcall _).mono ?_; rintro e w1 ⟨rfl, hb1⟩; have n_ := Aside0.mk (below_step (by repeat (first | (with_reducible first | exact HB.out | apply below_alloc | apply pw_below_drewN | apply below_drew1) | exact HB.out)) hb1); clear HB; have HB := n_; clear n_ hb1)
        go_ret
        exact ⟨by first | rfl | (simp; done), HB.out⟩
      | false =>
        rw [if_neg (by simp)] at h0
        have HN := Aside0.mk h0
        clear hb h0
        go_wp2_with (go_at_call 38; refine (hcall _).mono ?_; rintro e w1 ⟨rfl, hb1⟩; have n_ := Aside0.mk (below_step (by repeat (first | (with_reducible first | exact HB.out | apply below_alloc | apply pw_below_drewN | apply below_drew1) | exact HB.out)) hb1); clear HB; have HB := n_; clear n_ hb1)
        go_roundw
        case measure => simp [intOf]; omega
        case rel => exact ⟨j + 1, by omega, by go_num, HN, HB⟩
    · have h0 := HS.out
      rw [List.drop_of_length_le (by omega), idxB] at h0
      subst h0
      have hltz : ¬ (j : Int) < (l0.length : Int) := by omega
      go_wp2
      go_ret
      exact ⟨by first | rfl | (simp; done), HB.out⟩
def bill_Open.f (k : Nat) (l0 : List S45) : Option Int := (bill_Good.f k l0).bind fun g => if g = true then some (idxB (fun x => decide (x.f2 > 0)) l0 0) else some (-1)
theorem bill_Open.mono : ∀ l0 k, LeO (bill_Open.f k l0) (bill_Open.f (k + 1) l0) := fun l0 k => LeO.bind (bill_Good.mono _ _) (fun _ => LeO.refl _)
/-- Who is good is not too long. -/
theorem bill_Good.len {k : Nat} {l0 : List S45} (h : bill_Good.f k l0 = some true) : l0.length ≤ 2880 := by
  by_cases c : (l0.length : Int) > 2880
  · rw [bill_Good.f, if_pos c] at h; cases h
  · omega
set_option maxHeartbeats 8000000 in
set_option maxRecDepth 100000 in
theorem bill_Open.calls (k : Nat) (A0 : Option Addr) (c0 : Nat) (l0 : List S45) (r : Int) (w : World) (hr0 : Kd.C k45 w A0 l0.length l0) (hc0 : l0.length ≤ c0) (h : bill_Open.f k l0 = some r) :
    Calls Try.prog 21 #[.slice A0 l0.length c0] w fun e w' => e = .returned (.int .i64 r) ∧ Below w.heap.size w w' := by
  obtain ⟨g, hg, h2⟩ := Option.bind_eq_some_iff.mp h
  clear h
  have HG := Aside0.mk hg
  have HR0 := Aside0.mk hr0
  have HC0 := Aside0.mk hc0
  have HB := Aside0.mk (Below.refl w.heap.size w)
  obtain ⟨n, hn⟩ : ∃ n, l0.length = n := ⟨_, rfl⟩
  cases g with
  | false =>
    rw [if_neg (by simp)] at h2
    obtain rfl := (Option.some.inj h2).symm
    have hcall := Aside0.mk (bill_Good.calls k A0 c0 l0 false w hr0 hc0 hg)
    rw [hn] at hcall ⊢
    clear hr0 hc0 hg h2 hn
    go_enter Try.func21, Try.ntmps21
    go_wp2_with (go_at_call 20; refine hcall.out.mono ?_; rintro e w1 ⟨rfl, hb1⟩; have n_ := Aside0.mk (below_step (by repeat (first | (with_reducible first | exact HB.out | apply below_alloc | apply pw_below_drewN | apply below_drew1) | exact HB.out)) hb1); clear HB; have HB := n_; clear n_ hb1)
    go_ret
    exact ⟨by first | rfl | (simp; done), HB.out⟩
  | true =>
    rw [if_pos rfl] at h2
    have hlen := bill_Good.len hg
    have hcall := Aside0.mk (bill_Good.calls k A0 c0 l0 true w hr0 hc0 hg)
    have HI : Aside0 (∀ w1, Below w.heap.size w w1 → Calls Try.prog 36 #[.slice A0 l0.length c0, .func (.func 38) #[] #[]] w1 fun e w' => e = .returned (.int .i64 (idxB (fun x => decide (x.f2 > 0)) l0 0)) ∧ Below w1.heap.size w1 w') := ⟨fun w1 hw => bill_Open.index A0 c0 l0 w1 (Kd.C_below hr0 hw) (by omega)⟩
    obtain ⟨q, hq⟩ : ∃ q, q = idxB (fun x => decide (x.f2 > 0)) l0 0 := ⟨_, rfl⟩
    rw [← hq] at h2 HI
    obtain rfl := (Option.some.inj h2).symm
    rw [hn] at hcall HI ⊢
    clear hr0 hc0 hg h2 hq hlen hn
    go_enter Try.func21, Try.ntmps21
    go_wp2_with (first | (go_at_call 20; refine hcall.out.mono ?_; rintro e w1 ⟨rfl, hb1⟩; have n_ := Aside0.mk (below_step (by repeat (first | (with_reducible first | exact HB.out | apply below_alloc | apply pw_below_drewN | apply below_drew1) | exact HB.out)) hb1); clear HB; have HB := n_; clear n_ hb1) | (go_at_call 36; refine (HI.out _ (by repeat (first | (with_reducible first | exact HB.out | apply below_alloc | apply pw_below_drewN | apply below_drew1) | exact HB.out))).mono ?_; rintro e w2 ⟨rfl, hb1⟩; have n_ := Aside0.mk (below_step (by repeat (first | (with_reducible first | exact HB.out | apply below_alloc | apply pw_below_drewN | apply below_drew1) | exact HB.out)) hb1); clear HB; have HB := n_; clear n_ hb1))
    go_ret
    exact ⟨by first | rfl | (simp; done), HB.out⟩
end Go.Proofs.Ytibjbgfphhmogaa.P
