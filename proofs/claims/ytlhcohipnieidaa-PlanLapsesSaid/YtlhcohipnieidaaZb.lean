/- Is any loan not good: slices.ContainsFunc, slices.IndexFunc and the function literal among plan.Asks: walked by hand. -/
import Derived.Test.YtlhcohipnieidaaZaa
import Derived.Test.YtlhcohipnieidaaPx1
namespace Go.Proofs.Ytlhcohipnieidaa.P
open Go.RowKit Go.Proofs.YtlhcohipnieidaaW.PrintWords Go.Proofs.YtlhcohipnieidaaW.PrintLast Go.Proofs.YtlhcohipnieidaaW.PrintMore
attribute [local go_sem] max2_int min2_int max_two min_two max_three min_three max_four min_four   -- for this text's walks alone
set_option linter.unusedVariables false
set_option linter.unusedSimpArgs false
/-- Where the first one stands that is not good. -/
def plan_bad.go (k : Nat) : List S23 → Nat → Option Int
  | [], _ => some (-1)
  | x :: l, j => (loan_Good.f k x.f0 x.f1 x.f2 x.f3 x.f4 x.f5 x.f6 x.f7 x.f8 x.f9 x.f10 x.f11 x.f12).bind fun g => if g = true then plan_bad.go k l (j + 1) else some (j : Int)
def plan_bad.f (k : Nat) (l0 : List S23) : Option Bool := if l0.length ≤ 100000 then (plan_bad.go k l0 0).bind fun i => some (decide (0 ≤ i)) else none
set_option maxHeartbeats 8000000 in
set_option maxRecDepth 100000 in
theorem plan_bad.in_ (k : Nat) (x : S23) (g : Bool) (w : World) (hg : loan_Good.f k x.f0 x.f1 x.f2 x.f3 x.f4 x.f5 x.f6 x.f7 x.f8 x.f9 x.f10 x.f11 x.f12 = some g) :
    Calls Try.prog 35 #[.agg #[.int .i64 x.f0, .int .i64 x.f1, .int .i64 x.f2, .int .i64 x.f3, .int .i64 x.f4, .int .i64 x.f5, .bool x.f6, .int .i64 x.f7, .int .i64 x.f8, .int .i64 x.f9, .int .i64 x.f10, .int .i64 x.f11, .int .i64 x.f12]] w fun e w' => e = .returned (.bool (!g)) ∧ Below w.heap.size w w' := by
  have hu43 := Try.underlying23
  obtain ⟨x0, x1, x2, x3, x4, x5, x6, x7, x8, x9, x10, x11, x12⟩ := x
  dsimp only at hg ⊢
  have HG := Aside0.mk hg
  clear hg
  have HB := Aside0.mk (Below.refl w.heap.size w)
  go_enter Try.func35, Try.ntmps35
  go_wp2_with (first | ((with_reducible refine gate_dst (N := 1) rfl ?_); refine box_event ?hg (N := 1) ?hd (cs := #[.int .i64 x0, .int .i64 x1, .int .i64 x2, .int .i64 x3, .int .i64 x4, .int .i64 x5, .bool x6, .int .i64 x7, .int .i64 x8, .int .i64 x9, .int .i64 x10, .int .i64 x11, .int .i64 x12]) (t := 23) ?hr ?_; (case hd => rfl); (case hg => rfl); (case hr => first | (go_simp; done) | (go_simp; rfl)); intro gb hgq w6 hbox hb1; obtain ⟨hc0, hc1, hc2, hc3, hc4, hc5, hc6, hc7, hc8, hc9, hc10, hc11, hc12⟩ := lc13c hbox; have n_ := Aside0.mk (below_step (by exact h0q HB.out) hb1); clear HB; have HB := n_; clear n_ hb1; clear hbox hgq) | (go_at_call 11; (with_reducible refine (loan_Good.calls k x0 x1 x2 x3 x4 x5 x6 x7 x8 x9 x10 x11 x12 g _ HG.out).mono ?_); rintro e w7 ⟨rfl, hb1⟩; have n_ := Aside0.mk (below_step (by exact h0q HB.out) hb1); clear HB; have HB := n_; clear n_ hb1))
  go_ret
  exact ⟨by first | rfl | (simp; done), (by exact h0q HB.out)⟩
set_option maxHeartbeats 8000000 in
set_option maxRecDepth 100000 in
theorem plan_bad.index (k : Nat) (A0 : Option Addr) (c0 : Nat) (l0 : List S23) (r : Int) (w : World) (hr0 : Kd.C k23 w A0 l0.length l0) (hlen : l0.length ≤ 100000) (h : plan_bad.go k l0 0 = some r) :
    Calls Try.prog 50 #[.slice A0 l0.length c0, .func (.func 35) #[] #[]] w fun e w' => e = .returned (.int .i64 r) ∧ Below w.heap.size w w' := by
  have hu43 := Try.underlying23
  have HR0 := Aside0.mk hr0
  have HR := Aside0.mk h
  clear hr0 h
  have HB := Aside0.mk (Below.refl w.heap.size w)
  go_enter Try.func50, Try.ntmps50
  go_wp2
  go_loopw [5, 8] (fun v5 v8 wr => ∃ (j : Nat), j ≤ l0.length ∧ v8 = .int .i64 j ∧ Aside0 (plan_bad.go k (l0.drop j) j = some r) ∧ Aside0 (Below w.heap.size w wr)) (fun _ v8 _ => l0.length - (intOf v8).toNat)
  case atStart => exact ⟨0, Nat.zero_le _, rfl, ⟨by rw [List.drop_zero]; exact HR.out⟩, ⟨(by exact h0q HB.out)⟩⟩
  case round =>
    clear HB
    obtain ⟨j, hj, rfl, HS, HB⟩ := hrel
    by_cases hlt : j < l0.length
    · have hd : l0.drop j = rd_T23 l0 j :: l0.drop (j + 1) := by
        rw [List.drop_eq_getElem_cons hlt]; congr 1; unfold rd_T23; simp [List.getD_eq_getElem?_getD, hlt]
      have h0 := HS.out
      rw [hd, plan_bad.go] at h0
      obtain ⟨g, hg, h0⟩ := Option.bind_eq_some_iff.mp h0
      have hcall := plan_bad.in_ k (rd_T23 l0 j) g
      obtain ⟨ad, ea, hx0, hx1, hx2, hx3, hx4, hx5, hx6, hx7, hx8, hx9, hx10, hx11, hx12⟩ := at_T23 (Kd.C_below HR0.out HB.out) j (by omega) (by omega)
      cases ea
      simp only [Int.toNat_natCast] at hx0 hx1 hx2 hx3 hx4 hx5 hx6 hx7 hx8 hx9 hx10 hx11 hx12
      have hltz : (j : Int) < (l0.length : Int) := by omega
      have hltn : (0 : Int) ≤ (j : Int) := by omega
      obtain ⟨x, hxx⟩ : ∃ x, x = rd_T23 l0 j := ⟨_, rfl⟩
      rw [← hxx] at hg hx0 hx1 hx2 hx3 hx4 hx5 hx6 hx7 hx8 hx9 hx10 hx11 hx12 hcall
      obtain ⟨x0, x1, x2, x3, x4, x5, x6, x7, x8, x9, x10, x11, x12⟩ := x
      dsimp only at hg hx0 hx1 hx2 hx3 hx4 hx5 hx6 hx7 hx8 hx9 hx10 hx11 hx12 hcall
      have HC : Aside0 (∀ w1, Calls Try.prog 35 #[.agg #[.int .i64 x0, .int .i64 x1, .int .i64 x2, .int .i64 x3, .int .i64 x4, .int .i64 x5, .bool x6, .int .i64 x7, .int .i64 x8, .int .i64 x9, .int .i64 x10, .int .i64 x11, .int .i64 x12]] w1 fun e w' => e = .returned (.bool (!g)) ∧ Below w1.heap.size w1 w') := ⟨fun w1 => hcall w1 hg⟩
      clear hxx hd HS hcall hg
      cases g with
      | false =>
        rw [if_neg (by simp)] at h0
        obtain rfl := (Option.some.inj h0).symm
        clear h0
        go_wp2_with (go_at_call 35; refine (HC.out _).mono ?_; rintro e w1 ⟨rfl, hb1⟩; have n_ := Aside0.mk (below_step (by exact h0q HB.out) hb1); clear HB; have HB := n_; clear n_ hb1)
        go_ret
        exact ⟨by first | rfl | (simp; done), HB.out⟩
      | true =>
        rw [if_pos rfl] at h0
        have HN := Aside0.mk h0
        clear h0
        go_wp2_with (go_at_call 35; refine (HC.out _).mono ?_; rintro e w1 ⟨rfl, hb1⟩; have n_ := Aside0.mk (below_step (by exact h0q HB.out) hb1); clear HB; have HB := n_; clear n_ hb1)
        go_roundw
        case measure => simp [intOf]; omega
        case rel => exact ⟨j + 1, by omega, by go_num, HN, HB⟩
    · have h0 := HS.out
      rw [List.drop_of_length_le (by omega), plan_bad.go] at h0
      obtain rfl := (Option.some.inj h0).symm
      have hltz : ¬ (j : Int) < (l0.length : Int) := by omega
      go_wp2
      go_ret
      exact ⟨by first | rfl | (simp; done), HB.out⟩
set_option maxHeartbeats 8000000 in
set_option maxRecDepth 100000 in
theorem plan_bad.calls (k : Nat) (A0 : Option Addr) (c0 : Nat) (l0 : List S23) (r : Bool) (w : World) (hr0 : Kd.C k23 w A0 l0.length l0) (hc0 : l0.length ≤ c0) (h : plan_bad.f k l0 = some r) :
    Calls Try.prog 34 #[.slice A0 l0.length c0, .func (.func 35) #[] #[]] w fun e w' => e = .returned (.bool r) ∧ Below w.heap.size w w' := by
  by_cases hlen : l0.length ≤ 100000
  case neg => rw [plan_bad.f, if_neg hlen] at h; cases h
  rw [plan_bad.f, if_pos hlen] at h
  obtain ⟨i, hi, h⟩ := Option.bind_eq_some_iff.mp h
  have h := Option.some.inj h
  have HI : Aside0 (∀ w1, Below w.heap.size w w1 → Calls Try.prog 50 #[.slice A0 l0.length c0, .func (.func 35) #[] #[]] w1 fun e w' => e = .returned (.int .i64 i) ∧ Below w1.heap.size w1 w') := ⟨fun w1 hw => plan_bad.index k A0 c0 l0 i w1 (Kd.C_below hr0 hw) hlen hi⟩
  have HB := Aside0.mk (Below.refl w.heap.size w)
  obtain ⟨n, hn⟩ : ∃ n, l0.length = n := ⟨_, rfl⟩
  rw [hn] at HI ⊢
  clear hr0 hc0 hi hlen hn
  subst h
  go_enter Try.func34, Try.ntmps34
  go_wp2_with (go_at_call 50; refine (HI.out _ (by exact h0q HB.out)).mono ?_; rintro e w2 ⟨rfl, hb1⟩; have n_ := Aside0.mk (below_step (by exact h0q HB.out) hb1); clear HB; have HB := n_; clear n_ hb1)
  go_ret
  exact ⟨by first | rfl | (simp; done), HB.out⟩
end Go.Proofs.Ytlhcohipnieidaa.P
