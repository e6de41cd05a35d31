/- order.Find: where the event of a key stands: walked by hand (slices.IndexFunc at a function literal that captures one variable). -/
import Derived.Test.YtjdhhbjnihhncaaZaa
import Derived.Test.YtjdhhbjnihhncaaZq
namespace Go.Proofs.Ytjdhhbjnihhncaa.P
open Go.RowKit Go.Proofs.YtjdhhbjnihhncaaW.PrintWords Go.Proofs.YtjdhhbjnihhncaaW.PrintLast Go.Proofs.YtjdhhbjnihhncaaW.PrintMore
attribute [local go_sem] run_store_float max2_int min2_int max_two min_two max_three min_three max_four min_four   -- for this text's walks alone
set_option linter.unusedVariables false
set_option linter.unusedSimpArgs false
/-- Where the first one stands for which something is so. -/
def idxB (p : S26 → Bool) : List S26 → Nat → Int
  | [], _ => -1
  | x :: l, j => if p x = true then (j : Int) else idxB p l (j + 1)
set_option maxHeartbeats 8000000 in
set_option maxRecDepth 100000 in
theorem index_ev (g : Nat) (cv : Value) (eg : ∀ args w, (callFunc g args).run Try.prog w = .ok (.enter g args) w) (pr : S26 → Bool) (A0 : Option Addr) (c0 : Nat) (l0 : List S26) (w : World) (hr0 : Kd.C k26 w A0 l0.length l0) (hlen : l0.length ≤ 140737488351232)
    (hcall : ∀ (x : S26) (W : World), Below w.heap.size w W → Calls Try.prog g #[.agg #[.int .i64 x.f0, .int .i64 x.f1, .int .u32 x.f2, .int .i64 x.f3, .int .i64 x.f4, .float .f64 x.f5, .float .f64 x.f6, .bool x.f7, .int .i64 x.f8, .int .i64 x.f9, .int .i64 x.f10], cv] W fun e w' => e = .returned (.bool (pr x)) ∧ Below W.heap.size W w') :
    Calls Try.prog 24 #[.slice A0 l0.length c0, .func (.func g) #[] #[cv]] w fun e w' => e = .returned (.int .i64 (idxB pr l0 0)) ∧ Below w.heap.size w w' := by
  have hu26 := Try.underlying26
  have HR0 := Aside0.mk hr0
  have HCL := Aside0.mk hcall
  clear hr0 hcall
  obtain ⟨r, hr⟩ : ∃ r, r = idxB pr l0 0 := ⟨_, rfl⟩
  rw [← hr]
  have HR := Aside0.mk hr
  clear hr
  have HB := Aside0.mk (Below.refl w.heap.size w)
  go_enter Try.func24, Try.ntmps24
  go_wp2
  go_loopw [5, 8] (fun v5 v8 wr => ∃ (j : Nat), j ≤ l0.length ∧ v8 = .int .i64 j ∧ Aside0 (idxB pr (l0.drop j) j = r) ∧ Aside0 (Below w.heap.size w wr)) (fun _ v8 _ => l0.length - (intOf v8).toNat)
  case atStart => exact ⟨0, Nat.zero_le _, rfl, ⟨by rw [List.drop_zero]; exact HR.out.symm⟩, ⟨(by exact h0q HB.out)⟩⟩
  case round =>
    clear HB
    obtain ⟨j, hj, rfl, HS, HB⟩ := hrel
    by_cases hlt : j < l0.length
    · have hd : l0.drop j = rd_T26 l0 j :: l0.drop (j + 1) := by
        rw [List.drop_eq_getElem_cons hlt]; congr 1; unfold rd_T26; simp [List.getD_eq_getElem?_getD, hlt]
      have h0 := HS.out
      rw [hd, idxB] at h0
      obtain ⟨ad, ea, hx0, hx1, hx2, hx3, hx4, hx5, hx6, hx7, hx8, hx9, hx10⟩ := at_T26 (Kd.C_below HR0.out HB.out) j (by omega) (by omega)
      cases ea
      simp only [Int.toNat_natCast] at hx0 hx1 hx2 hx3 hx4 hx5 hx6 hx7 hx8 hx9 hx10
      have hltz : (j : Int) < (l0.length : Int) := by omega
      have hltn : (0 : Int) ≤ (j : Int) := by omega
      have hcall := fun W h => Aside0.mk (HCL.out (rd_T26 l0 j) W h)
      obtain ⟨x, hxx⟩ : ∃ x, x = rd_T26 l0 j := ⟨_, rfl⟩
      rw [← hxx] at h0 hx0 hx1 hx2 hx3 hx4 hx5 hx6 hx7 hx8 hx9 hx10 hcall
      have HX := Aside0.mk hcall
      obtain ⟨b, hb⟩ : ∃ b : Bool, b = pr x := ⟨_, rfl⟩
      rw [← hb] at HX h0
      obtain ⟨x0, x1, x2, x3, x4, x5, x6, x7, x8, x9, x10⟩ := x
      dsimp only at h0 hx0 hx1 hx2 hx3 hx4 hx5 hx6 hx7 hx8 hx9 hx10 HX
      clear hxx hd HS hcall
      cases b with
      | true =>
        rw [if_pos rfl] at h0
        subst h0
        clear hb
        go_wp2_with (go_at_fn g; refine (HX.out _ HB.out).out.mono ?_; rintro e w1 ⟨rfl, hb1⟩; have n_ := Aside0.mk (below_step HB.out hb1); clear HB; have HB := n_; clear n_ hb1)
        go_ret
        exact ⟨by first | rfl | (simp; done), HB.out⟩
      | false =>
        rw [if_neg (by simp)] at h0
        have HN := Aside0.mk h0
        clear hb h0
        go_wp2_with (go_at_fn g; refine (HX.out _ HB.out).out.mono ?_; rintro e w1 ⟨rfl, hb1⟩; have n_ := Aside0.mk (below_step HB.out hb1); clear HB; have HB := n_; clear n_ hb1)
        go_roundw
        case measure => simp [intOf]; omega
        case rel => exact ⟨j + 1, by omega, by go_num, HN, HB⟩
    · have h0 := HS.out
      rw [List.drop_of_length_le (by omega), idxB] at h0
      subst h0
      have hltz : ¬ (j : Int) < (l0.length : Int) := by omega
      go_wp2
      go_ret
      exact ⟨by first | rfl | (simp; done), HB.out⟩
set_option maxHeartbeats 8000000 in
set_option maxRecDepth 100000 in
theorem order_Find.in_ (B : Nat) (key : Int) (x : S26) (w : World) (hB : w.heap[B]? = some (.cells #[.int .u32 key] 23 (0, 0))) :
    Calls Try.prog 31 #[.agg #[.int .i64 x.f0, .int .i64 x.f1, .int .u32 x.f2, .int .i64 x.f3, .int .i64 x.f4, .float .f64 x.f5, .float .f64 x.f6, .bool x.f7, .int .i64 x.f8, .int .i64 x.f9, .int .i64 x.f10], .pointer (some ⟨B, 0, none⟩)] w fun e w' => e = .returned (.bool (x.f2 == key)) ∧ Below w.heap.size w w' := by
  have hu26 := Try.underlying26
  obtain ⟨x0, x1, x2, x3, x4, x5, x6, x7, x8, x9, x10⟩ := x
  dsimp only
  have HB := Aside0.mk (Below.refl w.heap.size w)
  have HK := Aside0.mk hB
  have hB0 : w.cell? ⟨B, 0, none⟩ = some (.int .u32 key) := (blk_cell hB 0).trans rfl
  clear hB
  go_enter Try.func31, Try.ntmps31
  go_wp2_with ((with_reducible refine gate_dst (N := 2) rfl ?_); refine box_event ?hg (N := 2) ?hd (cs := #[.int .i64 x0, .int .i64 x1, .int .u32 x2, .int .i64 x3, .int .i64 x4, .float .f64 x5, .float .f64 x6, .bool x7, .int .i64 x8, .int .i64 x9, .int .i64 x10]) (t := 26) ?hr ?_; (case hd => rfl); (case hg => rfl); (case hr => first | (go_simp; done) | (go_simp; rfl)); intro gb hgq w6 hbox hb1; have hc2 : w6.cell? ⟨gb, 2, none⟩ = some (.int .u32 x2) := (blk_cell hbox 2).trans rfl; have hcB : w6.cell? ⟨B, 0, none⟩ = some (.int .u32 key) := (hb1.cell (World.block_lt_of_cell? w _ hB0)).trans hB0; have n_ := Aside0.mk (below_step HB.out hb1); clear HB hB0; have HB := n_; clear n_ hb1 hbox hgq)
  go_ret
  exact ⟨by first | rfl | (simp; done), (by exact h0q HB.out)⟩
def order_Find.f (k : Nat) (l0 : List S26) (a1 : Int) : Option Int := if l0.length ≤ 100000 then some (idxB (fun x => x.f2 == a1) l0 0) else none
set_option maxHeartbeats 8000000 in
set_option maxRecDepth 100000 in
theorem order_Find.calls (k : Nat) (A0 : Option Addr) (c0 : Nat) (l0 : List S26) (a1 : Int) (r : Int) (w : World) (hr0 : Kd.C k26 w A0 l0.length l0) (hc0 : l0.length ≤ c0) (h : order_Find.f k l0 a1 = some r) :
    Calls Try.prog 14 #[.slice A0 l0.length c0, .int .u32 a1] w fun e w' => e = .returned (.int .i64 r) ∧ Below w.heap.size w w' := by
  by_cases c : l0.length ≤ 100000
  case neg => rw [order_Find.f, if_neg c] at h; cases h
  rw [order_Find.f, if_pos c] at h
  obtain rfl := Option.some.inj h
  clear h
  have HI := fun (B : Nat) (W : World) (hB : W.heap[B]? = some (.cells #[.int .u32 a1] 23 (0, 0))) (hw : Below w.heap.size w W) =>
    Aside0.mk (index_ev 31 (.pointer (some ⟨B, 0, none⟩)) (fun args w => rfl) (fun x => x.f2 == a1) A0 c0 l0 W (Kd.C_below hr0 hw) (by omega) (fun x W2 h2 => order_Find.in_ B a1 x W2 (by rw [h2.block B (Array.getElem?_eq_some_iff.1 hB).1]; exact hB)))
  have HI := Aside0.mk HI
  have HB := Aside0.mk (Below.refl w.heap.size w)
  have hmf : ∀ (fn : Fn) (first cap : Array Value) (w : World), (Instr.makeFunc fn first cap).run Try.prog w = .ok (.func fn first cap) w := fun _ _ _ _ => rfl
  obtain ⟨n, hn⟩ : ∃ n, l0.length = n := ⟨_, rfl⟩
  rw [hn] at HI ⊢
  clear hr0 c hc0 hn
  go_enter Try.func14, Try.ntmps14
  go_wp2_with (first | ((with_reducible refine gate_dst (N := 3) rfl ?_); refine box_event ?hg (N := 3) ?hd (cs := #[.int .u32 a1]) (t := 23) ?hr ?_; (case hd => rfl); (case hg => rfl); (case hr => first | (go_simp; done) | (go_simp; rfl)); intro gb hgq w6 hbox hb1; have HX := Aside0.mk hbox; have n_ := Aside0.mk (below_step HB.out hb1); clear HB; have HB := n_; clear n_ hb1 hbox hgq) | (go_at_call 24; refine (HI.out _ _ HX.out HB.out).out.mono ?_; rintro e w1 ⟨rfl, hb1⟩; have n_ := Aside0.mk (below_step HB.out hb1); clear HB; have HB := n_; clear n_ hb1))
  go_ret
  exact ⟨by first | rfl | (simp; done), HB.out⟩
end Go.Proofs.Ytjdhhbjnihhncaa.P
