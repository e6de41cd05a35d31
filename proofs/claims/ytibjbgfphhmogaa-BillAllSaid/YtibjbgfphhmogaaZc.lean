/- slices.Clone at rows of whole numbers: a copy of its own. -/
import Derived.Test.YtibjbgfphhmogaaPx0
namespace Go.Proofs.Ytibjbgfphhmogaa.P
open Go.RowKit Go.Proofs.YtibjbgfphhmogaaW.PrintWords Go.Proofs.YtibjbgfphhmogaaW.PrintLast Go.Proofs.YtibjbgfphhmogaaW.PrintMore
attribute [local go_sem] max2_int min2_int max_two min_two max_three min_three max_four min_four   -- for this text's walks alone
set_option linter.unusedVariables false
set_option linter.unusedSimpArgs false
def slices_Clone_int_int.f (k : Nat) (l0 : List Int) : Option (List Int) := if l0.length < 17592186044416 then some l0 else none
theorem slices_Clone_int_int.mono : ∀ l0 k, LeO (slices_Clone_int_int.f k l0) (slices_Clone_int_int.f (k + 1) l0) := fun _ _ => LeO.refl _
theorem nil28 (c : Nat) (w : World) : Sem.run Try.prog (binOp BinOp.eql 28 (Value.slice none 0 c) (Value.slice none 0 0)) w = .ok (.bool true) w := by kernel_rfl
theorem some28 (a : Addr) (n c : Nat) (w : World) : Sem.run Try.prog (binOp BinOp.eql 28 (Value.slice (some a) n c) (Value.slice none 0 0)) w = .ok (.bool false) w := by kernel_rfl
set_option maxHeartbeats 8000000 in
set_option maxRecDepth 100000 in
theorem slices_Clone_int_int.calls (k : Nat) (A0 : Option Addr) (c0 : Nat) (l0 : List Int) (r : List Int) (w : World) (hr0 : Kd.C (Kd.int .i64) w A0 l0.length l0) (hc0 : l0.length ≤ c0) (h : slices_Clone_int_int.f k l0 = some r) :
    Calls Try.prog 30 #[.slice A0 l0.length c0] w fun e w' => ∃ v0_ : Value, e = .returned v0_ ∧ Kd.R (Kd.int .i64) 3 w' w.heap.size (fun _ => True) v0_ r ∧ Below w.heap.size w w' := by
  by_cases c : l0.length < 17592186044416
  case neg => rw [slices_Clone_int_int.f, if_neg c] at h; cases h
  rw [slices_Clone_int_int.f, if_pos c] at h
  obtain rfl := (Option.some.inj h).symm
  have LM := Aside0.mk c
  have HR := Aside0.mk hr0
  have HB := Aside0.mk (Below.refl w.heap.size w)
  clear c h
  cases A0 with
  | none =>
    have hl : r = [] := by
      by_cases hp : 0 < r.length
      · obtain ⟨ad, e, _⟩ := hr0.2.2 hp; cases e
      · exact List.eq_nil_of_length_eq_zero (by omega)
    subst hl
    clear hr0 hc0 HR LM
    have hn1 := nil28
    go_enter Try.func30, Try.ntmps30
    go_wp2
    go_ret
    exact ⟨_, rfl, Kd.R_nil _ _ _ _ _, HB.out⟩
  | some ad =>
    obtain ⟨n, hn⟩ : ∃ n, r.length = n := ⟨_, rfl⟩
    have HN := Aside0.mk hn
    rw [hn] at HR ⊢
    clear hr0 hc0 hn
    have hn1 := some28
    go_enter Try.func30, Try.ntmps30
    go_wp2_with (first | ((with_reducible refine gate_dst (N := 5) rfl ?_); refine Kd.R_lit (Kd.int .i64) _ 3 ?hg (N := 5) ?hd (xs := ([] : List Int)) (inner := []) (ok := fun _ => True) (okp := fun _ => True) ?hr ?hp (fun _ hk => hk) trivial (Below.refl _ _) (Nat.le_refl _) (by simp) ?_; (case hd => rfl); (case hg => rfl); (case hr => first | (go_simp; done) | (go_simp; rfl)); (case hp => exact (Reps.none _ _)); intro v176 w8 ho9 hb hg_ hnew_; clear hg_ hnew_; have n1_ := Aside0.mk (Kd.R_lower ho9 (below_size (by repeat (first | (with_reducible first | exact HB.out | apply below_alloc | apply pw_below_drewN | apply below_drew1) | exact HB.out)))); have n3_ := Aside0.mk (below_step (by repeat (first | (with_reducible first | exact HB.out | apply below_alloc | apply pw_below_drewN | apply below_drew1) | exact HB.out)) hb); clear HB; have HO177 := n1_; have HB := n3_; clear n1_ n3_; clear hb ho9) | ((with_reducible refine gate_builtin (b := .append) (xs := #[.tmp 5, .tmp 6]) rfl ?_); at_builtin; refine Kd.R_append_rows (Kd.int .i64) (w0 := w) w.heap.size rfl (.tmp 5) (.tmp 6) 28 3 (.int .i64 0) 8 rfl Try.underlying28 info3 rfl (by decide) (by omega) v176 [] r _ _ _ (fun _ => True) (fun _ => False) rfl rfl ?aO ?aR (fun _ _ h => h) (fun _ h => h.elim) ?aF ?aB ?aS ?aL ?_; (case aR => repeat (first | exact (Kd.C_below HR.out HB.out) | (with_reducible refine Kd.C_alloc ?_ _) | (with_reducible refine Kd.C_drewN ?_ _) | (with_reducible refine Kd.C_drew ?_))); (case aB => exact (by repeat (first | (with_reducible first | exact HB.out | apply below_alloc | apply pw_below_drewN | apply below_drew1) | exact HB.out))); (case aF => exact (fun _ _ => trivial)); (case aO => exact (by (with_reducible repeat (first | apply Kd.R_alloc | apply Kd.R_drewN | apply Kd.R_drew)); exact HO177.out)); (case aS => exact (below_size (by repeat (first | (with_reducible first | exact HB.out | apply below_alloc | apply pw_below_drewN | apply below_drew1) | exact HB.out)))); (case aL => have := LM.out; have := HN.out; simp only [List.length_nil]; omega); intro v179 w11 ho hb hg hat; have n2_ := Aside0.mk hb; have n3_ := Aside0.mk ho; clear HB; clear HO177; have HB := n2_; have HO180 := n3_; clear n2_ n3_; clear ho hb hg hat))
    go_ret
    exact ⟨_, rfl, by (with_reducible repeat (first | apply Kd.R_alloc | apply Kd.R_drewN | apply Kd.R_drew)); exact HO180.out, by repeat (first | (with_reducible first | exact HB.out | apply below_alloc | apply pw_below_drewN | apply below_drew1) | exact HB.out)⟩
end Go.Proofs.Ytibjbgfphhmogaa.P
