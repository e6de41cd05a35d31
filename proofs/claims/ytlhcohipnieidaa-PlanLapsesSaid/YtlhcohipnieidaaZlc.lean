/- Loans: contracts of the functions on loans, walked by hand. -/
import Derived.Test.YtlhcohipnieidaaPx1
import Derived.Test.YtlhcohipnieidaaPx18
import Derived.Test.YtlhcohipnieidaaZlb
import Derived.Deep.RegionHeld3
import Derived.Deep.RegionHeld2
import Derived.Laws.CopyOwn
namespace Go.Proofs.Ytlhcohipnieidaa.P
open Go.RowKit Go.Proofs.YtlhcohipnieidaaW.PrintWords Go.Proofs.YtlhcohipnieidaaW.PrintLast Go.Proofs.YtlhcohipnieidaaW.PrintMore
attribute [local go_sem] max2_int min2_int max_two min_two max_three min_three max_four min_four   -- for this text's walks alone
set_option linter.unusedVariables false
set_option linter.unusedSimpArgs false
set_option maxHeartbeats 8000000 in
set_option maxRecDepth 100000 in
theorem loan_does.sum_ok (a b c : Int) (w : World) (h : money_Add.f a b = some (c, 0)) :
    Calls Try.prog 74 #[.int .i64 a, .int .i64 b] w fun e w' => e = .returned (.int .i64 c) ∧ Below w.heap.size w w' := by
  have H := Aside0.mk h
  have HB := Aside0.mk (Below.refl w.heap.size w)
  clear h
  go_enter Try.func74, Try.ntmps74
  go_wp2_with (first | (go_at_call 56; (with_reducible refine (money_Add.calls a b c 0 _ H.out).mono ?_); rintro e w1 ⟨rfl, hb⟩; have n0_ := Aside0.mk (below_step HB.out hb); clear HB; have HB := n0_; clear n0_ hb) | (go_at_call 73; (with_reducible refine (loan_does.stop_ok 0 true _ (.inl rfl)).mono ?_); rintro e w' ⟨rfl, ⟨nd, rfl⟩⟩))
  go_ret
  exact ⟨by first | rfl | (simp; done), pw_below_drewN HB.out _⟩
set_option maxHeartbeats 8000000 in
set_option maxRecDepth 100000 in
theorem loan_does.sum_bad (a b c x : Int) (w : World) (h : money_Add.f a b = some (c, x)) (hx : x ≠ 0) :
    Calls Try.prog 74 #[.int .i64 a, .int .i64 b] w fun e w' => e = .panicked [{ v := .iface 24 (.int .i64 x), recovered := false }] ∧ Below w.heap.size w w' := by
  have H := Aside0.mk h
  have HX := Aside0.mk hx
  have HB := Aside0.mk (Below.refl w.heap.size w)
  clear h hx
  go_enter Try.func74, Try.ntmps74
  go_wp2_with (first | (go_at_call 56; (with_reducible refine (money_Add.calls a b c x _ H.out).mono ?_); rintro e w1 ⟨rfl, hb⟩; have n0_ := Aside0.mk (below_step HB.out hb); clear HB; have HB := n0_; clear n0_ hb) | (go_at_call 73; (with_reducible refine (loan_does.stop_bad x _ HX.out).mono ?_); rintro e w' ⟨rfl, ⟨nd, rfl⟩⟩))
  exact ⟨rfl, rfl, pw_below_drewN HB.out _⟩
theorem loan_does.held {b : Nat} {W w1 : World} (hb : Below W.heap.size W w1) (h : b < W.heap.size) : (∀ o, w1.cell? ⟨b, o, none⟩ = W.cell? ⟨b, o, none⟩) ∧ (∀ o, w1.frozen? ⟨b, o, none⟩ = W.frozen? ⟨b, o, none⟩) ∧ W.heap.size ≤ w1.heap.size :=
  ⟨fun o => hb.cell (p := ⟨b, o, none⟩) h, fun o => hb.frozen (p := ⟨b, o, none⟩) h, hb.size⟩
theorem loan_does.next {b : Nat} {pr it fe : Int} {w W w1 : World} (hS : W.cell? ⟨b, 1, none⟩ = some (.int .i64 pr) ∧ W.cell? ⟨b, 2, none⟩ = some (.int .i64 it) ∧ W.cell? ⟨b, 4, none⟩ = some (.int .i64 fe) ∧ W.frozen? ⟨b, 1, none⟩ = false ∧ W.frozen? ⟨b, 2, none⟩ = false ∧ W.frozen? ⟨b, 4, none⟩ = false ∧ b < W.heap.size ∧ w.heap.size ≤ W.heap.size ∧ Below w.heap.size w W) (hb : Below W.heap.size W w1) :
    w1.cell? ⟨b, 1, none⟩ = some (.int .i64 pr) ∧ w1.cell? ⟨b, 2, none⟩ = some (.int .i64 it) ∧ w1.cell? ⟨b, 4, none⟩ = some (.int .i64 fe) ∧ w1.frozen? ⟨b, 1, none⟩ = false ∧ w1.frozen? ⟨b, 2, none⟩ = false ∧ w1.frozen? ⟨b, 4, none⟩ = false ∧ b < w1.heap.size ∧ w.heap.size ≤ w1.heap.size ∧ Below w.heap.size w w1 := by
  obtain ⟨c1, c2, c4, f1, f2, f4, h1, h2, h3⟩ := hS
  obtain ⟨q1, q2, q3⟩ := loan_does.held hb h1
  exact ⟨(q1 _).trans c1, (q1 _).trans c2, (q1 _).trans c4, (q2 _).trans f1, (q2 _).trans f2, (q2 _).trans f4, by omega, by omega, below_step h3 hb⟩
theorem loan_does.start {b : Nat} {pr it fe : Int} {w : World} (hS : w.cell? ⟨b, 1, none⟩ = some (.int .i64 pr) ∧ w.cell? ⟨b, 2, none⟩ = some (.int .i64 it) ∧ w.cell? ⟨b, 4, none⟩ = some (.int .i64 fe) ∧ w.frozen? ⟨b, 1, none⟩ = false ∧ w.frozen? ⟨b, 2, none⟩ = false ∧ w.frozen? ⟨b, 4, none⟩ = false ∧ b < w.heap.size ∧ w.heap.size ≤ w.heap.size ∧ Below w.heap.size w w) :
    w.drew.cell? ⟨b, 1, none⟩ = some (.int .i64 pr) ∧ w.drew.cell? ⟨b, 2, none⟩ = some (.int .i64 it) ∧ w.drew.cell? ⟨b, 4, none⟩ = some (.int .i64 fe) ∧ w.drew.frozen? ⟨b, 1, none⟩ = false ∧ w.drew.frozen? ⟨b, 2, none⟩ = false ∧ w.drew.frozen? ⟨b, 4, none⟩ = false ∧ b < w.drew.heap.size ∧ w.heap.size ≤ w.drew.heap.size ∧ Below w.heap.size w w.drew := loan_does.next hS ((Below.refl _ _).drew)
set_option maxHeartbeats 8000000 in
set_option maxRecDepth 100000 in
theorem loan_does.owes_ok (b : Nat) (id pr it su fe ppm : Int) (sd : Bool) (st cl en le fa ct : Int) (w : World) (h : w.heap[b]? = some (.cells (loanC id pr it su fe ppm sd st cl en le fa ct) 23 (0, 0)))
    (x y z : Int) (h1 : money_Add.f pr fe = some (x, 0)) (h2 : accrue_Whole.f it = some y) (h3 : money_Add.f x y = some (z, 0)) :
    Calls Try.prog 62 #[.pointer (some ⟨b, 0, none⟩)] w fun e w' => e = .returned (.int .i64 z) ∧ Below w.heap.size w w' := by
  have c1 : w.cell? ⟨b, 1, none⟩ = some (.int .i64 pr) := (blk_cell h 1).trans rfl
  have c2 : w.cell? ⟨b, 2, none⟩ = some (.int .i64 it) := (blk_cell h 2).trans rfl
  have c4 : w.cell? ⟨b, 4, none⟩ = some (.int .i64 fe) := (blk_cell h 4).trans rfl
  have f1 := blk_frozen h 1
  have f2 := blk_frozen h 2
  have f4 := blk_frozen h 4
  have H1 := Aside0.mk h1
  have H2 := Aside0.mk h2
  have H3 := Aside0.mk h3
  have HB := Below.refl w.heap.size w
  have hlt := blk_lt h
  have hle := Nat.le_refl w.heap.size
  clear h h1 h2 h3
  go_enter Try.func62, Try.ntmps62
  go_wp2_with fail
  go_region_held3 (fun W => W.cell? ⟨b, 1, none⟩ = some (.int .i64 pr) ∧ W.cell? ⟨b, 2, none⟩ = some (.int .i64 it) ∧ W.cell? ⟨b, 4, none⟩ = some (.int .i64 fe) ∧ W.frozen? ⟨b, 1, none⟩ = false ∧ W.frozen? ⟨b, 2, none⟩ = false ∧ W.frozen? ⟨b, 4, none⟩ = false ∧ b < W.heap.size ∧ w.heap.size ≤ W.heap.size ∧ Below w.heap.size w W) (first | assumption | ((try dsimp only) <;> (refine ⟨?_, ?_, ?_, ?_, ?_, ?_, ?_, ?_, ?_⟩ <;> first | assumption | exact Below.drew ‹_› | exact pw_below_drewN ‹_› _ | (simp [*]; done) | omega)))
    (first | (go_at_call 74; refine (loan_does.sum_ok _ _ _ _ (by with_reducible first | exact H1.out | exact H3.out)).mono ?_; rintro e w1 ⟨rfl, hb⟩; have hn_ := loan_does.next (by assumption) hb) | (go_at_call 75; refine (accrue_Whole.calls it y _ H2.out).mono ?_; rintro e w' ⟨rfl, ⟨nd, rfl⟩⟩; have hn_ := loan_does.next (by assumption) (pw_below_drewN (Below.refl _ _) nd)))
  obtain ⟨_, _, _, _, _, _, _, _, hB⟩ := hn_
  go_wp2
  go_ret
  exact ⟨by first | rfl | (simp; done), hB⟩
set_option maxHeartbeats 8000000 in
set_option maxRecDepth 100000 in
theorem loan_does.owes_bad1 (b : Nat) (id pr it su fe ppm : Int) (sd : Bool) (st cl en le fa ct : Int) (w : World) (h : w.heap[b]? = some (.cells (loanC id pr it su fe ppm sd st cl en le fa ct) 23 (0, 0)))
    (x e : Int) (h1 : money_Add.f pr fe = some (x, e)) (he : e ≠ 0) :
    Calls Try.prog 62 #[.pointer (some ⟨b, 0, none⟩)] w fun r w' => r = .panicked [{ v := .iface 24 (.int .i64 e), recovered := false }] ∧ Below w.heap.size w w' := by
  have c1 : w.cell? ⟨b, 1, none⟩ = some (.int .i64 pr) := (blk_cell h 1).trans rfl
  have c2 : w.cell? ⟨b, 2, none⟩ = some (.int .i64 it) := (blk_cell h 2).trans rfl
  have c4 : w.cell? ⟨b, 4, none⟩ = some (.int .i64 fe) := (blk_cell h 4).trans rfl
  have f1 := blk_frozen h 1
  have f2 := blk_frozen h 2
  have f4 := blk_frozen h 4
  have H1 := Aside0.mk h1
  have HE := Aside0.mk he
  have HB := Below.refl w.heap.size w
  have hlt := blk_lt h
  have hle := Nat.le_refl w.heap.size
  clear h h1 he
  go_enter Try.func62, Try.ntmps62
  go_wp2_with fail
  have hS0 := loan_does.start (pr := pr) (it := it) (fe := fe) (w := w) ⟨c1, c2, c4, f1, f2, f4, hlt, hle, HB⟩
  refine wp_region_held_drew (S := (fun W => W.cell? ⟨b, 1, none⟩ = some (.int .i64 pr) ∧ W.cell? ⟨b, 2, none⟩ = some (.int .i64 it) ∧ W.cell? ⟨b, 4, none⟩ = some (.int .i64 fe) ∧ W.frozen? ⟨b, 1, none⟩ = false ∧ W.frozen? ⟨b, 2, none⟩ = false ∧ W.frozen? ⟨b, 4, none⟩ = false ∧ b < W.heap.size ∧ w.heap.size ≤ W.heap.size ∧ Below w.heap.size w W)) (by kernel_rfl) hS0 (fun hHeld => ?_)
  refine wpAnyH_take (i := 0) (v := ?v1_) rfl (by kernel_rfl) (by kernel_rfl) (by kernel_rfl) (fun _ _ _ h => h) (Or.inl ⟨by rfl, ?hy1_⟩) (by assumption) ?rest1_
  case hy1_ => (intro w_ hSw_; (try dsimp only at hSw_); (first | (go_simp; done) | (go_simp; with_reducible rfl)))
  try simp only [Act.put, List.getElem_toArray, List.getElem_cons_zero, List.getElem_cons_succ, List.setIfInBounds_toArray, List.set_cons_zero, List.set_cons_succ]
  refine wpAnyH_take (i := 1) (v := ?v2_) rfl (by kernel_rfl) (by kernel_rfl) (by kernel_rfl) (fun _ _ _ h => h) (Or.inl ⟨by rfl, ?hy2_⟩) (by assumption) ?rest2_
  case hy2_ => (intro w_ hSw_; (try dsimp only at hSw_); (first | (go_simp; done) | (go_simp; with_reducible rfl)))
  try simp only [Act.put, List.getElem_toArray, List.getElem_cons_zero, List.getElem_cons_succ, List.setIfInBounds_toArray, List.set_cons_zero, List.set_cons_succ]
  refine wpAnyH_take (i := 2) (v := ?v3_) rfl (by kernel_rfl) (by kernel_rfl) (by kernel_rfl) (fun _ _ _ h => h) (Or.inl ⟨by rfl, ?hy3_⟩) (by assumption) ?rest3_
  case hy3_ => (intro w_ hSw_; (try dsimp only at hSw_); (first | (go_simp; done) | (go_simp; with_reducible rfl)))
  try simp only [Act.put, List.getElem_toArray, List.getElem_cons_zero, List.getElem_cons_succ, List.setIfInBounds_toArray, List.set_cons_zero, List.set_cons_succ]
  refine wpAnyH_take (i := 3) (v := ?v4_) rfl (by kernel_rfl) (by kernel_rfl) (by kernel_rfl) (fun _ _ _ h => h) (Or.inl ⟨by rfl, ?hy4_⟩) (by assumption) ?rest4_
  case hy4_ => (intro w_ hSw_; (try dsimp only at hSw_); (first | (go_simp; done) | (go_simp; with_reducible rfl)))
  try simp only [Act.put, List.getElem_toArray, List.getElem_cons_zero, List.getElem_cons_succ, List.setIfInBounds_toArray, List.set_cons_zero, List.set_cons_succ]
  refine wpAnyH_take (i := 4) (v := ?v5_) rfl (by kernel_rfl) (by kernel_rfl) (by kernel_rfl) (fun _ _ _ h => h) (Or.inl ⟨by rfl, ?hy5_⟩) (by assumption) ?rest5_
  case hy5_ => (intro w_ hSw_; (try dsimp only at hSw_); (first | (go_simp; done) | (go_simp; with_reducible rfl)))
  try simp only [Act.put, List.getElem_toArray, List.getElem_cons_zero, List.getElem_cons_succ, List.setIfInBounds_toArray, List.set_cons_zero, List.set_cons_succ]
  refine wpAnyH_take (i := 5) (v := ?v6_) rfl (by kernel_rfl) (by kernel_rfl) (by kernel_rfl) (fun _ _ _ h => h) (Or.inl ⟨by rfl, ?hy6_⟩) (by assumption) ?rest6_
  case hy6_ => (intro w_ hSw_; (try dsimp only at hSw_); (first | (go_simp; done) | (go_simp; with_reducible rfl)))
  try simp only [Act.put, List.getElem_toArray, List.getElem_cons_zero, List.getElem_cons_succ, List.setIfInBounds_toArray, List.set_cons_zero, List.set_cons_succ]
  refine wpAnyH_take (i := 6) (v := ?v7_) rfl (by kernel_rfl) (by kernel_rfl) (by kernel_rfl) (fun _ _ _ h => h) (Or.inl ⟨by rfl, ?hy7_⟩) (by assumption) ?rest7_
  case hy7_ => (intro w_ hSw_; (try dsimp only at hSw_); (first | (go_simp; done) | (go_simp; with_reducible rfl)))
  try simp only [Act.put, List.getElem_toArray, List.getElem_cons_zero, List.getElem_cons_succ, List.setIfInBounds_toArray, List.set_cons_zero, List.set_cons_succ]
  refine wpAnyH_take (i := 7) (v := ?v8_) rfl (by kernel_rfl) (by kernel_rfl) (by kernel_rfl) (fun _ _ _ h => h) (Or.inl ⟨by rfl, ?hy8_⟩) (by assumption) ?rest8_
  case hy8_ => (intro w_ hSw_; (try dsimp only at hSw_); (first | (go_simp; done) | (go_simp; with_reducible rfl)))
  try simp only [Act.put, List.getElem_toArray, List.getElem_cons_zero, List.getElem_cons_succ, List.setIfInBounds_toArray, List.set_cons_zero, List.set_cons_succ]
  refine wpAnyH_take (i := 9) (v := ?v9_) rfl (by kernel_rfl) (by kernel_rfl) (by kernel_rfl) (fun _ _ _ h => h) (Or.inl ⟨by rfl, ?hy9_⟩) (by assumption) ?rest9_
  case hy9_ => (intro w_ hSw_; (try dsimp only at hSw_); (first | (go_simp; done) | (go_simp; with_reducible rfl)))
  try simp only [Act.put, List.getElem_toArray, List.getElem_cons_zero, List.getElem_cons_succ, List.setIfInBounds_toArray, List.set_cons_zero, List.set_cons_succ]
  refine wpAnyH_take (i := 10) (v := ?v10_) rfl (by kernel_rfl) (by kernel_rfl) (by kernel_rfl) (fun _ _ _ h => h) (Or.inl ⟨by rfl, ?hy10_⟩) (by assumption) ?rest10_
  case hy10_ => (intro w_ hSw_; (try dsimp only at hSw_); (first | (go_simp; done) | (go_simp; with_reducible rfl)))
  try simp only [Act.put, List.getElem_toArray, List.getElem_cons_zero, List.getElem_cons_succ, List.setIfInBounds_toArray, List.set_cons_zero, List.set_cons_succ]
  refine wpAnyH_take (i := 11) (v := ?v11_) rfl (by kernel_rfl) (by kernel_rfl) (by kernel_rfl) (fun _ _ _ h => h) (Or.inl ⟨by rfl, ?hy11_⟩) (by assumption) ?rest11_
  case hy11_ => (intro w_ hSw_; (try dsimp only at hSw_); (first | (go_simp; done) | (go_simp; with_reducible rfl)))
  try simp only [Act.put, List.getElem_toArray, List.getElem_cons_zero, List.getElem_cons_succ, List.setIfInBounds_toArray, List.set_cons_zero, List.set_cons_succ]
  refine wpAnyH_take (i := 12) (v := ?v12_) rfl (by kernel_rfl) (by kernel_rfl) (by kernel_rfl) (fun _ _ _ h => h) (Or.inl ⟨by rfl, ?hy12_⟩) (by assumption) ?rest12_
  case hy12_ => (intro w_ hSw_; (try dsimp only at hSw_); (first | (go_simp; done) | (go_simp; with_reducible rfl)))
  try simp only [Act.put, List.getElem_toArray, List.getElem_cons_zero, List.getElem_cons_succ, List.setIfInBounds_toArray, List.set_cons_zero, List.set_cons_succ]
  refine wpAnyH_ready (rs := [8]) (by kernel_rfl) (by simp) ?_
  refine AllReadyH.cons rfl (fun K hK => ?_) AllReadyH.nil
  go_simp
  go_wp2_with (go_at_call 74; (refine (loan_does.sum_bad _ _ _ _ _ H1.out HE.out).mono ?_); rintro e w1 ⟨rfl, hb⟩)
  exact ⟨rfl, rfl, (loan_does.next hHeld hb).2.2.2.2.2.2.2.2⟩
set_option maxHeartbeats 8000000 in
set_option maxRecDepth 100000 in
theorem loan_does.owes_bad2 (b : Nat) (id pr it su fe ppm : Int) (sd : Bool) (st cl en le fa ct : Int) (w : World) (h : w.heap[b]? = some (.cells (loanC id pr it su fe ppm sd st cl en le fa ct) 23 (0, 0)))
    (x y z e : Int) (h1 : money_Add.f pr fe = some (x, 0)) (h2 : accrue_Whole.f it = some y) (h3 : money_Add.f x y = some (z, e)) (he : e ≠ 0) :
    Calls Try.prog 62 #[.pointer (some ⟨b, 0, none⟩)] w fun r w' => r = .panicked [{ v := .iface 24 (.int .i64 e), recovered := false }] ∧ Below w.heap.size w w' := by
  have c1 : w.cell? ⟨b, 1, none⟩ = some (.int .i64 pr) := (blk_cell h 1).trans rfl
  have c2 : w.cell? ⟨b, 2, none⟩ = some (.int .i64 it) := (blk_cell h 2).trans rfl
  have c4 : w.cell? ⟨b, 4, none⟩ = some (.int .i64 fe) := (blk_cell h 4).trans rfl
  have f1 := blk_frozen h 1
  have f2 := blk_frozen h 2
  have f4 := blk_frozen h 4
  have H1 := Aside0.mk h1
  have HE := Aside0.mk he
  have H2 := Aside0.mk h2
  have H3 := Aside0.mk h3
  have HB := Below.refl w.heap.size w
  have hlt := blk_lt h
  have hle := Nat.le_refl w.heap.size
  clear h h1 h2 h3 he
  go_enter Try.func62, Try.ntmps62
  go_wp2_with fail
  have hS0 := loan_does.start (pr := pr) (it := it) (fe := fe) (w := w) ⟨c1, c2, c4, f1, f2, f4, hlt, hle, HB⟩
  refine wp_region_held_drew (S := (fun W => W.cell? ⟨b, 1, none⟩ = some (.int .i64 pr) ∧ W.cell? ⟨b, 2, none⟩ = some (.int .i64 it) ∧ W.cell? ⟨b, 4, none⟩ = some (.int .i64 fe) ∧ W.frozen? ⟨b, 1, none⟩ = false ∧ W.frozen? ⟨b, 2, none⟩ = false ∧ W.frozen? ⟨b, 4, none⟩ = false ∧ b < W.heap.size ∧ w.heap.size ≤ W.heap.size ∧ Below w.heap.size w W)) (by kernel_rfl) hS0 (fun hHeld => ?_)
  refine wpAnyH_take (i := 0) (v := ?v13_) rfl (by kernel_rfl) (by kernel_rfl) (by kernel_rfl) (fun _ _ _ h => h) (Or.inl ⟨by rfl, ?hy13_⟩) (by assumption) ?rest13_
  case hy13_ => (intro w_ hSw_; (try dsimp only at hSw_); (first | (go_simp; done) | (go_simp; with_reducible rfl)))
  try simp only [Act.put, List.getElem_toArray, List.getElem_cons_zero, List.getElem_cons_succ, List.setIfInBounds_toArray, List.set_cons_zero, List.set_cons_succ]
  refine wpAnyH_take (i := 1) (v := ?v14_) rfl (by kernel_rfl) (by kernel_rfl) (by kernel_rfl) (fun _ _ _ h => h) (Or.inl ⟨by rfl, ?hy14_⟩) (by assumption) ?rest14_
  case hy14_ => (intro w_ hSw_; (try dsimp only at hSw_); (first | (go_simp; done) | (go_simp; with_reducible rfl)))
  try simp only [Act.put, List.getElem_toArray, List.getElem_cons_zero, List.getElem_cons_succ, List.setIfInBounds_toArray, List.set_cons_zero, List.set_cons_succ]
  refine wpAnyH_take (i := 2) (v := ?v15_) rfl (by kernel_rfl) (by kernel_rfl) (by kernel_rfl) (fun _ _ _ h => h) (Or.inl ⟨by rfl, ?hy15_⟩) (by assumption) ?rest15_
  case hy15_ => (intro w_ hSw_; (try dsimp only at hSw_); (first | (go_simp; done) | (go_simp; with_reducible rfl)))
  try simp only [Act.put, List.getElem_toArray, List.getElem_cons_zero, List.getElem_cons_succ, List.setIfInBounds_toArray, List.set_cons_zero, List.set_cons_succ]
  refine wpAnyH_take (i := 3) (v := ?v16_) rfl (by kernel_rfl) (by kernel_rfl) (by kernel_rfl) (fun _ _ _ h => h) (Or.inl ⟨by rfl, ?hy16_⟩) (by assumption) ?rest16_
  case hy16_ => (intro w_ hSw_; (try dsimp only at hSw_); (first | (go_simp; done) | (go_simp; with_reducible rfl)))
  try simp only [Act.put, List.getElem_toArray, List.getElem_cons_zero, List.getElem_cons_succ, List.setIfInBounds_toArray, List.set_cons_zero, List.set_cons_succ]
  refine wpAnyH_take (i := 4) (v := ?v17_) rfl (by kernel_rfl) (by kernel_rfl) (by kernel_rfl) (fun _ _ _ h => h) (Or.inl ⟨by rfl, ?hy17_⟩) (by assumption) ?rest17_
  case hy17_ => (intro w_ hSw_; (try dsimp only at hSw_); (first | (go_simp; done) | (go_simp; with_reducible rfl)))
  try simp only [Act.put, List.getElem_toArray, List.getElem_cons_zero, List.getElem_cons_succ, List.setIfInBounds_toArray, List.set_cons_zero, List.set_cons_succ]
  refine wpAnyH_take (i := 5) (v := ?v18_) rfl (by kernel_rfl) (by kernel_rfl) (by kernel_rfl) (fun _ _ _ h => h) (Or.inl ⟨by rfl, ?hy18_⟩) (by assumption) ?rest18_
  case hy18_ => (intro w_ hSw_; (try dsimp only at hSw_); (first | (go_simp; done) | (go_simp; with_reducible rfl)))
  try simp only [Act.put, List.getElem_toArray, List.getElem_cons_zero, List.getElem_cons_succ, List.setIfInBounds_toArray, List.set_cons_zero, List.set_cons_succ]
  refine wpAnyH_take (i := 6) (v := ?v19_) rfl (by kernel_rfl) (by kernel_rfl) (by kernel_rfl) (fun _ _ _ h => h) (Or.inl ⟨by rfl, ?hy19_⟩) (by assumption) ?rest19_
  case hy19_ => (intro w_ hSw_; (try dsimp only at hSw_); (first | (go_simp; done) | (go_simp; with_reducible rfl)))
  try simp only [Act.put, List.getElem_toArray, List.getElem_cons_zero, List.getElem_cons_succ, List.setIfInBounds_toArray, List.set_cons_zero, List.set_cons_succ]
  refine wpAnyH_take (i := 7) (v := ?v20_) rfl (by kernel_rfl) (by kernel_rfl) (by kernel_rfl) (fun _ _ _ h => h) (Or.inl ⟨by rfl, ?hy20_⟩) (by assumption) ?rest20_
  case hy20_ => (intro w_ hSw_; (try dsimp only at hSw_); (first | (go_simp; done) | (go_simp; with_reducible rfl)))
  try simp only [Act.put, List.getElem_toArray, List.getElem_cons_zero, List.getElem_cons_succ, List.setIfInBounds_toArray, List.set_cons_zero, List.set_cons_succ]
  refine wpAnyH_take (i := 9) (v := ?v21_) rfl (by kernel_rfl) (by kernel_rfl) (by kernel_rfl) (fun _ _ _ h => h) (Or.inl ⟨by rfl, ?hy21_⟩) (by assumption) ?rest21_
  case hy21_ => (intro w_ hSw_; (try dsimp only at hSw_); (first | (go_simp; done) | (go_simp; with_reducible rfl)))
  try simp only [Act.put, List.getElem_toArray, List.getElem_cons_zero, List.getElem_cons_succ, List.setIfInBounds_toArray, List.set_cons_zero, List.set_cons_succ]
  refine wpAnyH_take (i := 10) (v := ?v22_) rfl (by kernel_rfl) (by kernel_rfl) (by kernel_rfl) (fun _ _ _ h => h) (Or.inl ⟨by rfl, ?hy22_⟩) (by assumption) ?rest22_
  case hy22_ => (intro w_ hSw_; (try dsimp only at hSw_); (first | (go_simp; done) | (go_simp; with_reducible rfl)))
  try simp only [Act.put, List.getElem_toArray, List.getElem_cons_zero, List.getElem_cons_succ, List.setIfInBounds_toArray, List.set_cons_zero, List.set_cons_succ]
  refine wpAnyH_take (i := 11) (v := ?v23_) rfl (by kernel_rfl) (by kernel_rfl) (by kernel_rfl) (fun _ _ _ h => h) (Or.inl ⟨by rfl, ?hy23_⟩) (by assumption) ?rest23_
  case hy23_ => (intro w_ hSw_; (try dsimp only at hSw_); (first | (go_simp; done) | (go_simp; with_reducible rfl)))
  try simp only [Act.put, List.getElem_toArray, List.getElem_cons_zero, List.getElem_cons_succ, List.setIfInBounds_toArray, List.set_cons_zero, List.set_cons_succ]
  refine wpAnyH_take (i := 12) (v := ?v24_) rfl (by kernel_rfl) (by kernel_rfl) (by kernel_rfl) (fun _ _ _ h => h) (Or.inl ⟨by rfl, ?hy24_⟩) (by assumption) ?rest24_
  case hy24_ => (intro w_ hSw_; (try dsimp only at hSw_); (first | (go_simp; done) | (go_simp; with_reducible rfl)))
  try simp only [Act.put, List.getElem_toArray, List.getElem_cons_zero, List.getElem_cons_succ, List.setIfInBounds_toArray, List.set_cons_zero, List.set_cons_succ]
  refine wpAnyH_ready (rs := [8]) (by kernel_rfl) (by simp) ?_
  refine AllReadyH.cons rfl (fun K hK => ?_) AllReadyH.nil
  go_simp
  go_wp2_with (go_at_call 74; (refine (loan_does.sum_ok _ _ _ _ H1.out).mono ?_); rintro e w1 ⟨rfl, hb⟩)
  have hS1 := loan_does.next hHeld hb
  refine hK.out _ _ hS1 (fun hHeld1 => ?_)
  clear hK K
  try simp only [Act.put, List.getElem_toArray, List.getElem_cons_zero, List.getElem_cons_succ, List.setIfInBounds_toArray, List.set_cons_zero, List.set_cons_succ]
  refine wpAnyH_ready (rs := [13]) (by kernel_rfl) (by simp) ?_
  refine AllReadyH.cons rfl (fun K hK => ?_) AllReadyH.nil
  go_simp
  go_wp2_with (go_at_call 75; (refine (accrue_Whole.calls _ _ _ H2.out).mono ?_); rintro e w' ⟨rfl, ⟨nd, rfl⟩⟩)
  have hS2 := loan_does.next hS1 (pw_below_drewN (Below.refl _ _) nd)
  refine hK.out _ _ hS2 (fun hHeld2 => ?_)
  clear hK K
  try simp only [Act.put, List.getElem_toArray, List.getElem_cons_zero, List.getElem_cons_succ, List.setIfInBounds_toArray, List.set_cons_zero, List.set_cons_succ]
  refine wpAnyH_ready (rs := [14]) (by kernel_rfl) (by simp) ?_
  refine AllReadyH.cons rfl (fun K hK => ?_) AllReadyH.nil
  go_simp
  go_wp2_with (go_at_call 74; (refine (loan_does.sum_bad _ _ _ _ _ H3.out HE.out).mono ?_); rintro e w2 ⟨rfl, hb2⟩)
  exact ⟨rfl, rfl, (loan_does.next hS2 hb2).2.2.2.2.2.2.2.2⟩
end Go.Proofs.Ytlhcohipnieidaa.P
