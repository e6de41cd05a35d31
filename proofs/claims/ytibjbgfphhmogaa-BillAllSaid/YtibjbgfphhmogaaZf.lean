/- bill.Find: a month's bill: walked by hand (slices.IndexFunc and the function literal among it). -/
import Derived.Test.YtibjbgfphhmogaaZo
import Derived.Test.YtibjbgfphhmogaaZc
namespace Go.Proofs.Ytibjbgfphhmogaa.P
open Go.RowKit Go.Proofs.YtibjbgfphhmogaaW.PrintWords Go.Proofs.YtibjbgfphhmogaaW.PrintLast Go.Proofs.YtibjbgfphhmogaaW.PrintMore
attribute [local go_sem] max2_int min2_int max_two min_two max_three min_three max_four min_four   -- for this text's walks alone
set_option linter.unusedVariables false
set_option linter.unusedSimpArgs false
set_option maxHeartbeats 8000000 in
set_option maxRecDepth 100000 in
theorem bill_Find.in_ (B : Nat) (m : Int) (x : S45) (A : Option Addr) (c : Nat) (w : World) (hB : w.heap[B]? = some (.cells #[.int .i64 m] 3 (0, 0))) :
    Calls Try.prog 37 #[.agg #[.int .i64 x.f0, .int .i64 x.f1, .int .i64 x.f2, .int .i64 x.f3, .int .i64 x.f4, .slice A x.f5.length c], .pointer (some ⟨B, 0, none⟩)] w fun e w' => e = .returned (.bool (decide (x.f0 = m))) ∧ Below w.heap.size w w' := by
  have hu45 := Try.underlying45
  obtain ⟨x0, x1, x2, x3, x4, x5⟩ := x
  dsimp only
  have HB := Aside0.mk (Below.refl w.heap.size w)
  have HM := Aside0.mk hB
  clear hB
  go_enter Try.func37, Try.ntmps37
  go_wp2_with ((with_reducible refine gate_dst (N := 2) rfl ?_); refine box_event ?hg (N := 2) ?hd (cs := #[.int .i64 x0, .int .i64 x1, .int .i64 x2, .int .i64 x3, .int .i64 x4, .slice A x5.length c]) (t := 45) ?hr ?_; (case hd => rfl); (case hg => rfl); (case hr => first | (go_simp; done) | (go_simp; rfl)); intro gb hgq w6 hbox hb1; have hc0 : w6.cell? ⟨gb, 0, none⟩ = some (.int .i64 x0) := (blk_cell hbox 0).trans rfl; have hcm : w6.cell? ⟨B, 0, none⟩ = some (.int .i64 m) := (blk_cell (blk_below (g := B) (by first | exact HM.out | exact blk_drewN HM.out _) hb1) 0).trans rfl; have n_ := Aside0.mk (below_step (by repeat (first | (with_reducible first | exact HB.out | apply below_alloc | apply pw_below_drewN | apply below_drew1) | exact HB.out)) hb1); clear HB; have HB := n_; clear n_ hb1 hbox hgq)
  go_ret
  exact ⟨by first | rfl | (simp; done) | (simp [beq_eq_decide]; done), (by repeat (first | (with_reducible first | exact HB.out | apply below_alloc | apply pw_below_drewN | apply below_drew1) | exact HB.out))⟩
set_option maxHeartbeats 8000000 in
set_option maxRecDepth 100000 in
theorem bill_Find.index (B : Nat) (m : Int) (A0 : Option Addr) (c0 : Nat) (l0 : List S45) (w : World) (hr0 : Kd.C k45 w A0 l0.length l0) (hlen : l0.length ≤ 140737488351232) (hB : w.heap[B]? = some (.cells #[.int .i64 m] 3 (0, 0))) :
    Calls Try.prog 36 #[.slice A0 l0.length c0, .func (.func 37) #[] #[.pointer (some ⟨B, 0, none⟩)]] w fun e w' => e = .returned (.int .i64 (idxB (fun x => decide (x.f0 = m)) l0 0)) ∧ Below w.heap.size w w' := by
  have hu45 := Try.underlying45
  have HR0 := Aside0.mk hr0
  have HM := Aside0.mk hB
  clear hr0 hB
  obtain ⟨r, hr⟩ : ∃ r, r = idxB (fun x => decide (x.f0 = m)) l0 0 := ⟨_, rfl⟩
  rw [← hr]
  have HR := Aside0.mk hr
  clear hr
  have HB := Aside0.mk (Below.refl w.heap.size w)
  go_enter Try.func36, Try.ntmps36
  go_wp2
  go_loopw [5, 8] (fun v5 v8 wr => ∃ (j : Nat), j ≤ l0.length ∧ v8 = .int .i64 j ∧ Aside0 (idxB (fun x => decide (x.f0 = m)) (l0.drop j) j = r) ∧ Aside0 (Below w.heap.size w wr)) (fun _ v8 _ => l0.length - (intOf v8).toNat)
  case atStart => exact ⟨0, Nat.zero_le _, rfl, ⟨by rw [List.drop_zero]; exact HR.out.symm⟩, ⟨(by repeat (first | (with_reducible first | exact HB.out | apply below_alloc | apply pw_below_drewN | apply below_drew1) | exact HB.out))⟩⟩
  case round =>
    clear HB
    obtain ⟨j, hj, rfl, HS, HB⟩ := hrel
    by_cases hlt : j < l0.length
    · have hd : l0.drop j = rd_T45 l0 j :: l0.drop (j + 1) := by
        rw [List.drop_eq_getElem_cons hlt]; congr 1; unfold rd_T45; simp [List.getD_eq_getElem?_getD, hlt]
      have h0 := HS.out
      rw [hd, idxB] at h0
      obtain ⟨ad, A5, c5, ea, hx0, hx1, hx2, hx3, hx4, hx5, hl5, hi5⟩ := at_T45 (Kd.C_below HR0.out HB.out) j (by omega) (by omega)
      cases ea
      simp only [Int.toNat_natCast] at hx0 hx1 hx2 hx3 hx4 hx5
      have hltz : (j : Int) < (l0.length : Int) := by omega
      have hltn : (0 : Int) ≤ (j : Int) := by omega
      have hcall := fun W hW => bill_Find.in_ B m (rd_T45 l0 j) A5 c5 W hW
      obtain ⟨x, hxx⟩ : ∃ x, x = rd_T45 l0 j := ⟨_, rfl⟩
      rw [← hxx] at h0 hx0 hx1 hx2 hx3 hx4 hx5 hcall
      obtain ⟨x0, x1, x2, x3, x4, x5⟩ := x
      dsimp only at h0 hx0 hx1 hx2 hx3 hx4 hx5 hcall
      clear hxx hd HS hl5 hi5
      obtain ⟨b, hb⟩ : ∃ b : Bool, b = decide (x0 = m) := ⟨_, rfl⟩
      rw [← hb] at hcall h0
      cases b with
      | true =>
        rw [if_pos rfl] at h0
        subst h0
        clear hb
        go_wp2_with (go_at_call 37; refine (hcall _ (by first | exact (HB.out.block B (blk_lt HM.out)).trans HM.out | exact blk_drewN ((HB.out.block B (blk_lt HM.out)).trans HM.out) _)).mono ?_; rintro e w1 ⟨rfl, hb1⟩; have n_ := Aside0.mk (below_step (by repeat (first | (with_reducible first | exact HB.out | apply below_alloc | apply pw_below_drewN | apply below_drew1) | exact HB.out)) hb1); clear HB; have HB := n_; clear n_ hb1)
        go_ret
        exact ⟨by first | rfl | (simp; done), HB.out⟩
      | false =>
        rw [if_neg (by simp)] at h0
        have HN := Aside0.mk h0
        clear hb h0
        go_wp2_with (go_at_call 37; refine (hcall _ (by first | exact (HB.out.block B (blk_lt HM.out)).trans HM.out | exact blk_drewN ((HB.out.block B (blk_lt HM.out)).trans HM.out) _)).mono ?_; rintro e w1 ⟨rfl, hb1⟩; have n_ := Aside0.mk (below_step (by repeat (first | (with_reducible first | exact HB.out | apply below_alloc | apply pw_below_drewN | apply below_drew1) | exact HB.out)) hb1); clear HB; have HB := n_; clear n_ hb1)
        go_roundw
        case measure => simp [intOf]; omega
        case rel => exact ⟨j + 1, by omega, by go_num, HN, HB⟩
    · have h0 := HS.out
      rw [List.drop_of_length_le (by omega), idxB] at h0
      subst h0
      have hltz : ¬ (j : Int) < (l0.length : Int) := by omega
      go_wp2
      go_ret
      exact ⟨by first | rfl | (simp; done), HB.out⟩

theorem idxB_bd (p : S45 → Bool) : ∀ (l : List S45) (j : Nat), idxB p l j < 0 ∨ ∃ q : Nat, idxB p l j = (q : Int) ∧ j ≤ q ∧ q < j + l.length := by
  intro l
  induction l with
  | nil => intro j; left; simp [idxB]
  | cons x l ih =>
    intro j
    rw [idxB]
    by_cases c : p x = true
    · rw [if_pos c]; exact .inr ⟨j, rfl, Nat.le_refl _, by simp⟩
    · rw [if_neg c]
      rcases ih (j + 1) with h | ⟨q, h1, h2, h3⟩
      · exact .inl h
      · exact .inr ⟨q, h1, by omega, by simp; omega⟩
def bill_Find.f (k : Nat) (l0 : List S45) (a1 : Int) : Option (Int × Int × Int × Int × Int × List Int × Bool) :=
  if idxB (fun x => decide (x.f0 = a1)) l0 0 < 0 then (if l0.length ≤ 140737488351232 then some (0, 0, 0, 0, 0, [], false) else none) else
    (bill_Good.f k l0).bind fun g => if g = true then
      (slices_Clone_int_int.f k (rd_T45 l0 (idxB (fun x => decide (x.f0 = a1)) l0 0)).f5).bind fun t =>
      some ((rd_T45 l0 (idxB (fun x => decide (x.f0 = a1)) l0 0)).f0, (rd_T45 l0 (idxB (fun x => decide (x.f0 = a1)) l0 0)).f1, (rd_T45 l0 (idxB (fun x => decide (x.f0 = a1)) l0 0)).f2, (rd_T45 l0 (idxB (fun x => decide (x.f0 = a1)) l0 0)).f3, (rd_T45 l0 (idxB (fun x => decide (x.f0 = a1)) l0 0)).f4, t, true)
    else if l0.length ≤ 140737488351232 then some (0, 0, 0, 0, 0, [], false) else none
theorem bill_Find.mono : ∀ l0 a1 k, LeO (bill_Find.f k l0 a1) (bill_Find.f (k + 1) l0 a1) := by
  intro l0 a1 k
  unfold bill_Find.f
  refine LeO.ite (LeO.refl _) (LeO.bind (bill_Good.mono _ _) (fun _ => LeO.refl _))
set_option maxHeartbeats 8000000 in
set_option maxRecDepth 100000 in
theorem bill_Find.calls (k : Nat) (A0 : Option Addr) (c0 : Nat) (l0 : List S45) (a1 : Int) (r1 r2 r3 r4 r5 : Int) (r6 : List Int) (r7 : Bool) (w : World) (hr0 : Kd.C k45 w A0 l0.length l0) (hc0 : l0.length ≤ c0) (h : bill_Find.f k l0 a1 = some (r1, r2, r3, r4, r5, r6, r7)) :
    Calls Try.prog 18 #[.slice A0 l0.length c0, .int .i64 a1] w fun e w' => ∃ v5_ : Value, e = .returned (.tuple #[.agg #[.int .i64 r1, .int .i64 r2, .int .i64 r3, .int .i64 r4, .int .i64 r5, v5_], .bool r7]) ∧ Kd.R (Kd.int .i64) 3 w' w.heap.size (fun _ => True) v5_ r6 ∧ Below w.heap.size w w' := by
  have hu45 := Try.underlying45
  have hlen : l0.length ≤ 140737488351232 := by
    unfold bill_Find.f at h
    split at h
    · split at h
      · assumption
      · cases h
    · obtain ⟨g, hg, h⟩ := Option.bind_eq_some_iff.mp h
      cases g with
      | false =>
        rw [if_neg (by simp)] at h
        split at h
        · assumption
        · cases h
      | true => have := bill_Good.len hg; omega
  have HI : Aside0 (∀ (B : Nat) (W : World), Below w.heap.size w W → W.heap[B]? = some (.cells #[.int .i64 a1] 3 (0, 0)) → Calls Try.prog 36 #[.slice A0 l0.length c0, .func (.func 37) #[] #[.pointer (some ⟨B, 0, none⟩)]] W fun e w' => e = .returned (.int .i64 (idxB (fun x => decide (x.f0 = a1)) l0 0)) ∧ Below W.heap.size W w') := ⟨fun B W hW hB => bill_Find.index B a1 A0 c0 l0 W (Kd.C_below hr0 hW) hlen hB⟩
  have hmf : ∀ (fn : Fn) (first cap : Array Value) (w : World), (Instr.makeFunc fn first cap).run Try.prog w = .ok (.func fn first cap) w := fun _ _ _ _ => rfl
  have HB := Aside0.mk (Below.refl w.heap.size w)
  have HR0 := Aside0.mk hr0
  obtain ⟨n, hn⟩ : ∃ n, l0.length = n := ⟨_, rfl⟩
  have hbd := idxB_bd (fun x => decide (x.f0 = a1)) l0 0
  unfold bill_Find.f at h
  obtain ⟨q, hq⟩ : ∃ q, idxB (fun x => decide (x.f0 = a1)) l0 0 = q := ⟨_, rfl⟩
  rw [hq] at h HI hbd
  by_cases cq : q < 0
  case pos =>
    rw [if_pos cq, if_pos hlen] at h
    simp only [Option.some.injEq, Prod.mk.injEq] at h
    obtain ⟨rfl, rfl, rfl, rfl, rfl, rfl, rfl⟩ := h
    have dq : decide (q < 0) = true := decide_eq_true cq
    rw [hn] at HI ⊢
    clear hr0 hc0 hlen hbd hq cq hn
    go_enter Try.func18, Try.ntmps18
    go_upto_region 2 with (first | ((with_reducible refine gate_dst (N := 3) rfl ?_); refine box_event ?hg (N := 3) ?hd (cs := #[.int .i64 a1]) (t := 3) ?hr ?_; (case hd => rfl); (case hg => rfl); (case hr => first | (go_simp; done) | (go_simp; rfl)); intro g3 hgq w3 hbox hb1; have g3L := Aside0.mk ((by rw [hgq]; exact (below_size (by repeat (first | (with_reducible first | exact HB.out | apply below_alloc | apply pw_below_drewN | apply below_drew1) | exact HB.out))) : w.heap.size ≤ g3)); have n_ := Aside0.mk (below_step (by repeat (first | (with_reducible first | exact HB.out | apply below_alloc | apply pw_below_drewN | apply below_drew1) | exact HB.out)) hb1); clear HB; have HB := n_; clear n_; have Bg3 := Aside0.mk hbox; clear hgq hbox hb1) | ((with_reducible refine gate_dst (N := 4) rfl ?_); refine box_event ?hg (N := 4) ?hd (cs := #[.int .i64 0, .int .i64 0, .int .i64 0, .int .i64 0, .int .i64 0, .slice none 0 0]) (t := 45) ?hr ?_; (case hd => rfl); (case hg => rfl); (case hr => first | (go_simp; done) | (go_simp; rfl)); intro g4 hgq w4 hbox hb1; have g4L := Aside0.mk ((by rw [hgq]; exact (below_size (by repeat (first | (with_reducible first | exact HB.out | apply below_alloc | apply pw_below_drewN | apply below_drew1) | exact HB.out))) : w.heap.size ≤ g4)); have nb3_ := Aside0.mk (blk_below (g := g3) Bg3.out hb1); clear Bg3; have Bg3 := nb3_; clear nb3_; have n_ := Aside0.mk (below_step (by repeat (first | (with_reducible first | exact HB.out | apply below_alloc | apply pw_below_drewN | apply below_drew1) | exact HB.out)) hb1); clear HB; have HB := n_; clear n_; have Bg4 := Aside0.mk hbox; clear hgq hbox hb1) | (go_at_call 36; refine (HI.out g3 _ (by repeat (first | (with_reducible first | exact HB.out | apply below_alloc | apply pw_below_drewN | apply below_drew1) | exact HB.out)) (by first | exact Bg3.out | exact blk_drewN Bg3.out _)).mono ?_; rintro e w5 ⟨rfl, hb1⟩; have nb4_ := Aside0.mk (blk_below (g := g4) (by first | exact Bg4.out | exact blk_drewN Bg4.out _) hb1); clear Bg4 Bg3; have Bg4 := nb4_; clear nb4_; have n_ := Aside0.mk (below_step (by repeat (first | (with_reducible first | exact HB.out | apply below_alloc | apply pw_below_drewN | apply below_drew1) | exact HB.out)) hb1); clear HB; have HB := n_; clear n_; clear hb1))
    have z4_0 : w5.cell? ⟨g4, 0, none⟩ = some (.int .i64 0) := (blk_cell Bg4.out 0).trans rfl
    have z4_1 : w5.cell? ⟨g4, 1, none⟩ = some (.int .i64 0) := (blk_cell Bg4.out 1).trans rfl
    have z4_2 : w5.cell? ⟨g4, 2, none⟩ = some (.int .i64 0) := (blk_cell Bg4.out 2).trans rfl
    have z4_3 : w5.cell? ⟨g4, 3, none⟩ = some (.int .i64 0) := (blk_cell Bg4.out 3).trans rfl
    have z4_4 : w5.cell? ⟨g4, 4, none⟩ = some (.int .i64 0) := (blk_cell Bg4.out 4).trans rfl
    have z4_5 : w5.cell? ⟨g4, 5, none⟩ = some (.slice none 0 0) := (blk_cell Bg4.out 5).trans rfl
    have f4_0 := blk_frozen Bg4.out 0
    have f4_1 := blk_frozen Bg4.out 1
    have f4_2 := blk_frozen Bg4.out 2
    have f4_3 := blk_frozen Bg4.out 3
    have f4_4 := blk_frozen Bg4.out 4
    have f4_5 := blk_frozen Bg4.out 5
    go_wp2
    refine bodyPost_ret (results_ct rfl _ _ g4 45 #[.int .i64 0, .int .i64 0, .int .i64 0, .int .i64 0, .int .i64 0, .slice none 0 0] (0, 0) _ rfl (by refine blk_put (cs := #[.int .i64 0, .int .i64 0, .int .i64 0, .int .i64 0, .int .i64 0, .slice none 0 0]) ?_ 5 _ rfl; refine blk_put (cs := #[.int .i64 0, .int .i64 0, .int .i64 0, .int .i64 0, .int .i64 0, .slice none 0 0]) ?_ 4 _ rfl; refine blk_put (cs := #[.int .i64 0, .int .i64 0, .int .i64 0, .int .i64 0, .int .i64 0, .slice none 0 0]) ?_ 3 _ rfl; refine blk_put (cs := #[.int .i64 0, .int .i64 0, .int .i64 0, .int .i64 0, .int .i64 0, .slice none 0 0]) ?_ 2 _ rfl; refine blk_put (cs := #[.int .i64 0, .int .i64 0, .int .i64 0, .int .i64 0, .int .i64 0, .slice none 0 0]) ?_ 1 _ rfl; refine blk_put (cs := #[.int .i64 0, .int .i64 0, .int .i64 0, .int .i64 0, .int .i64 0, .slice none 0 0]) ?_ 0 _ rfl; exact Bg4.out) Try.underlying45 rfl (by kernel_rfl)) rfl ?_
    exact ⟨_, rfl, Kd.R_nil _ _ _ _ _, by repeat (first | (with_reducible exact HB.out) | refine below_set ?_ g4L.out)⟩
  rw [if_neg cq] at h
  have dq : decide (q < 0) = false := decide_eq_false cq
  obtain ⟨g, hg, h⟩ := Option.bind_eq_some_iff.mp h
  have HG : Aside0 (∀ W, Below w.heap.size w W → Calls Try.prog 20 #[.slice A0 l0.length c0] W fun e w' => e = .returned (.bool g) ∧ Below W.heap.size W w') := ⟨fun W hW => bill_Good.calls k A0 c0 l0 g W (Kd.C_below hr0 hW) hc0 hg⟩
  cases g with
  | false =>
    rw [if_neg (by simp), if_pos hlen] at h
    simp only [Option.some.injEq, Prod.mk.injEq] at h
    obtain ⟨rfl, rfl, rfl, rfl, rfl, rfl, rfl⟩ := h
    rw [hn] at HI HG ⊢
    clear hr0 hc0 hlen hbd hq cq hn hg
    go_enter Try.func18, Try.ntmps18
    go_upto_region 2 with (first | ((with_reducible refine gate_dst (N := 3) rfl ?_); refine box_event ?hg (N := 3) ?hd (cs := #[.int .i64 a1]) (t := 3) ?hr ?_; (case hd => rfl); (case hg => rfl); (case hr => first | (go_simp; done) | (go_simp; rfl)); intro g3 hgq w3 hbox hb1; have g3L := Aside0.mk ((by rw [hgq]; exact (below_size (by repeat (first | (with_reducible first | exact HB.out | apply below_alloc | apply pw_below_drewN | apply below_drew1) | exact HB.out))) : w.heap.size ≤ g3)); have n_ := Aside0.mk (below_step (by repeat (first | (with_reducible first | exact HB.out | apply below_alloc | apply pw_below_drewN | apply below_drew1) | exact HB.out)) hb1); clear HB; have HB := n_; clear n_; have Bg3 := Aside0.mk hbox; clear hgq hbox hb1) | ((with_reducible refine gate_dst (N := 4) rfl ?_); refine box_event ?hg (N := 4) ?hd (cs := #[.int .i64 0, .int .i64 0, .int .i64 0, .int .i64 0, .int .i64 0, .slice none 0 0]) (t := 45) ?hr ?_; (case hd => rfl); (case hg => rfl); (case hr => first | (go_simp; done) | (go_simp; rfl)); intro g4 hgq w4 hbox hb1; have g4L := Aside0.mk ((by rw [hgq]; exact (below_size (by repeat (first | (with_reducible first | exact HB.out | apply below_alloc | apply pw_below_drewN | apply below_drew1) | exact HB.out))) : w.heap.size ≤ g4)); have nb3_ := Aside0.mk (blk_below (g := g3) Bg3.out hb1); clear Bg3; have Bg3 := nb3_; clear nb3_; have n_ := Aside0.mk (below_step (by repeat (first | (with_reducible first | exact HB.out | apply below_alloc | apply pw_below_drewN | apply below_drew1) | exact HB.out)) hb1); clear HB; have HB := n_; clear n_; have Bg4 := Aside0.mk hbox; clear hgq hbox hb1) | (go_at_call 36; refine (HI.out g3 _ (by repeat (first | (with_reducible first | exact HB.out | apply below_alloc | apply pw_below_drewN | apply below_drew1) | exact HB.out)) (by first | exact Bg3.out | exact blk_drewN Bg3.out _)).mono ?_; rintro e w5 ⟨rfl, hb1⟩; have nb4_ := Aside0.mk (blk_below (g := g4) (by first | exact Bg4.out | exact blk_drewN Bg4.out _) hb1); clear Bg4 Bg3; have Bg4 := nb4_; clear nb4_; have n_ := Aside0.mk (below_step (by repeat (first | (with_reducible first | exact HB.out | apply below_alloc | apply pw_below_drewN | apply below_drew1) | exact HB.out)) hb1); clear HB; have HB := n_; clear n_; clear hb1))
    go_wp2_with (go_at_call 20; refine (HG.out _ (by repeat (first | (with_reducible first | exact HB.out | apply below_alloc | apply pw_below_drewN | apply below_drew1) | exact HB.out))).mono ?_; rintro e w6 ⟨rfl, hb1⟩; have nb4_ := Aside0.mk (blk_below (g := g4) (by first | exact Bg4.out | exact blk_drewN Bg4.out _) hb1); clear Bg4; have Bg4 := nb4_; clear nb4_; have n_ := Aside0.mk (below_step (by repeat (first | (with_reducible first | exact HB.out | apply below_alloc | apply pw_below_drewN | apply below_drew1) | exact HB.out)) hb1); clear HB; have HB := n_; clear n_; clear hb1; have z4_0 : w6.cell? ⟨g4, 0, none⟩ = some (.int .i64 0) := (blk_cell Bg4.out 0).trans rfl; have z4_1 : w6.cell? ⟨g4, 1, none⟩ = some (.int .i64 0) := (blk_cell Bg4.out 1).trans rfl; have z4_2 : w6.cell? ⟨g4, 2, none⟩ = some (.int .i64 0) := (blk_cell Bg4.out 2).trans rfl; have z4_3 : w6.cell? ⟨g4, 3, none⟩ = some (.int .i64 0) := (blk_cell Bg4.out 3).trans rfl; have z4_4 : w6.cell? ⟨g4, 4, none⟩ = some (.int .i64 0) := (blk_cell Bg4.out 4).trans rfl; have z4_5 : w6.cell? ⟨g4, 5, none⟩ = some (.slice none 0 0) := (blk_cell Bg4.out 5).trans rfl; have f4_0 := blk_frozen Bg4.out 0; have f4_1 := blk_frozen Bg4.out 1; have f4_2 := blk_frozen Bg4.out 2; have f4_3 := blk_frozen Bg4.out 3; have f4_4 := blk_frozen Bg4.out 4; have f4_5 := blk_frozen Bg4.out 5)
    refine bodyPost_ret (results_ct rfl _ _ g4 45 #[.int .i64 0, .int .i64 0, .int .i64 0, .int .i64 0, .int .i64 0, .slice none 0 0] (0, 0) _ rfl (by refine blk_put (cs := #[.int .i64 0, .int .i64 0, .int .i64 0, .int .i64 0, .int .i64 0, .slice none 0 0]) ?_ 5 _ rfl; refine blk_put (cs := #[.int .i64 0, .int .i64 0, .int .i64 0, .int .i64 0, .int .i64 0, .slice none 0 0]) ?_ 4 _ rfl; refine blk_put (cs := #[.int .i64 0, .int .i64 0, .int .i64 0, .int .i64 0, .int .i64 0, .slice none 0 0]) ?_ 3 _ rfl; refine blk_put (cs := #[.int .i64 0, .int .i64 0, .int .i64 0, .int .i64 0, .int .i64 0, .slice none 0 0]) ?_ 2 _ rfl; refine blk_put (cs := #[.int .i64 0, .int .i64 0, .int .i64 0, .int .i64 0, .int .i64 0, .slice none 0 0]) ?_ 1 _ rfl; refine blk_put (cs := #[.int .i64 0, .int .i64 0, .int .i64 0, .int .i64 0, .int .i64 0, .slice none 0 0]) ?_ 0 _ rfl; exact Bg4.out) Try.underlying45 rfl (by kernel_rfl)) rfl ?_
    exact ⟨_, rfl, Kd.R_nil _ _ _ _ _, by repeat (first | (with_reducible exact HB.out) | refine below_set ?_ g4L.out)⟩
  | true =>
  rw [if_pos rfl] at h
  obtain ⟨p, hp1, _, hp2⟩ := hbd.resolve_left cq
  subst hp1
  obtain ⟨t, ht, h⟩ := Option.bind_eq_some_iff.mp h
  obtain ⟨ad, A5, c5, ea, hx0, hx1, hx2, hx3, hx4, hx5, hl5, hi5⟩ := at_T45 hr0 (p : Int) (by omega) (by omega)
  cases ea
  simp only [Int.toNat_natCast] at hx0 hx1 hx2 hx3 hx4 hx5
  have HCL : Aside0 (∀ W, Below w.heap.size w W → Calls Try.prog 30 #[.slice A5 (rd_T45 l0 (p : Int)).f5.length c5] W fun e w' => ∃ v0_ : Value, e = .returned v0_ ∧ Kd.R (Kd.int .i64) 3 w' W.heap.size (fun _ => True) v0_ t ∧ Below W.heap.size W w') := ⟨fun W hW => slices_Clone_int_int.calls k A5 c5 _ t W (Kd.C_below hi5 hW) hl5 ht⟩
  have htl : t = (rd_T45 l0 (p : Int)).f5 := by
    unfold slices_Clone_int_int.f at ht
    split at ht
    · exact (Option.some.inj ht).symm
    · cases ht
  obtain ⟨x, hxx⟩ : ∃ x, x = rd_T45 l0 (p : Int) := ⟨_, rfl⟩
  rw [← hxx] at h hx0 hx1 hx2 hx3 hx4 hx5 HCL htl
  obtain ⟨x0, x1, x2, x3, x4, x5⟩ := x
  dsimp only at h hx0 hx1 hx2 hx3 hx4 hx5 HCL htl
  subst htl
  simp only [Option.some.injEq, Prod.mk.injEq] at h
  obtain ⟨rfl, rfl, rfl, rfl, rfl, rfl, rfl⟩ := h
  have hpn : p < n := by omega
  have hltz : (p : Int) < (n : Int) := by omega
  have hltn : (0 : Int) ≤ (p : Int) := by omega
  rw [hn] at HI HG ⊢
  have HX : Aside0 (∀ W, Below w.heap.size w W → W.cell? (ad.add (p * 6)) = some (.int .i64 x0) ∧ W.cell? ⟨(ad.add (p * 6)).block, (ad.add (p * 6)).off + 1, none⟩ = some (.int .i64 x1) ∧ W.cell? ⟨(ad.add (p * 6)).block, (ad.add (p * 6)).off + 2, none⟩ = some (.int .i64 x2) ∧ W.cell? ⟨(ad.add (p * 6)).block, (ad.add (p * 6)).off + 3, none⟩ = some (.int .i64 x3) ∧ W.cell? ⟨(ad.add (p * 6)).block, (ad.add (p * 6)).off + 4, none⟩ = some (.int .i64 x4) ∧ W.cell? ⟨(ad.add (p * 6)).block, (ad.add (p * 6)).off + 5, none⟩ = some (.slice A5 t.length c5)) :=
    ⟨fun W hW => ⟨(hW.cell (World.block_lt_of_cell? w _ hx0)).trans hx0, (hW.cell (World.block_lt_of_cell? w _ hx1)).trans hx1, (hW.cell (World.block_lt_of_cell? w _ hx2)).trans hx2, (hW.cell (World.block_lt_of_cell? w _ hx3)).trans hx3, (hW.cell (World.block_lt_of_cell? w _ hx4)).trans hx4, (hW.cell (World.block_lt_of_cell? w _ hx5)).trans hx5⟩⟩
  clear hr0 hc0 hlen hbd hq cq hn hg ht hx0 hx1 hx2 hx3 hx4 hx5 hl5 hi5 hxx hp2
  go_enter Try.func18, Try.ntmps18
  go_upto_region 2 with (first | ((with_reducible refine gate_dst (N := 3) rfl ?_); refine box_event ?hg (N := 3) ?hd (cs := #[.int .i64 a1]) (t := 3) ?hr ?_; (case hd => rfl); (case hg => rfl); (case hr => first | (go_simp; done) | (go_simp; rfl)); intro g3 hgq w3 hbox hb1; have g3L := Aside0.mk ((by rw [hgq]; exact (below_size (by repeat (first | (with_reducible first | exact HB.out | apply below_alloc | apply pw_below_drewN | apply below_drew1) | exact HB.out))) : w.heap.size ≤ g3)); have n_ := Aside0.mk (below_step (by repeat (first | (with_reducible first | exact HB.out | apply below_alloc | apply pw_below_drewN | apply below_drew1) | exact HB.out)) hb1); clear HB; have HB := n_; clear n_; have Bg3 := Aside0.mk hbox; clear hgq hbox hb1) | ((with_reducible refine gate_dst (N := 4) rfl ?_); refine box_event ?hg (N := 4) ?hd (cs := #[.int .i64 0, .int .i64 0, .int .i64 0, .int .i64 0, .int .i64 0, .slice none 0 0]) (t := 45) ?hr ?_; (case hd => rfl); (case hg => rfl); (case hr => first | (go_simp; done) | (go_simp; rfl)); intro g4 hgq w4 hbox hb1; have g4L := Aside0.mk ((by rw [hgq]; exact (below_size (by repeat (first | (with_reducible first | exact HB.out | apply below_alloc | apply pw_below_drewN | apply below_drew1) | exact HB.out))) : w.heap.size ≤ g4)); have nb3_ := Aside0.mk (blk_below (g := g3) Bg3.out hb1); clear Bg3; have Bg3 := nb3_; clear nb3_; have n_ := Aside0.mk (below_step (by repeat (first | (with_reducible first | exact HB.out | apply below_alloc | apply pw_below_drewN | apply below_drew1) | exact HB.out)) hb1); clear HB; have HB := n_; clear n_; have Bg4 := Aside0.mk hbox; clear hgq hbox hb1) | (go_at_call 36; refine (HI.out g3 _ (by repeat (first | (with_reducible first | exact HB.out | apply below_alloc | apply pw_below_drewN | apply below_drew1) | exact HB.out)) (by first | exact Bg3.out | exact blk_drewN Bg3.out _)).mono ?_; rintro e w5 ⟨rfl, hb1⟩; have nb4_ := Aside0.mk (blk_below (g := g4) (by first | exact Bg4.out | exact blk_drewN Bg4.out _) hb1); clear Bg4 Bg3; have Bg4 := nb4_; clear nb4_; have n_ := Aside0.mk (below_step (by repeat (first | (with_reducible first | exact HB.out | apply below_alloc | apply pw_below_drewN | apply below_drew1) | exact HB.out)) hb1); clear HB; have HB := n_; clear n_; clear hb1))
  go_upto_region 5 with (first | (go_at_call 20; refine (HG.out _ (by repeat (first | (with_reducible first | exact HB.out | apply below_alloc | apply pw_below_drewN | apply below_drew1) | exact HB.out))).mono ?_; rintro e w6 ⟨rfl, hb1⟩; have nb4_ := Aside0.mk (blk_below (g := g4) (by first | exact Bg4.out | exact blk_drewN Bg4.out _) hb1); clear Bg4; have Bg4 := nb4_; clear nb4_; have n_ := Aside0.mk (below_step (by repeat (first | (with_reducible first | exact HB.out | apply below_alloc | apply pw_below_drewN | apply below_drew1) | exact HB.out)) hb1); clear HB; have HB := n_; clear n_; clear hb1; obtain ⟨hx0, hx1, hx2, hx3, hx4, hx5⟩ := HX.out _ HB.out) | ((with_reducible refine gate_dst (N := 7) rfl ?_); refine box_event ?hg (N := 7) ?hd (cs := #[.int .i64 0, .int .i64 0, .int .i64 0, .int .i64 0, .int .i64 0, .slice none 0 0]) (t := 45) ?hr ?_; (case hd => rfl); (case hg => rfl); (case hr => first | (go_simp; done) | (go_simp; rfl)); intro g7 hgq w7 hbox hb1; have g7L := Aside0.mk ((by rw [hgq]; exact (below_size (by repeat (first | (with_reducible first | exact HB.out | apply below_alloc | apply pw_below_drewN | apply below_drew1) | exact HB.out))) : w.heap.size ≤ g7)); have nb4_ := Aside0.mk (blk_below (g := g4) (by first | exact Bg4.out | exact blk_drewN Bg4.out _) hb1); have h47 := Aside0.mk (by rw [hgq]; exact Nat.ne_of_lt (blk_lt (by first | exact Bg4.out | exact blk_drewN Bg4.out _)) : g4 ≠ g7); clear Bg4; have Bg4 := nb4_; clear nb4_; have n_ := Aside0.mk (below_step (by repeat (first | (with_reducible first | exact HB.out | apply below_alloc | apply pw_below_drewN | apply below_drew1) | exact HB.out)) hb1); clear HB; have HB := n_; clear n_; have Bg7 := Aside0.mk hbox; clear hgq hbox hb1; have z7_0 : w7.cell? ⟨g7, 0, none⟩ = some (.int .i64 0) := (blk_cell Bg7.out 0).trans rfl; have z7_1 : w7.cell? ⟨g7, 1, none⟩ = some (.int .i64 0) := (blk_cell Bg7.out 1).trans rfl; have z7_2 : w7.cell? ⟨g7, 2, none⟩ = some (.int .i64 0) := (blk_cell Bg7.out 2).trans rfl; have z7_3 : w7.cell? ⟨g7, 3, none⟩ = some (.int .i64 0) := (blk_cell Bg7.out 3).trans rfl; have z7_4 : w7.cell? ⟨g7, 4, none⟩ = some (.int .i64 0) := (blk_cell Bg7.out 4).trans rfl; have z7_5 : w7.cell? ⟨g7, 5, none⟩ = some (.slice none 0 0) := (blk_cell Bg7.out 5).trans rfl; have f7_0 := blk_frozen Bg7.out 0; have f7_1 := blk_frozen Bg7.out 1; have f7_2 := blk_frozen Bg7.out 2; have f7_3 := blk_frozen Bg7.out 3; have f7_4 := blk_frozen Bg7.out 4; have f7_5 := blk_frozen Bg7.out 5))
  have B71 : Aside0 (((((((w7.setCell ⟨g7, 0, none⟩ (.int .i64 x0)).setCell ⟨g7, 1, none⟩ (.int .i64 x1)).setCell ⟨g7, 2, none⟩ (.int .i64 x2)).setCell ⟨g7, 3, none⟩ (.int .i64 x3)).setCell ⟨g7, 4, none⟩ (.int .i64 x4)).setCell ⟨g7, 5, none⟩ (.slice A5 t.length c5)).heap[g7]? = some (.cells #[.int .i64 x0, .int .i64 x1, .int .i64 x2, .int .i64 x3, .int .i64 x4, .slice A5 t.length c5] 45 (0, 0))) := ⟨by refine blk_put (cs := #[.int .i64 x0, .int .i64 x1, .int .i64 x2, .int .i64 x3, .int .i64 x4, .slice none 0 0]) ?_ 5 _ rfl; refine blk_put (cs := #[.int .i64 x0, .int .i64 x1, .int .i64 x2, .int .i64 x3, .int .i64 0, .slice none 0 0]) ?_ 4 _ rfl; refine blk_put (cs := #[.int .i64 x0, .int .i64 x1, .int .i64 x2, .int .i64 0, .int .i64 0, .slice none 0 0]) ?_ 3 _ rfl; refine blk_put (cs := #[.int .i64 x0, .int .i64 x1, .int .i64 0, .int .i64 0, .int .i64 0, .slice none 0 0]) ?_ 2 _ rfl; refine blk_put (cs := #[.int .i64 x0, .int .i64 0, .int .i64 0, .int .i64 0, .int .i64 0, .slice none 0 0]) ?_ 1 _ rfl; refine blk_put (cs := #[.int .i64 0, .int .i64 0, .int .i64 0, .int .i64 0, .int .i64 0, .slice none 0 0]) ?_ 0 _ rfl; exact Bg7.out⟩
  have B41 : Aside0 (((((((w7.setCell ⟨g7, 0, none⟩ (.int .i64 x0)).setCell ⟨g7, 1, none⟩ (.int .i64 x1)).setCell ⟨g7, 2, none⟩ (.int .i64 x2)).setCell ⟨g7, 3, none⟩ (.int .i64 x3)).setCell ⟨g7, 4, none⟩ (.int .i64 x4)).setCell ⟨g7, 5, none⟩ (.slice A5 t.length c5)).heap[g4]? = some (.cells #[.int .i64 0, .int .i64 0, .int .i64 0, .int .i64 0, .int .i64 0, .slice none 0 0] 45 (0, 0))) := ⟨by repeat (first | (with_reducible exact Bg4.out) | refine blk_far ?_ h47.out _)⟩
  have nB_ : Aside0 (Below w.heap.size w ((((((w7.setCell ⟨g7, 0, none⟩ (.int .i64 x0)).setCell ⟨g7, 1, none⟩ (.int .i64 x1)).setCell ⟨g7, 2, none⟩ (.int .i64 x2)).setCell ⟨g7, 3, none⟩ (.int .i64 x3)).setCell ⟨g7, 4, none⟩ (.int .i64 x4)).setCell ⟨g7, 5, none⟩ (.slice A5 t.length c5))) := ⟨by repeat (first | (with_reducible exact HB.out) | refine below_set ?_ g7L.out)⟩
  obtain ⟨W1, hW1⟩ : ∃ W1, W1 = ((((((w7.setCell ⟨g7, 0, none⟩ (.int .i64 x0)).setCell ⟨g7, 1, none⟩ (.int .i64 x1)).setCell ⟨g7, 2, none⟩ (.int .i64 x2)).setCell ⟨g7, 3, none⟩ (.int .i64 x3)).setCell ⟨g7, 4, none⟩ (.int .i64 x4)).setCell ⟨g7, 5, none⟩ (.slice A5 t.length c5)) := ⟨_, rfl⟩
  rw [← hW1] at B71 B41 nB_
  rw [← hW1]
  clear hW1 HB Bg4 Bg7 hx0 hx1 hx2 hx3 hx4 hx5
  clear z7_0 z7_1 z7_2 z7_3 z7_4 z7_5
  clear f7_0 f7_1 f7_2 f7_3 f7_4 f7_5
  have HB := nB_
  clear nB_
  have y7_5 : W1.cell? ⟨g7, 5, none⟩ = some (.slice A5 t.length c5) := (blk_cell B71.out 5).trans rfl
  go_upto_region 6 with (first | (go_at_call 30; refine (HCL.out _ (by repeat (first | (with_reducible first | exact HB.out | apply below_alloc | apply pw_below_drewN | apply below_drew1) | exact HB.out))).mono ?_; rintro e w8 ⟨u, rfl, hR, hb1⟩; obtain ⟨Au, cu, eu⟩ := Kd.R_slice hR; subst eu; have HRU := Aside0.mk (Kd.R_mono (ok' := fun k_ => k_ ≠ g7 ∧ k_ ≠ g4) (Kd.R_tight rfl (Kd.R_lower hR (below_size (by repeat (first | (with_reducible first | exact HB.out | apply below_alloc | apply pw_below_drewN | apply below_drew1) | exact HB.out))))) (fun k_ hk_ => by have h1_ := Kd.R_base hR k_ hk_.symm; have h2_ := blk_lt B71.out; have h3_ := blk_lt B41.out; first | (simp only [World.heap_size_drewN] at h1_; exact ⟨by omega, by omega⟩) | exact ⟨by omega, by omega⟩)); have n71_ := Aside0.mk (blk_below (g := g7) (by first | exact B71.out | exact blk_drewN B71.out _) hb1); have n41_ := Aside0.mk (blk_below (g := g4) (by first | exact B41.out | exact blk_drewN B41.out _) hb1); clear B71 B41 y7_5; have B71 := n71_; have B41 := n41_; clear n71_ n41_; have n_ := Aside0.mk (below_step (by repeat (first | (with_reducible first | exact HB.out | apply below_alloc | apply pw_below_drewN | apply below_drew1) | exact HB.out)) hb1); clear HB; have HB := n_; clear n_; clear hb1 hR; have z7_5 : w8.cell? ⟨g7, 5, none⟩ = some (.slice A5 t.length c5) := (blk_cell B71.out 5).trans rfl; have f7_5 := blk_frozen B71.out 5))
  have B72 : Aside0 ((w8.setCell ⟨g7, 5, none⟩ (.slice Au t.length cu)).heap[g7]? = some (.cells #[.int .i64 x0, .int .i64 x1, .int .i64 x2, .int .i64 x3, .int .i64 x4, .slice Au t.length cu] 45 (0, 0))) := ⟨by refine blk_put (cs := #[.int .i64 x0, .int .i64 x1, .int .i64 x2, .int .i64 x3, .int .i64 x4, .slice A5 t.length c5]) ?_ 5 _ rfl; exact B71.out⟩
  have B42 : Aside0 ((w8.setCell ⟨g7, 5, none⟩ (.slice Au t.length cu)).heap[g4]? = some (.cells #[.int .i64 0, .int .i64 0, .int .i64 0, .int .i64 0, .int .i64 0, .slice none 0 0] 45 (0, 0))) := ⟨blk_far B41.out h47.out _⟩
  have nB_ : Aside0 (Below w.heap.size w (w8.setCell ⟨g7, 5, none⟩ (.slice Au t.length cu))) := ⟨below_set HB.out g7L.out⟩
  have HR2 : Aside0 (Kd.R (Kd.int .i64) 3 (w8.setCell ⟨g7, 5, none⟩ (.slice Au t.length cu)) w.heap.size (fun k_ => k_ ≠ g7 ∧ k_ ≠ g4) (.slice Au t.length cu) t) := ⟨Kd.R_far HRU.out (fun k_ hk_ => hk_.1) _⟩
  obtain ⟨W2, hW2⟩ : ∃ W2, W2 = (w8.setCell ⟨g7, 5, none⟩ (.slice Au t.length cu)) := ⟨_, rfl⟩
  rw [← hW2] at B72 B42 nB_ HR2
  rw [← hW2]
  clear hW2 HB B71 B41 HRU z7_5 f7_5
  have HB := nB_
  clear nB_
  have y7_0 : W2.cell? ⟨g7, 0, none⟩ = some (.int .i64 x0) := (blk_cell B72.out 0).trans rfl
  have y7_1 : W2.cell? ⟨g7, 1, none⟩ = some (.int .i64 x1) := (blk_cell B72.out 1).trans rfl
  have y7_2 : W2.cell? ⟨g7, 2, none⟩ = some (.int .i64 x2) := (blk_cell B72.out 2).trans rfl
  have y7_3 : W2.cell? ⟨g7, 3, none⟩ = some (.int .i64 x3) := (blk_cell B72.out 3).trans rfl
  have y7_4 : W2.cell? ⟨g7, 4, none⟩ = some (.int .i64 x4) := (blk_cell B72.out 4).trans rfl
  have y7_5 : W2.cell? ⟨g7, 5, none⟩ = some (.slice Au t.length cu) := (blk_cell B72.out 5).trans rfl
  have z4_0 : W2.cell? ⟨g4, 0, none⟩ = some (.int .i64 0) := (blk_cell B42.out 0).trans rfl
  have z4_1 : W2.cell? ⟨g4, 1, none⟩ = some (.int .i64 0) := (blk_cell B42.out 1).trans rfl
  have z4_2 : W2.cell? ⟨g4, 2, none⟩ = some (.int .i64 0) := (blk_cell B42.out 2).trans rfl
  have z4_3 : W2.cell? ⟨g4, 3, none⟩ = some (.int .i64 0) := (blk_cell B42.out 3).trans rfl
  have z4_4 : W2.cell? ⟨g4, 4, none⟩ = some (.int .i64 0) := (blk_cell B42.out 4).trans rfl
  have z4_5 : W2.cell? ⟨g4, 5, none⟩ = some (.slice none 0 0) := (blk_cell B42.out 5).trans rfl
  have f4_0 := blk_frozen B42.out 0
  have f4_1 := blk_frozen B42.out 1
  have f4_2 := blk_frozen B42.out 2
  have f4_3 := blk_frozen B42.out 3
  have f4_4 := blk_frozen B42.out 4
  have f4_5 := blk_frozen B42.out 5
  go_wp2
  refine bodyPost_ret (results_ct rfl _ _ g4 45 #[.int .i64 x0, .int .i64 x1, .int .i64 x2, .int .i64 x3, .int .i64 x4, .slice Au t.length cu] (0, 0) _ rfl (by refine blk_put (cs := #[.int .i64 x0, .int .i64 x1, .int .i64 x2, .int .i64 x3, .int .i64 x4, .slice none 0 0]) ?_ 5 _ rfl; refine blk_put (cs := #[.int .i64 x0, .int .i64 x1, .int .i64 x2, .int .i64 x3, .int .i64 0, .slice none 0 0]) ?_ 4 _ rfl; refine blk_put (cs := #[.int .i64 x0, .int .i64 x1, .int .i64 x2, .int .i64 0, .int .i64 0, .slice none 0 0]) ?_ 3 _ rfl; refine blk_put (cs := #[.int .i64 x0, .int .i64 x1, .int .i64 0, .int .i64 0, .int .i64 0, .slice none 0 0]) ?_ 2 _ rfl; refine blk_put (cs := #[.int .i64 x0, .int .i64 0, .int .i64 0, .int .i64 0, .int .i64 0, .slice none 0 0]) ?_ 1 _ rfl; refine blk_put (cs := #[.int .i64 0, .int .i64 0, .int .i64 0, .int .i64 0, .int .i64 0, .slice none 0 0]) ?_ 0 _ rfl; exact B42.out) Try.underlying45 rfl (by kernel_rfl)) rfl ?_
  exact ⟨_, rfl, Kd.R_mono (Kd.R_far (Kd.R_far (Kd.R_far (Kd.R_far (Kd.R_far (Kd.R_far HR2.out (fun k_ hk_ => hk_.2) _) (fun k_ hk_ => hk_.2) _) (fun k_ hk_ => hk_.2) _) (fun k_ hk_ => hk_.2) _) (fun k_ hk_ => hk_.2) _) (fun k_ hk_ => hk_.2) _) (fun _ _ => trivial), by repeat (first | (with_reducible exact HB.out) | refine below_set ?_ g4L.out)⟩
end Go.Proofs.Ytibjbgfphhmogaa.P
