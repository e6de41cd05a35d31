/- bill.copied: bills in new memory: walked by hand (slices.Clone among it). -/
import Derived.Test.YtibjbgfphhmogaaZc
namespace Go.Proofs.Ytibjbgfphhmogaa.P
open Go.RowKit Go.Proofs.YtibjbgfphhmogaaW.PrintWords Go.Proofs.YtibjbgfphhmogaaW.PrintLast Go.Proofs.YtibjbgfphhmogaaW.PrintMore
attribute [local go_sem] max2_int min2_int max_two min_two max_three min_three max_four min_four   -- for this text's walks alone
set_option linter.unusedVariables false
set_option linter.unusedSimpArgs false
/-- Elements, some of which lead to the copy's own rows already (in the world as it is now), the others as they came in (in the elder world). -/
def kc (w0 : World) : Kd (Bool × S45) where
  sz := 6
  E := k45.E
  K := fun W p cs => if p.1 = true then k45.K W p.2 cs else k45.K w0 p.2 cs
  M := fun W base ok p cs => p.1 = true ∧ k45.M W base ok p.2 cs
  K_len := by
    intro w x cs h
    by_cases c : x.1 = true
    · rw [if_pos c] at h; exact k45.K_len h
    · rw [if_neg c] at h; exact k45.K_len h
  K_one := by
    intro w x cs h
    by_cases c : x.1 = true
    · rw [if_pos c] at h; exact k45.K_one h
    · rw [if_neg c] at h; exact k45.K_one h
  K_below := by
    intro w w1 x cs hb h
    by_cases c : x.1 = true
    · rw [if_pos c] at h ⊢; exact k45.K_below hb h
    · rw [if_neg c] at h ⊢; exact h
  K_of_M := by
    intro w base ok x cs h
    rw [if_pos h.1]; exact k45.K_of_M h.2
  M_mono := fun hok h => ⟨h.1, k45.M_mono hok h.2⟩
  M_bound := fun h => ⟨h.1, k45.M_bound h.2⟩
  M_move := fun hm h => ⟨h.1, k45.M_move hm h.2⟩
  M_lower := fun hb h => ⟨h.1, k45.M_lower hb h.2⟩
theorem kc_true {w0 W : World} {ok : Nat → Prop} {x : S45} {c : List Value} (h : Kd.FK k45 W ok x c) : Kd.FK (kc w0) W ok (true, x) c := fun W' hW => by
  show (if (true, x).1 = true then k45.K W' (true, x).2 c else k45.K w0 (true, x).2 c)
  rw [if_pos rfl]; exact h W' hW
theorem kc_true' {w0 W : World} {ok : Nat → Prop} {x : S45} {c : List Value} (h : Kd.FK (kc w0) W ok (true, x) c) : Kd.FK k45 W ok x c := fun W' hW => by
  have := h W' hW
  change (if (true, x).1 = true then k45.K W' (true, x).2 c else k45.K w0 (true, x).2 c) at this
  rwa [if_pos rfl] at this
theorem kc_false {w0 W : World} {ok : Nat → Prop} {x : S45} {c : List Value} (h : k45.K w0 x c) : Kd.FK (kc w0) W ok (false, x) c := fun W' hW => by
  show (if (false, x).1 = true then k45.K W' (false, x).2 c else k45.K w0 (false, x).2 c)
  rw [if_neg (by simp)]; exact h
theorem kc_false' {w0 W : World} {ok : Nat → Prop} {x : S45} {c : List Value} (h : Kd.FK (kc w0) W ok (false, x) c) : k45.K w0 x c := by
  have := Kd.FK_now h
  change (if (false, x).1 = true then k45.K W (false, x).2 c else k45.K w0 (false, x).2 c) at this
  rwa [if_neg (by simp)] at this
/-- As far as the copying has come. -/
def mixB (l : List S45) (j : Nat) : List (Bool × S45) := (l.take j).map (fun x => (true, x)) ++ (l.drop j).map (fun x => (false, x))
theorem mixB_len (l : List S45) (j : Nat) : (mixB l j).length = l.length := by unfold mixB; simp; omega
theorem mixB_get (l : List S45) (j : Nat) (h : j < l.length) (z : Bool × S45) : (mixB l j).getD j z = (false, rd_T45 l j) := by
  unfold mixB rd_T45
  rw [List.getD_eq_getElem?_getD, List.getElem?_append_right (by rw [List.length_map, List.length_take]; exact Nat.min_le_left _ _), List.getElem?_map, List.getElem?_drop, List.length_map, List.length_take, Nat.min_eq_left (by omega), Nat.sub_self, Nat.add_zero, List.getElem?_eq_getElem h]
  simp [List.getD_eq_getElem?_getD, h]
theorem mixB_set (l : List S45) (j : Nat) (h : j < l.length) : (mixB l j).set j (true, rd_T45 l j) = mixB l (j + 1) := by
  unfold mixB
  rw [List.set_append_right _ _ (by rw [List.length_map, List.length_take]; exact Nat.min_le_left _ _)]
  have e : rd_T45 l j = l[j] := by unfold rd_T45; simp [List.getD_eq_getElem?_getD, h]
  rw [e, List.length_map, List.length_take, Nat.min_eq_left (by omega), Nat.sub_self, List.drop_eq_getElem_cons h, List.map_cons, List.set_cons_zero, List.take_add_one, List.getElem?_eq_getElem h, List.map_append, List.append_assoc]
  rfl
theorem mixB_zero (l : List S45) : mixB l 0 = l.map (fun x => (false, x)) := by simp [mixB]
theorem mixB_all (l : List S45) : mixB l l.length = l.map (fun x => (true, x)) := by simp [mixB]
theorem kc_all {w0 W : World} {base : Nat} {ok : Nat → Prop} {v : Value} {l : List S45} (h : Kd.N (kc w0) 45 W base ok v (l.map (fun x => (true, x)))) : Kd.N k45 45 W base ok v l := by
  obtain ⟨h0, rows, hl, hR, hf⟩ := h
  refine ⟨h0, rows, by rw [hl, List.length_map], hR, fun j x c hx hc => kc_true' (hf j (true, x) c (by rw [List.getElem?_map, hx]; rfl) hc)⟩
theorem nil22 (c : Nat) (w : World) : Sem.run Try.prog (binOp BinOp.eql 22 (Value.slice none 0 c) (Value.slice none 0 0)) w = .ok (.bool true) w := by kernel_rfl
theorem some22 (a : Addr) (n c : Nat) (w : World) : Sem.run Try.prog (binOp BinOp.eql 22 (Value.slice (some a) n c) (Value.slice none 0 0)) w = .ok (.bool false) w := by kernel_rfl
set_option maxHeartbeats 8000000 in
set_option maxRecDepth 100000 in
theorem bill_clone.calls (A0 : Option Addr) (c0 : Nat) (r : List S45) (w : World) (hr0 : Kd.C k45 w A0 r.length r) (hlen : r.length ≤ 4000) :
    Calls Try.prog 41 #[.slice A0 r.length c0] w fun e w' => ∃ v0_ : Value, e = .returned v0_ ∧ Kd.N (kc w) 45 w' w.heap.size (fun k_ => w.heap.size ≤ k_) v0_ (r.map (fun x => (false, x))) ∧ Below w.heap.size w w' := by
  have LM := Aside0.mk hlen
  have HB := Aside0.mk (Below.refl w.heap.size w)
  cases A0 with
  | none =>
    have hl : r = [] := by
      by_cases hp : 0 < r.length
      · obtain ⟨ad, e, _⟩ := hr0.2.2 hp; cases e
      · exact List.eq_nil_of_length_eq_zero (by omega)
    subst hl
    clear hr0 hlen LM
    have hn1 := nil22
    go_enter Try.func41, Try.ntmps41
    go_wp2
    go_ret
    exact ⟨_, rfl, Kd.N_nil _ _ _ _ _, HB.out⟩
  | some ad =>
    obtain ⟨news, hnl, hnr, hnf⟩ := Kd.reads_raw (Rr := k45.K w) (sz := 6) hr0 (fun x c hk => ⟨k45.K_len hk, k45.K_one hk⟩)
    have HR : Aside0 (Kd.C (Kd.raw 6) w (some ad) r.length news) := ⟨hnr⟩
    have HF := Aside0.mk hnf
    have HL := Aside0.mk hnl
    obtain ⟨n, hn⟩ : ∃ n, r.length = n := ⟨_, rfl⟩
    have HN := Aside0.mk hn
    rw [hn] at HR LM ⊢
    clear hr0 hn hlen hnr hnf hnl
    have hn1 := some22
    go_enter Try.func41, Try.ntmps41
    go_wp2_with (first | ((with_reducible refine gate_dst (N := 5) rfl ?_); refine Kd.R_lit (Kd.raw 6) _ 45 ?hg (N := 5) ?hd (xs := ([] : List (List Value))) (inner := []) (ok := fun _ => True) (okp := fun _ => True) ?hr ?hp (fun _ hk => hk) trivial (Below.refl _ _) (Nat.le_refl _) (by simp) ?_; (case hd => rfl); (case hg => rfl); (case hr => first | (go_simp; done) | (go_simp; rfl)); (case hp => exact (Reps.none _ _)); intro v176 w8 ho9 hb hg_ hnew_; clear hg_ hnew_; have n1_ := Aside0.mk (Kd.R_lower ho9 (below_size (by repeat (first | (with_reducible first | exact HB.out | apply below_alloc | apply pw_below_drewN | apply below_drew1) | exact HB.out)))); have n3_ := Aside0.mk (below_step (by repeat (first | (with_reducible first | exact HB.out | apply below_alloc | apply pw_below_drewN | apply below_drew1) | exact HB.out)) hb); clear HB; have HO177 := n1_; have HB := n3_; clear n1_ n3_; clear hb ho9) | ((with_reducible refine gate_builtin (b := .append) (xs := #[.tmp 5, .tmp 6]) rfl ?_); at_builtin; refine Kd.R_append_rows (Kd.raw 6) (w0 := w) w.heap.size rfl (.tmp 5) (.tmp 6) 22 45 (.agg #[(.int .i64 0), (.int .i64 0), (.int .i64 0), (.int .i64 0), (.int .i64 0), (.slice none 0 0)]) 64 rfl Try.underlying22 info45 rfl (by decide) (by omega) v176 [] news _ _ _ (fun _ => True) (fun _ => False) rfl rfl ?aO ?aR (fun _ _ h => h) (fun _ h => h.elim) ?aF ?aB ?aS ?aL ?_; (case aR => repeat (first | exact (Kd.C_below HR.out HB.out) | (with_reducible refine Kd.C_alloc ?_ _) | (with_reducible refine Kd.C_drewN ?_ _) | (with_reducible refine Kd.C_drew ?_))); (case aB => exact (by repeat (first | (with_reducible first | exact HB.out | apply below_alloc | apply pw_below_drewN | apply below_drew1) | exact HB.out))); (case aF => exact (fun _ _ => trivial)); (case aO => exact (by (with_reducible repeat (first | apply Kd.R_alloc | apply Kd.R_drewN | apply Kd.R_drew)); exact HO177.out)); (case aS => exact (below_size (by repeat (first | (with_reducible first | exact HB.out | apply below_alloc | apply pw_below_drewN | apply below_drew1) | exact HB.out)))); (case aL => have := LM.out; have := HN.out; simp only [List.length_nil]; omega); intro v179 w11 ho hb hg hat; have n2_ := Aside0.mk hb; have n3_ := Aside0.mk ho; clear HB; clear HO177; have HB := n2_; have HO180 := n3_; clear n2_ n3_; clear ho hb hg hat))
    go_ret
    refine ⟨_, rfl, ?_, (by repeat (first | (with_reducible first | exact HB.out | apply below_alloc | apply pw_below_drewN | apply below_drew1) | exact HB.out))⟩
    with_reducible repeat (first | apply Kd.N_alloc | apply Kd.N_drewN | apply Kd.N_drew)
    have hO := HO180.out
    rw [List.nil_append] at hO
    refine ⟨fun k hk => Kd.R_base hO k hk, news, by rw [List.length_map]; exact HL.out, Kd.raw_tight hO, fun j x c hx hc => ?_⟩
    rw [List.getElem?_map] at hx
    obtain ⟨y, hy, rfl⟩ := Option.map_eq_some_iff.1 hx
    exact kc_false (HF.out j y c hy hc)
def bill_copied.f (k : Nat) (l0 : List S45) : Option (List S45) := if l0.length ≤ 4000 ∧ ∀ x ∈ l0, x.f5.length < 17592186044416 then some l0 else none
theorem bill_copied.mono : ∀ l0 k, LeO (bill_copied.f k l0) (bill_copied.f (k + 1) l0) := fun _ _ => LeO.refl _
set_option maxHeartbeats 8000000 in
set_option maxRecDepth 100000 in
theorem bill_copied.calls (k : Nat) (A0 : Option Addr) (c0 : Nat) (l0 : List S45) (r : List S45) (w : World) (hr0 : Kd.C k45 w A0 l0.length l0) (hc0 : l0.length ≤ c0) (h : bill_copied.f k l0 = some r) :
    Calls Try.prog 31 #[.slice A0 l0.length c0] w fun e w' => ∃ v0_ : Value, e = .returned v0_ ∧ Kd.N k45 45 w' w.heap.size (fun k_ => w.heap.size ≤ k_) v0_ r ∧ Below w.heap.size w w' := by
  by_cases c : l0.length ≤ 4000 ∧ ∀ x ∈ l0, x.f5.length < 17592186044416
  case neg => rw [bill_copied.f, if_neg c] at h; cases h
  rw [bill_copied.f, if_pos c] at h
  obtain rfl := (Option.some.inj h).symm
  have hu45 := Try.underlying45
  have HCB := Aside0.mk (bill_clone.calls A0 c0 r w hr0 c.1)
  have HLL : Aside0 (∀ x ∈ r, x.f5.length < 17592186044416) := ⟨c.2⟩
  have HB := Aside0.mk (Below.refl w.heap.size w)
  obtain ⟨n, hn⟩ : ∃ n, r.length = n := ⟨_, rfl⟩
  rw [hn] at HCB ⊢
  have HN := Aside0.mk hn
  have hn4 : n ≤ 4000 := by omega
  clear h c hr0 hc0 hn
  go_enter Try.func31, Try.ntmps31
  go_wp2_with (go_at_call 41; refine HCB.out.mono ?_; rintro e w1 ⟨v3, rfl, ho, hb1⟩; have HO := Aside0.mk ho; clear HB; have HB := Aside0.mk hb1; clear ho hb1; obtain ⟨A3, c3, e3⟩ := Kd.N_slice HO.out; rw [List.length_map, HN.out] at e3; subst e3)
  go_loopg [4, 9] n (fun kq v4 v9 wr => ∃ (j : Nat), v9 = .int .i64 j ∧ j ≤ n ∧ n - j ≤ kq ∧ Aside0 (Kd.N (kc w) 45 wr w.heap.size (fun k_ => w.heap.size ≤ k_) (.slice A3 n c3) (mixB r j)) ∧ Aside0 (Below w.heap.size w wr))
  case atStart => exact ⟨0, rfl, by omega, by omega, ⟨by (with_reducible repeat (first | apply Kd.N_alloc | apply Kd.N_drewN | apply Kd.N_drew)); rw [mixB_zero]; exact HO.out⟩, ⟨(by repeat (first | (with_reducible first | exact HB.out | apply below_alloc | apply pw_below_drewN | apply below_drew1) | exact HB.out))⟩⟩
  case round =>
    clear HO HB
    obtain ⟨j, rfl, hjn, hkx, HO, HB⟩ := hrel
    by_cases hlt : j < n
    · have hltz : (j : Int) < (n : Int) := by omega
      have hjr : j < r.length := by rw [HN.out]; exact hlt
      obtain ⟨g, cap, e3, hbg, hgl, _, _⟩ := Kd.N_form HO.out (by rw [mixB_len, HN.out]; omega)
      rw [mixB_len, HN.out] at e3
      cases e3
      obtain ⟨ce, hcl, hM, hcc, hfr⟩ := Kd.N_elem HO.out (false, z45) (j : Int) (by omega) (by omega)
      simp only [Int.toNat_natCast] at hM hcc hfr
      rw [mixB_get r j hjr] at hM
      have hK := kc_false' hM
      obtain ⟨A5, c5, rfl, l5, g5⟩ := k45_open hK
      obtain ⟨x, hx⟩ : ∃ x, x = rd_T45 r j := ⟨_, rfl⟩
      have HX := Aside0.mk hx
      rw [← hx] at hK l5 g5 hcc hcl
      have hx5 : wr.cell? ⟨g, j * 6 + 5, none⟩ = some (.slice A5 x.f5.length c5) := hcc 5 _ rfl
      have hmem : x ∈ r := by rw [hx]; unfold rd_T45; simp [List.getD_eq_getElem?_getD, hjr]
      have HCL : Aside0 (∀ W, Below w.heap.size w W → Calls Try.prog 30 #[.slice A5 x.f5.length c5] W fun e w' => ∃ v0_ : Value, e = .returned v0_ ∧ Kd.R (Kd.int .i64) 3 w' W.heap.size (fun _ => True) v0_ x.f5 ∧ Below W.heap.size W w') :=
        ⟨fun W hW => slices_Clone_int_int.calls 0 A5 c5 x.f5 x.f5 W (Kd.C_below g5 hW) l5 (by unfold slices_Clone_int_int.f; rw [if_pos (HLL.out x hmem)])⟩
      have HGL := Aside0.mk hgl
      have HGB := Aside0.mk hbg
      obtain ⟨nx, hnx⟩ : ∃ nx, nx = x.f5.length := ⟨_, rfl⟩
      rw [← hnx] at hx5 HCL
      have hltn : (0 : Int) ≤ (j : Int) := by omega
      clear hcl hM hcc hfr hK l5 g5 hx hmem hnx hjr hbg hgl
      go_wp2_with (first | (go_at_call 30; refine (HCL.out _ (by repeat (first | (with_reducible first | exact HB.out | apply below_alloc | apply pw_below_drewN | apply below_drew1) | exact HB.out))).mono ?_; rintro e w2 ⟨u, rfl, hR, hb1⟩; have HR2 : Aside0 (Kd.R (Kd.int .i64) 3 w2 wr.heap.size (fun k_ => w.heap.size ≤ k_ ∧ k_ ≠ g) u x.f5) := ⟨Kd.R_mono (Kd.R_tight rfl hR) (fun k_ hk_ => by have h1_ := Kd.R_base hR k_ hk_.symm; have h2_ := below_size HB.out; have h3_ := HGL.out; exact ⟨by omega, by omega⟩)⟩; obtain ⟨Au, cu, eu⟩ := Kd.R_slice HR2.out; subst eu; have nO_ := Aside0.mk (Kd.N_below (by (with_reducible repeat (first | apply Kd.N_alloc | apply Kd.N_drewN | apply Kd.N_drew)); exact HO.out) hb1); have nB_ := Aside0.mk (below_step (by repeat (first | (with_reducible first | exact HB.out | apply below_alloc | apply pw_below_drewN | apply below_drew1) | exact HB.out)) hb1); clear HO HB; have HO := nO_; have HB := nB_; clear nO_ nB_ hb1 hR; obtain ⟨ce2, hcl2, hM2, hcc2, hfr2⟩ := Kd.N_elem HO.out (false, z45) (j : Int) (by omega) (by omega); have HS := Kd.N_seg HO.out (j : Int) (by omega) (by omega) (seg := [.slice Au x.f5.length cu]) (j := 5) (x' := (true, rd_T45 r j)) (okp := fun k_ => w.heap.size ≤ k_ ∧ k_ ≠ g) hcl2 hcc2 (show 6 ≤ 6 from by decide) (by rw [Int.toNat_natCast, mixB_get r j (by rw [HN.out]; exact hlt)] at hM2; obtain ⟨A52, c52, rfl, l52, g52⟩ := k45_open (kc_false' hM2); have h5_ := HR2.out; rw [HX.out] at h5_ ⊢; exact kc_true (Kd.FK_of_M (k45_mkM w2 wr.heap.size _ (rd_T45 r j) h5_))) (fun k_ hk_ => hk_); simp only [Int.toNat_natCast] at hM2 hcc2 hfr2 HS; rw [mixB_set r j (by rw [HN.out]; exact hlt)] at HS; have HS2 := Aside0.mk HS; rw [mixB_get r j (by rw [HN.out]; exact hlt)] at hM2; obtain ⟨A52, c52, rfl, l52, g52⟩ := k45_open (kc_false' hM2); have hy5 := hcc2 5 _ rfl; have hyf := hfr2 5; clear hcl2 hM2 hcc2 hfr2 l52 g52 HS; simp only [show (kc w).sz = 6 from rfl] at hy5 hyf) | ((with_reducible refine gate_store (t := 28) (p := 21) rfl ?_); refine store_event (t := 28) (p := 21) (v := ?vo) (w1 := (w2.setCell ⟨g, j * 6 + 5, none⟩ (.slice Au x.f5.length cu))) ?hg ?ho ?hn ?hr ?_; (case ho => rfl); (case hg => rfl); (case hn => rfl); (case hr => first | (go_simp; done) | (go_simp; rfl)); intro w3 hw; have O2 : Aside0 (Kd.N (kc w) 45 w3 w.heap.size (fun k_ => w.heap.size ≤ k_) (.slice (some ⟨g, 0, none⟩) n c3) (mixB r (j + 1))) := ⟨by rw [hw]; exact HS2.out.1⟩; have B2 : Aside0 (Below w.heap.size w w3) := ⟨by rw [hw]; exact below_set HB.out HGB.out⟩; clear hw HS2 HO HB))
      go_roundg (n - (j + 1))
      case measure => omega
      case rel => exact ⟨j + 1, by first | rfl | go_num, by omega, Nat.le_refl _, O2, B2⟩
    · have hltz : ¬ (j : Int) < (n : Int) := by omega
      obtain rfl : j = n := by omega
      go_wp2
      go_ret
      refine ⟨_, rfl, ?_, (by repeat (first | (with_reducible first | exact HB.out | apply below_alloc | apply pw_below_drewN | apply below_drew1) | exact HB.out))⟩
      with_reducible repeat (first | apply Kd.N_alloc | apply Kd.N_drewN | apply Kd.N_drew)
      have hO := HO.out
      have e := mixB_all r
      rw [HN.out] at e
      rw [e] at hO
      exact kc_all hO
end Go.Proofs.Ytibjbgfphhmogaa.P
