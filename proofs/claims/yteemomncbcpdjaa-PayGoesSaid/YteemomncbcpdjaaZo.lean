/- A part of a proof. -/
import Derived.Test.YteemomncbcpdjaaZaa
import Derived.Test.YteemomncbcpdjaaPx9
import Derived.Test.YteemomncbcpdjaaZp
namespace Go.Proofs.Yteemomncbcpdjaa.P
open Go.RowKit W.PrintWords W.PrintLast W.PrintMore Go.Proofs.Yteemomncbcpdjaa.Plain
attribute [local go_sem] qZs qZq qZ5 qZ6 qZk qZl qZt qZp
set_option linter.unusedVariables false
set_option linter.unusedSimpArgs false
theorem qKq {R : Nat → Nat → Bool} (hR : Lin R) (M : List Nat) (i : Nat) (hM : (M ++ [i]).Nodup) (j : Nat) (h1 : ∀ x ∈ (srt R M).drop j, R i x = true) (h2 : ∀ x ∈ (srt R M).take j, R x i = true) :
  (srt R M).take j ++ [i] ++ (srt R M).drop j = srt R (M ++ [i]) := by
 have hMn : M.Nodup := (List.nodup_append.1 hM).1
 apply qVi hR hM
 ·have h3 : ((srt R M).take j ++ [i] ++ (srt R M).drop j).Perm ((srt R M).take j ++ ((srt R M).drop j ++ [i])) := by
   rw [List.append_assoc]; exact List.Perm.append_left _ List.perm_append_comm
  rw [← List.append_assoc, List.take_append_drop] at h3
  exact h3.trans ((qY7 R M).append_right _)
 ·have hp := qJg hR M hMn
  rw [← List.take_append_drop j (srt R M), List.pairwise_append] at hp
  rw [List.append_assoc, List.pairwise_append]
  refine ⟨hp.1, ?_, ?_⟩
  ·rw [List.singleton_append, List.pairwise_cons]; exact ⟨h1, hp.2.1⟩
  ·intro a ha b hb
   rcases List.mem_append.1 hb with h | h
   ·rw [List.mem_singleton.1 h]; exact h2 a ha
   ·exact hp.2.2 a ha b h
theorem qWe {R : Nat → Nat → Bool} (hR : Lin R) (M : List Nat) (hM : M.Nodup) (i j : Nat) (hj : j ≤ (srt R M).length) (h : j = 0 ∨ R ((srt R M).getD (j - 1) 0) i = true) : ∀ x ∈ (srt R M).take j, R x i = true := by
 intro x hx
 obtain ⟨p, hp, rfl⟩ := List.getElem_of_mem hx
 rw [List.length_take] at hp
 rcases h with h | h
 ·omega
 ·have hj1 : j - 1 < (srt R M).length := by omega
  rw [List.getD_eq_getElem?_getD, List.getElem?_eq_getElem hj1] at h
  rw [List.getElem_take]
  by_cases c : p = j - 1
  ·subst c; exact h
  ·exact hR.trans _ _ _ ((List.pairwise_iff_getElem.1 (qJg hR M hM)) p (j - 1) (by omega) hj1 (by omega)) h
theorem qK8 (L : List Nat) (j : Nat) (h : j < L.length) : rd (toI L) (j : Int) = ((L.getD j 0 : Nat) : Int) := by unfold rd toI; rw [Int.toNat_natCast, List.getD_eq_getElem?_getD, List.getD_eq_getElem?_getD]; simp [h]
theorem qYk (L : List Nat) : (toI L).length = L.length := by simp [toI]
def qQf.T9 : Bool × List (List Nat × List Nat) := (true, [([], []), ([], []), ([], []), ([1, 2], [1, 2]), ([0, 3], [0, 3]), ([], []), ([5], [5]), ([4, 6, 4], [4, 6]), ([], []), ([], []), ([8, 9], [8, 9]), ([7, 10, 7], [7, 10]), ([11, 11, 0, 1, 2, 3, 4, 5, 6, 7, 8, 9, 10, 11], [1, 8, 11])])
def qQf.B9 : List Nat := [0, 0, 0, 6, 15, 0, 32, 127, 0, 0, 768, 2047, 4095]
theorem qQf.tab1 : rtab .any (opsOf Try.f31 9) = qQf.T9 := by kernel_rfl
theorem qQf.bits1 : waitsOk qQf.T9.2 qQf.B9 = true := by kernel_rfl
def qQf.f (k : Nat) (l0 : List S43) : Option (List Int) := if l0.length ≤ 100000 then some (toI (plI l0)) else none
section
variable {P : Program} {ops : Array Oper} {Q : Exit → Act → World → Prop} {S : World → Prop} {ds : List Nat} {fuel : Nat} {a a' : Act} {w : World} {oi : Oper} {v : Value} {T : Bool × List (List Nat × List Nat)} {B : List Nat}
def qQf.fl (n m : Nat) : Array Bool := ((List.range n).map fun j => m.testBit j).toArray
theorem qQf.y (i N n m : Nat) {l : Array Bool} (hT : rtab .any ops = T) (h : wpAnyLast P .any ops Q S ds fuel (qQf.fl n m) a' w)
  (hi : ops[i]? = some oi := by rfl) (hN : oi.dst = some N := by rfl) (hc : anyT T l.toList (qQf.fl n m).toList i = true := by kernel_rfl)
  (hQ : ∀ c a w, Q (.panic c) (a.put oi.dst v) w → Q (.panic c) a w := by exact fun _ _ _ h => h) (hw : Region.wanted oi (yielded ops a.tmps) = true := by rfl)
  (hy : ∀ w, (execOp a.eval oi).run P w = .ok (.value v) w := by (intro w'; go_simp; with_reducible rfl)) (ha : a.put (some N) v = a' := by (simp only [Act.put, List.setIfInBounds_toArray, List.set_cons_zero, List.set_cons_succ, i64_w, i32_w]; rfl)) :
  wpAnyLast P .any ops Q S ds (fuel + 1) l a w := pure_ (N := some N) (qQf.fl n m) hi hN (qWn hT hc) hQ (Or.inl ⟨hw, hy⟩) ha h
end
set_option maxHeartbeats 80000000 in
set_option maxRecDepth 100000 in
theorem qQf.calls (k : Nat) (A0 : Option Addr) (c0 : Nat) (l0 : List S43) (r : List Int) (w : World) (hr0 : Kd.C k43 w A0 l0.length l0) (hc0 : l0.length ≤ c0) (h : qQf.f k l0 = some r) :
  Calls Try.prog 31 #[.slice A0 l0.length c0] w fun e w' => ∃ v0_ : Value, e = .returned v0_ ∧ Kd.R (Kd.int .i64) 3 w' w.heap.size (fun _ => True) v0_ r ∧ Below w.heap.size w w' := by
 by_cases c : l0.length ≤ 100000
 case neg => rw [qQf.f, if_neg c] at h; cases h
 rw [qQf.f, if_pos c] at h
 obtain rfl := Option.some.inj h
 clear h
 have hu43 := Try.underlying43
 obtain ⟨n, hn⟩ : ∃ n, l0.length = n := ⟨_, rfl⟩
 rw [hn] at hr0 hc0 c ⊢
 have HN := am hn
 have HRL := am hr0
 have HN5 := am c
 clear hn hr0 hc0 c
 have HB := am (Below.refl w.heap.size w)
 go_enter Try.func31, Try.ntmps31
 go_wp2
 go_loopg [3, 4] n (fun kx v3 v4 wr => ∃ (i : Nat) (V3 : Value), V3 = v3 ∧ v4 = .int .i64 i ∧ i ≤ n ∧ n - i ≤ kx ∧ Aside0 (Kd.R (Kd.int .i64) 3 wr w.heap.size (fun _ => True) V3 (toI (srt (idR l0) (opP l0 i)))) ∧ Aside0 (Below w.heap.size w wr))
 case atStart => exact ⟨0, _, rfl, by first | rfl | go_num, by omega, by omega, ⟨Kd.R_nil _ _ _ _ _⟩, HB⟩
 case round =>
  clear HB
  obtain ⟨i, V3, rfl, rfl, hin, hkx, HO_3, HB⟩ := hrel
  by_cases hlt : i < n
  ·have hltz : (i : Int) < (n : Int) := by omega
   have hltp : (0 : Int) ≤ (i : Int) := by omega
   obtain ⟨ad103, e103, t0, t1, t2, t3, t4, t5, t6, t7, t8, t9, t10, t11, t12⟩ := qYl (Kd.qZw HRL.out HB.out) (i : Int) hltp hltz
   cases e103
   simp only [Int.toNat_natCast] at t0 t1 t2 t3 t4 t5 t6 t7 t8 t9 t10 t11 t12
   have hs := qY4 l0 i
   have HI := am (show i + 1 ≤ n by omega)
   by_cases c5 : ((qQc l0 (i : Int)).f8) = 0
   case neg =>
    have c5b1 : (((qQc l0 (i : Int)).f8) != 0) = true := bne_iff_ne.mpr c5
    rw [if_neg c5] at hs
    have HS2 := am hs
    clear hs c5
    go_wp2
    go_roundg (n - (i + 1))
    case measure => have := HI.out; omega
    case rel => exact ⟨i + 1, _, rfl, (by have := HI.out; have := HN5.out; first | rfl | (go_num; done) | (congr 1; rw [wrap64]; omega) | (simp; omega)), HI.out, Nat.le_refl _, ⟨by rw [HS2.out]; (with_reducible repeat (first | apply Kd.qQs | apply Kd.qQq | apply Kd.qQt)); exact HO_3.out⟩, ⟨(by exact h0q HB.out)⟩⟩
   have c5b1 : (((qQc l0 (i : Int)).f8) != 0) = false := bne_eq_false_iff_eq.mpr c5
   have HF8 := am c5
   obtain ⟨xs, hxs⟩ : ∃ xs, xs = toI (srt (idR l0) (opP l0 i)) := ⟨_, rfl⟩
   rw [← hxs] at HO_3
   obtain ⟨Ai, ci, rfl, hci, _⟩ := Kd.qWz HO_3.out
   have hlm : xs.length = (srt (idR l0) (opP l0 i)).length := by rw [hxs, qYk]
   have hmn : xs.length ≤ 100000 := by rw [hlm, (qY7 _ _).length_eq]; have := qW3 l0 i; have := HN5.out; omega
   obtain ⟨m, hm⟩ : ∃ m, xs.length = m := ⟨_, rfl⟩
   rw [hm] at hlm hmn hci HO_3 ⊢
   have HXS := am hxs
   have HXM := am hm
   have HLM := am hlm
   have HM5 := am hmn
   clear c5 hs hxs hm hlm hmn
   go_wp2
   clear t0 t1 t2 t3 t4 t5 t6 t7 t8 t9 t10 t11 t12 c5b1
   go_loopg [5] m (fun kx v5 wr2 => ∃ (j : Nat), v5 = .int .i64 j ∧ j ≤ m ∧ j ≤ kx ∧ Aside0 (∀ q, j ≤ q → q < m → idR l0 i ((srt (idR l0) (opP l0 i)).getD q 0) = true) ∧ Aside0 (Kd.R (Kd.int .i64) 3 wr2 w.heap.size (fun _ => True) (.slice Ai m ci) xs) ∧ Aside0 (Below w.heap.size w wr2))
   case atStart => exact ⟨m, by first | rfl | go_num, Nat.le_refl _, Nat.le_refl _, ⟨fun q h1 h2 => by omega⟩, ⟨by exact rq HO_3.out⟩, ⟨(by exact h0q HB.out)⟩⟩
   case round =>
    clear HO_3 HB
    obtain ⟨j, rfl, hjm, hjk, HJ, HO_3, HB⟩ := hrel
    have HJM := am hjm
    by_cases hj0 : 0 < j
    ·obtain ⟨jp, hjp⟩ : ∃ jp, jp + 1 = j := ⟨j - 1, by omega⟩
     obtain ⟨adx, eax, hxc⟩ := Kd.qYa (Kd.qQx HO_3.out).2.2 (jp : Int) (by omega) (by rw [HXM.out]; omega)
     cases eax
     simp only [Int.toNat_natCast] at hxc
     obtain ⟨p, hp⟩ : ∃ p, p = (srt (idR l0) (opP l0 i)).getD jp 0 := ⟨_, rfl⟩
     have hpi : p < i := by
      have h1 : jp < (srt (idR l0) (opP l0 i)).length := by have := HLM.out; omega
      have h2 : p ∈ srt (idR l0) (opP l0 i) := by rw [hp, List.getD_eq_getElem?_getD, List.getElem?_eq_getElem h1]; exact List.getElem_mem h1
      exact qK9 ((qY7 (idR l0) _).mem_iff.1 h2)
     rw [HXS.out, qK8 _ _ (by have := HLM.out; omega), ← hp] at hxc
     obtain ⟨adp, eap, v0, v1, v2, v3, v4, v5, v6, v7, v8, v9, v10, v11, v12⟩ := qYl (Kd.qZw HRL.out HB.out) (p : Int) (by omega) (by omega)
     cases eap
     obtain ⟨adi, eai, u0, u1, u2, u3, u4, u5, u6, u7, u8, u9, u10, u11, u12⟩ := qYl (Kd.qZw HRL.out HB.out) (i : Int) (by omega) (by omega)
     cases eai
     simp only [Int.toNat_natCast] at v0 v1 v2 v3 v4 v5 v6 v7 v8 v9 v10 v11 v12 u0 u1 u2 u3 u4 u5 u6 u7 u8 u9 u10 u11 u12
     have k0 : 0 < j := by omega
     have k1 : (0 : Int) < (j : Int) := by omega
     have k2 : decide ((j : Int) > 0) = true := decide_eq_true k1
     have k3 : IntKind.i64.wrap ((j : Int) - 1) = (jp : Int) := by have := HM5.out; rw [IntKind.wrap_i64]; omega
     have HJP := am hjp
     have k4 : (0 : Int) ≤ (jp : Int) := by omega
     have k5 : (jp : Int) < (m : Int) := by omega
     have k6 : (0 : Int) ≤ (p : Int) := by omega
     have k7 : (p : Int) < (n : Int) := by omega
     have k8 : (0 : Int) ≤ (i : Int) := by omega
     have k9 : (i : Int) < (n : Int) := by omega
     clear hjp
     have HP := am hp
     have HPI := am hpi
     obtain ⟨fp, hfp⟩ : ∃ z, (qQc l0 (p : Int)).f0 = z := ⟨_, rfl⟩
     obtain ⟨fi, hfi⟩ : ∃ z, (qQc l0 (i : Int)).f0 = z := ⟨_, rfl⟩
     rw [hfp] at v0
     rw [hfi] at u0
     have HFP := am hfp
     have HFI := am hfi
     clear hfp hfi hp hpi
     by_cases cx : fi < fp
     ·have cx1 : decide (fp > fi) = true := decide_eq_true cx
      have hR : idR l0 i p = true := by have h1 := HFP.out; have h2 := HFI.out; unfold idR; exact decide_eq_true (.inl (by omega))
      have HR_ := am hR
      clear hR
      go_upto_region 7 with (fail)
      go_quiet (fail)
      go_wp2
      go_roundg jp
      case measure => have := HJP.out; omega
      case rel => exact ⟨jp, by first | rfl | go_num | (congr 1), by have := HJP.out; have := HJM.out; omega, Nat.le_refl _, ⟨fun q h1 h2 => by
       by_cases e : q = jp
       ·subst e; have := HR_.out; rwa [HP.out] at this
       ·exact HJ.out q (by have := HJP.out; omega) h2⟩, ⟨by exact rq HO_3.out⟩, ⟨(by exact h0q HB.out)⟩⟩
     have cx1 : ¬ fp > fi := cx
     have hR : idR l0 p i = true := by have h1 := HFP.out; have h2 := HFI.out; have h3 := HPI.out; unfold idR; exact decide_eq_true (by omega)
     rw [HP.out, show jp = j - 1 by have := HJP.out; omega] at hR
     have HA : Aside0 (j = 0 ∨ idR l0 ((srt (idR l0) (opP l0 i)).getD (j - 1) 0) i = true) := ⟨.inr hR⟩
     clear hR
     go_upto_region 7 with (fail)
     go_quiet (fail)
     clear v0 v1 v2 v3 v4 v5 v6 v7 v8 v9 v10 v11 v12 u0 u1 u2 u3 u4 u5 u6 u7 u8 u9 u10 u11 u12 hxc HFP HFI HP HPI cx cx1 k0 k1 k2 k3 k4 k5 k6 k7 k8 k9 HJP
     have n0_ := am (Kd.qQq HO_3.out nq)
     have n1_ := am (qZh HB.out nq)
     clear HO_3 HB
     have HO_3 := n0_
     have HB := n1_
     clear n0_ n1_
     generalize wr.drewN nq = WR at HO_3 HB ⊢
     go_upto_region 9 with (fail)
     as_aux_lemma =>
     have hj2 := HJ.out
     have hxm_ := HXM.out
     subst hxm_
     have hlm_ := HLM.out
     have hmem : ∀ x ∈ (srt (idR l0) (opP l0 i)).drop j, idR l0 i x = true := by
      intro x hx
      obtain ⟨q, hq, rfl⟩ := List.getElem_of_mem hx
      rw [List.length_drop] at hq
      rw [List.getElem_drop]
      have := hj2 (j + q) (by omega) (by omega)
      rwa [List.getD_eq_getElem?_getD, List.getElem?_eq_getElem (by omega)] at this
     have hNd : (opP l0 i ++ [i]).Nodup := by
      have := (qXk l0 (i + 1)).imp (fun h => Nat.ne_of_lt h)
      rwa [qY4, if_pos HF8.out] at this
     have hins := qKq (qVa l0) (opP l0 i) i hNd j hmem (qWe (qVa l0) _ (List.nodup_append.1 hNd).1 i j (by have := HLM.out; omega) HA.out)
     have hnew : toI (srt (idR l0) (opP l0 (i + 1))) = (xs.take j ++ [(i : Int)]) ++ xs.drop j := by
      rw [qY4, if_pos HF8.out, ← hins, HXS.out]; unfold toI; rw [List.map_append, List.map_append, List.map_take, List.map_drop]; rfl
     have HNEW := am hnew
     clear hj2 hmem hNd hins hnew HJ HA hlm_
     obtain ⟨a2, ha2⟩ : ∃ z : Int, z = (j : Int) := ⟨_, rfl⟩
     obtain ⟨a1, ha1⟩ : ∃ z : Int, z = (i : Int) := ⟨_, rfl⟩
     rw [← ha1, ← ha2]
     have HA1 := am ha1
     have HA2 := am ha2
     have hjl : j ≤ xs.length := by rw [HXM.out]; exact HJM.out
     obtain ⟨y103, hy103⟩ : ∃ y_ : List Int, y_ = (([] : List Int)) := ⟨_, rfl⟩
     have Ny103 := am hy103
     have c4b0 := eq_true (show 0 ≤ a2 by omega)
     have c4b1 : decide (0 ≤ a2) = true := decide_eq_true (show 0 ≤ a2 by omega)
     have c5b0 := eq_true (show a2 ≤ (xs.length : Int) by omega)
     have c5b1 : decide (a2 ≤ (xs.length : Int)) = true := decide_eq_true (show a2 ≤ (xs.length : Int) by omega)
     have hxl : xs.length ≤ 100000 := by rw [HXM.out]; exact HM5.out
     have LMc6 := am (show y103.length + (xs.take (a2 : Int).toNat).length < 17592186044416 by rw [hy103, List.length_take, List.length_nil]; omega)
     obtain ⟨y107, hy107⟩ : ∃ y_ : List Int, y_ = (y103 ++ (xs.take (a2 : Int).toNat)) := ⟨_, rfl⟩
     have Ny107 := am hy107
     have hl7 : y107.length ≤ 100000 := by rw [hy107, hy103, List.nil_append, List.length_take]; omega
     obtain ⟨y110, hy110⟩ : ∃ y_ : List Int, y_ = (([a1] : List Int)) := ⟨_, rfl⟩
     have Ny110 := am hy110
     have hl10 : y110.length = 1 := by rw [hy110]; rfl
     have LMc7 := am (show y107.length + y110.length < 17592186044416 by omega)
     obtain ⟨y113, hy113⟩ : ∃ y_ : List Int, y_ = (y107 ++ y110) := ⟨_, rfl⟩
     have Ny113 := am hy113
     have LMc10 := am (show y113.length + (xs.drop (a2 : Int).toNat).length < 17592186044416 by rw [hy113, List.length_append, List.length_drop]; omega)
     obtain ⟨y117, hy117⟩ : ∃ y_ : List Int, y_ = (y113 ++ (xs.drop (a2 : Int).toNat)) := ⟨_, rfl⟩
     have Ny117 := am hy117
     have hfin : y117 = toI (srt (idR l0) (opP l0 (i + 1))) := by rw [HNEW.out, hy117, hy113, hy107, hy103, hy110, ha2, ha1, Int.toNat_natCast, List.nil_append]
     have HFIN := am hfin
     clear hfin hy103 hy107 hy110 hy113 hy117 hl7 hl10 hxl hjl ha1 ha2 HNEW
     have HXC := am (Kd.qQx HO_3.out).2.2
     have HXL := am hci
     have HLOW := am (qQh (by exact h0q HB.out))
     have HBO := am HB.out
     clear HB
     have HB := am (Below.refl WR.heap.size WR)
     clear hci HO_3
     have n0_ := am (qZg HB.out)
     clear HB
     have HB := n0_
     clear n0_
     obtain ⟨i012, hi012, _, hsz12, _⟩ := info_parts info3
     obtain ⟨hcut12, hA12, hC12⟩ := qXa (P := Try.prog) (Value.int .i64) 0 35 3 .i64 Try.underlying35 hi012 hsz12 (some adx) ci xs a2 (yd) (yd) HXL.out
     have HR106 := am (Kd.qY1 (h1 := fun _ => rfl) (hA12 _ (Kd.qYu HXC.out)))
     have HC106 := am hC12
     clear hA12 hC12 hi012 hsz12
     obtain ⟨i013, hi013, _, hsz13, _⟩ := info_parts info3
     obtain ⟨A13, hcut13, hA13, hC13⟩ := qY9 (P := Try.prog) (Value.int .i64) 0 35 3 .i64 Try.underlying35 hi013 hsz13 (some adx) ci xs a2 (yd) (yd) HXL.out
     have HR116 := am (Kd.qY1 (h1 := fun _ => rfl) (hA13 _ (Kd.qYu HXC.out)))
     have HC116 := am hC13
     clear hA13 hC13 hi013 hsz13
     refine start_ (n := 13) (S := fun w' => True) (ds := []) (qQf.fl 13 0) (by kernel_rfl) rfl rfl trivial (fun hHeld => ?_); refine qYg qQf.tab1 qQf.bits1 (fun HT_ HW_ => ?_)
     generalize WR.drew = w11 at HB HR106 HR116 hHeld ⊢
     refine qQf.y 1 42 13 2 HT_.out ?_
     refine qQf.y 2 43 13 6 HT_.out ?_
     refine qQf.y 3 44 13 14 HT_.out ?_
     refine qQf.y 5 46 13 46 HT_.out ?_
     refine qQf.y 8 49 13 302 HT_.out ?_
     refine qQf.y 9 50 13 814 HT_.out ?_
     refine qQf.y 10 51 13 1838 HT_.out ?_
     refine join_ (σ := Value × Value × Value) 3 (qQf.fl 13 1919) (fun s_ => [(41, s_.1), (45, s_.2.1), (47, s_.2.2)]) (fun s_ w' => (Kd.R (Kd.int .i64) 3 w' WR.heap.size (fun k_ => some k_ ≠ (s_.2.2 : Value).ownBlock) s_.2.1 y107) ∧ (Kd.R (Kd.int .i64) 3 w' WR.heap.size (fun k_ => some k_ ≠ (s_.2.1 : Value).ownBlock) s_.2.2 y110) ∧ (Below WR.heap.size WR w')) ?_ ?_
     rotate_left
     ·intro hCont
      refine two_ (i := 0) (j := 6) (Ni := some 41) (Nj := some 47) (qQf.fl 13 1839) (qQf.fl 13 1902) rfl rfl rfl rfl (qXj HT_.out (by kernel_rfl)) (by decide) (by decide) (fun K hK => ?_) (fun K hK => ?_)
      ·skip
       refine Kd.qZz (Kd.int .i64) _ 3 ?hg (N := 41) ?hd (xs := ([] : List Int)) (inner := []) (ok := fun _ => True) (okp := fun _ => True) ?hr ?hp (fun _ hk => hk) trivial (Below.refl _ _) (Nat.le_refl _) (by simp) ?_; (case hd => rfl); (case hg => rfl); (case hr => first | (go_simp; done) | (go_simp; rfl)); (case hp => exact (Reps.none _ _))
       intro v104 w14 ho15 hb hg_ hnew_
       clear hg_ hnew_
       (first | rw [← Ny103.out] at ho15 | (simp only [Int.reduceToNat] at ho15; rw [← Ny103.out] at ho15))
       have n0_ := am (Kd.qZe ho15 (qQh (by exact h0q HB.out)))
       have n1_ := am (qQn (by exact h0q HB.out) hb)
       clear HB
       have HO105 := n0_
       have HB := n1_
       clear n0_ n1_ hb ho15
       refine hK.out _ _ trivial (fun hHeld => ?_)
       clear hK K
       refine norm_ (a' := ?_) ?_ ?_
       rotate_left
       ·show Act.put _ (some 41) _ = _
        exact pu
       refine two_ (i := 4) (j := 6) (Ni := some 45) (Nj := some 47) (qQf.fl 13 1855) (qQf.fl 13 1903) rfl rfl rfl rfl (qXj HT_.out (by kernel_rfl)) (by decide) (by decide) (fun K hK => ?_) (fun K hK => ?_)
       ·skip
        refine Kd.qQ5 (Kd.int .i64) (w0 := WR) WR.heap.size (by rfl) (.tmp 41) (.tmp 44) 35 3 (.int .i64 0) 8 rfl Try.underlying35 info3 rfl (by decide) (by omega) v104 y103 (xs.take (a2 : Int).toNat) _ _ _ (fun _ => True) (fun _ => False) rfl rfl ?aO ?aR (fun _ _ h => h) (fun _ h => h.elim) ?aF ?aB ?aS ?aL ?_
        (case aR => have hr_ := (Kd.qZw HR106.out HB.out); rw [show (xs.take (a2 : Int).toNat).length = a2.toNat from (by rw [List.length_take]; have h_ : (a2 : Int) ≤ (xs.length : Int) := yd; omega)] at hr_; exact hr_)
        (case aB => exact (by exact h0q HB.out))
        (case aF => exact (fun _ _ => trivial))
        (case aO => exact (by exact rq HO105.out))
        (case aS => exact (qQh (by exact h0q HB.out)))
        (case aL => have := LMc6.out; have hlx_ := (show (xs.take (a2 : Int).toNat).length = a2.toNat from (by rw [List.length_take]; have h_ : (a2 : Int) ≤ (xs.length : Int) := yd; omega)); omega)
        intro v108 w16 ho hb hg hat
        rw [← Ny107.out] at ho
        have n0_ := am (hb)
        have n1_ := am (ho)
        clear HB HO105
        have HB := n0_
        have HO109 := n1_
        clear n0_ n1_ ho hb hg hat
        refine hK.out _ _ trivial (fun hHeld => ?_)
        clear hK K
        refine norm_ (a' := ?_) ?_ ?_
        rotate_left
        ·show Act.put _ (some 45) _ = _
         exact pu
        refine one_ (i := 6) (N := some 47) (qQf.fl 13 1919) rfl rfl (qZ3 HT_.out (by kernel_rfl)) (by decide) (fun K hK => ?_)
        refine Kd.qZz (Kd.int .i64) _ 3 ?hg (N := 47) ?hd (xs := ([a1] : List Int)) (inner := [.int .i64 a1]) (ok := fun _ => True) (okp := fun _ => True) ?hr ?hp (fun _ hk => hk) trivial (Below.refl _ _) (Nat.le_refl _) (by simp) ?_; (case hd => rfl); (case hg => rfl); (case hr => first | (go_simp; done) | (go_simp; rfl)); (case hp => exact (Reps.one (show Kd.M (Kd.int .i64) _ _ _ a1 [.int .i64 a1] from rfl) (Reps.none _ _)))
        intro v111 w17 ho18 hb hg_ hnew_
        clear hg_ hnew_
        (first | rw [← Ny110.out] at ho18 | (simp only [Int.reduceToNat] at ho18; rw [← Ny110.out] at ho18))
        have n0_ := am (Kd.qQ7 (by exact rq HO109.out) (Kd.qZo ho18) hb)
        have n1_ := am (Kd.qZe (Kd.qZn ho18 (Kd.R_lt (by exact rq HO109.out))) (qQh (by exact h0q HB.out)))
        have n2_ := am (qQn (by exact h0q HB.out) hb)
        clear HO109 HB
        have HO109 := n0_
        have HO112 := n1_
        have HB := n2_
        clear n0_ n1_ n2_ hb ho18
        refine hK.out _ _ trivial (fun hHeld => ?_)
        clear hK K
        refine norm_ (a' := ?_) ?_ ?_
        rotate_left
        ·show Act.put _ (some 47) _ = _
         exact pu
        exact norm_ (by simp only [putAll, Act.put, List.setIfInBounds_toArray, List.set_cons_zero, List.set_cons_succ]) (hCont (v104, v108, v111) _ ⟨(by (with_reducible repeat (first | apply Kd.qQs | apply Kd.qQq | apply Kd.qQt)); exact Kd.qQv HO109.out (fun _ hk => hk.2)), (by (with_reducible repeat (first | apply Kd.qQs | apply Kd.qQq | apply Kd.qQt)); exact Kd.qQv HO112.out (fun _ hk => hk.2)), (by exact h0q HB.out)⟩)
       ·skip
        refine Kd.qZz (Kd.int .i64) _ 3 ?hg (N := 47) ?hd (xs := ([a1] : List Int)) (inner := [.int .i64 a1]) (ok := fun _ => True) (okp := fun _ => True) ?hr ?hp (fun _ hk => hk) trivial (Below.refl _ _) (Nat.le_refl _) (by simp) ?_; (case hd => rfl); (case hg => rfl); (case hr => first | (go_simp; done) | (go_simp; rfl)); (case hp => exact (Reps.one (show Kd.M (Kd.int .i64) _ _ _ a1 [.int .i64 a1] from rfl) (Reps.none _ _)))
        intro v111 w16 ho17 hb hg_ hnew_
        clear hg_ hnew_
        (first | rw [← Ny110.out] at ho17 | (simp only [Int.reduceToNat] at ho17; rw [← Ny110.out] at ho17))
        have n0_ := am (Kd.qQ7 (by exact rq HO105.out) (Kd.qZo ho17) hb)
        have n1_ := am (Kd.qZe (Kd.qZn ho17 (Kd.R_lt (by exact rq HO105.out))) (qQh (by exact h0q HB.out)))
        have n2_ := am (qQn (by exact h0q HB.out) hb)
        clear HO105 HB
        have HO105 := n0_
        have HO112 := n1_
        have HB := n2_
        clear n0_ n1_ n2_ hb ho17
        refine hK.out _ _ trivial (fun hHeld => ?_)
        clear hK K
        refine norm_ (a' := ?_) ?_ ?_
        rotate_left
        ·show Act.put _ (some 47) _ = _
         exact pu
        refine one_ (i := 4) (N := some 45) (qQf.fl 13 1919) rfl rfl (qZ3 HT_.out (by kernel_rfl)) (by decide) (fun K hK => ?_)
        refine Kd.qQ5 (Kd.int .i64) (w0 := WR) WR.heap.size (by rfl) (.tmp 41) (.tmp 44) 35 3 (.int .i64 0) 8 rfl Try.underlying35 info3 rfl (by decide) (by omega) v104 y103 (xs.take (a2 : Int).toNat) _ _ _ (fun k_ => some k_ ≠ (v111 : Value).ownBlock) (fun _ => False) rfl rfl ?aO ?aR (fun _ _ h => h) (fun _ h => h.elim) ?aF ?aB ?aS ?aL ?_
        (case aR => have hr_ := (Kd.qZw HR106.out HB.out); rw [show (xs.take (a2 : Int).toNat).length = a2.toNat from (by rw [List.length_take]; have h_ : (a2 : Int) ≤ (xs.length : Int) := yd; omega)] at hr_; exact hr_)
        (case aB => exact (by exact h0q HB.out))
        (case aF => exact (fun k_ hk => Kd.fresh' (Kd.R_lt (by exact rq HO112.out)) k_ hk))
        (case aO => exact (by (with_reducible repeat (first | apply Kd.qQs | apply Kd.qQq | apply Kd.qQt)); exact Kd.qQv HO105.out (fun _ hk => hk.2)))
        (case aS => exact (qQh (by exact h0q HB.out)))
        (case aL => have := LMc6.out; have hlx_ := (show (xs.take (a2 : Int).toNat).length = a2.toNat from (by rw [List.length_take]; have h_ : (a2 : Int) ≤ (xs.length : Int) := yd; omega)); omega)
        intro v108 w18 ho hb hg hat
        rw [← Ny107.out] at ho
        have n0_ := am (Kd.qYx (ok := (fun _ => True)) (by exact rq HO112.out) hg hat)
        have n1_ := am (hb)
        have n2_ := am (ho)
        clear HO112 HB HO105
        have HO112 := n0_
        have HB := n1_
        have HO109 := n2_
        clear n0_ n1_ n2_ ho hb hg hat
        refine hK.out _ _ trivial (fun hHeld => ?_)
        clear hK K
        refine norm_ (a' := ?_) ?_ ?_
        rotate_left
        ·show Act.put _ (some 45) _ = _
         exact pu
        exact norm_ (by simp only [putAll, Act.put, List.setIfInBounds_toArray, List.set_cons_zero, List.set_cons_succ]) (hCont (v104, v108, v111) _ ⟨(by exact rq HO109.out), (by (with_reducible repeat (first | apply Kd.qQs | apply Kd.qQq | apply Kd.qQt)); exact Kd.qQv HO112.out (fun _ hk => hk.2)), (by exact h0q HB.out)⟩)
      ·skip
       refine Kd.qZz (Kd.int .i64) _ 3 ?hg (N := 47) ?hd (xs := ([a1] : List Int)) (inner := [.int .i64 a1]) (ok := fun _ => True) (okp := fun _ => True) ?hr ?hp (fun _ hk => hk) trivial (Below.refl _ _) (Nat.le_refl _) (by simp) ?_; (case hd => rfl); (case hg => rfl); (case hr => first | (go_simp; done) | (go_simp; rfl)); (case hp => exact (Reps.one (show Kd.M (Kd.int .i64) _ _ _ a1 [.int .i64 a1] from rfl) (Reps.none _ _)))
       intro v111 w14 ho15 hb hg_ hnew_
       clear hg_ hnew_
       (first | rw [← Ny110.out] at ho15 | (simp only [Int.reduceToNat] at ho15; rw [← Ny110.out] at ho15))
       have n0_ := am (Kd.qZe ho15 (qQh (by exact h0q HB.out)))
       have n1_ := am (qQn (by exact h0q HB.out) hb)
       clear HB
       have HO112 := n0_
       have HB := n1_
       clear n0_ n1_ hb ho15
       refine hK.out _ _ trivial (fun hHeld => ?_)
       clear hK K
       refine norm_ (a' := ?_) ?_ ?_
       rotate_left
       ·show Act.put _ (some 47) _ = _
        exact pu
       refine one_ (i := 0) (N := some 41) (qQf.fl 13 1903) rfl rfl (qZ3 HT_.out (by kernel_rfl)) (by decide) (fun K hK => ?_)
       refine Kd.qZz (Kd.int .i64) _ 3 ?hg (N := 41) ?hd (xs := ([] : List Int)) (inner := []) (ok := fun _ => True) (okp := fun _ => True) ?hr ?hp (fun _ hk => hk) trivial (Below.refl _ _) (Nat.le_refl _) (by simp) ?_; (case hd => rfl); (case hg => rfl); (case hr => first | (go_simp; done) | (go_simp; rfl)); (case hp => exact (Reps.none _ _))
       intro v104 w16 ho17 hb hg_ hnew_
       clear hg_ hnew_
       (first | rw [← Ny103.out] at ho17 | (simp only [Int.reduceToNat] at ho17; rw [← Ny103.out] at ho17))
       have n0_ := am (Kd.qQ7 (by exact rq HO112.out) (Kd.qZo ho17) hb)
       have n1_ := am (Kd.qZe (Kd.qZn ho17 (Kd.R_lt (by exact rq HO112.out))) (qQh (by exact h0q HB.out)))
       have n2_ := am (qQn (by exact h0q HB.out) hb)
       clear HO112 HB
       have HO112 := n0_
       have HO105 := n1_
       have HB := n2_
       clear n0_ n1_ n2_ hb ho17
       refine hK.out _ _ trivial (fun hHeld => ?_)
       clear hK K
       refine norm_ (a' := ?_) ?_ ?_
       rotate_left
       ·show Act.put _ (some 41) _ = _
        exact pu
       refine one_ (i := 4) (N := some 45) (qQf.fl 13 1919) rfl rfl (qZ3 HT_.out (by kernel_rfl)) (by decide) (fun K hK => ?_)
       refine Kd.qQ5 (Kd.int .i64) (w0 := WR) WR.heap.size (by rfl) (.tmp 41) (.tmp 44) 35 3 (.int .i64 0) 8 rfl Try.underlying35 info3 rfl (by decide) (by omega) v104 y103 (xs.take (a2 : Int).toNat) _ _ _ (fun k_ => some k_ ≠ (v111 : Value).ownBlock) (fun _ => False) rfl rfl ?aO ?aR (fun _ _ h => h) (fun _ h => h.elim) ?aF ?aB ?aS ?aL ?_
       (case aR => have hr_ := (Kd.qZw HR106.out HB.out); rw [show (xs.take (a2 : Int).toNat).length = a2.toNat from (by rw [List.length_take]; have h_ : (a2 : Int) ≤ (xs.length : Int) := yd; omega)] at hr_; exact hr_)
       (case aB => exact (by exact h0q HB.out))
       (case aF => exact (fun k_ hk => Kd.fresh' (Kd.R_lt (by exact rq HO112.out)) k_ hk))
       (case aO => exact (by (with_reducible repeat (first | apply Kd.qQs | apply Kd.qQq | apply Kd.qQt)); exact Kd.qQv HO105.out (fun _ hk => hk.2)))
       (case aS => exact (qQh (by exact h0q HB.out)))
       (case aL => have := LMc6.out; have hlx_ := (show (xs.take (a2 : Int).toNat).length = a2.toNat from (by rw [List.length_take]; have h_ : (a2 : Int) ≤ (xs.length : Int) := yd; omega)); omega)
       intro v108 w18 ho hb hg hat
       rw [← Ny107.out] at ho
       have n0_ := am (Kd.qYx (ok := (fun _ => True)) (by exact rq HO112.out) hg hat)
       have n1_ := am (hb)
       have n2_ := am (ho)
       clear HO112 HB HO105
       have HO112 := n0_
       have HB := n1_
       have HO109 := n2_
       clear n0_ n1_ n2_ ho hb hg hat
       refine hK.out _ _ trivial (fun hHeld => ?_)
       clear hK K
       refine norm_ (a' := ?_) ?_ ?_
       rotate_left
       ·show Act.put _ (some 45) _ = _
        exact pu
       exact norm_ (by simp only [putAll, Act.put, List.setIfInBounds_toArray, List.set_cons_zero, List.set_cons_succ]) (hCont (v104, v108, v111) _ ⟨(by exact rq HO109.out), (by (with_reducible repeat (first | apply Kd.qQs | apply Kd.qQq | apply Kd.qQt)); exact Kd.qQv HO112.out (fun _ hk => hk.2)), (by exact h0q HB.out)⟩)
     rintro ⟨v104, v108, v111⟩ w19 ⟨h0_, h1_, h2_⟩
     have n0_ : Aside0 (Kd.R (Kd.int .i64) 3 w19 WR.heap.size (fun k_ => some k_ ≠ (v111 : Value).ownBlock) v108 y107) := ⟨h0_⟩
     have n1_ : Aside0 (Kd.R (Kd.int .i64) 3 w19 WR.heap.size (fun k_ => some k_ ≠ (v108 : Value).ownBlock) v111 y110) := ⟨h1_⟩
     have n2_ : Aside0 (Below WR.heap.size WR w19) := ⟨h2_⟩
     clear HB h0_ h1_ h2_
     have HO109 := n0_
     have HO112 := n1_
     have HB := n2_
     clear n0_ n1_ n2_
     have hHeld := trivial
     obtain ⟨Ao21, co21, eo21⟩ := Kd.qZ8 HO112.out
     (first | subst eo21 | (injection eo21 with f1_ f2_ f3_; have f4_ := f1_.symm; have f5_ := f3_.symm; clear f1_ f2_ f3_; subst f4_; subst f5_))
     refine norm_ (a' := ?_) ?_ ?_
     rotate_left
     ·simp only [putAll, Act.put, List.setIfInBounds_toArray, List.set_cons_zero, List.set_cons_succ]
      rfl
     refine one_ (i := 7) (N := some 48) (qQf.fl 13 2047) rfl rfl (qZ3 HT_.out (by kernel_rfl)) (by decide) (fun K hK => ?_)
     refine Kd.qQ5 (Kd.int .i64) (w0 := WR) WR.heap.size (by rfl) (.tmp 45) (.tmp 47) 35 3 (.int .i64 0) 8 rfl Try.underlying35 info3 rfl (by decide) (by omega) v108 y107 y110 _ _ _ (fun k_ => some k_ ≠ (.slice Ao21 y110.length co21 : Value).ownBlock) (fun _ => False) rfl rfl ?aO ?aR (fun _ _ h => h) (fun _ h => h.elim) ?aF ?aB ?aS ?aL ?_
     (case aR => exact cq ((Kd.qQx HO112.out).2.2))
     (case aB => exact (by exact h0q HB.out))
     (case aF => exact (fun k_ hk => Kd.fresh' (Kd.R_lt (by exact rq HO112.out)) k_ hk))
     (case aO => exact (by exact rq HO109.out))
     (case aS => exact (qQh (by exact h0q HB.out)))
     (case aL => have := LMc7.out; omega)
     intro v114 w20 ho hb hg hat
     rw [← Ny113.out] at ho
     have n0_ := am (Kd.qYx (ok := (fun _ => True)) (by (with_reducible repeat (first | apply Kd.qQs | apply Kd.qQq | apply Kd.qQt)); exact Kd.qQv HO112.out (fun _ hk => ⟨trivial, hk⟩)) hg hat)
     have n1_ := am (hb)
     have n2_ := am (ho)
     clear HO112 HB HO109
     have HO112 := n0_
     have HB := n1_
     have HO115 := n2_
     clear n0_ n1_ n2_ ho hb hg hat
     refine hK.out _ _ trivial (fun hHeld => ?_)
     clear hK K
     refine norm_ (a' := ?_) ?_ ?_
     rotate_left
     ·show Act.put _ (some 48) _ = _
      exact pu
     refine one_ (i := 11) (N := some 52) (qQf.fl 13 4095) rfl rfl (qZ3 HT_.out (by kernel_rfl)) (by decide) (fun K hK => ?_)
     refine Kd.qQ5 (Kd.int .i64) (w0 := WR) WR.heap.size (by rfl) (.tmp 48) (.tmp 51) 35 3 (.int .i64 0) 8 rfl Try.underlying35 info3 rfl (by decide) (by omega) v114 y113 (xs.drop (a2 : Int).toNat) _ _ _ (fun k_ => some k_ ≠ (.slice Ao21 y110.length co21 : Value).ownBlock) (fun _ => False) rfl rfl ?aO ?aR (fun _ _ h => h) (fun _ h => h.elim) ?aF ?aB ?aS ?aL ?_
     (case aR => have hr_ := (Kd.qZw HR116.out HB.out); rw [show (xs.drop (a2 : Int).toNat).length = (xs.length - a2.toNat) from List.length_drop] at hr_; exact hr_)
     (case aB => exact (by exact h0q HB.out))
     (case aF => exact (fun k_ hk => Kd.fresh' (Kd.R_lt (by exact rq HO112.out)) k_ hk))
     (case aO => exact (by exact rq HO115.out))
     (case aS => exact (qQh (by exact h0q HB.out)))
     (case aL => have := LMc10.out; have hlx_ := (show (xs.drop (a2 : Int).toNat).length = (xs.length - a2.toNat) from List.length_drop); omega)
     intro v118 w22 ho hb hg hat
     rw [← Ny117.out] at ho
     have n0_ := am (Kd.qYx (ok := (fun _ => True)) (by exact rq HO112.out) hg hat)
     have n1_ := am (hb)
     have n2_ := am (ho)
     clear HO112 HB HO115
     have HO112 := n0_
     have HB := n1_
     have HO119 := n2_
     clear n0_ n1_ n2_ ho hb hg hat
     refine hK.out _ _ trivial (fun hHeld => ?_)
     clear hK K
     refine norm_ (a' := ?_) ?_ ?_
     rotate_left
     ·show Act.put _ (some 52) _ = _
      exact pu
     refine qQf.y 12 3 13 8191 HT_.out ?_
     refine done_ (qYw HT_.out (by kernel_rfl)) ?_
     go_wp2
     go_roundg (n - (i + 1))
     case measure => have := HI.out; omega
     case rel => exact ⟨i + 1, _, rfl, (by have := HI.out; have := HN5.out; rw [HA1.out]; first | rfl | (go_num; done) | (congr 1; rw [wrap64]; omega) | (simp; omega)), HI.out, Nat.le_refl _, ⟨by rw [← HFIN.out]; exact Kd.qQv (Kd.qZe HO119.out HLOW.out) (fun _ _ => trivial)⟩, ⟨HBO.out.trans (HB.out.mono HLOW.out)⟩⟩
    ·have k1 : ¬ (0 : Int) < (j : Int) := by omega
     have k2 : decide ((j : Int) > 0) = false := decide_eq_false k1
     have HA : Aside0 (j = 0 ∨ idR l0 ((srt (idR l0) (opP l0 i)).getD (j - 1) 0) i = true) := ⟨.inl (by omega)⟩
     go_upto_region 7 with (fail)
     go_quiet (fail)
     clear k1 k2
     have n0_ := am (Kd.qQq HO_3.out nq)
     have n1_ := am (qZh HB.out nq)
     clear HO_3 HB
     have HO_3 := n0_
     have HB := n1_
     clear n0_ n1_
     generalize wr.drewN nq = WR at HO_3 HB ⊢
     go_upto_region 9 with (fail)
     as_aux_lemma =>
     have hj2 := HJ.out
     have hxm_ := HXM.out
     subst hxm_
     have hlm_ := HLM.out
     have hmem : ∀ x ∈ (srt (idR l0) (opP l0 i)).drop j, idR l0 i x = true := by
      intro x hx
      obtain ⟨q, hq, rfl⟩ := List.getElem_of_mem hx
      rw [List.length_drop] at hq
      rw [List.getElem_drop]
      have := hj2 (j + q) (by omega) (by omega)
      rwa [List.getD_eq_getElem?_getD, List.getElem?_eq_getElem (by omega)] at this
     have hNd : (opP l0 i ++ [i]).Nodup := by
      have := (qXk l0 (i + 1)).imp (fun h => Nat.ne_of_lt h)
      rwa [qY4, if_pos HF8.out] at this
     have hins := qKq (qVa l0) (opP l0 i) i hNd j hmem (qWe (qVa l0) _ (List.nodup_append.1 hNd).1 i j (by have := HLM.out; omega) HA.out)
     have hnew : toI (srt (idR l0) (opP l0 (i + 1))) = (xs.take j ++ [(i : Int)]) ++ xs.drop j := by
      rw [qY4, if_pos HF8.out, ← hins, HXS.out]; unfold toI; rw [List.map_append, List.map_append, List.map_take, List.map_drop]; rfl
     have HNEW := am hnew
     clear hj2 hmem hNd hins hnew HJ HA hlm_
     obtain ⟨a2, ha2⟩ : ∃ z : Int, z = (j : Int) := ⟨_, rfl⟩
     obtain ⟨a1, ha1⟩ : ∃ z : Int, z = (i : Int) := ⟨_, rfl⟩
     rw [← ha1, ← ha2]
     have HA1 := am ha1
     have HA2 := am ha2
     have hjl : j ≤ xs.length := by rw [HXM.out]; exact HJM.out
     obtain ⟨y103, hy103⟩ : ∃ y_ : List Int, y_ = (([] : List Int)) := ⟨_, rfl⟩
     have Ny103 := am hy103
     have c4b0 := eq_true (show 0 ≤ a2 by omega)
     have c4b1 : decide (0 ≤ a2) = true := decide_eq_true (show 0 ≤ a2 by omega)
     have c5b0 := eq_true (show a2 ≤ (xs.length : Int) by omega)
     have c5b1 : decide (a2 ≤ (xs.length : Int)) = true := decide_eq_true (show a2 ≤ (xs.length : Int) by omega)
     have hxl : xs.length ≤ 100000 := by rw [HXM.out]; exact HM5.out
     have LMc6 := am (show y103.length + (xs.take (a2 : Int).toNat).length < 17592186044416 by rw [hy103, List.length_take, List.length_nil]; omega)
     obtain ⟨y107, hy107⟩ : ∃ y_ : List Int, y_ = (y103 ++ (xs.take (a2 : Int).toNat)) := ⟨_, rfl⟩
     have Ny107 := am hy107
     have hl7 : y107.length ≤ 100000 := by rw [hy107, hy103, List.nil_append, List.length_take]; omega
     obtain ⟨y110, hy110⟩ : ∃ y_ : List Int, y_ = (([a1] : List Int)) := ⟨_, rfl⟩
     have Ny110 := am hy110
     have hl10 : y110.length = 1 := by rw [hy110]; rfl
     have LMc7 := am (show y107.length + y110.length < 17592186044416 by omega)
     obtain ⟨y113, hy113⟩ : ∃ y_ : List Int, y_ = (y107 ++ y110) := ⟨_, rfl⟩
     have Ny113 := am hy113
     have LMc10 := am (show y113.length + (xs.drop (a2 : Int).toNat).length < 17592186044416 by rw [hy113, List.length_append, List.length_drop]; omega)
     obtain ⟨y117, hy117⟩ : ∃ y_ : List Int, y_ = (y113 ++ (xs.drop (a2 : Int).toNat)) := ⟨_, rfl⟩
     have Ny117 := am hy117
     have hfin : y117 = toI (srt (idR l0) (opP l0 (i + 1))) := by rw [HNEW.out, hy117, hy113, hy107, hy103, hy110, ha2, ha1, Int.toNat_natCast, List.nil_append]
     have HFIN := am hfin
     clear hfin hy103 hy107 hy110 hy113 hy117 hl7 hl10 hxl hjl ha1 ha2 HNEW
     have HXC := am (Kd.qQx HO_3.out).2.2
     have HXL := am hci
     have HLOW := am (qQh (by exact h0q HB.out))
     have HBO := am HB.out
     clear HB
     have HB := am (Below.refl WR.heap.size WR)
     clear hci HO_3
     have n0_ := am (qZg HB.out)
     clear HB
     have HB := n0_
     clear n0_
     obtain ⟨i012, hi012, _, hsz12, _⟩ := info_parts info3
     obtain ⟨hcut12, hA12, hC12⟩ := qXa (P := Try.prog) (Value.int .i64) 0 35 3 .i64 Try.underlying35 hi012 hsz12 Ai ci xs a2 (yd) (yd) HXL.out
     have HR106 := am (Kd.qY1 (h1 := fun _ => rfl) (hA12 _ (Kd.qYu HXC.out)))
     have HC106 := am hC12
     clear hA12 hC12 hi012 hsz12
     obtain ⟨i013, hi013, _, hsz13, _⟩ := info_parts info3
     obtain ⟨A13, hcut13, hA13, hC13⟩ := qY9 (P := Try.prog) (Value.int .i64) 0 35 3 .i64 Try.underlying35 hi013 hsz13 Ai ci xs a2 (yd) (yd) HXL.out
     have HR116 := am (Kd.qY1 (h1 := fun _ => rfl) (hA13 _ (Kd.qYu HXC.out)))
     have HC116 := am hC13
     clear hA13 hC13 hi013 hsz13
     refine start_ (n := 13) (S := fun w' => True) (ds := []) (qQf.fl 13 0) (by kernel_rfl) rfl rfl trivial (fun hHeld => ?_); refine qYg qQf.tab1 qQf.bits1 (fun HT_ HW_ => ?_)
     generalize WR.drew = w11 at HB HR106 HR116 hHeld ⊢
     refine qQf.y 1 42 13 2 HT_.out ?_
     refine qQf.y 2 43 13 6 HT_.out ?_
     refine qQf.y 3 44 13 14 HT_.out ?_
     refine qQf.y 5 46 13 46 HT_.out ?_
     refine qQf.y 8 49 13 302 HT_.out ?_
     refine qQf.y 9 50 13 814 HT_.out ?_
     refine qQf.y 10 51 13 1838 HT_.out ?_
     refine join_ (σ := Value × Value × Value) 3 (qQf.fl 13 1919) (fun s_ => [(41, s_.1), (45, s_.2.1), (47, s_.2.2)]) (fun s_ w' => (Kd.R (Kd.int .i64) 3 w' WR.heap.size (fun k_ => some k_ ≠ (s_.2.2 : Value).ownBlock) s_.2.1 y107) ∧ (Kd.R (Kd.int .i64) 3 w' WR.heap.size (fun k_ => some k_ ≠ (s_.2.1 : Value).ownBlock) s_.2.2 y110) ∧ (Below WR.heap.size WR w')) ?_ ?_
     rotate_left
     ·intro hCont
      refine two_ (i := 0) (j := 6) (Ni := some 41) (Nj := some 47) (qQf.fl 13 1839) (qQf.fl 13 1902) rfl rfl rfl rfl (qXj HT_.out (by kernel_rfl)) (by decide) (by decide) (fun K hK => ?_) (fun K hK => ?_)
      ·skip
       refine Kd.qZz (Kd.int .i64) _ 3 ?hg (N := 41) ?hd (xs := ([] : List Int)) (inner := []) (ok := fun _ => True) (okp := fun _ => True) ?hr ?hp (fun _ hk => hk) trivial (Below.refl _ _) (Nat.le_refl _) (by simp) ?_; (case hd => rfl); (case hg => rfl); (case hr => first | (go_simp; done) | (go_simp; rfl)); (case hp => exact (Reps.none _ _))
       intro v104 w14 ho15 hb hg_ hnew_
       clear hg_ hnew_
       (first | rw [← Ny103.out] at ho15 | (simp only [Int.reduceToNat] at ho15; rw [← Ny103.out] at ho15))
       have n0_ := am (Kd.qZe ho15 (qQh (by exact h0q HB.out)))
       have n1_ := am (qQn (by exact h0q HB.out) hb)
       clear HB
       have HO105 := n0_
       have HB := n1_
       clear n0_ n1_ hb ho15
       refine hK.out _ _ trivial (fun hHeld => ?_)
       clear hK K
       refine norm_ (a' := ?_) ?_ ?_
       rotate_left
       ·show Act.put _ (some 41) _ = _
        exact pu
       refine two_ (i := 4) (j := 6) (Ni := some 45) (Nj := some 47) (qQf.fl 13 1855) (qQf.fl 13 1903) rfl rfl rfl rfl (qXj HT_.out (by kernel_rfl)) (by decide) (by decide) (fun K hK => ?_) (fun K hK => ?_)
       ·skip
        refine Kd.qQ5 (Kd.int .i64) (w0 := WR) WR.heap.size (by rfl) (.tmp 41) (.tmp 44) 35 3 (.int .i64 0) 8 rfl Try.underlying35 info3 rfl (by decide) (by omega) v104 y103 (xs.take (a2 : Int).toNat) _ _ _ (fun _ => True) (fun _ => False) rfl rfl ?aO ?aR (fun _ _ h => h) (fun _ h => h.elim) ?aF ?aB ?aS ?aL ?_
        (case aR => have hr_ := (Kd.qZw HR106.out HB.out); rw [show (xs.take (a2 : Int).toNat).length = a2.toNat from (by rw [List.length_take]; have h_ : (a2 : Int) ≤ (xs.length : Int) := yd; omega)] at hr_; exact hr_)
        (case aB => exact (by exact h0q HB.out))
        (case aF => exact (fun _ _ => trivial))
        (case aO => exact (by exact rq HO105.out))
        (case aS => exact (qQh (by exact h0q HB.out)))
        (case aL => have := LMc6.out; have hlx_ := (show (xs.take (a2 : Int).toNat).length = a2.toNat from (by rw [List.length_take]; have h_ : (a2 : Int) ≤ (xs.length : Int) := yd; omega)); omega)
        intro v108 w16 ho hb hg hat
        rw [← Ny107.out] at ho
        have n0_ := am (hb)
        have n1_ := am (ho)
        clear HB HO105
        have HB := n0_
        have HO109 := n1_
        clear n0_ n1_ ho hb hg hat
        refine hK.out _ _ trivial (fun hHeld => ?_)
        clear hK K
        refine norm_ (a' := ?_) ?_ ?_
        rotate_left
        ·show Act.put _ (some 45) _ = _
         exact pu
        refine one_ (i := 6) (N := some 47) (qQf.fl 13 1919) rfl rfl (qZ3 HT_.out (by kernel_rfl)) (by decide) (fun K hK => ?_)
        refine Kd.qZz (Kd.int .i64) _ 3 ?hg (N := 47) ?hd (xs := ([a1] : List Int)) (inner := [.int .i64 a1]) (ok := fun _ => True) (okp := fun _ => True) ?hr ?hp (fun _ hk => hk) trivial (Below.refl _ _) (Nat.le_refl _) (by simp) ?_; (case hd => rfl); (case hg => rfl); (case hr => first | (go_simp; done) | (go_simp; rfl)); (case hp => exact (Reps.one (show Kd.M (Kd.int .i64) _ _ _ a1 [.int .i64 a1] from rfl) (Reps.none _ _)))
        intro v111 w17 ho18 hb hg_ hnew_
        clear hg_ hnew_
        (first | rw [← Ny110.out] at ho18 | (simp only [Int.reduceToNat] at ho18; rw [← Ny110.out] at ho18))
        have n0_ := am (Kd.qQ7 (by exact rq HO109.out) (Kd.qZo ho18) hb)
        have n1_ := am (Kd.qZe (Kd.qZn ho18 (Kd.R_lt (by exact rq HO109.out))) (qQh (by exact h0q HB.out)))
        have n2_ := am (qQn (by exact h0q HB.out) hb)
        clear HO109 HB
        have HO109 := n0_
        have HO112 := n1_
        have HB := n2_
        clear n0_ n1_ n2_ hb ho18
        refine hK.out _ _ trivial (fun hHeld => ?_)
        clear hK K
        refine norm_ (a' := ?_) ?_ ?_
        rotate_left
        ·show Act.put _ (some 47) _ = _
         exact pu
        exact norm_ (by simp only [putAll, Act.put, List.setIfInBounds_toArray, List.set_cons_zero, List.set_cons_succ]) (hCont (v104, v108, v111) _ ⟨(by (with_reducible repeat (first | apply Kd.qQs | apply Kd.qQq | apply Kd.qQt)); exact Kd.qQv HO109.out (fun _ hk => hk.2)), (by (with_reducible repeat (first | apply Kd.qQs | apply Kd.qQq | apply Kd.qQt)); exact Kd.qQv HO112.out (fun _ hk => hk.2)), (by exact h0q HB.out)⟩)
       ·skip
        refine Kd.qZz (Kd.int .i64) _ 3 ?hg (N := 47) ?hd (xs := ([a1] : List Int)) (inner := [.int .i64 a1]) (ok := fun _ => True) (okp := fun _ => True) ?hr ?hp (fun _ hk => hk) trivial (Below.refl _ _) (Nat.le_refl _) (by simp) ?_; (case hd => rfl); (case hg => rfl); (case hr => first | (go_simp; done) | (go_simp; rfl)); (case hp => exact (Reps.one (show Kd.M (Kd.int .i64) _ _ _ a1 [.int .i64 a1] from rfl) (Reps.none _ _)))
        intro v111 w16 ho17 hb hg_ hnew_
        clear hg_ hnew_
        (first | rw [← Ny110.out] at ho17 | (simp only [Int.reduceToNat] at ho17; rw [← Ny110.out] at ho17))
        have n0_ := am (Kd.qQ7 (by exact rq HO105.out) (Kd.qZo ho17) hb)
        have n1_ := am (Kd.qZe (Kd.qZn ho17 (Kd.R_lt (by exact rq HO105.out))) (qQh (by exact h0q HB.out)))
        have n2_ := am (qQn (by exact h0q HB.out) hb)
        clear HO105 HB
        have HO105 := n0_
        have HO112 := n1_
        have HB := n2_
        clear n0_ n1_ n2_ hb ho17
        refine hK.out _ _ trivial (fun hHeld => ?_)
        clear hK K
        refine norm_ (a' := ?_) ?_ ?_
        rotate_left
        ·show Act.put _ (some 47) _ = _
         exact pu
        refine one_ (i := 4) (N := some 45) (qQf.fl 13 1919) rfl rfl (qZ3 HT_.out (by kernel_rfl)) (by decide) (fun K hK => ?_)
        refine Kd.qQ5 (Kd.int .i64) (w0 := WR) WR.heap.size (by rfl) (.tmp 41) (.tmp 44) 35 3 (.int .i64 0) 8 rfl Try.underlying35 info3 rfl (by decide) (by omega) v104 y103 (xs.take (a2 : Int).toNat) _ _ _ (fun k_ => some k_ ≠ (v111 : Value).ownBlock) (fun _ => False) rfl rfl ?aO ?aR (fun _ _ h => h) (fun _ h => h.elim) ?aF ?aB ?aS ?aL ?_
        (case aR => have hr_ := (Kd.qZw HR106.out HB.out); rw [show (xs.take (a2 : Int).toNat).length = a2.toNat from (by rw [List.length_take]; have h_ : (a2 : Int) ≤ (xs.length : Int) := yd; omega)] at hr_; exact hr_)
        (case aB => exact (by exact h0q HB.out))
        (case aF => exact (fun k_ hk => Kd.fresh' (Kd.R_lt (by exact rq HO112.out)) k_ hk))
        (case aO => exact (by (with_reducible repeat (first | apply Kd.qQs | apply Kd.qQq | apply Kd.qQt)); exact Kd.qQv HO105.out (fun _ hk => hk.2)))
        (case aS => exact (qQh (by exact h0q HB.out)))
        (case aL => have := LMc6.out; have hlx_ := (show (xs.take (a2 : Int).toNat).length = a2.toNat from (by rw [List.length_take]; have h_ : (a2 : Int) ≤ (xs.length : Int) := yd; omega)); omega)
        intro v108 w18 ho hb hg hat
        rw [← Ny107.out] at ho
        have n0_ := am (Kd.qYx (ok := (fun _ => True)) (by exact rq HO112.out) hg hat)
        have n1_ := am (hb)
        have n2_ := am (ho)
        clear HO112 HB HO105
        have HO112 := n0_
        have HB := n1_
        have HO109 := n2_
        clear n0_ n1_ n2_ ho hb hg hat
        refine hK.out _ _ trivial (fun hHeld => ?_)
        clear hK K
        refine norm_ (a' := ?_) ?_ ?_
        rotate_left
        ·show Act.put _ (some 45) _ = _
         exact pu
        exact norm_ (by simp only [putAll, Act.put, List.setIfInBounds_toArray, List.set_cons_zero, List.set_cons_succ]) (hCont (v104, v108, v111) _ ⟨(by exact rq HO109.out), (by (with_reducible repeat (first | apply Kd.qQs | apply Kd.qQq | apply Kd.qQt)); exact Kd.qQv HO112.out (fun _ hk => hk.2)), (by exact h0q HB.out)⟩)
      ·skip
       refine Kd.qZz (Kd.int .i64) _ 3 ?hg (N := 47) ?hd (xs := ([a1] : List Int)) (inner := [.int .i64 a1]) (ok := fun _ => True) (okp := fun _ => True) ?hr ?hp (fun _ hk => hk) trivial (Below.refl _ _) (Nat.le_refl _) (by simp) ?_; (case hd => rfl); (case hg => rfl); (case hr => first | (go_simp; done) | (go_simp; rfl)); (case hp => exact (Reps.one (show Kd.M (Kd.int .i64) _ _ _ a1 [.int .i64 a1] from rfl) (Reps.none _ _)))
       intro v111 w14 ho15 hb hg_ hnew_
       clear hg_ hnew_
       (first | rw [← Ny110.out] at ho15 | (simp only [Int.reduceToNat] at ho15; rw [← Ny110.out] at ho15))
       have n0_ := am (Kd.qZe ho15 (qQh (by exact h0q HB.out)))
       have n1_ := am (qQn (by exact h0q HB.out) hb)
       clear HB
       have HO112 := n0_
       have HB := n1_
       clear n0_ n1_ hb ho15
       refine hK.out _ _ trivial (fun hHeld => ?_)
       clear hK K
       refine norm_ (a' := ?_) ?_ ?_
       rotate_left
       ·show Act.put _ (some 47) _ = _
        exact pu
       refine one_ (i := 0) (N := some 41) (qQf.fl 13 1903) rfl rfl (qZ3 HT_.out (by kernel_rfl)) (by decide) (fun K hK => ?_)
       refine Kd.qZz (Kd.int .i64) _ 3 ?hg (N := 41) ?hd (xs := ([] : List Int)) (inner := []) (ok := fun _ => True) (okp := fun _ => True) ?hr ?hp (fun _ hk => hk) trivial (Below.refl _ _) (Nat.le_refl _) (by simp) ?_; (case hd => rfl); (case hg => rfl); (case hr => first | (go_simp; done) | (go_simp; rfl)); (case hp => exact (Reps.none _ _))
       intro v104 w16 ho17 hb hg_ hnew_
       clear hg_ hnew_
       (first | rw [← Ny103.out] at ho17 | (simp only [Int.reduceToNat] at ho17; rw [← Ny103.out] at ho17))
       have n0_ := am (Kd.qQ7 (by exact rq HO112.out) (Kd.qZo ho17) hb)
       have n1_ := am (Kd.qZe (Kd.qZn ho17 (Kd.R_lt (by exact rq HO112.out))) (qQh (by exact h0q HB.out)))
       have n2_ := am (qQn (by exact h0q HB.out) hb)
       clear HO112 HB
       have HO112 := n0_
       have HO105 := n1_
       have HB := n2_
       clear n0_ n1_ n2_ hb ho17
       refine hK.out _ _ trivial (fun hHeld => ?_)
       clear hK K
       refine norm_ (a' := ?_) ?_ ?_
       rotate_left
       ·show Act.put _ (some 41) _ = _
        exact pu
       refine one_ (i := 4) (N := some 45) (qQf.fl 13 1919) rfl rfl (qZ3 HT_.out (by kernel_rfl)) (by decide) (fun K hK => ?_)
       refine Kd.qQ5 (Kd.int .i64) (w0 := WR) WR.heap.size (by rfl) (.tmp 41) (.tmp 44) 35 3 (.int .i64 0) 8 rfl Try.underlying35 info3 rfl (by decide) (by omega) v104 y103 (xs.take (a2 : Int).toNat) _ _ _ (fun k_ => some k_ ≠ (v111 : Value).ownBlock) (fun _ => False) rfl rfl ?aO ?aR (fun _ _ h => h) (fun _ h => h.elim) ?aF ?aB ?aS ?aL ?_
       (case aR => have hr_ := (Kd.qZw HR106.out HB.out); rw [show (xs.take (a2 : Int).toNat).length = a2.toNat from (by rw [List.length_take]; have h_ : (a2 : Int) ≤ (xs.length : Int) := yd; omega)] at hr_; exact hr_)
       (case aB => exact (by exact h0q HB.out))
       (case aF => exact (fun k_ hk => Kd.fresh' (Kd.R_lt (by exact rq HO112.out)) k_ hk))
       (case aO => exact (by (with_reducible repeat (first | apply Kd.qQs | apply Kd.qQq | apply Kd.qQt)); exact Kd.qQv HO105.out (fun _ hk => hk.2)))
       (case aS => exact (qQh (by exact h0q HB.out)))
       (case aL => have := LMc6.out; have hlx_ := (show (xs.take (a2 : Int).toNat).length = a2.toNat from (by rw [List.length_take]; have h_ : (a2 : Int) ≤ (xs.length : Int) := yd; omega)); omega)
       intro v108 w18 ho hb hg hat
       rw [← Ny107.out] at ho
       have n0_ := am (Kd.qYx (ok := (fun _ => True)) (by exact rq HO112.out) hg hat)
       have n1_ := am (hb)
       have n2_ := am (ho)
       clear HO112 HB HO105
       have HO112 := n0_
       have HB := n1_
       have HO109 := n2_
       clear n0_ n1_ n2_ ho hb hg hat
       refine hK.out _ _ trivial (fun hHeld => ?_)
       clear hK K
       refine norm_ (a' := ?_) ?_ ?_
       rotate_left
       ·show Act.put _ (some 45) _ = _
        exact pu
       exact norm_ (by simp only [putAll, Act.put, List.setIfInBounds_toArray, List.set_cons_zero, List.set_cons_succ]) (hCont (v104, v108, v111) _ ⟨(by exact rq HO109.out), (by (with_reducible repeat (first | apply Kd.qQs | apply Kd.qQq | apply Kd.qQt)); exact Kd.qQv HO112.out (fun _ hk => hk.2)), (by exact h0q HB.out)⟩)
     rintro ⟨v104, v108, v111⟩ w19 ⟨h0_, h1_, h2_⟩
     have n0_ : Aside0 (Kd.R (Kd.int .i64) 3 w19 WR.heap.size (fun k_ => some k_ ≠ (v111 : Value).ownBlock) v108 y107) := ⟨h0_⟩
     have n1_ : Aside0 (Kd.R (Kd.int .i64) 3 w19 WR.heap.size (fun k_ => some k_ ≠ (v108 : Value).ownBlock) v111 y110) := ⟨h1_⟩
     have n2_ : Aside0 (Below WR.heap.size WR w19) := ⟨h2_⟩
     clear HB h0_ h1_ h2_
     have HO109 := n0_
     have HO112 := n1_
     have HB := n2_
     clear n0_ n1_ n2_
     have hHeld := trivial
     obtain ⟨Ao21, co21, eo21⟩ := Kd.qZ8 HO112.out
     (first | subst eo21 | (injection eo21 with f1_ f2_ f3_; have f4_ := f1_.symm; have f5_ := f3_.symm; clear f1_ f2_ f3_; subst f4_; subst f5_))
     refine norm_ (a' := ?_) ?_ ?_
     rotate_left
     ·simp only [putAll, Act.put, List.setIfInBounds_toArray, List.set_cons_zero, List.set_cons_succ]
      rfl
     refine one_ (i := 7) (N := some 48) (qQf.fl 13 2047) rfl rfl (qZ3 HT_.out (by kernel_rfl)) (by decide) (fun K hK => ?_)
     refine Kd.qQ5 (Kd.int .i64) (w0 := WR) WR.heap.size (by rfl) (.tmp 45) (.tmp 47) 35 3 (.int .i64 0) 8 rfl Try.underlying35 info3 rfl (by decide) (by omega) v108 y107 y110 _ _ _ (fun k_ => some k_ ≠ (.slice Ao21 y110.length co21 : Value).ownBlock) (fun _ => False) rfl rfl ?aO ?aR (fun _ _ h => h) (fun _ h => h.elim) ?aF ?aB ?aS ?aL ?_
     (case aR => exact cq ((Kd.qQx HO112.out).2.2))
     (case aB => exact (by exact h0q HB.out))
     (case aF => exact (fun k_ hk => Kd.fresh' (Kd.R_lt (by exact rq HO112.out)) k_ hk))
     (case aO => exact (by exact rq HO109.out))
     (case aS => exact (qQh (by exact h0q HB.out)))
     (case aL => have := LMc7.out; omega)
     intro v114 w20 ho hb hg hat
     rw [← Ny113.out] at ho
     have n0_ := am (Kd.qYx (ok := (fun _ => True)) (by (with_reducible repeat (first | apply Kd.qQs | apply Kd.qQq | apply Kd.qQt)); exact Kd.qQv HO112.out (fun _ hk => ⟨trivial, hk⟩)) hg hat)
     have n1_ := am (hb)
     have n2_ := am (ho)
     clear HO112 HB HO109
     have HO112 := n0_
     have HB := n1_
     have HO115 := n2_
     clear n0_ n1_ n2_ ho hb hg hat
     refine hK.out _ _ trivial (fun hHeld => ?_)
     clear hK K
     refine norm_ (a' := ?_) ?_ ?_
     rotate_left
     ·show Act.put _ (some 48) _ = _
      exact pu
     refine one_ (i := 11) (N := some 52) (qQf.fl 13 4095) rfl rfl (qZ3 HT_.out (by kernel_rfl)) (by decide) (fun K hK => ?_)
     refine Kd.qQ5 (Kd.int .i64) (w0 := WR) WR.heap.size (by rfl) (.tmp 48) (.tmp 51) 35 3 (.int .i64 0) 8 rfl Try.underlying35 info3 rfl (by decide) (by omega) v114 y113 (xs.drop (a2 : Int).toNat) _ _ _ (fun k_ => some k_ ≠ (.slice Ao21 y110.length co21 : Value).ownBlock) (fun _ => False) rfl rfl ?aO ?aR (fun _ _ h => h) (fun _ h => h.elim) ?aF ?aB ?aS ?aL ?_
     (case aR => have hr_ := (Kd.qZw HR116.out HB.out); rw [show (xs.drop (a2 : Int).toNat).length = (xs.length - a2.toNat) from List.length_drop] at hr_; exact hr_)
     (case aB => exact (by exact h0q HB.out))
     (case aF => exact (fun k_ hk => Kd.fresh' (Kd.R_lt (by exact rq HO112.out)) k_ hk))
     (case aO => exact (by exact rq HO115.out))
     (case aS => exact (qQh (by exact h0q HB.out)))
     (case aL => have := LMc10.out; have hlx_ := (show (xs.drop (a2 : Int).toNat).length = (xs.length - a2.toNat) from List.length_drop); omega)
     intro v118 w22 ho hb hg hat
     rw [← Ny117.out] at ho
     have n0_ := am (Kd.qYx (ok := (fun _ => True)) (by exact rq HO112.out) hg hat)
     have n1_ := am (hb)
     have n2_ := am (ho)
     clear HO112 HB HO115
     have HO112 := n0_
     have HB := n1_
     have HO119 := n2_
     clear n0_ n1_ n2_ ho hb hg hat
     refine hK.out _ _ trivial (fun hHeld => ?_)
     clear hK K
     refine norm_ (a' := ?_) ?_ ?_
     rotate_left
     ·show Act.put _ (some 52) _ = _
      exact pu
     refine qQf.y 12 3 13 8191 HT_.out ?_
     refine done_ (qYw HT_.out (by kernel_rfl)) ?_
     go_wp2
     go_roundg (n - (i + 1))
     case measure => have := HI.out; omega
     case rel => exact ⟨i + 1, _, rfl, (by have := HI.out; have := HN5.out; rw [HA1.out]; first | rfl | (go_num; done) | (congr 1; rw [wrap64]; omega) | (simp; omega)), HI.out, Nat.le_refl _, ⟨by rw [← HFIN.out]; exact Kd.qQv (Kd.qZe HO119.out HLOW.out) (fun _ _ => trivial)⟩, ⟨HBO.out.trans (HB.out.mono HLOW.out)⟩⟩
  ·have hltz : ¬ (i : Int) < (n : Int) := by omega
   obtain rfl : i = n := by omega
   have hop : opP l0 i = opN l0 := by have := HN.out; rw [← qKg, this]
   rw [hop] at HO_3
   clear hop hin hlt
   go_wp2
   go_ret
   exact ⟨_, rfl, HO_3.out, HB.out⟩
set_option maxHeartbeats 8000000 in
set_option maxRecDepth 100000 in
theorem qYi.callsD (a0_0 : Int) (a0_1 : Int) (a0_2 : Int) (a0_3 : Int) (a0_4 : Int) (a0_5 : Int) (a0_6 : Bool) (a0_7 : Int) (a0_8 : Int) (a0_9 : Int) (a0_10 : Int) (a0_11 : Int) (a0_12 : Int) (a1_0 : Int) (a1_1 : Int) (a1_2 : Int) (a1_3 : Int) (a1_4 : Int) (a1_5 : Int) (a1_6 : Bool) (a1_7 : Int) (a1_8 : Int) (a1_9 : Int) (a1_10 : Int) (a1_11 : Int) (a1_12 : Int) (r : Bool) (w : World) (h : qYi.f a0_0 a0_1 a0_2 a0_3 a0_4 a0_5 a0_6 a0_7 a0_8 a0_9 a0_10 a0_11 a0_12 a1_0 a1_1 a1_2 a1_3 a1_4 a1_5 a1_6 a1_7 a1_8 a1_9 a1_10 a1_11 a1_12 = some r) :
  Calls Try.prog 36 #[.agg #[.int .i64 a0_0, .int .i64 a0_1, .int .i64 a0_2, .int .i64 a0_3, .int .i64 a0_4, .int .i64 a0_5, .bool a0_6, .int .i64 a0_7, .int .i64 a0_8, .int .i64 a0_9, .int .i64 a0_10, .int .i64 a0_11, .int .i64 a0_12], .agg #[.int .i64 a1_0, .int .i64 a1_1, .int .i64 a1_2, .int .i64 a1_3, .int .i64 a1_4, .int .i64 a1_5, .bool a1_6, .int .i64 a1_7, .int .i64 a1_8, .int .i64 a1_9, .int .i64 a1_10, .int .i64 a1_11, .int .i64 a1_12]] w fun e w' => e = .returned (.bool r) ∧ Below w.heap.size w w' ∧ w.drawn ≤ w'.drawn := by
 have hu43 := Try.underlying43
 have HB := am (Below.refl w.heap.size w)
 have DR := am (Nat.le_refl w.drawn)
 have H : (if a0_5 > a1_5 then (some true) else (if a0_5 = a1_5 then (some (decide (a0_0 < a1_0))) else (some false))) = some r := h
 clear h
 by_cases c3 : a0_5 > a1_5
 ·rw [if_pos c3] at H
  have c3b0 : decide (a1_5 < a0_5) = true := decide_eq_true c3
  clear c3
  obtain rfl := Option.some.inj H
  go_enter Try.func36, Try.ntmps36
  go_wp2_with (first | ((with_reducible refine qZj (N := 2) rfl ?_); refine qYp ?hg (N := 2) ?hd (cs := #[.int .i64 a0_0, .int .i64 a0_1, .int .i64 a0_2, .int .i64 a0_3, .int .i64 a0_4, .int .i64 a0_5, .bool a0_6, .int .i64 a0_7, .int .i64 a0_8, .int .i64 a0_9, .int .i64 a0_10, .int .i64 a0_11, .int .i64 a0_12]) (t := 43) ?hr ?_; (case hd => rfl); (case hg => rfl); (case hr => first | (go_simp; done) | (go_simp; rfl)); intro gb221 hg w4 hbox hb hdr; have nd_ := am (Nat.le_trans DR.out (Nat.le_of_eq hdr.symm)); clear DR hdr; have DR := nd_; clear nd_; have n0_ := am (qQn (by exact h0q HB.out) hb); have n1_ := am (hbox); have n2_ := am ((by rw [hg]; exact (qQh (by exact h0q HB.out)) : w.heap.size ≤ gb221)); have n3_ := am ((by rw [hg]; exact (qQh (by exact h0q HB.out)) : w.heap.size ≤ gb221)); clear HB; have HB := n0_; have BK221 := n1_; have GW221 := n2_; have GE221 := n3_; clear n0_ n1_ n2_ n3_; clear hb hbox hg) | ((with_reducible refine qZj (N := 3) rfl ?_); refine qYp ?hg (N := 3) ?hd (cs := #[.int .i64 a1_0, .int .i64 a1_1, .int .i64 a1_2, .int .i64 a1_3, .int .i64 a1_4, .int .i64 a1_5, .bool a1_6, .int .i64 a1_7, .int .i64 a1_8, .int .i64 a1_9, .int .i64 a1_10, .int .i64 a1_11, .int .i64 a1_12]) (t := 43) ?hr ?_; (case hd => rfl); (case hg => rfl); (case hr => first | (go_simp; done) | (go_simp; rfl)); intro gb222 hg w5 hbox hb hdr; have nd_ := am (Nat.le_trans DR.out (Nat.le_of_eq hdr.symm)); clear DR hdr; have DR := nd_; clear nd_; have n0_ := am (qQu (g := gb221) (Up.up BK221.out) hb); have n1_ := am (qQn (by exact h1q HB.out GE221.out) hb); have n2_ := am (hbox); have n3_ := am ((by rw [hg]; exact (qQh (by exact h1q HB.out GE221.out)) : w.heap.size ≤ gb222)); have n4_ := am ((by rw [hg]; exact (qQh (by exact h1q HB.out GE221.out)) : w.heap.size ≤ gb222)); have n5_ := am ((by rw [hg]; exact Nat.ne_of_lt (qZd (g := gb221) (Up.up BK221.out)) : gb221 ≠ gb222)); have n6_ := am ((by rw [hg]; exact Nat.ne_of_gt (qZd (g := gb221) (Up.up BK221.out)) : gb222 ≠ gb221)); clear BK221; clear HB; have BK221 := n0_; have HB := n1_; have BK222 := n2_; have GW222 := n3_; have GE222 := n4_; have NB221_222 := n5_; have NB222_221 := n6_; clear n0_ n1_ n2_ n3_ n4_ n5_ n6_; clear hb hbox hg; have hnb6 := NB221_222.out; have hnc6 := NB222_221.out; have hz7 := lc13 BK221.out; have hz8 := lc13 BK222.out))
  go_ret
  exact ⟨er, by exact h2q HB.out GE221.out GE222.out, Nat.le_trans DR.out (by first | exact Nat.le_refl _ | (simp only [World.drewN, World.drew]; omega))⟩
 rw [if_neg c3] at H
 have c3b0 : decide (a1_5 < a0_5) = false := decide_eq_false c3
 clear c3
 by_cases c9 : a0_5 = a1_5
 case neg =>
  rw [if_neg c9] at H
  have c9b0 : (a0_5 == a1_5) = false := beq_eq_false_iff_ne.mpr c9
  have c9b1 : (a0_5 != a1_5) = true := bne_iff_ne.mpr c9
  obtain rfl := Option.some.inj H
  go_enter Try.func36, Try.ntmps36
  go_wp2_with (first | ((with_reducible refine qZj (N := 2) rfl ?_); refine qYp ?hg (N := 2) ?hd (cs := #[.int .i64 a0_0, .int .i64 a0_1, .int .i64 a0_2, .int .i64 a0_3, .int .i64 a0_4, .int .i64 a0_5, .bool a0_6, .int .i64 a0_7, .int .i64 a0_8, .int .i64 a0_9, .int .i64 a0_10, .int .i64 a0_11, .int .i64 a0_12]) (t := 43) ?hr ?_; (case hd => rfl); (case hg => rfl); (case hr => first | (go_simp; done) | (go_simp; rfl)); intro gb221 hg w15 hbox hb hdr; have nd_ := am (Nat.le_trans DR.out (Nat.le_of_eq hdr.symm)); clear DR hdr; have DR := nd_; clear nd_; have n0_ := am (qQn (by exact h0q HB.out) hb); have n1_ := am (hbox); have n2_ := am ((by rw [hg]; exact (qQh (by exact h0q HB.out)) : w.heap.size ≤ gb221)); have n3_ := am ((by rw [hg]; exact (qQh (by exact h0q HB.out)) : w.heap.size ≤ gb221)); clear HB; have HB := n0_; have BK221 := n1_; have GW221 := n2_; have GE221 := n3_; clear n0_ n1_ n2_ n3_; clear hb hbox hg) | ((with_reducible refine qZj (N := 3) rfl ?_); refine qYp ?hg (N := 3) ?hd (cs := #[.int .i64 a1_0, .int .i64 a1_1, .int .i64 a1_2, .int .i64 a1_3, .int .i64 a1_4, .int .i64 a1_5, .bool a1_6, .int .i64 a1_7, .int .i64 a1_8, .int .i64 a1_9, .int .i64 a1_10, .int .i64 a1_11, .int .i64 a1_12]) (t := 43) ?hr ?_; (case hd => rfl); (case hg => rfl); (case hr => first | (go_simp; done) | (go_simp; rfl)); intro gb222 hg w16 hbox hb hdr; have nd_ := am (Nat.le_trans DR.out (Nat.le_of_eq hdr.symm)); clear DR hdr; have DR := nd_; clear nd_; have n0_ := am (qQu (g := gb221) (Up.up BK221.out) hb); have n1_ := am (qQn (by exact h1q HB.out GE221.out) hb); have n2_ := am (hbox); have n3_ := am ((by rw [hg]; exact (qQh (by exact h1q HB.out GE221.out)) : w.heap.size ≤ gb222)); have n4_ := am ((by rw [hg]; exact (qQh (by exact h1q HB.out GE221.out)) : w.heap.size ≤ gb222)); have n5_ := am ((by rw [hg]; exact Nat.ne_of_lt (qZd (g := gb221) (Up.up BK221.out)) : gb221 ≠ gb222)); have n6_ := am ((by rw [hg]; exact Nat.ne_of_gt (qZd (g := gb221) (Up.up BK221.out)) : gb222 ≠ gb221)); clear BK221; clear HB; have BK221 := n0_; have HB := n1_; have BK222 := n2_; have GW222 := n3_; have GE222 := n4_; have NB221_222 := n5_; have NB222_221 := n6_; clear n0_ n1_ n2_ n3_ n4_ n5_ n6_; clear hb hbox hg; have hnb17 := NB221_222.out; have hnc17 := NB222_221.out; have hz18 := lc13 BK221.out; have hz19 := lc13 BK222.out))
  go_ret
  exact ⟨er, by exact h2q HB.out GE221.out GE222.out, Nat.le_trans DR.out (by first | exact Nat.le_refl _ | (simp only [World.drewN, World.drew]; omega))⟩
 rw [if_pos c9] at H
 have c9b0 : (a0_5 == a1_5) = true := beq_iff_eq.mpr c9
 have c9b1 : (a0_5 != a1_5) = false := bne_eq_false_iff_eq.mpr c9
 clear c9
 obtain rfl := Option.some.inj H
 go_enter Try.func36, Try.ntmps36
 go_wp2_with (first | ((with_reducible refine qZj (N := 2) rfl ?_); refine qYp ?hg (N := 2) ?hd (cs := #[.int .i64 a0_0, .int .i64 a0_1, .int .i64 a0_2, .int .i64 a0_3, .int .i64 a0_4, .int .i64 a0_5, .bool a0_6, .int .i64 a0_7, .int .i64 a0_8, .int .i64 a0_9, .int .i64 a0_10, .int .i64 a0_11, .int .i64 a0_12]) (t := 43) ?hr ?_; (case hd => rfl); (case hg => rfl); (case hr => first | (go_simp; done) | (go_simp; rfl)); intro gb221 hg w10 hbox hb hdr; have nd_ := am (Nat.le_trans DR.out (Nat.le_of_eq hdr.symm)); clear DR hdr; have DR := nd_; clear nd_; have n0_ := am (qQn (by exact h0q HB.out) hb); have n1_ := am (hbox); have n2_ := am ((by rw [hg]; exact (qQh (by exact h0q HB.out)) : w.heap.size ≤ gb221)); have n3_ := am ((by rw [hg]; exact (qQh (by exact h0q HB.out)) : w.heap.size ≤ gb221)); clear HB; have HB := n0_; have BK221 := n1_; have GW221 := n2_; have GE221 := n3_; clear n0_ n1_ n2_ n3_; clear hb hbox hg) | ((with_reducible refine qZj (N := 3) rfl ?_); refine qYp ?hg (N := 3) ?hd (cs := #[.int .i64 a1_0, .int .i64 a1_1, .int .i64 a1_2, .int .i64 a1_3, .int .i64 a1_4, .int .i64 a1_5, .bool a1_6, .int .i64 a1_7, .int .i64 a1_8, .int .i64 a1_9, .int .i64 a1_10, .int .i64 a1_11, .int .i64 a1_12]) (t := 43) ?hr ?_; (case hd => rfl); (case hg => rfl); (case hr => first | (go_simp; done) | (go_simp; rfl)); intro gb222 hg w11 hbox hb hdr; have nd_ := am (Nat.le_trans DR.out (Nat.le_of_eq hdr.symm)); clear DR hdr; have DR := nd_; clear nd_; have n0_ := am (qQu (g := gb221) (Up.up BK221.out) hb); have n1_ := am (qQn (by exact h1q HB.out GE221.out) hb); have n2_ := am (hbox); have n3_ := am ((by rw [hg]; exact (qQh (by exact h1q HB.out GE221.out)) : w.heap.size ≤ gb222)); have n4_ := am ((by rw [hg]; exact (qQh (by exact h1q HB.out GE221.out)) : w.heap.size ≤ gb222)); have n5_ := am ((by rw [hg]; exact Nat.ne_of_lt (qZd (g := gb221) (Up.up BK221.out)) : gb221 ≠ gb222)); have n6_ := am ((by rw [hg]; exact Nat.ne_of_gt (qZd (g := gb221) (Up.up BK221.out)) : gb222 ≠ gb221)); clear BK221; clear HB; have BK221 := n0_; have HB := n1_; have BK222 := n2_; have GW222 := n3_; have GE222 := n4_; have NB221_222 := n5_; have NB222_221 := n6_; clear n0_ n1_ n2_ n3_ n4_ n5_ n6_; clear hb hbox hg; have hnb12 := NB221_222.out; have hnc12 := NB222_221.out; have hz13 := lc13 BK221.out; have hz14 := lc13 BK222.out))
 go_ret
 exact ⟨er, by exact h2q HB.out GE221.out GE222.out, Nat.le_trans DR.out (by first | exact Nat.le_refl _ | (simp only [World.drewN, World.drew]; omega))⟩
theorem qJ9 (x y : S43) : qYi.f x.f0 x.f1 x.f2 x.f3 x.f4 x.f5 x.f6 x.f7 x.f8 x.f9 x.f10 x.f11 x.f12 y.f0 y.f1 y.f2 y.f3 y.f4 y.f5 y.f6 y.f7 y.f8 y.f9 y.f10 y.f11 y.f12 = some (decide (x.f5 > y.f5 ∨ x.f5 = y.f5 ∧ x.f0 < y.f0)) := by
 unfold qYi.f
 by_cases c : x.f5 > y.f5
 ·rw [if_pos c]; simp [c]
 ·rw [if_neg c]
  by_cases c2 : x.f5 = y.f5
  ·rw [if_pos c2]; simp [c2]
  rw [if_neg c2]; simp [c, c2]
open Go.Shelf Go.Sort in
theorem ahead_grow (x y : S43) (b : Bool) (hb : decide (x.f5 > y.f5 ∨ x.f5 = y.f5 ∧ x.f0 < y.f0) = b) (w1 : World) : Calls Try.prog 36 #[.agg #[.int .i64 x.f0, .int .i64 x.f1, .int .i64 x.f2, .int .i64 x.f3, .int .i64 x.f4, .int .i64 x.f5, .bool x.f6, .int .i64 x.f7, .int .i64 x.f8, .int .i64 x.f9, .int .i64 x.f10, .int .i64 x.f11, .int .i64 x.f12], .agg #[.int .i64 y.f0, .int .i64 y.f1, .int .i64 y.f2, .int .i64 y.f3, .int .i64 y.f4, .int .i64 y.f5, .bool y.f6, .int .i64 y.f7, .int .i64 y.f8, .int .i64 y.f9, .int .i64 y.f10, .int .i64 y.f11, .int .i64 y.f12]] w1 fun e w' => e = .returned (.bool b) ∧ ∃ n os, w' = grow (w1.drewN n) os :=
 (qYi.callsD x.f0 x.f1 x.f2 x.f3 x.f4 x.f5 x.f6 x.f7 x.f8 x.f9 x.f10 x.f11 x.f12 y.f0 y.f1 y.f2 y.f3 y.f4 y.f5 y.f6 y.f7 y.f8 y.f9 y.f10 y.f11 y.f12 b w1 (by rw [← hb]; exact qJ9 x y)).mono (fun e w' ⟨h1, h2, h3⟩ => ⟨h1, qXp h2 h3⟩)
open Go.Shelf Go.Sort in
theorem below_grow (w : World) (n : Nat) (os : Array Obj) : RowKit.Below w.heap.size w (grow (w.drewN n) os) := by
 refine ⟨rfl, rfl, rfl, ?_, fun k hk => ?_⟩
 ·show w.heap.size ≤ (w.heap ++ os).size; rw [Array.size_append]; omega
 ·show (w.heap ++ os)[k]? = _; rw [Array.getElem?_append_left hk]
def qQz.T9 : Bool × List (List Nat × List Nat) := (true, [([], []), ([], []), ([], []), ([1, 2], [1, 2]), ([0, 3], [0, 3]), ([], []), ([5], [5]), ([4, 6, 4], [4, 6]), ([], []), ([], []), ([8, 9], [8, 9]), ([7, 10, 7], [7, 10]), ([11, 11, 0, 1, 2, 3, 4, 5, 6, 7, 8, 9, 10, 11], [1, 8, 11])])
def qQz.B9 : List Nat := [0, 0, 0, 6, 15, 0, 32, 127, 0, 0, 768, 2047, 4095]
theorem qQz.tab1 : rtab .any (opsOf Try.f13 9) = qQz.T9 := by kernel_rfl
theorem qQz.bits1 : waitsOk qQz.T9.2 qQz.B9 = true := by kernel_rfl
def qQz.f (k : Nat) (l0 : List S43) : Option (List Int) := if l0.length ≤ 100000 then some (toI (plD l0)) else none
set_option maxHeartbeats 80000000 in
set_option maxRecDepth 100000 in
theorem qQz.calls (k : Nat) (A0 : Option Addr) (c0 : Nat) (l0 : List S43) (r : List Int) (w : World) (hr0 : Kd.C k43 w A0 l0.length l0) (hc0 : l0.length ≤ c0) (h : qQz.f k l0 = some r) :
  Calls Try.prog 13 #[.slice A0 l0.length c0] w fun e w' => ∃ v0_ : Value, e = .returned v0_ ∧ Kd.R (Kd.int .i64) 3 w' w.heap.size (fun _ => True) v0_ r ∧ Below w.heap.size w w' := by
 by_cases c : l0.length ≤ 100000
 case neg => rw [qQz.f, if_neg c] at h; cases h
 rw [qQz.f, if_pos c] at h
 obtain rfl := Option.some.inj h
 clear h
 have hu43 := Try.underlying43
 obtain ⟨n, hn⟩ : ∃ n, l0.length = n := ⟨_, rfl⟩
 rw [hn] at hr0 hc0 c ⊢
 have HN := am hn
 have HRL := am hr0
 have HN5 := am c
 clear hn hr0 hc0 c
 have HB := am (Below.refl w.heap.size w)
 go_enter Try.func13, Try.ntmps13
 go_wp2
 go_loopg [3, 4] n (fun kx v3 v4 wr => ∃ (i : Nat) (V3 : Value), V3 = v3 ∧ v4 = .int .i64 i ∧ i ≤ n ∧ n - i ≤ kx ∧ Aside0 (Kd.R (Kd.int .i64) 3 wr w.heap.size (fun _ => True) V3 (toI (srt (drR l0) (opP l0 i)))) ∧ Aside0 (Below w.heap.size w wr))
 case atStart => exact ⟨0, _, rfl, by first | rfl | go_num, by omega, by omega, ⟨Kd.R_nil _ _ _ _ _⟩, HB⟩
 case round =>
  clear HB
  obtain ⟨i, V3, rfl, rfl, hin, hkx, HO_3, HB⟩ := hrel
  by_cases hlt : i < n
  ·have hltz : (i : Int) < (n : Int) := by omega
   have hltp : (0 : Int) ≤ (i : Int) := by omega
   obtain ⟨ad103, e103, t0, t1, t2, t3, t4, t5, t6, t7, t8, t9, t10, t11, t12⟩ := qYl (Kd.qZw HRL.out HB.out) (i : Int) hltp hltz
   cases e103
   simp only [Int.toNat_natCast] at t0 t1 t2 t3 t4 t5 t6 t7 t8 t9 t10 t11 t12
   have hs := qY4 l0 i
   have HI := am (show i + 1 ≤ n by omega)
   by_cases c5 : ((qQc l0 (i : Int)).f8) = 0
   case neg =>
    have c5b1 : (((qQc l0 (i : Int)).f8) != 0) = true := bne_iff_ne.mpr c5
    rw [if_neg c5] at hs
    have HS2 := am hs
    clear hs c5
    go_wp2
    go_roundg (n - (i + 1))
    case measure => have := HI.out; omega
    case rel => exact ⟨i + 1, _, rfl, (by have := HI.out; have := HN5.out; first | rfl | (go_num; done) | (congr 1; rw [wrap64]; omega) | (simp; omega)), HI.out, Nat.le_refl _, ⟨by rw [HS2.out]; (with_reducible repeat (first | apply Kd.qQs | apply Kd.qQq | apply Kd.qQt)); exact HO_3.out⟩, ⟨(by exact h0q HB.out)⟩⟩
   have c5b1 : (((qQc l0 (i : Int)).f8) != 0) = false := bne_eq_false_iff_eq.mpr c5
   have HF8 := am c5
   obtain ⟨xs, hxs⟩ : ∃ xs, xs = toI (srt (drR l0) (opP l0 i)) := ⟨_, rfl⟩
   rw [← hxs] at HO_3
   obtain ⟨Ai, ci, rfl, hci, _⟩ := Kd.qWz HO_3.out
   have hlm : xs.length = (srt (drR l0) (opP l0 i)).length := by rw [hxs, qYk]
   have hmn : xs.length ≤ 100000 := by rw [hlm, (qY7 _ _).length_eq]; have := qW3 l0 i; have := HN5.out; omega
   obtain ⟨m, hm⟩ : ∃ m, xs.length = m := ⟨_, rfl⟩
   rw [hm] at hlm hmn hci HO_3 ⊢
   have HXS := am hxs
   have HXM := am hm
   have HLM := am hlm
   have HM5 := am hmn
   clear c5 hs hxs hm hlm hmn
   go_wp2
   clear t0 t1 t2 t3 t4 t5 t6 t7 t8 t9 t10 t11 t12 c5b1
   go_loopg [5] m (fun kx v5 wr2 => ∃ (j : Nat), v5 = .int .i64 j ∧ j ≤ m ∧ j ≤ kx ∧ Aside0 (∀ q, j ≤ q → q < m → drR l0 i ((srt (drR l0) (opP l0 i)).getD q 0) = true) ∧ Aside0 (Kd.R (Kd.int .i64) 3 wr2 w.heap.size (fun _ => True) (.slice Ai m ci) xs) ∧ Aside0 (Below w.heap.size w wr2))
   case atStart => exact ⟨m, by first | rfl | go_num, Nat.le_refl _, Nat.le_refl _, ⟨fun q h1 h2 => by omega⟩, ⟨by exact rq HO_3.out⟩, ⟨(by exact h0q HB.out)⟩⟩
   case round =>
    clear HO_3 HB
    obtain ⟨j, rfl, hjm, hjk, HJ, HO_3, HB⟩ := hrel
    have HJM := am hjm
    by_cases hj0 : 0 < j
    ·obtain ⟨jp, hjp⟩ : ∃ jp, jp + 1 = j := ⟨j - 1, by omega⟩
     obtain ⟨adx, eax, hxc⟩ := Kd.qYa (Kd.qQx HO_3.out).2.2 (jp : Int) (by omega) (by rw [HXM.out]; omega)
     cases eax
     simp only [Int.toNat_natCast] at hxc
     obtain ⟨p, hp⟩ : ∃ p, p = (srt (drR l0) (opP l0 i)).getD jp 0 := ⟨_, rfl⟩
     have hpi : p < i := by
      have h1 : jp < (srt (drR l0) (opP l0 i)).length := by have := HLM.out; omega
      have h2 : p ∈ srt (drR l0) (opP l0 i) := by rw [hp, List.getD_eq_getElem?_getD, List.getElem?_eq_getElem h1]; exact List.getElem_mem h1
      exact qK9 ((qY7 (drR l0) _).mem_iff.1 h2)
     rw [HXS.out, qK8 _ _ (by have := HLM.out; omega), ← hp] at hxc
     obtain ⟨adp, eap, v0, v1, v2, v3, v4, v5, v6, v7, v8, v9, v10, v11, v12⟩ := qYl (Kd.qZw HRL.out HB.out) (p : Int) (by omega) (by omega)
     cases eap
     obtain ⟨adi, eai, u0, u1, u2, u3, u4, u5, u6, u7, u8, u9, u10, u11, u12⟩ := qYl (Kd.qZw HRL.out HB.out) (i : Int) (by omega) (by omega)
     cases eai
     simp only [Int.toNat_natCast] at v0 v1 v2 v3 v4 v5 v6 v7 v8 v9 v10 v11 v12 u0 u1 u2 u3 u4 u5 u6 u7 u8 u9 u10 u11 u12
     have k0 : 0 < j := by omega
     have k1 : (0 : Int) < (j : Int) := by omega
     have k2 : decide ((j : Int) > 0) = true := decide_eq_true k1
     have k3 : IntKind.i64.wrap ((j : Int) - 1) = (jp : Int) := by have := HM5.out; rw [IntKind.wrap_i64]; omega
     have HJP := am hjp
     have k4 : (0 : Int) ≤ (jp : Int) := by omega
     have k5 : (jp : Int) < (m : Int) := by omega
     have k6 : (0 : Int) ≤ (p : Int) := by omega
     have k7 : (p : Int) < (n : Int) := by omega
     have k8 : (0 : Int) ≤ (i : Int) := by omega
     have k9 : (i : Int) < (n : Int) := by omega
     clear hjp
     have HP := am hp
     have HPI := am hpi
     obtain ⟨Y, hY⟩ : ∃ z, qQc l0 (p : Int) = z := ⟨_, rfl⟩
     obtain ⟨X, hX⟩ : ∃ z, qQc l0 (i : Int) = z := ⟨_, rfl⟩
     obtain ⟨b, hb⟩ : ∃ b, decide (X.f5 > Y.f5 ∨ X.f5 = Y.f5 ∧ X.f0 < Y.f0) = b := ⟨_, rfl⟩
     have hb1 : b = true → drR l0 i p = true := fun h => by rw [h] at hb; have := of_decide_eq_true hb; unfold drR; rw [hX, hY]; exact decide_eq_true (by omega)
     have hb2 : b = false → drR l0 p i = true := fun h => by rw [h] at hb; have := of_decide_eq_false hb; unfold drR; rw [hX, hY]; exact decide_eq_true (by omega)
     have hcc := ahead_grow X Y b hb
     rw [hX] at u0 u1 u2 u3 u4 u5 u6 u7 u8 u9 u10 u11 u12
     rw [hY] at v0 v1 v2 v3 v4 v5 v6 v7 v8 v9 v10 v11 v12
     clear hb
     obtain ⟨a0, a1, a2, a3, a4, a5, a6, a7, a8, a9, a10, a11, a12⟩ := X
     obtain ⟨b0, b1, b2, b3, b4, b5, b6, b7, b8, b9, b10, b11, b12⟩ := Y
     dsimp only at hcc u0 u1 u2 u3 u4 u5 u6 u7 u8 u9 u10 u11 u12 v0 v1 v2 v3 v4 v5 v6 v7 v8 v9 v10 v11 v12
     have HX := am hX
     have HY := am hY
     have HC : Aside _ := hcc
     have hmix : Try.prog.follows .mixedOrders = true := by kernel_rfl
     have ug0 := cell_grown (World.block_lt_of_cell? wr _ u0) u0
     have ug1 := cell_grown (World.block_lt_of_cell? wr _ u1) u1
     have ug2 := cell_grown (World.block_lt_of_cell? wr _ u2) u2
     have ug3 := cell_grown (World.block_lt_of_cell? wr _ u3) u3
     have ug4 := cell_grown (World.block_lt_of_cell? wr _ u4) u4
     have ug5 := cell_grown (World.block_lt_of_cell? wr _ u5) u5
     have ug6 := cell_grown (World.block_lt_of_cell? wr _ u6) u6
     have ug7 := cell_grown (World.block_lt_of_cell? wr _ u7) u7
     have ug8 := cell_grown (World.block_lt_of_cell? wr _ u8) u8
     have ug9 := cell_grown (World.block_lt_of_cell? wr _ u9) u9
     have ug10 := cell_grown (World.block_lt_of_cell? wr _ u10) u10
     have ug11 := cell_grown (World.block_lt_of_cell? wr _ u11) u11
     have ug12 := cell_grown (World.block_lt_of_cell? wr _ u12) u12
     have vg0 := cell_grown (World.block_lt_of_cell? wr _ v0) v0
     have vg1 := cell_grown (World.block_lt_of_cell? wr _ v1) v1
     have vg2 := cell_grown (World.block_lt_of_cell? wr _ v2) v2
     have vg3 := cell_grown (World.block_lt_of_cell? wr _ v3) v3
     have vg4 := cell_grown (World.block_lt_of_cell? wr _ v4) v4
     have vg5 := cell_grown (World.block_lt_of_cell? wr _ v5) v5
     have vg6 := cell_grown (World.block_lt_of_cell? wr _ v6) v6
     have vg7 := cell_grown (World.block_lt_of_cell? wr _ v7) v7
     have vg8 := cell_grown (World.block_lt_of_cell? wr _ v8) v8
     have vg9 := cell_grown (World.block_lt_of_cell? wr _ v9) v9
     have vg10 := cell_grown (World.block_lt_of_cell? wr _ v10) v10
     have vg11 := cell_grown (World.block_lt_of_cell? wr _ v11) v11
     have vg12 := cell_grown (World.block_lt_of_cell? wr _ v12) v12
     have gx := cell_grown (World.block_lt_of_cell? wr _ hxc) hxc
     clear hX hY hcc hp hpi u0 u1 u2 u3 u4 u5 u6 u7 u8 u9 u10 u11 u12 v0 v1 v2 v3 v4 v5 v6 v7 v8 v9 v10 v11 v12 hxc
     cases b with
     | true =>
      have HR_ := am (hb1 rfl)
      clear hb1 hb2
      go_upto_region 7 with (fail)
      go_quiet_grown (first | (go_at_call 36; refine Calls.grown_of (HC.out _)))
      clear ug0 ug1 ug2 ug3 ug4 ug5 ug6 ug7 ug8 ug9 ug10 ug11 ug12 vg0 vg1 vg2 vg3 vg4 vg5 vg6 vg7 vg8 vg9 vg10 vg11 vg12 gx HC
      have n0_ := am (Kd.qQw HO_3.out (below_grow wr nq osq))
      have n1_ := am (HB.out.trans ((below_grow wr nq osq).mono (qQh HB.out)))
      clear HO_3 HB
      have HO_3 := n0_
      have HB := n1_
      clear n0_ n1_
      generalize Go.Sort.grow (wr.drewN nq) osq = WR at HO_3 HB ⊢
      go_wp2
      go_roundg jp
      case measure => have := HJP.out; omega
      case rel => exact ⟨jp, by first | rfl | go_num | (congr 1), by have := HJP.out; have := HJM.out; omega, Nat.le_refl _, ⟨fun q h1 h2 => by
       by_cases e : q = jp
       ·subst e; have := HR_.out; rwa [HP.out] at this
       ·exact HJ.out q (by have := HJP.out; omega) h2⟩, ⟨by exact rq HO_3.out⟩, ⟨(by exact h0q HB.out)⟩⟩
     | false =>
      have hR := hb2 rfl
      rw [HP.out, show jp = j - 1 by have := HJP.out; omega] at hR
      have HA : Aside0 (j = 0 ∨ drR l0 ((srt (drR l0) (opP l0 i)).getD (j - 1) 0) i = true) := ⟨.inr hR⟩
      clear hR hb1 hb2
      go_upto_region 7 with (fail)
      go_quiet_grown (first | (go_at_call 36; refine Calls.grown_of (HC.out _)))
      clear ug0 ug1 ug2 ug3 ug4 ug5 ug6 ug7 ug8 ug9 ug10 ug11 ug12 vg0 vg1 vg2 vg3 vg4 vg5 vg6 vg7 vg8 vg9 vg10 vg11 vg12 gx HC HX HY HP HPI k0 k1 k2 k3 k4 k5 k6 k7 k8 k9 HJP
      have n0_ := am (Kd.qQw HO_3.out (below_grow wr nq osq))
      have n1_ := am (HB.out.trans ((below_grow wr nq osq).mono (qQh HB.out)))
      clear HO_3 HB
      have HO_3 := n0_
      have HB := n1_
      clear n0_ n1_
      generalize Go.Sort.grow (wr.drewN nq) osq = WR at HO_3 HB ⊢
      go_upto_region 9 with (fail)
      as_aux_lemma =>
      have hj2 := HJ.out
      have hxm_ := HXM.out
      subst hxm_
      have hlm_ := HLM.out
      have hmem : ∀ x ∈ (srt (drR l0) (opP l0 i)).drop j, drR l0 i x = true := by
       intro x hx
       obtain ⟨q, hq, rfl⟩ := List.getElem_of_mem hx
       rw [List.length_drop] at hq
       rw [List.getElem_drop]
       have := hj2 (j + q) (by omega) (by omega)
       rwa [List.getD_eq_getElem?_getD, List.getElem?_eq_getElem (by omega)] at this
      have hNd : (opP l0 i ++ [i]).Nodup := by
       have := (qXk l0 (i + 1)).imp (fun h => Nat.ne_of_lt h)
       rwa [qY4, if_pos HF8.out] at this
      have hins := qKq (qW9 l0) (opP l0 i) i hNd j hmem (qWe (qW9 l0) _ (List.nodup_append.1 hNd).1 i j (by have := HLM.out; omega) HA.out)
      have hnew : toI (srt (drR l0) (opP l0 (i + 1))) = (xs.take j ++ [(i : Int)]) ++ xs.drop j := by
       rw [qY4, if_pos HF8.out, ← hins, HXS.out]; unfold toI; rw [List.map_append, List.map_append, List.map_take, List.map_drop]; rfl
      have HNEW := am hnew
      clear hj2 hmem hNd hins hnew HJ HA hlm_
      obtain ⟨a2, ha2⟩ : ∃ z : Int, z = (j : Int) := ⟨_, rfl⟩
      obtain ⟨a1, ha1⟩ : ∃ z : Int, z = (i : Int) := ⟨_, rfl⟩
      rw [← ha1, ← ha2]
      have HA1 := am ha1
      have HA2 := am ha2
      have hjl : j ≤ xs.length := by rw [HXM.out]; exact HJM.out
      obtain ⟨y103, hy103⟩ : ∃ y_ : List Int, y_ = (([] : List Int)) := ⟨_, rfl⟩
      have Ny103 := am hy103
      have c4b0 := eq_true (show 0 ≤ a2 by omega)
      have c4b1 : decide (0 ≤ a2) = true := decide_eq_true (show 0 ≤ a2 by omega)
      have c5b0 := eq_true (show a2 ≤ (xs.length : Int) by omega)
      have c5b1 : decide (a2 ≤ (xs.length : Int)) = true := decide_eq_true (show a2 ≤ (xs.length : Int) by omega)
      have hxl : xs.length ≤ 100000 := by rw [HXM.out]; exact HM5.out
      have LMc6 := am (show y103.length + (xs.take (a2 : Int).toNat).length < 17592186044416 by rw [hy103, List.length_take, List.length_nil]; omega)
      obtain ⟨y107, hy107⟩ : ∃ y_ : List Int, y_ = (y103 ++ (xs.take (a2 : Int).toNat)) := ⟨_, rfl⟩
      have Ny107 := am hy107
      have hl7 : y107.length ≤ 100000 := by rw [hy107, hy103, List.nil_append, List.length_take]; omega
      obtain ⟨y110, hy110⟩ : ∃ y_ : List Int, y_ = (([a1] : List Int)) := ⟨_, rfl⟩
      have Ny110 := am hy110
      have hl10 : y110.length = 1 := by rw [hy110]; rfl
      have LMc7 := am (show y107.length + y110.length < 17592186044416 by omega)
      obtain ⟨y113, hy113⟩ : ∃ y_ : List Int, y_ = (y107 ++ y110) := ⟨_, rfl⟩
      have Ny113 := am hy113
      have LMc10 := am (show y113.length + (xs.drop (a2 : Int).toNat).length < 17592186044416 by rw [hy113, List.length_append, List.length_drop]; omega)
      obtain ⟨y117, hy117⟩ : ∃ y_ : List Int, y_ = (y113 ++ (xs.drop (a2 : Int).toNat)) := ⟨_, rfl⟩
      have Ny117 := am hy117
      have hfin : y117 = toI (srt (drR l0) (opP l0 (i + 1))) := by rw [HNEW.out, hy117, hy113, hy107, hy103, hy110, ha2, ha1, Int.toNat_natCast, List.nil_append]
      have HFIN := am hfin
      clear hfin hy103 hy107 hy110 hy113 hy117 hl7 hl10 hxl hjl ha1 ha2 HNEW
      have HXC := am (Kd.qQx HO_3.out).2.2
      have HXL := am hci
      have HLOW := am (qQh (by exact h0q HB.out))
      have HBO := am HB.out
      clear HB
      have HB := am (Below.refl WR.heap.size WR)
      clear hci HO_3
      have n0_ := am (qZg HB.out)
      clear HB
      have HB := n0_
      clear n0_
      obtain ⟨i012, hi012, _, hsz12, _⟩ := info_parts info3
      obtain ⟨hcut12, hA12, hC12⟩ := qXa (P := Try.prog) (Value.int .i64) 0 35 3 .i64 Try.underlying35 hi012 hsz12 (some adx) ci xs a2 (yd) (yd) HXL.out
      have HR106 := am (Kd.qY1 (h1 := fun _ => rfl) (hA12 _ (Kd.qYu HXC.out)))
      have HC106 := am hC12
      clear hA12 hC12 hi012 hsz12
      obtain ⟨i013, hi013, _, hsz13, _⟩ := info_parts info3
      obtain ⟨A13, hcut13, hA13, hC13⟩ := qY9 (P := Try.prog) (Value.int .i64) 0 35 3 .i64 Try.underlying35 hi013 hsz13 (some adx) ci xs a2 (yd) (yd) HXL.out
      have HR116 := am (Kd.qY1 (h1 := fun _ => rfl) (hA13 _ (Kd.qYu HXC.out)))
      have HC116 := am hC13
      clear hA13 hC13 hi013 hsz13
      refine start_ (n := 13) (S := fun w' => True) (ds := []) (qQf.fl 13 0) (by kernel_rfl) rfl rfl trivial (fun hHeld => ?_); refine qYg qQz.tab1 qQz.bits1 (fun HT_ HW_ => ?_)
      generalize WR.drew = w11 at HB HR106 HR116 hHeld ⊢
      refine qQf.y 1 40 13 2 HT_.out ?_
      refine qQf.y 2 41 13 6 HT_.out ?_
      refine qQf.y 3 42 13 14 HT_.out ?_
      refine qQf.y 5 44 13 46 HT_.out ?_
      refine qQf.y 8 47 13 302 HT_.out ?_
      refine qQf.y 9 48 13 814 HT_.out ?_
      refine qQf.y 10 49 13 1838 HT_.out ?_
      refine join_ (σ := Value × Value × Value) 3 (qQf.fl 13 1919) (fun s_ => [(39, s_.1), (43, s_.2.1), (45, s_.2.2)]) (fun s_ w' => (Kd.R (Kd.int .i64) 3 w' WR.heap.size (fun k_ => some k_ ≠ (s_.2.2 : Value).ownBlock) s_.2.1 y107) ∧ (Kd.R (Kd.int .i64) 3 w' WR.heap.size (fun k_ => some k_ ≠ (s_.2.1 : Value).ownBlock) s_.2.2 y110) ∧ (Below WR.heap.size WR w')) ?_ ?_
      rotate_left
      ·intro hCont
       refine two_ (i := 0) (j := 6) (Ni := some 39) (Nj := some 45) (qQf.fl 13 1839) (qQf.fl 13 1902) rfl rfl rfl rfl (qXj HT_.out (by kernel_rfl)) (by decide) (by decide) (fun K hK => ?_) (fun K hK => ?_)
       ·skip
        refine Kd.qZz (Kd.int .i64) _ 3 ?hg (N := 39) ?hd (xs := ([] : List Int)) (inner := []) (ok := fun _ => True) (okp := fun _ => True) ?hr ?hp (fun _ hk => hk) trivial (Below.refl _ _) (Nat.le_refl _) (by simp) ?_; (case hd => rfl); (case hg => rfl); (case hr => first | (go_simp; done) | (go_simp; rfl)); (case hp => exact (Reps.none _ _))
        intro v104 w14 ho15 hb hg_ hnew_
        clear hg_ hnew_
        (first | rw [← Ny103.out] at ho15 | (simp only [Int.reduceToNat] at ho15; rw [← Ny103.out] at ho15))
        have n0_ := am (Kd.qZe ho15 (qQh (by exact h0q HB.out)))
        have n1_ := am (qQn (by exact h0q HB.out) hb)
        clear HB
        have HO105 := n0_
        have HB := n1_
        clear n0_ n1_ hb ho15
        refine hK.out _ _ trivial (fun hHeld => ?_)
        clear hK K
        refine norm_ (a' := ?_) ?_ ?_
        rotate_left
        ·show Act.put _ (some 39) _ = _
         exact pu
        refine two_ (i := 4) (j := 6) (Ni := some 43) (Nj := some 45) (qQf.fl 13 1855) (qQf.fl 13 1903) rfl rfl rfl rfl (qXj HT_.out (by kernel_rfl)) (by decide) (by decide) (fun K hK => ?_) (fun K hK => ?_)
        ·skip
         refine Kd.qQ5 (Kd.int .i64) (w0 := WR) WR.heap.size (by rfl) (.tmp 39) (.tmp 42) 35 3 (.int .i64 0) 8 rfl Try.underlying35 info3 rfl (by decide) (by omega) v104 y103 (xs.take (a2 : Int).toNat) _ _ _ (fun _ => True) (fun _ => False) rfl rfl ?aO ?aR (fun _ _ h => h) (fun _ h => h.elim) ?aF ?aB ?aS ?aL ?_
         (case aR => have hr_ := (Kd.qZw HR106.out HB.out); rw [show (xs.take (a2 : Int).toNat).length = a2.toNat from (by rw [List.length_take]; have h_ : (a2 : Int) ≤ (xs.length : Int) := yd; omega)] at hr_; exact hr_)
         (case aB => exact (by exact h0q HB.out))
         (case aF => exact (fun _ _ => trivial))
         (case aO => exact (by exact rq HO105.out))
         (case aS => exact (qQh (by exact h0q HB.out)))
         (case aL => have := LMc6.out; have hlx_ := (show (xs.take (a2 : Int).toNat).length = a2.toNat from (by rw [List.length_take]; have h_ : (a2 : Int) ≤ (xs.length : Int) := yd; omega)); omega)
         intro v108 w16 ho hb hg hat
         rw [← Ny107.out] at ho
         have n0_ := am (hb)
         have n1_ := am (ho)
         clear HB HO105
         have HB := n0_
         have HO109 := n1_
         clear n0_ n1_ ho hb hg hat
         refine hK.out _ _ trivial (fun hHeld => ?_)
         clear hK K
         refine norm_ (a' := ?_) ?_ ?_
         rotate_left
         ·show Act.put _ (some 43) _ = _
          exact pu
         refine one_ (i := 6) (N := some 45) (qQf.fl 13 1919) rfl rfl (qZ3 HT_.out (by kernel_rfl)) (by decide) (fun K hK => ?_)
         refine Kd.qZz (Kd.int .i64) _ 3 ?hg (N := 45) ?hd (xs := ([a1] : List Int)) (inner := [.int .i64 a1]) (ok := fun _ => True) (okp := fun _ => True) ?hr ?hp (fun _ hk => hk) trivial (Below.refl _ _) (Nat.le_refl _) (by simp) ?_; (case hd => rfl); (case hg => rfl); (case hr => first | (go_simp; done) | (go_simp; rfl)); (case hp => exact (Reps.one (show Kd.M (Kd.int .i64) _ _ _ a1 [.int .i64 a1] from rfl) (Reps.none _ _)))
         intro v111 w17 ho18 hb hg_ hnew_
         clear hg_ hnew_
         (first | rw [← Ny110.out] at ho18 | (simp only [Int.reduceToNat] at ho18; rw [← Ny110.out] at ho18))
         have n0_ := am (Kd.qQ7 (by exact rq HO109.out) (Kd.qZo ho18) hb)
         have n1_ := am (Kd.qZe (Kd.qZn ho18 (Kd.R_lt (by exact rq HO109.out))) (qQh (by exact h0q HB.out)))
         have n2_ := am (qQn (by exact h0q HB.out) hb)
         clear HO109 HB
         have HO109 := n0_
         have HO112 := n1_
         have HB := n2_
         clear n0_ n1_ n2_ hb ho18
         refine hK.out _ _ trivial (fun hHeld => ?_)
         clear hK K
         refine norm_ (a' := ?_) ?_ ?_
         rotate_left
         ·show Act.put _ (some 45) _ = _
          exact pu
         exact norm_ (by simp only [putAll, Act.put, List.setIfInBounds_toArray, List.set_cons_zero, List.set_cons_succ]) (hCont (v104, v108, v111) _ ⟨(by (with_reducible repeat (first | apply Kd.qQs | apply Kd.qQq | apply Kd.qQt)); exact Kd.qQv HO109.out (fun _ hk => hk.2)), (by (with_reducible repeat (first | apply Kd.qQs | apply Kd.qQq | apply Kd.qQt)); exact Kd.qQv HO112.out (fun _ hk => hk.2)), (by exact h0q HB.out)⟩)
        ·skip
         refine Kd.qZz (Kd.int .i64) _ 3 ?hg (N := 45) ?hd (xs := ([a1] : List Int)) (inner := [.int .i64 a1]) (ok := fun _ => True) (okp := fun _ => True) ?hr ?hp (fun _ hk => hk) trivial (Below.refl _ _) (Nat.le_refl _) (by simp) ?_; (case hd => rfl); (case hg => rfl); (case hr => first | (go_simp; done) | (go_simp; rfl)); (case hp => exact (Reps.one (show Kd.M (Kd.int .i64) _ _ _ a1 [.int .i64 a1] from rfl) (Reps.none _ _)))
         intro v111 w16 ho17 hb hg_ hnew_
         clear hg_ hnew_
         (first | rw [← Ny110.out] at ho17 | (simp only [Int.reduceToNat] at ho17; rw [← Ny110.out] at ho17))
         have n0_ := am (Kd.qQ7 (by exact rq HO105.out) (Kd.qZo ho17) hb)
         have n1_ := am (Kd.qZe (Kd.qZn ho17 (Kd.R_lt (by exact rq HO105.out))) (qQh (by exact h0q HB.out)))
         have n2_ := am (qQn (by exact h0q HB.out) hb)
         clear HO105 HB
         have HO105 := n0_
         have HO112 := n1_
         have HB := n2_
         clear n0_ n1_ n2_ hb ho17
         refine hK.out _ _ trivial (fun hHeld => ?_)
         clear hK K
         refine norm_ (a' := ?_) ?_ ?_
         rotate_left
         ·show Act.put _ (some 45) _ = _
          exact pu
         refine one_ (i := 4) (N := some 43) (qQf.fl 13 1919) rfl rfl (qZ3 HT_.out (by kernel_rfl)) (by decide) (fun K hK => ?_)
         refine Kd.qQ5 (Kd.int .i64) (w0 := WR) WR.heap.size (by rfl) (.tmp 39) (.tmp 42) 35 3 (.int .i64 0) 8 rfl Try.underlying35 info3 rfl (by decide) (by omega) v104 y103 (xs.take (a2 : Int).toNat) _ _ _ (fun k_ => some k_ ≠ (v111 : Value).ownBlock) (fun _ => False) rfl rfl ?aO ?aR (fun _ _ h => h) (fun _ h => h.elim) ?aF ?aB ?aS ?aL ?_
         (case aR => have hr_ := (Kd.qZw HR106.out HB.out); rw [show (xs.take (a2 : Int).toNat).length = a2.toNat from (by rw [List.length_take]; have h_ : (a2 : Int) ≤ (xs.length : Int) := yd; omega)] at hr_; exact hr_)
         (case aB => exact (by exact h0q HB.out))
         (case aF => exact (fun k_ hk => Kd.fresh' (Kd.R_lt (by exact rq HO112.out)) k_ hk))
         (case aO => exact (by (with_reducible repeat (first | apply Kd.qQs | apply Kd.qQq | apply Kd.qQt)); exact Kd.qQv HO105.out (fun _ hk => hk.2)))
         (case aS => exact (qQh (by exact h0q HB.out)))
         (case aL => have := LMc6.out; have hlx_ := (show (xs.take (a2 : Int).toNat).length = a2.toNat from (by rw [List.length_take]; have h_ : (a2 : Int) ≤ (xs.length : Int) := yd; omega)); omega)
         intro v108 w18 ho hb hg hat
         rw [← Ny107.out] at ho
         have n0_ := am (Kd.qYx (ok := (fun _ => True)) (by exact rq HO112.out) hg hat)
         have n1_ := am (hb)
         have n2_ := am (ho)
         clear HO112 HB HO105
         have HO112 := n0_
         have HB := n1_
         have HO109 := n2_
         clear n0_ n1_ n2_ ho hb hg hat
         refine hK.out _ _ trivial (fun hHeld => ?_)
         clear hK K
         refine norm_ (a' := ?_) ?_ ?_
         rotate_left
         ·show Act.put _ (some 43) _ = _
          exact pu
         exact norm_ (by simp only [putAll, Act.put, List.setIfInBounds_toArray, List.set_cons_zero, List.set_cons_succ]) (hCont (v104, v108, v111) _ ⟨(by exact rq HO109.out), (by (with_reducible repeat (first | apply Kd.qQs | apply Kd.qQq | apply Kd.qQt)); exact Kd.qQv HO112.out (fun _ hk => hk.2)), (by exact h0q HB.out)⟩)
       ·skip
        refine Kd.qZz (Kd.int .i64) _ 3 ?hg (N := 45) ?hd (xs := ([a1] : List Int)) (inner := [.int .i64 a1]) (ok := fun _ => True) (okp := fun _ => True) ?hr ?hp (fun _ hk => hk) trivial (Below.refl _ _) (Nat.le_refl _) (by simp) ?_; (case hd => rfl); (case hg => rfl); (case hr => first | (go_simp; done) | (go_simp; rfl)); (case hp => exact (Reps.one (show Kd.M (Kd.int .i64) _ _ _ a1 [.int .i64 a1] from rfl) (Reps.none _ _)))
        intro v111 w14 ho15 hb hg_ hnew_
        clear hg_ hnew_
        (first | rw [← Ny110.out] at ho15 | (simp only [Int.reduceToNat] at ho15; rw [← Ny110.out] at ho15))
        have n0_ := am (Kd.qZe ho15 (qQh (by exact h0q HB.out)))
        have n1_ := am (qQn (by exact h0q HB.out) hb)
        clear HB
        have HO112 := n0_
        have HB := n1_
        clear n0_ n1_ hb ho15
        refine hK.out _ _ trivial (fun hHeld => ?_)
        clear hK K
        refine norm_ (a' := ?_) ?_ ?_
        rotate_left
        ·show Act.put _ (some 45) _ = _
         exact pu
        refine one_ (i := 0) (N := some 39) (qQf.fl 13 1903) rfl rfl (qZ3 HT_.out (by kernel_rfl)) (by decide) (fun K hK => ?_)
        refine Kd.qZz (Kd.int .i64) _ 3 ?hg (N := 39) ?hd (xs := ([] : List Int)) (inner := []) (ok := fun _ => True) (okp := fun _ => True) ?hr ?hp (fun _ hk => hk) trivial (Below.refl _ _) (Nat.le_refl _) (by simp) ?_; (case hd => rfl); (case hg => rfl); (case hr => first | (go_simp; done) | (go_simp; rfl)); (case hp => exact (Reps.none _ _))
        intro v104 w16 ho17 hb hg_ hnew_
        clear hg_ hnew_
        (first | rw [← Ny103.out] at ho17 | (simp only [Int.reduceToNat] at ho17; rw [← Ny103.out] at ho17))
        have n0_ := am (Kd.qQ7 (by exact rq HO112.out) (Kd.qZo ho17) hb)
        have n1_ := am (Kd.qZe (Kd.qZn ho17 (Kd.R_lt (by exact rq HO112.out))) (qQh (by exact h0q HB.out)))
        have n2_ := am (qQn (by exact h0q HB.out) hb)
        clear HO112 HB
        have HO112 := n0_
        have HO105 := n1_
        have HB := n2_
        clear n0_ n1_ n2_ hb ho17
        refine hK.out _ _ trivial (fun hHeld => ?_)
        clear hK K
        refine norm_ (a' := ?_) ?_ ?_
        rotate_left
        ·show Act.put _ (some 39) _ = _
         exact pu
        refine one_ (i := 4) (N := some 43) (qQf.fl 13 1919) rfl rfl (qZ3 HT_.out (by kernel_rfl)) (by decide) (fun K hK => ?_)
        refine Kd.qQ5 (Kd.int .i64) (w0 := WR) WR.heap.size (by rfl) (.tmp 39) (.tmp 42) 35 3 (.int .i64 0) 8 rfl Try.underlying35 info3 rfl (by decide) (by omega) v104 y103 (xs.take (a2 : Int).toNat) _ _ _ (fun k_ => some k_ ≠ (v111 : Value).ownBlock) (fun _ => False) rfl rfl ?aO ?aR (fun _ _ h => h) (fun _ h => h.elim) ?aF ?aB ?aS ?aL ?_
        (case aR => have hr_ := (Kd.qZw HR106.out HB.out); rw [show (xs.take (a2 : Int).toNat).length = a2.toNat from (by rw [List.length_take]; have h_ : (a2 : Int) ≤ (xs.length : Int) := yd; omega)] at hr_; exact hr_)
        (case aB => exact (by exact h0q HB.out))
        (case aF => exact (fun k_ hk => Kd.fresh' (Kd.R_lt (by exact rq HO112.out)) k_ hk))
        (case aO => exact (by (with_reducible repeat (first | apply Kd.qQs | apply Kd.qQq | apply Kd.qQt)); exact Kd.qQv HO105.out (fun _ hk => hk.2)))
        (case aS => exact (qQh (by exact h0q HB.out)))
        (case aL => have := LMc6.out; have hlx_ := (show (xs.take (a2 : Int).toNat).length = a2.toNat from (by rw [List.length_take]; have h_ : (a2 : Int) ≤ (xs.length : Int) := yd; omega)); omega)
        intro v108 w18 ho hb hg hat
        rw [← Ny107.out] at ho
        have n0_ := am (Kd.qYx (ok := (fun _ => True)) (by exact rq HO112.out) hg hat)
        have n1_ := am (hb)
        have n2_ := am (ho)
        clear HO112 HB HO105
        have HO112 := n0_
        have HB := n1_
        have HO109 := n2_
        clear n0_ n1_ n2_ ho hb hg hat
        refine hK.out _ _ trivial (fun hHeld => ?_)
        clear hK K
        refine norm_ (a' := ?_) ?_ ?_
        rotate_left
        ·show Act.put _ (some 43) _ = _
         exact pu
        exact norm_ (by simp only [putAll, Act.put, List.setIfInBounds_toArray, List.set_cons_zero, List.set_cons_succ]) (hCont (v104, v108, v111) _ ⟨(by exact rq HO109.out), (by (with_reducible repeat (first | apply Kd.qQs | apply Kd.qQq | apply Kd.qQt)); exact Kd.qQv HO112.out (fun _ hk => hk.2)), (by exact h0q HB.out)⟩)
      rintro ⟨v104, v108, v111⟩ w19 ⟨h0_, h1_, h2_⟩
      have n0_ : Aside0 (Kd.R (Kd.int .i64) 3 w19 WR.heap.size (fun k_ => some k_ ≠ (v111 : Value).ownBlock) v108 y107) := ⟨h0_⟩
      have n1_ : Aside0 (Kd.R (Kd.int .i64) 3 w19 WR.heap.size (fun k_ => some k_ ≠ (v108 : Value).ownBlock) v111 y110) := ⟨h1_⟩
      have n2_ : Aside0 (Below WR.heap.size WR w19) := ⟨h2_⟩
      clear HB h0_ h1_ h2_
      have HO109 := n0_
      have HO112 := n1_
      have HB := n2_
      clear n0_ n1_ n2_
      have hHeld := trivial
      obtain ⟨Ao21, co21, eo21⟩ := Kd.qZ8 HO112.out
      (first | subst eo21 | (injection eo21 with f1_ f2_ f3_; have f4_ := f1_.symm; have f5_ := f3_.symm; clear f1_ f2_ f3_; subst f4_; subst f5_))
      refine norm_ (a' := ?_) ?_ ?_
      rotate_left
      ·simp only [putAll, Act.put, List.setIfInBounds_toArray, List.set_cons_zero, List.set_cons_succ]
       rfl
      refine one_ (i := 7) (N := some 46) (qQf.fl 13 2047) rfl rfl (qZ3 HT_.out (by kernel_rfl)) (by decide) (fun K hK => ?_)
      refine Kd.qQ5 (Kd.int .i64) (w0 := WR) WR.heap.size (by rfl) (.tmp 43) (.tmp 45) 35 3 (.int .i64 0) 8 rfl Try.underlying35 info3 rfl (by decide) (by omega) v108 y107 y110 _ _ _ (fun k_ => some k_ ≠ (.slice Ao21 y110.length co21 : Value).ownBlock) (fun _ => False) rfl rfl ?aO ?aR (fun _ _ h => h) (fun _ h => h.elim) ?aF ?aB ?aS ?aL ?_
      (case aR => exact cq ((Kd.qQx HO112.out).2.2))
      (case aB => exact (by exact h0q HB.out))
      (case aF => exact (fun k_ hk => Kd.fresh' (Kd.R_lt (by exact rq HO112.out)) k_ hk))
      (case aO => exact (by exact rq HO109.out))
      (case aS => exact (qQh (by exact h0q HB.out)))
      (case aL => have := LMc7.out; omega)
      intro v114 w20 ho hb hg hat
      rw [← Ny113.out] at ho
      have n0_ := am (Kd.qYx (ok := (fun _ => True)) (by (with_reducible repeat (first | apply Kd.qQs | apply Kd.qQq | apply Kd.qQt)); exact Kd.qQv HO112.out (fun _ hk => ⟨trivial, hk⟩)) hg hat)
      have n1_ := am (hb)
      have n2_ := am (ho)
      clear HO112 HB HO109
      have HO112 := n0_
      have HB := n1_
      have HO115 := n2_
      clear n0_ n1_ n2_ ho hb hg hat
      refine hK.out _ _ trivial (fun hHeld => ?_)
      clear hK K
      refine norm_ (a' := ?_) ?_ ?_
      rotate_left
      ·show Act.put _ (some 46) _ = _
       exact pu
      refine one_ (i := 11) (N := some 50) (qQf.fl 13 4095) rfl rfl (qZ3 HT_.out (by kernel_rfl)) (by decide) (fun K hK => ?_)
      refine Kd.qQ5 (Kd.int .i64) (w0 := WR) WR.heap.size (by rfl) (.tmp 46) (.tmp 49) 35 3 (.int .i64 0) 8 rfl Try.underlying35 info3 rfl (by decide) (by omega) v114 y113 (xs.drop (a2 : Int).toNat) _ _ _ (fun k_ => some k_ ≠ (.slice Ao21 y110.length co21 : Value).ownBlock) (fun _ => False) rfl rfl ?aO ?aR (fun _ _ h => h) (fun _ h => h.elim) ?aF ?aB ?aS ?aL ?_
      (case aR => have hr_ := (Kd.qZw HR116.out HB.out); rw [show (xs.drop (a2 : Int).toNat).length = (xs.length - a2.toNat) from List.length_drop] at hr_; exact hr_)
      (case aB => exact (by exact h0q HB.out))
      (case aF => exact (fun k_ hk => Kd.fresh' (Kd.R_lt (by exact rq HO112.out)) k_ hk))
      (case aO => exact (by exact rq HO115.out))
      (case aS => exact (qQh (by exact h0q HB.out)))
      (case aL => have := LMc10.out; have hlx_ := (show (xs.drop (a2 : Int).toNat).length = (xs.length - a2.toNat) from List.length_drop); omega)
      intro v118 w22 ho hb hg hat
      rw [← Ny117.out] at ho
      have n0_ := am (Kd.qYx (ok := (fun _ => True)) (by exact rq HO112.out) hg hat)
      have n1_ := am (hb)
      have n2_ := am (ho)
      clear HO112 HB HO115
      have HO112 := n0_
      have HB := n1_
      have HO119 := n2_
      clear n0_ n1_ n2_ ho hb hg hat
      refine hK.out _ _ trivial (fun hHeld => ?_)
      clear hK K
      refine norm_ (a' := ?_) ?_ ?_
      rotate_left
      ·show Act.put _ (some 50) _ = _
       exact pu
      refine qQf.y 12 3 13 8191 HT_.out ?_
      refine done_ (qYw HT_.out (by kernel_rfl)) ?_
      go_wp2
      go_roundg (n - (i + 1))
      case measure => have := HI.out; omega
      case rel => exact ⟨i + 1, _, rfl, (by have := HI.out; have := HN5.out; rw [HA1.out]; first | rfl | (go_num; done) | (congr 1; rw [wrap64]; omega) | (simp; omega)), HI.out, Nat.le_refl _, ⟨by rw [← HFIN.out]; exact Kd.qQv (Kd.qZe HO119.out HLOW.out) (fun _ _ => trivial)⟩, ⟨HBO.out.trans (HB.out.mono HLOW.out)⟩⟩
    ·have k1 : ¬ (0 : Int) < (j : Int) := by omega
     have k2 : decide ((j : Int) > 0) = false := decide_eq_false k1
     have HA : Aside0 (j = 0 ∨ drR l0 ((srt (drR l0) (opP l0 i)).getD (j - 1) 0) i = true) := ⟨.inl (by omega)⟩
     go_upto_region 7 with (fail)
     go_quiet (fail)
     clear k1 k2
     have n0_ := am (Kd.qQq HO_3.out nq)
     have n1_ := am (qZh HB.out nq)
     clear HO_3 HB
     have HO_3 := n0_
     have HB := n1_
     clear n0_ n1_
     generalize wr.drewN nq = WR at HO_3 HB ⊢
     go_upto_region 9 with (fail)
     as_aux_lemma =>
     have hj2 := HJ.out
     have hxm_ := HXM.out
     subst hxm_
     have hlm_ := HLM.out
     have hmem : ∀ x ∈ (srt (drR l0) (opP l0 i)).drop j, drR l0 i x = true := by
      intro x hx
      obtain ⟨q, hq, rfl⟩ := List.getElem_of_mem hx
      rw [List.length_drop] at hq
      rw [List.getElem_drop]
      have := hj2 (j + q) (by omega) (by omega)
      rwa [List.getD_eq_getElem?_getD, List.getElem?_eq_getElem (by omega)] at this
     have hNd : (opP l0 i ++ [i]).Nodup := by
      have := (qXk l0 (i + 1)).imp (fun h => Nat.ne_of_lt h)
      rwa [qY4, if_pos HF8.out] at this
     have hins := qKq (qW9 l0) (opP l0 i) i hNd j hmem (qWe (qW9 l0) _ (List.nodup_append.1 hNd).1 i j (by have := HLM.out; omega) HA.out)
     have hnew : toI (srt (drR l0) (opP l0 (i + 1))) = (xs.take j ++ [(i : Int)]) ++ xs.drop j := by
      rw [qY4, if_pos HF8.out, ← hins, HXS.out]; unfold toI; rw [List.map_append, List.map_append, List.map_take, List.map_drop]; rfl
     have HNEW := am hnew
     clear hj2 hmem hNd hins hnew HJ HA hlm_
     obtain ⟨a2, ha2⟩ : ∃ z : Int, z = (j : Int) := ⟨_, rfl⟩
     obtain ⟨a1, ha1⟩ : ∃ z : Int, z = (i : Int) := ⟨_, rfl⟩
     rw [← ha1, ← ha2]
     have HA1 := am ha1
     have HA2 := am ha2
     have hjl : j ≤ xs.length := by rw [HXM.out]; exact HJM.out
     obtain ⟨y103, hy103⟩ : ∃ y_ : List Int, y_ = (([] : List Int)) := ⟨_, rfl⟩
     have Ny103 := am hy103
     have c4b0 := eq_true (show 0 ≤ a2 by omega)
     have c4b1 : decide (0 ≤ a2) = true := decide_eq_true (show 0 ≤ a2 by omega)
     have c5b0 := eq_true (show a2 ≤ (xs.length : Int) by omega)
     have c5b1 : decide (a2 ≤ (xs.length : Int)) = true := decide_eq_true (show a2 ≤ (xs.length : Int) by omega)
     have hxl : xs.length ≤ 100000 := by rw [HXM.out]; exact HM5.out
     have LMc6 := am (show y103.length + (xs.take (a2 : Int).toNat).length < 17592186044416 by rw [hy103, List.length_take, List.length_nil]; omega)
     obtain ⟨y107, hy107⟩ : ∃ y_ : List Int, y_ = (y103 ++ (xs.take (a2 : Int).toNat)) := ⟨_, rfl⟩
     have Ny107 := am hy107
     have hl7 : y107.length ≤ 100000 := by rw [hy107, hy103, List.nil_append, List.length_take]; omega
     obtain ⟨y110, hy110⟩ : ∃ y_ : List Int, y_ = (([a1] : List Int)) := ⟨_, rfl⟩
     have Ny110 := am hy110
     have hl10 : y110.length = 1 := by rw [hy110]; rfl
     have LMc7 := am (show y107.length + y110.length < 17592186044416 by omega)
     obtain ⟨y113, hy113⟩ : ∃ y_ : List Int, y_ = (y107 ++ y110) := ⟨_, rfl⟩
     have Ny113 := am hy113
     have LMc10 := am (show y113.length + (xs.drop (a2 : Int).toNat).length < 17592186044416 by rw [hy113, List.length_append, List.length_drop]; omega)
     obtain ⟨y117, hy117⟩ : ∃ y_ : List Int, y_ = (y113 ++ (xs.drop (a2 : Int).toNat)) := ⟨_, rfl⟩
     have Ny117 := am hy117
     have hfin : y117 = toI (srt (drR l0) (opP l0 (i + 1))) := by rw [HNEW.out, hy117, hy113, hy107, hy103, hy110, ha2, ha1, Int.toNat_natCast, List.nil_append]
     have HFIN := am hfin
     clear hfin hy103 hy107 hy110 hy113 hy117 hl7 hl10 hxl hjl ha1 ha2 HNEW
     have HXC := am (Kd.qQx HO_3.out).2.2
     have HXL := am hci
     have HLOW := am (qQh (by exact h0q HB.out))
     have HBO := am HB.out
     clear HB
     have HB := am (Below.refl WR.heap.size WR)
     clear hci HO_3
     have n0_ := am (qZg HB.out)
     clear HB
     have HB := n0_
     clear n0_
     obtain ⟨i012, hi012, _, hsz12, _⟩ := info_parts info3
     obtain ⟨hcut12, hA12, hC12⟩ := qXa (P := Try.prog) (Value.int .i64) 0 35 3 .i64 Try.underlying35 hi012 hsz12 Ai ci xs a2 (yd) (yd) HXL.out
     have HR106 := am (Kd.qY1 (h1 := fun _ => rfl) (hA12 _ (Kd.qYu HXC.out)))
     have HC106 := am hC12
     clear hA12 hC12 hi012 hsz12
     obtain ⟨i013, hi013, _, hsz13, _⟩ := info_parts info3
     obtain ⟨A13, hcut13, hA13, hC13⟩ := qY9 (P := Try.prog) (Value.int .i64) 0 35 3 .i64 Try.underlying35 hi013 hsz13 Ai ci xs a2 (yd) (yd) HXL.out
     have HR116 := am (Kd.qY1 (h1 := fun _ => rfl) (hA13 _ (Kd.qYu HXC.out)))
     have HC116 := am hC13
     clear hA13 hC13 hi013 hsz13
     refine start_ (n := 13) (S := fun w' => True) (ds := []) (qQf.fl 13 0) (by kernel_rfl) rfl rfl trivial (fun hHeld => ?_); refine qYg qQz.tab1 qQz.bits1 (fun HT_ HW_ => ?_)
     generalize WR.drew = w11 at HB HR106 HR116 hHeld ⊢
     refine qQf.y 1 40 13 2 HT_.out ?_
     refine qQf.y 2 41 13 6 HT_.out ?_
     refine qQf.y 3 42 13 14 HT_.out ?_
     refine qQf.y 5 44 13 46 HT_.out ?_
     refine qQf.y 8 47 13 302 HT_.out ?_
     refine qQf.y 9 48 13 814 HT_.out ?_
     refine qQf.y 10 49 13 1838 HT_.out ?_
     refine join_ (σ := Value × Value × Value) 3 (qQf.fl 13 1919) (fun s_ => [(39, s_.1), (43, s_.2.1), (45, s_.2.2)]) (fun s_ w' => (Kd.R (Kd.int .i64) 3 w' WR.heap.size (fun k_ => some k_ ≠ (s_.2.2 : Value).ownBlock) s_.2.1 y107) ∧ (Kd.R (Kd.int .i64) 3 w' WR.heap.size (fun k_ => some k_ ≠ (s_.2.1 : Value).ownBlock) s_.2.2 y110) ∧ (Below WR.heap.size WR w')) ?_ ?_
     rotate_left
     ·intro hCont
      refine two_ (i := 0) (j := 6) (Ni := some 39) (Nj := some 45) (qQf.fl 13 1839) (qQf.fl 13 1902) rfl rfl rfl rfl (qXj HT_.out (by kernel_rfl)) (by decide) (by decide) (fun K hK => ?_) (fun K hK => ?_)
      ·skip
       refine Kd.qZz (Kd.int .i64) _ 3 ?hg (N := 39) ?hd (xs := ([] : List Int)) (inner := []) (ok := fun _ => True) (okp := fun _ => True) ?hr ?hp (fun _ hk => hk) trivial (Below.refl _ _) (Nat.le_refl _) (by simp) ?_; (case hd => rfl); (case hg => rfl); (case hr => first | (go_simp; done) | (go_simp; rfl)); (case hp => exact (Reps.none _ _))
       intro v104 w14 ho15 hb hg_ hnew_
       clear hg_ hnew_
       (first | rw [← Ny103.out] at ho15 | (simp only [Int.reduceToNat] at ho15; rw [← Ny103.out] at ho15))
       have n0_ := am (Kd.qZe ho15 (qQh (by exact h0q HB.out)))
       have n1_ := am (qQn (by exact h0q HB.out) hb)
       clear HB
       have HO105 := n0_
       have HB := n1_
       clear n0_ n1_ hb ho15
       refine hK.out _ _ trivial (fun hHeld => ?_)
       clear hK K
       refine norm_ (a' := ?_) ?_ ?_
       rotate_left
       ·show Act.put _ (some 39) _ = _
        exact pu
       refine two_ (i := 4) (j := 6) (Ni := some 43) (Nj := some 45) (qQf.fl 13 1855) (qQf.fl 13 1903) rfl rfl rfl rfl (qXj HT_.out (by kernel_rfl)) (by decide) (by decide) (fun K hK => ?_) (fun K hK => ?_)
       ·skip
        refine Kd.qQ5 (Kd.int .i64) (w0 := WR) WR.heap.size (by rfl) (.tmp 39) (.tmp 42) 35 3 (.int .i64 0) 8 rfl Try.underlying35 info3 rfl (by decide) (by omega) v104 y103 (xs.take (a2 : Int).toNat) _ _ _ (fun _ => True) (fun _ => False) rfl rfl ?aO ?aR (fun _ _ h => h) (fun _ h => h.elim) ?aF ?aB ?aS ?aL ?_
        (case aR => have hr_ := (Kd.qZw HR106.out HB.out); rw [show (xs.take (a2 : Int).toNat).length = a2.toNat from (by rw [List.length_take]; have h_ : (a2 : Int) ≤ (xs.length : Int) := yd; omega)] at hr_; exact hr_)
        (case aB => exact (by exact h0q HB.out))
        (case aF => exact (fun _ _ => trivial))
        (case aO => exact (by exact rq HO105.out))
        (case aS => exact (qQh (by exact h0q HB.out)))
        (case aL => have := LMc6.out; have hlx_ := (show (xs.take (a2 : Int).toNat).length = a2.toNat from (by rw [List.length_take]; have h_ : (a2 : Int) ≤ (xs.length : Int) := yd; omega)); omega)
        intro v108 w16 ho hb hg hat
        rw [← Ny107.out] at ho
        have n0_ := am (hb)
        have n1_ := am (ho)
        clear HB HO105
        have HB := n0_
        have HO109 := n1_
        clear n0_ n1_ ho hb hg hat
        refine hK.out _ _ trivial (fun hHeld => ?_)
        clear hK K
        refine norm_ (a' := ?_) ?_ ?_
        rotate_left
        ·show Act.put _ (some 43) _ = _
         exact pu
        refine one_ (i := 6) (N := some 45) (qQf.fl 13 1919) rfl rfl (qZ3 HT_.out (by kernel_rfl)) (by decide) (fun K hK => ?_)
        refine Kd.qZz (Kd.int .i64) _ 3 ?hg (N := 45) ?hd (xs := ([a1] : List Int)) (inner := [.int .i64 a1]) (ok := fun _ => True) (okp := fun _ => True) ?hr ?hp (fun _ hk => hk) trivial (Below.refl _ _) (Nat.le_refl _) (by simp) ?_; (case hd => rfl); (case hg => rfl); (case hr => first | (go_simp; done) | (go_simp; rfl)); (case hp => exact (Reps.one (show Kd.M (Kd.int .i64) _ _ _ a1 [.int .i64 a1] from rfl) (Reps.none _ _)))
        intro v111 w17 ho18 hb hg_ hnew_
        clear hg_ hnew_
        (first | rw [← Ny110.out] at ho18 | (simp only [Int.reduceToNat] at ho18; rw [← Ny110.out] at ho18))
        have n0_ := am (Kd.qQ7 (by exact rq HO109.out) (Kd.qZo ho18) hb)
        have n1_ := am (Kd.qZe (Kd.qZn ho18 (Kd.R_lt (by exact rq HO109.out))) (qQh (by exact h0q HB.out)))
        have n2_ := am (qQn (by exact h0q HB.out) hb)
        clear HO109 HB
        have HO109 := n0_
        have HO112 := n1_
        have HB := n2_
        clear n0_ n1_ n2_ hb ho18
        refine hK.out _ _ trivial (fun hHeld => ?_)
        clear hK K
        refine norm_ (a' := ?_) ?_ ?_
        rotate_left
        ·show Act.put _ (some 45) _ = _
         exact pu
        exact norm_ (by simp only [putAll, Act.put, List.setIfInBounds_toArray, List.set_cons_zero, List.set_cons_succ]) (hCont (v104, v108, v111) _ ⟨(by (with_reducible repeat (first | apply Kd.qQs | apply Kd.qQq | apply Kd.qQt)); exact Kd.qQv HO109.out (fun _ hk => hk.2)), (by (with_reducible repeat (first | apply Kd.qQs | apply Kd.qQq | apply Kd.qQt)); exact Kd.qQv HO112.out (fun _ hk => hk.2)), (by exact h0q HB.out)⟩)
       ·skip
        refine Kd.qZz (Kd.int .i64) _ 3 ?hg (N := 45) ?hd (xs := ([a1] : List Int)) (inner := [.int .i64 a1]) (ok := fun _ => True) (okp := fun _ => True) ?hr ?hp (fun _ hk => hk) trivial (Below.refl _ _) (Nat.le_refl _) (by simp) ?_; (case hd => rfl); (case hg => rfl); (case hr => first | (go_simp; done) | (go_simp; rfl)); (case hp => exact (Reps.one (show Kd.M (Kd.int .i64) _ _ _ a1 [.int .i64 a1] from rfl) (Reps.none _ _)))
        intro v111 w16 ho17 hb hg_ hnew_
        clear hg_ hnew_
        (first | rw [← Ny110.out] at ho17 | (simp only [Int.reduceToNat] at ho17; rw [← Ny110.out] at ho17))
        have n0_ := am (Kd.qQ7 (by exact rq HO105.out) (Kd.qZo ho17) hb)
        have n1_ := am (Kd.qZe (Kd.qZn ho17 (Kd.R_lt (by exact rq HO105.out))) (qQh (by exact h0q HB.out)))
        have n2_ := am (qQn (by exact h0q HB.out) hb)
        clear HO105 HB
        have HO105 := n0_
        have HO112 := n1_
        have HB := n2_
        clear n0_ n1_ n2_ hb ho17
        refine hK.out _ _ trivial (fun hHeld => ?_)
        clear hK K
        refine norm_ (a' := ?_) ?_ ?_
        rotate_left
        ·show Act.put _ (some 45) _ = _
         exact pu
        refine one_ (i := 4) (N := some 43) (qQf.fl 13 1919) rfl rfl (qZ3 HT_.out (by kernel_rfl)) (by decide) (fun K hK => ?_)
        refine Kd.qQ5 (Kd.int .i64) (w0 := WR) WR.heap.size (by rfl) (.tmp 39) (.tmp 42) 35 3 (.int .i64 0) 8 rfl Try.underlying35 info3 rfl (by decide) (by omega) v104 y103 (xs.take (a2 : Int).toNat) _ _ _ (fun k_ => some k_ ≠ (v111 : Value).ownBlock) (fun _ => False) rfl rfl ?aO ?aR (fun _ _ h => h) (fun _ h => h.elim) ?aF ?aB ?aS ?aL ?_
        (case aR => have hr_ := (Kd.qZw HR106.out HB.out); rw [show (xs.take (a2 : Int).toNat).length = a2.toNat from (by rw [List.length_take]; have h_ : (a2 : Int) ≤ (xs.length : Int) := yd; omega)] at hr_; exact hr_)
        (case aB => exact (by exact h0q HB.out))
        (case aF => exact (fun k_ hk => Kd.fresh' (Kd.R_lt (by exact rq HO112.out)) k_ hk))
        (case aO => exact (by (with_reducible repeat (first | apply Kd.qQs | apply Kd.qQq | apply Kd.qQt)); exact Kd.qQv HO105.out (fun _ hk => hk.2)))
        (case aS => exact (qQh (by exact h0q HB.out)))
        (case aL => have := LMc6.out; have hlx_ := (show (xs.take (a2 : Int).toNat).length = a2.toNat from (by rw [List.length_take]; have h_ : (a2 : Int) ≤ (xs.length : Int) := yd; omega)); omega)
        intro v108 w18 ho hb hg hat
        rw [← Ny107.out] at ho
        have n0_ := am (Kd.qYx (ok := (fun _ => True)) (by exact rq HO112.out) hg hat)
        have n1_ := am (hb)
        have n2_ := am (ho)
        clear HO112 HB HO105
        have HO112 := n0_
        have HB := n1_
        have HO109 := n2_
        clear n0_ n1_ n2_ ho hb hg hat
        refine hK.out _ _ trivial (fun hHeld => ?_)
        clear hK K
        refine norm_ (a' := ?_) ?_ ?_
        rotate_left
        ·show Act.put _ (some 43) _ = _
         exact pu
        exact norm_ (by simp only [putAll, Act.put, List.setIfInBounds_toArray, List.set_cons_zero, List.set_cons_succ]) (hCont (v104, v108, v111) _ ⟨(by exact rq HO109.out), (by (with_reducible repeat (first | apply Kd.qQs | apply Kd.qQq | apply Kd.qQt)); exact Kd.qQv HO112.out (fun _ hk => hk.2)), (by exact h0q HB.out)⟩)
      ·skip
       refine Kd.qZz (Kd.int .i64) _ 3 ?hg (N := 45) ?hd (xs := ([a1] : List Int)) (inner := [.int .i64 a1]) (ok := fun _ => True) (okp := fun _ => True) ?hr ?hp (fun _ hk => hk) trivial (Below.refl _ _) (Nat.le_refl _) (by simp) ?_; (case hd => rfl); (case hg => rfl); (case hr => first | (go_simp; done) | (go_simp; rfl)); (case hp => exact (Reps.one (show Kd.M (Kd.int .i64) _ _ _ a1 [.int .i64 a1] from rfl) (Reps.none _ _)))
       intro v111 w14 ho15 hb hg_ hnew_
       clear hg_ hnew_
       (first | rw [← Ny110.out] at ho15 | (simp only [Int.reduceToNat] at ho15; rw [← Ny110.out] at ho15))
       have n0_ := am (Kd.qZe ho15 (qQh (by exact h0q HB.out)))
       have n1_ := am (qQn (by exact h0q HB.out) hb)
       clear HB
       have HO112 := n0_
       have HB := n1_
       clear n0_ n1_ hb ho15
       refine hK.out _ _ trivial (fun hHeld => ?_)
       clear hK K
       refine norm_ (a' := ?_) ?_ ?_
       rotate_left
       ·show Act.put _ (some 45) _ = _
        exact pu
       refine one_ (i := 0) (N := some 39) (qQf.fl 13 1903) rfl rfl (qZ3 HT_.out (by kernel_rfl)) (by decide) (fun K hK => ?_)
       refine Kd.qZz (Kd.int .i64) _ 3 ?hg (N := 39) ?hd (xs := ([] : List Int)) (inner := []) (ok := fun _ => True) (okp := fun _ => True) ?hr ?hp (fun _ hk => hk) trivial (Below.refl _ _) (Nat.le_refl _) (by simp) ?_; (case hd => rfl); (case hg => rfl); (case hr => first | (go_simp; done) | (go_simp; rfl)); (case hp => exact (Reps.none _ _))
       intro v104 w16 ho17 hb hg_ hnew_
       clear hg_ hnew_
       (first | rw [← Ny103.out] at ho17 | (simp only [Int.reduceToNat] at ho17; rw [← Ny103.out] at ho17))
       have n0_ := am (Kd.qQ7 (by exact rq HO112.out) (Kd.qZo ho17) hb)
       have n1_ := am (Kd.qZe (Kd.qZn ho17 (Kd.R_lt (by exact rq HO112.out))) (qQh (by exact h0q HB.out)))
       have n2_ := am (qQn (by exact h0q HB.out) hb)
       clear HO112 HB
       have HO112 := n0_
       have HO105 := n1_
       have HB := n2_
       clear n0_ n1_ n2_ hb ho17
       refine hK.out _ _ trivial (fun hHeld => ?_)
       clear hK K
       refine norm_ (a' := ?_) ?_ ?_
       rotate_left
       ·show Act.put _ (some 39) _ = _
        exact pu
       refine one_ (i := 4) (N := some 43) (qQf.fl 13 1919) rfl rfl (qZ3 HT_.out (by kernel_rfl)) (by decide) (fun K hK => ?_)
       refine Kd.qQ5 (Kd.int .i64) (w0 := WR) WR.heap.size (by rfl) (.tmp 39) (.tmp 42) 35 3 (.int .i64 0) 8 rfl Try.underlying35 info3 rfl (by decide) (by omega) v104 y103 (xs.take (a2 : Int).toNat) _ _ _ (fun k_ => some k_ ≠ (v111 : Value).ownBlock) (fun _ => False) rfl rfl ?aO ?aR (fun _ _ h => h) (fun _ h => h.elim) ?aF ?aB ?aS ?aL ?_
       (case aR => have hr_ := (Kd.qZw HR106.out HB.out); rw [show (xs.take (a2 : Int).toNat).length = a2.toNat from (by rw [List.length_take]; have h_ : (a2 : Int) ≤ (xs.length : Int) := yd; omega)] at hr_; exact hr_)
       (case aB => exact (by exact h0q HB.out))
       (case aF => exact (fun k_ hk => Kd.fresh' (Kd.R_lt (by exact rq HO112.out)) k_ hk))
       (case aO => exact (by (with_reducible repeat (first | apply Kd.qQs | apply Kd.qQq | apply Kd.qQt)); exact Kd.qQv HO105.out (fun _ hk => hk.2)))
       (case aS => exact (qQh (by exact h0q HB.out)))
       (case aL => have := LMc6.out; have hlx_ := (show (xs.take (a2 : Int).toNat).length = a2.toNat from (by rw [List.length_take]; have h_ : (a2 : Int) ≤ (xs.length : Int) := yd; omega)); omega)
       intro v108 w18 ho hb hg hat
       rw [← Ny107.out] at ho
       have n0_ := am (Kd.qYx (ok := (fun _ => True)) (by exact rq HO112.out) hg hat)
       have n1_ := am (hb)
       have n2_ := am (ho)
       clear HO112 HB HO105
       have HO112 := n0_
       have HB := n1_
       have HO109 := n2_
       clear n0_ n1_ n2_ ho hb hg hat
       refine hK.out _ _ trivial (fun hHeld => ?_)
       clear hK K
       refine norm_ (a' := ?_) ?_ ?_
       rotate_left
       ·show Act.put _ (some 43) _ = _
        exact pu
       exact norm_ (by simp only [putAll, Act.put, List.setIfInBounds_toArray, List.set_cons_zero, List.set_cons_succ]) (hCont (v104, v108, v111) _ ⟨(by exact rq HO109.out), (by (with_reducible repeat (first | apply Kd.qQs | apply Kd.qQq | apply Kd.qQt)); exact Kd.qQv HO112.out (fun _ hk => hk.2)), (by exact h0q HB.out)⟩)
     rintro ⟨v104, v108, v111⟩ w19 ⟨h0_, h1_, h2_⟩
     have n0_ : Aside0 (Kd.R (Kd.int .i64) 3 w19 WR.heap.size (fun k_ => some k_ ≠ (v111 : Value).ownBlock) v108 y107) := ⟨h0_⟩
     have n1_ : Aside0 (Kd.R (Kd.int .i64) 3 w19 WR.heap.size (fun k_ => some k_ ≠ (v108 : Value).ownBlock) v111 y110) := ⟨h1_⟩
     have n2_ : Aside0 (Below WR.heap.size WR w19) := ⟨h2_⟩
     clear HB h0_ h1_ h2_
     have HO109 := n0_
     have HO112 := n1_
     have HB := n2_
     clear n0_ n1_ n2_
     have hHeld := trivial
     obtain ⟨Ao21, co21, eo21⟩ := Kd.qZ8 HO112.out
     (first | subst eo21 | (injection eo21 with f1_ f2_ f3_; have f4_ := f1_.symm; have f5_ := f3_.symm; clear f1_ f2_ f3_; subst f4_; subst f5_))
     refine norm_ (a' := ?_) ?_ ?_
     rotate_left
     ·simp only [putAll, Act.put, List.setIfInBounds_toArray, List.set_cons_zero, List.set_cons_succ]
      rfl
     refine one_ (i := 7) (N := some 46) (qQf.fl 13 2047) rfl rfl (qZ3 HT_.out (by kernel_rfl)) (by decide) (fun K hK => ?_)
     refine Kd.qQ5 (Kd.int .i64) (w0 := WR) WR.heap.size (by rfl) (.tmp 43) (.tmp 45) 35 3 (.int .i64 0) 8 rfl Try.underlying35 info3 rfl (by decide) (by omega) v108 y107 y110 _ _ _ (fun k_ => some k_ ≠ (.slice Ao21 y110.length co21 : Value).ownBlock) (fun _ => False) rfl rfl ?aO ?aR (fun _ _ h => h) (fun _ h => h.elim) ?aF ?aB ?aS ?aL ?_
     (case aR => exact cq ((Kd.qQx HO112.out).2.2))
     (case aB => exact (by exact h0q HB.out))
     (case aF => exact (fun k_ hk => Kd.fresh' (Kd.R_lt (by exact rq HO112.out)) k_ hk))
     (case aO => exact (by exact rq HO109.out))
     (case aS => exact (qQh (by exact h0q HB.out)))
     (case aL => have := LMc7.out; omega)
     intro v114 w20 ho hb hg hat
     rw [← Ny113.out] at ho
     have n0_ := am (Kd.qYx (ok := (fun _ => True)) (by (with_reducible repeat (first | apply Kd.qQs | apply Kd.qQq | apply Kd.qQt)); exact Kd.qQv HO112.out (fun _ hk => ⟨trivial, hk⟩)) hg hat)
     have n1_ := am (hb)
     have n2_ := am (ho)
     clear HO112 HB HO109
     have HO112 := n0_
     have HB := n1_
     have HO115 := n2_
     clear n0_ n1_ n2_ ho hb hg hat
     refine hK.out _ _ trivial (fun hHeld => ?_)
     clear hK K
     refine norm_ (a' := ?_) ?_ ?_
     rotate_left
     ·show Act.put _ (some 46) _ = _
      exact pu
     refine one_ (i := 11) (N := some 50) (qQf.fl 13 4095) rfl rfl (qZ3 HT_.out (by kernel_rfl)) (by decide) (fun K hK => ?_)
     refine Kd.qQ5 (Kd.int .i64) (w0 := WR) WR.heap.size (by rfl) (.tmp 46) (.tmp 49) 35 3 (.int .i64 0) 8 rfl Try.underlying35 info3 rfl (by decide) (by omega) v114 y113 (xs.drop (a2 : Int).toNat) _ _ _ (fun k_ => some k_ ≠ (.slice Ao21 y110.length co21 : Value).ownBlock) (fun _ => False) rfl rfl ?aO ?aR (fun _ _ h => h) (fun _ h => h.elim) ?aF ?aB ?aS ?aL ?_
     (case aR => have hr_ := (Kd.qZw HR116.out HB.out); rw [show (xs.drop (a2 : Int).toNat).length = (xs.length - a2.toNat) from List.length_drop] at hr_; exact hr_)
     (case aB => exact (by exact h0q HB.out))
     (case aF => exact (fun k_ hk => Kd.fresh' (Kd.R_lt (by exact rq HO112.out)) k_ hk))
     (case aO => exact (by exact rq HO115.out))
     (case aS => exact (qQh (by exact h0q HB.out)))
     (case aL => have := LMc10.out; have hlx_ := (show (xs.drop (a2 : Int).toNat).length = (xs.length - a2.toNat) from List.length_drop); omega)
     intro v118 w22 ho hb hg hat
     rw [← Ny117.out] at ho
     have n0_ := am (Kd.qYx (ok := (fun _ => True)) (by exact rq HO112.out) hg hat)
     have n1_ := am (hb)
     have n2_ := am (ho)
     clear HO112 HB HO115
     have HO112 := n0_
     have HB := n1_
     have HO119 := n2_
     clear n0_ n1_ n2_ ho hb hg hat
     refine hK.out _ _ trivial (fun hHeld => ?_)
     clear hK K
     refine norm_ (a' := ?_) ?_ ?_
     rotate_left
     ·show Act.put _ (some 50) _ = _
      exact pu
     refine qQf.y 12 3 13 8191 HT_.out ?_
     refine done_ (qYw HT_.out (by kernel_rfl)) ?_
     go_wp2
     go_roundg (n - (i + 1))
     case measure => have := HI.out; omega
     case rel => exact ⟨i + 1, _, rfl, (by have := HI.out; have := HN5.out; rw [HA1.out]; first | rfl | (go_num; done) | (congr 1; rw [wrap64]; omega) | (simp; omega)), HI.out, Nat.le_refl _, ⟨by rw [← HFIN.out]; exact Kd.qQv (Kd.qZe HO119.out HLOW.out) (fun _ _ => trivial)⟩, ⟨HBO.out.trans (HB.out.mono HLOW.out)⟩⟩
  ·have hltz : ¬ (i : Int) < (n : Int) := by omega
   obtain rfl : i = n := by omega
   have hop : opP l0 i = opN l0 := by have := HN.out; rw [← qKg, this]
   rw [hop] at HO_3
   clear hop hin hlt
   go_wp2
   go_ret
   exact ⟨_, rfl, HO_3.out, HB.out⟩
end Go.Proofs.Yteemomncbcpdjaa.P
