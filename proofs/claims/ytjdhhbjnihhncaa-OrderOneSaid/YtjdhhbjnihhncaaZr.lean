/- annuityref23.Sort: events in order, one by one, each from behind. -/
import Derived.Test.YtjdhhbjnihhncaaZw
import Derived.Test.YtjdhhbjnihhncaaPx5
namespace Go.Proofs.Ytjdhhbjnihhncaa.P
open Go.RowKit Go.Proofs.YtjdhhbjnihhncaaW.PrintWords Go.Proofs.YtjdhhbjnihhncaaW.PrintLast Go.Proofs.YtjdhhbjnihhncaaW.PrintMore
attribute [local go_sem] run_store_float max2_int min2_int max_two min_two max_three min_three max_four min_four   -- for this text's walks alone
set_option linter.unusedVariables false
set_option linter.unusedSimpArgs false
def annuityref23_Sort.T6 : Bool × List (List Nat × List Nat) := (true, [([], []), ([0], [0]), ([1], [1]), ([2], [2]), ([2], [2]), ([4, 2], [2, 4]), ([3, 5, 2], [2, 3, 5]), ([6, 2], [2, 6]), ([2], [2]), ([2], [2]), ([8, 9, 2], [2, 8, 9]), ([10, 2], [2, 10]), ([7, 11, 2, 2], [2, 7, 11]), ([12, 2], [2, 12]), ([2, 13], [2, 13])])
def annuityref23_Sort.B6 : List Nat := [0, 1, 3, 7, 7, 23, 63, 127, 7, 7, 775, 1799, 4095, 8191, 16383]
theorem annuityref23_Sort.tab6 : rtab .any (opsOf Try.f8 6) = annuityref23_Sort.T6 := by kernel_rfl
theorem annuityref23_Sort.bits6 : waitsOk annuityref23_Sort.T6.2 annuityref23_Sort.B6 = true := by kernel_rfl
def annuityref23_Sort.T8 : Bool × List (List Nat × List Nat) := (true, [([], []), ([], []), ([], []), ([1, 2], [1, 2]), ([0, 3], [0, 3]), ([], []), ([], []), ([5, 6], [5, 6]), ([7], [7]), ([8], [8]), ([4, 9, 4], [4, 9]), ([], []), ([], []), ([11, 12], [11, 12]), ([10, 13, 10], [10, 13]), ([14, 14, 0, 1, 2, 3, 4, 5, 6, 7, 8, 9, 10, 11, 12, 13, 14], [1, 11, 14])])
def annuityref23_Sort.B8 : List Nat := [0, 0, 0, 6, 15, 0, 0, 96, 224, 480, 1023, 0, 0, 6144, 16383, 32767]
theorem annuityref23_Sort.tab8 : rtab .any (opsOf Try.f8 8) = annuityref23_Sort.T8 := by kernel_rfl
theorem annuityref23_Sort.bits8 : waitsOk annuityref23_Sort.T8.2 annuityref23_Sort.B8 = true := by kernel_rfl
section
variable {P : Program} {ops : Array Oper} {Q : Exit → Act → World → Prop} {S : World → Prop} {ds : List Nat} {fuel : Nat} {a a' : Act} {w : World} {oi : Oper} {v : Value} {T : Bool × List (List Nat × List Nat)} {B : List Nat}
/-- Which ones have come up, as the bits of a number. -/
def annuityref23_Sort.fl (n m : Nat) : Array Bool := ((List.range n).map fun j => m.testBit j).toArray
theorem annuityref23_Sort.y (i N n m : Nat) {l : Array Bool} (hT : rtab .any ops = T) (h : wpAnyLast P .any ops Q S ds fuel (annuityref23_Sort.fl n m) a' w)
    (hi : ops[i]? = some oi := by rfl) (hN : oi.dst = some N := by rfl) (hc : anyT T l.toList (annuityref23_Sort.fl n m).toList i = true := by kernel_rfl)
    (hQ : ∀ c a w, Q (.panic c) (a.put oi.dst v) w → Q (.panic c) a w := by exact fun _ _ _ h => h) (hw : Region.wanted oi (yielded ops a.tmps) = true := by rfl)
    (hy : ∀ w, (execOp a.eval oi).run P w = .ok (.value v) w := by (intro w'; go_simp; with_reducible rfl)) (ha : a.put (some N) v = a' := by (simp only [Act.put, List.setIfInBounds_toArray, List.set_cons_zero, List.set_cons_succ, i64_w, i32_w]; rfl)) :
    wpAnyLast P .any ops Q S ds (fuel + 1) l a w := pure_ (N := some N) (annuityref23_Sort.fl n m) hi hN (any_of hT hc) hQ (Or.inl ⟨hw, hy⟩) ha h
theorem annuityref23_Sort.g (i N n m : Nat) {l : Array Bool} (hT : rtab .any ops = T) (h : wpAnyLast P .any ops Q S ds fuel (annuityref23_Sort.fl n m) a' w)
    (hi : ops[i]? = some oi := by rfl) (hN : oi.dst = some N := by rfl) (hc : anyT T l.toList (annuityref23_Sort.fl n m).toList i = true := by kernel_rfl)
    (hQ : ∀ c a w, Q (.panic c) (a.put oi.dst undef) w → Q (.panic c) a w := by exact fun _ _ _ h => h) (hw : Region.wanted oi (yielded ops a.tmps) = false := by rfl)
    (ha : a.put (some N) undef = a' := by (simp only [Act.put, List.setIfInBounds_toArray, List.set_cons_zero, List.set_cons_succ, i64_w, i32_w]; rfl)) :
    wpAnyLast P .any ops Q S ds (fuel + 1) l a w := pure_ (N := some N) (annuityref23_Sort.fl n m) hi hN (any_of hT hc) hQ (Or.inr ⟨hw, rfl⟩) ha h
theorem annuityref23_Sort.t (i N n m : Nat) {l : Array Bool} (hT : rtab .any ops = T) (hB : waitsOk T.2 B = true) (hS : S w) (h : wpAnyLast P .any ops Q S ds fuel (annuityref23_Sort.fl n m) a' w)
    (hi : ops[i]? = some oi := by rfl) (hN : oi.dst = some N := by rfl) (hc : takeW T B ds l.toList (annuityref23_Sort.fl n m).toList i = true := by kernel_rfl)
    (hQ : ∀ c a w, Q (.panic c) (a.put oi.dst v) w → Q (.panic c) a w := by exact fun _ _ _ h => h) (hw : Region.wanted oi (yielded ops a.tmps) = true := by rfl)
    (hy : ∀ w, S w → (execOp a.eval oi).run P w = .ok (.value v) w := by (intro w' hs_; (try dsimp only at hs_); go_simp; with_reducible rfl)) (ha : a.put (some N) v = a' := by (simp only [Act.put, List.setIfInBounds_toArray, List.set_cons_zero, List.set_cons_succ, i64_w, i32_w]; rfl)) :
    wpAnyLast P .any ops Q S ds (fuel + 1) l a w := take_ (N := some N) (annuityref23_Sort.fl n m) hi hN (take_ofW hT hB hc) hQ (Or.inl ⟨hw, hy⟩) hS ha h
end
/-! ### The reference's own order -/
theorem refrank_f (k : Nat) (n : Int) : annuityref23_Rank.f (k + 9) n = some (rankOf n) := by
  have st : ∀ (k : Nat) (i v : Int), 0 ≤ i → i < 8 → rd ([1, 2, 4, 5, 3, 7, 6, 8] : List Int) i = v → annuityref23_Rank.l0 (k + 1) n [1, 2, 4, 5, 3, 7, 6, 8] i = if v = n then some (i + 1) else annuityref23_Rank.l0 k n [1, 2, 4, 5, 3, 7, 6, 8] (i + 1) := fun k i v h1 h2 h3 => by
    have w : wrap64 (i + 1) = i + 1 := by unfold wrap64; omega
    rw [annuityref23_Rank.l0, if_pos (show i < (([1, 2, 4, 5, 3, 7, 6, 8] : List Int).length : Int) from h2), if_pos h1, h3, w]
  have e : annuityref23_Rank.l0 (k + 1) n [1, 2, 4, 5, 3, 7, 6, 8] 8 = some 9 := by
    rw [annuityref23_Rank.l0, if_neg (show ¬ (8 : Int) < (([1, 2, 4, 5, 3, 7, 6, 8] : List Int).length : Int) from by decide)]
  unfold annuityref23_Rank.f rankOf
  rw [st (k + 8) 0 1 (by omega) (by omega) rfl, st (k + 7) (0 + 1) 2 (by omega) (by omega) rfl, st (k + 6) (0 + 1 + 1) 4 (by omega) (by omega) rfl, st (k + 5) (0 + 1 + 1 + 1) 5 (by omega) (by omega) rfl, st (k + 4) (0 + 1 + 1 + 1 + 1) 3 (by omega) (by omega) rfl, st (k + 3) (0 + 1 + 1 + 1 + 1 + 1) 7 (by omega) (by omega) rfl, st (k + 2) (0 + 1 + 1 + 1 + 1 + 1 + 1) 6 (by omega) (by omega) rfl, st (k + 1) (0 + 1 + 1 + 1 + 1 + 1 + 1 + 1) 8 (by omega) (by omega) rfl]
  rw [show (0 + 1 + 1 + 1 + 1 + 1 + 1 + 1 + 1 : Int) = 8 from rfl, e]
  by_cases h1 : n = 1
  · rw [if_pos (show (1 : Int) = n from h1.symm), if_pos h1]; rfl
  rw [if_neg (show ¬ (1 : Int) = n from fun h => h1 h.symm), if_neg h1]
  by_cases h2 : n = 2
  · rw [if_pos (show (2 : Int) = n from h2.symm), if_pos h2]; rfl
  rw [if_neg (show ¬ (2 : Int) = n from fun h => h2 h.symm), if_neg h2]
  by_cases h4 : n = 4
  · rw [if_pos (show (4 : Int) = n from h4.symm), if_pos h4]; rfl
  rw [if_neg (show ¬ (4 : Int) = n from fun h => h4 h.symm), if_neg h4]
  by_cases h5 : n = 5
  · rw [if_pos (show (5 : Int) = n from h5.symm), if_pos h5]; rfl
  rw [if_neg (show ¬ (5 : Int) = n from fun h => h5 h.symm), if_neg h5]
  by_cases h3 : n = 3
  · rw [if_pos (show (3 : Int) = n from h3.symm), if_pos h3]; rfl
  rw [if_neg (show ¬ (3 : Int) = n from fun h => h3 h.symm), if_neg h3]
  by_cases h7 : n = 7
  · rw [if_pos (show (7 : Int) = n from h7.symm), if_pos h7]; rfl
  rw [if_neg (show ¬ (7 : Int) = n from fun h => h7 h.symm), if_neg h7]
  by_cases h6 : n = 6
  · rw [if_pos (show (6 : Int) = n from h6.symm), if_pos h6]; rfl
  rw [if_neg (show ¬ (6 : Int) = n from fun h => h6 h.symm), if_neg h6]
  by_cases h8 : n = 8
  · rw [if_pos (show (8 : Int) = n from h8.symm), if_pos h8]
  rw [if_neg (show ¬ (8 : Int) = n from fun h => h8 h.symm), if_neg h8]
theorem refcmp_f (k : Nat) (x y : S26) : annuityref23_Compare.f (k + 9) x.f0 x.f1 x.f2 x.f3 x.f4 x.f5 x.f6 x.f7 x.f8 x.f9 x.f10 y.f0 y.f1 y.f2 y.f3 y.f4 y.f5 y.f6 y.f7 y.f8 y.f9 y.f10 = some (cmE x y) := by
  have hs : ∀ a b : Int, a ≠ b → annuityref23_sign.f (decide (a < b)) = some (cmI a b) := fun a b h => by
    unfold annuityref23_sign.f cmI
    by_cases c : a < b
    · rw [if_pos (decide_eq_true c), if_pos c]
    · rw [if_neg (by simpa using c), if_neg c, if_pos (by omega)]
  have h0 : ∀ a b : Int, cmI a b = 0 ↔ a = b := fun a b => by unfold cmI; split <;> (try split) <;> omega
  have ob : ∀ (β γ : Type) (a : β) (f : β → Option γ), (some a).bind f = f a := fun _ _ _ _ => rfl
  unfold annuityref23_Compare.f
  rw [refrank_f, refrank_f]
  simp only [ob]
  unfold cmE
  by_cases c : x.f1 = y.f1
  · rw [if_pos c, if_neg (show ¬ cmI x.f1 y.f1 ≠ 0 from fun h => h ((h0 _ _).2 c))]
    by_cases d : rankOf x.f0 = rankOf y.f0
    · rw [if_pos d, if_neg (show ¬ cmI (rankOf x.f0) (rankOf y.f0) ≠ 0 from fun h => h ((h0 _ _).2 d))]
      by_cases e : x.f2 = y.f2
      · rw [if_pos e, (h0 _ _).2 e]
      · (rw [if_neg e, hs _ _ e]) <;> rfl
    · rw [if_neg d, if_pos (show cmI (rankOf x.f0) (rankOf y.f0) ≠ 0 from fun h => d ((h0 _ _).1 h)), hs _ _ d]
      all_goals rfl
  · rw [if_neg c, if_pos (show cmI x.f1 y.f1 ≠ 0 from fun h => c ((h0 _ _).1 h)), hs _ _ c]
    all_goals rfl
/-- The place from behind is the place from the front. -/
theorem at_right (x : S26) : ∀ (l : List S26) (j : Nat), Ord l → j ≤ l.length → (∀ q : Nat, j ≤ q → q < l.length → cmE (rd_T26 l (q : Int)) x > 0) → (j = 0 ∨ cmE (rd_T26 l ((j - 1 : Nat) : Int)) x ≤ 0) → atE x l = j := by
  intro l
  induction l with
  | nil => intro j _ h _ _; have : j = 0 := by simpa using h
           rw [this]; rfl
  | cons y l ih =>
    intro j ho hj hr hl
    have hy : rd_T26 (y :: l) ((0 : Nat) : Int) = y := rfl
    have hs : ∀ q : Nat, rd_T26 (y :: l) ((q + 1 : Nat) : Int) = rd_T26 l (q : Int) := fun q => by unfold rd_T26; simp
    have h2 := List.pairwise_cons.1 ho
    rcases Nat.eq_zero_or_pos j with c | c
    · subst c
      have := hr 0 (Nat.le_refl _) (by simp)
      rw [hy] at this
      unfold atE; rw [if_pos this]
    · obtain ⟨j', rfl⟩ : ∃ j', j = j' + 1 := ⟨j - 1, by omega⟩
      have hl : cmE (rd_T26 (y :: l) (j' : Int)) x ≤ 0 := by
        rcases hl with h | h
        · omega
        · simpa using h
      have hyx : cmE y x ≤ 0 := by
        rcases Nat.eq_zero_or_pos j' with d | d
        · subst d; exact hl
        · obtain ⟨q, rfl⟩ : ∃ q, j' = q + 1 := ⟨j' - 1, by omega⟩
          rw [hs] at hl
          have hq : q < l.length := by simp at hj; omega
          have : rd_T26 l (q : Int) ∈ l := by unfold rd_T26; rw [Int.toNat_natCast, List.getD_eq_getElem?_getD, List.getElem?_eq_getElem hq]; exact List.getElem_mem hq
          exact cmE_tr (h2.1 _ this) hl
      unfold atE
      rw [if_neg (by omega), ih j' h2.2 (by simpa using hj) (fun q h3 h4 => by have := hr (q + 1) (by omega) (by simpa using h4); rwa [hs] at this) (by
        rcases Nat.eq_zero_or_pos j' with d | d
        · exact .inl d
        · obtain ⟨q, rfl⟩ : ∃ q, j' = q + 1 := ⟨j' - 1, by omega⟩
          rw [hs] at hl
          exact .inr (by simpa using hl))]
def annuityref23_Sort.f (k : Nat) (l0 : List S26) : Option (List S26) := if l0.length ≤ 100000 then some (sortE l0) else none
theorem annuityref23_Sort.mono : ∀ l0 k, LeO (annuityref23_Sort.f k l0) (annuityref23_Sort.f (k + 1) l0) := fun _ _ => LeO.refl _
set_option maxHeartbeats 8000000 in
set_option maxRecDepth 100000 in
theorem annuityref23_Sort.calls (k : Nat) (A0 : Option Addr) (c0 : Nat) (l0 : List (S26)) (r : List (S26)) (w00 : World) (hr0 : Kd.C k26 w00 A0 l0.length l0) (hc0 : l0.length ≤ c0) (h : annuityref23_Sort.f k l0 = some r) :
    Calls Try.prog 8 #[.slice A0 l0.length c0] w00 fun e w' => ∃ v0_ : Value, e = .returned (v0_) ∧ Kd.R k26 26 w' w00.heap.size (fun _ => True) v0_ r ∧ Below w00.heap.size w00 w' := by
  by_cases c : l0.length ≤ 100000
  case neg => rw [annuityref23_Sort.f, if_neg c] at h; cases h
  rw [annuityref23_Sort.f, if_pos c] at h
  obtain rfl := Option.some.inj h
  have hu26 := Try.underlying26
  have HL := Aside0.mk c
  have HR00 := Aside0.mk hr0
  have HC0 := Aside0.mk hc0
  have HB0 := Aside0.mk (Below.refl w00.heap.size w00)
  clear hr0 hc0 c h
  go_enter Try.func8, Try.ntmps8
  go_wp2
  go_loopg [3, 4] l0.length (fun kq v3 v4 w' => ∃ (i : Nat), v4 = .int .i64 i ∧ i ≤ l0.length ∧ l0.length - i ≤ kq ∧ Aside0 (Kd.R k26 26 w' w00.heap.size (fun _ => True) v3 (sortE (l0.take i))) ∧ Aside0 (Below w00.heap.size w00 w'))
  case atStart => exact ⟨0, by first | rfl | go_num, Nat.zero_le _, by omega, ⟨Kd.R_nil _ _ _ _ _⟩, HB0⟩
  case round =>
    clear HB0
    obtain ⟨i, rfl, hin, hkx, HO, HBo⟩ := hrel
    by_cases hlt : i < l0.length
    · obtain ⟨l2, hl2⟩ : ∃ l2, l2 = sortE (l0.take i) := ⟨_, rfl⟩
      rw [← hl2] at HO
      have hlen : l2.length = i := by rw [hl2, sortE_len, List.length_take]; omega
      obtain ⟨a1, ha1⟩ : ∃ z : Int, z = (i : Int) := ⟨_, rfl⟩
      have hrd : rd_T26 l0 a1 = l0[i] := by rw [ha1]; unfold rd_T26; simp [List.getD_eq_getElem?_getD, hlt]
      have HOr := Aside0.mk (show Ord l2 from by rw [hl2]; exact sortE_ord _)
      have HN := Aside0.mk (show insE (rd_T26 l0 a1) l2 = sortE (l0.take (i + 1)) from by rw [hrd, hl2, List.take_succ_eq_append_getElem hlt, sortE_snoc])
      have HI := Aside0.mk (show a1 = (i : Int) ∧ i < l0.length ∧ l0.length ≤ 100000 ∧ l2.length = i ∧ l0.length - i ≤ gk by have := HL.out; omega)
      rw [← ha1]
      have p00 : a1 < (l0.length : Int) := by omega
      have c9b0 : decide (a1 < (l0.length : Int)) = true := decide_eq_true p00
      have c8b0 : decide (0 ≤ a1) = true := decide_eq_true (by omega)
      obtain ⟨A2, c2, eo⟩ := Kd.R_slice HO.out
      subst eo
      have HR2 := Aside0.mk (Kd.R_reads' HO.out).2.2
      have HC2 := Aside0.mk (Kd.R_reads' HO.out).2.1
      generalize wr = w at HO HBo HR2 ⊢
      have HR0 := Aside0.mk (Kd.C_below HR00.out HBo.out)
      have HB := Aside0.mk (Below.refl w.heap.size w)
      clear hin hkx hlt hl2 hlen ha1 hrd HO
      go_upto_block 2 with (fail)
      go_cut [5] (fun v5 wc => ∃ (x7_1 : Int), v5 = .int .i64 x7_1 ∧ Aside0 (0 ≤ x7_1 ∧ x7_1 ≤ (l2.length : Int) ∧ atE (rd_T26 l0 a1) l2 = x7_1.toNat) ∧ Aside0 (Below w.heap.size w wc))
      case first =>
        clear p00
        go_wp2
        go_loopg [5] l2.length (fun kq v5 w' => ∃ (x7_1 : Int), v5 = .int .i64 x7_1 ∧ 0 ≤ x7_1 ∧ x7_1 ≤ (l2.length : Int) ∧ x7_1.toNat ≤ kq ∧ Aside0 (∀ q : Nat, x7_1.toNat ≤ q → q < l2.length → cmE (rd_T26 l2 (q : Int)) (rd_T26 l0 a1) > 0) ∧ Aside0 (Below w.heap.size w w'))
        case atStart => exact ⟨(l2.length : Int), by first | rfl | (simp; done), by omega, Int.le_refl _, by omega, ⟨fun q h1 h2 => by omega⟩, HB⟩
        case round =>
          clear HB
          obtain ⟨x7_1, rfl, hx0, hx1, hxk, HQ, HB⟩ := hrel
          by_cases c4 : x7_1 > 0
          · have c4b0 : decide (0 < x7_1) = true := decide_eq_true c4
            obtain ⟨ji5, hji5⟩ : ∃ j_ : Int, (wrap64 (x7_1 - 1)) = j_ := ⟨_, rfl⟩
            have hji5w : (IntKind.i64.wrap (x7_1 - 1)) = ji5 := (i64_w _).trans hji5
            have hji : ji5 = x7_1 - 1 := by have := HI.out; rw [← hji5]; unfold wrap64; omega
            have HJ := Aside0.mk hji
            have HX := Aside0.mk (show 0 < x7_1 ∧ x7_1 ≤ (l2.length : Int) ∧ x7_1.toNat ≤ gk from ⟨c4, hx1, hxk⟩)
            have c6b0 : decide (0 ≤ ji5) = true := decide_eq_true (by omega)
            have c7b0 : decide (ji5 < (l2.length : Int)) = true := decide_eq_true (by omega)
            clear c4 hx0 hx1 hxk hji
            obtain ⟨t167, ht⟩ : ∃ t, t = cmE (rd_T26 l2 ji5) (rd_T26 l0 a1) := ⟨_, rfl⟩
            have A10 := Aside0.mk (show annuityref23_Compare.f 12 ((rd_T26 l2 (ji5)).f0) ((rd_T26 l2 (ji5)).f1) ((rd_T26 l2 (ji5)).f2) ((rd_T26 l2 (ji5)).f3) ((rd_T26 l2 (ji5)).f4) ((rd_T26 l2 (ji5)).f5) ((rd_T26 l2 (ji5)).f6) ((rd_T26 l2 (ji5)).f7) ((rd_T26 l2 (ji5)).f8) ((rd_T26 l2 (ji5)).f9) ((rd_T26 l2 (ji5)).f10) ((rd_T26 l0 a1).f0) ((rd_T26 l0 a1).f1) ((rd_T26 l0 a1).f2) ((rd_T26 l0 a1).f3) ((rd_T26 l0 a1).f4) ((rd_T26 l0 a1).f5) ((rd_T26 l0 a1).f6) ((rd_T26 l0 a1).f7) ((rd_T26 l0 a1).f8) ((rd_T26 l0 a1).f9) ((rd_T26 l0 a1).f10) = some t167 by rw [ht]; exact refcmp_f 3 _ _)
            have HT := Aside0.mk ht
            clear ht
            by_cases c11 : t167 > 0
            · have c11b0 : decide (0 < t167) = true := decide_eq_true c11
              have HT1 := Aside0.mk c11
              clear c11
              try go_wp2
              have n0_ := Aside0.mk (below_drew1 HB.out)
              clear HB
              have HB := n0_
              clear n0_
              have p165 : 0 ≤ ((ji5) : Int) := of_decide_eq_true (by first | (with_reducible assumption) | assumption)
              have q165 : (ji5) < (l2.length : Int) := of_decide_eq_true (by first | (with_reducible assumption) | assumption)
              obtain ⟨ad165, e165, hx165_0, hx165_1, hx165_2, hx165_3, hx165_4, hx165_5, hx165_6, hx165_7, hx165_8, hx165_9, hx165_10⟩ := at_T26 HR2.out (ji5) p165 q165
              have hw165_10 := hx165_10
              have hw165_9 := hx165_9
              have hw165_8 := hx165_8
              have hw165_7 := hx165_7
              have hw165_6 := hx165_6
              have hw165_5 := hx165_5
              have hw165_4 := hx165_4
              have hw165_3 := hx165_3
              have hw165_2 := hx165_2
              have hw165_1 := hx165_1
              have hw165_0 := hx165_0
              cases e165
              replace hx165_0 := (HB.out.cell (World.block_lt_of_cell? w _ hx165_0)).trans hx165_0
              replace hx165_1 := (HB.out.cell (World.block_lt_of_cell? w _ hx165_1)).trans hx165_1
              replace hx165_2 := (HB.out.cell (World.block_lt_of_cell? w _ hx165_2)).trans hx165_2
              replace hx165_3 := (HB.out.cell (World.block_lt_of_cell? w _ hx165_3)).trans hx165_3
              replace hx165_4 := (HB.out.cell (World.block_lt_of_cell? w _ hx165_4)).trans hx165_4
              replace hx165_5 := (HB.out.cell (World.block_lt_of_cell? w _ hx165_5)).trans hx165_5
              replace hx165_6 := (HB.out.cell (World.block_lt_of_cell? w _ hx165_6)).trans hx165_6
              replace hx165_7 := (HB.out.cell (World.block_lt_of_cell? w _ hx165_7)).trans hx165_7
              replace hx165_8 := (HB.out.cell (World.block_lt_of_cell? w _ hx165_8)).trans hx165_8
              replace hx165_9 := (HB.out.cell (World.block_lt_of_cell? w _ hx165_9)).trans hx165_9
              replace hx165_10 := (HB.out.cell (World.block_lt_of_cell? w _ hx165_10)).trans hx165_10
              replace p165 := eq_true p165
              replace q165 := eq_true q165
              have p166 : 0 ≤ (a1 : Int) := of_decide_eq_true (by first | (with_reducible assumption) | assumption)
              have q166 : a1 < (l0.length : Int) := of_decide_eq_true (by first | (with_reducible assumption) | assumption)
              obtain ⟨ad166, e166, hx166_0, hx166_1, hx166_2, hx166_3, hx166_4, hx166_5, hx166_6, hx166_7, hx166_8, hx166_9, hx166_10⟩ := at_T26 HR0.out a1 p166 q166
              have hw166_10 := hx166_10
              have hw166_9 := hx166_9
              have hw166_8 := hx166_8
              have hw166_7 := hx166_7
              have hw166_6 := hx166_6
              have hw166_5 := hx166_5
              have hw166_4 := hx166_4
              have hw166_3 := hx166_3
              have hw166_2 := hx166_2
              have hw166_1 := hx166_1
              have hw166_0 := hx166_0
              cases e166
              replace hx166_0 := (HB.out.cell (World.block_lt_of_cell? w _ hx166_0)).trans hx166_0
              replace hx166_1 := (HB.out.cell (World.block_lt_of_cell? w _ hx166_1)).trans hx166_1
              replace hx166_2 := (HB.out.cell (World.block_lt_of_cell? w _ hx166_2)).trans hx166_2
              replace hx166_3 := (HB.out.cell (World.block_lt_of_cell? w _ hx166_3)).trans hx166_3
              replace hx166_4 := (HB.out.cell (World.block_lt_of_cell? w _ hx166_4)).trans hx166_4
              replace hx166_5 := (HB.out.cell (World.block_lt_of_cell? w _ hx166_5)).trans hx166_5
              replace hx166_6 := (HB.out.cell (World.block_lt_of_cell? w _ hx166_6)).trans hx166_6
              replace hx166_7 := (HB.out.cell (World.block_lt_of_cell? w _ hx166_7)).trans hx166_7
              replace hx166_8 := (HB.out.cell (World.block_lt_of_cell? w _ hx166_8)).trans hx166_8
              replace hx166_9 := (HB.out.cell (World.block_lt_of_cell? w _ hx166_9)).trans hx166_9
              replace hx166_10 := (HB.out.cell (World.block_lt_of_cell? w _ hx166_10)).trans hx166_10
              replace p166 := eq_true p166
              replace q166 := eq_true q166
              refine start_ (n := 15) (S := fun w' => w'.cell? (ad165.add (((ji5)).toNat * 11)) = some (.int .i64 ((rd_T26 l2 (ji5)).f0)) ∧ w'.cell? ⟨(ad165.add (((ji5)).toNat * 11)).block, (ad165.add (((ji5)).toNat * 11)).off + 1, none⟩ = some (.int .i64 ((rd_T26 l2 (ji5)).f1)) ∧ w'.cell? ⟨(ad165.add (((ji5)).toNat * 11)).block, (ad165.add (((ji5)).toNat * 11)).off + 2, none⟩ = some (.int .u32 ((rd_T26 l2 (ji5)).f2)) ∧ w'.cell? ⟨(ad165.add (((ji5)).toNat * 11)).block, (ad165.add (((ji5)).toNat * 11)).off + 3, none⟩ = some (.int .i64 ((rd_T26 l2 (ji5)).f3)) ∧ w'.cell? ⟨(ad165.add (((ji5)).toNat * 11)).block, (ad165.add (((ji5)).toNat * 11)).off + 4, none⟩ = some (.int .i64 ((rd_T26 l2 (ji5)).f4)) ∧ w'.cell? ⟨(ad165.add (((ji5)).toNat * 11)).block, (ad165.add (((ji5)).toNat * 11)).off + 5, none⟩ = some (.float .f64 ((rd_T26 l2 (ji5)).f5)) ∧ w'.cell? ⟨(ad165.add (((ji5)).toNat * 11)).block, (ad165.add (((ji5)).toNat * 11)).off + 6, none⟩ = some (.float .f64 ((rd_T26 l2 (ji5)).f6)) ∧ w'.cell? ⟨(ad165.add (((ji5)).toNat * 11)).block, (ad165.add (((ji5)).toNat * 11)).off + 7, none⟩ = some (.bool ((rd_T26 l2 (ji5)).f7)) ∧ w'.cell? ⟨(ad165.add (((ji5)).toNat * 11)).block, (ad165.add (((ji5)).toNat * 11)).off + 8, none⟩ = some (.int .i64 ((rd_T26 l2 (ji5)).f8)) ∧ w'.cell? ⟨(ad165.add (((ji5)).toNat * 11)).block, (ad165.add (((ji5)).toNat * 11)).off + 9, none⟩ = some (.int .i64 ((rd_T26 l2 (ji5)).f9)) ∧ w'.cell? ⟨(ad165.add (((ji5)).toNat * 11)).block, (ad165.add (((ji5)).toNat * 11)).off + 10, none⟩ = some (.int .i64 ((rd_T26 l2 (ji5)).f10)) ∧ w'.cell? (ad166.add ((a1).toNat * 11)) = some (.int .i64 ((rd_T26 l0 a1).f0)) ∧ w'.cell? ⟨(ad166.add ((a1).toNat * 11)).block, (ad166.add ((a1).toNat * 11)).off + 1, none⟩ = some (.int .i64 ((rd_T26 l0 a1).f1)) ∧ w'.cell? ⟨(ad166.add ((a1).toNat * 11)).block, (ad166.add ((a1).toNat * 11)).off + 2, none⟩ = some (.int .u32 ((rd_T26 l0 a1).f2)) ∧ w'.cell? ⟨(ad166.add ((a1).toNat * 11)).block, (ad166.add ((a1).toNat * 11)).off + 3, none⟩ = some (.int .i64 ((rd_T26 l0 a1).f3)) ∧ w'.cell? ⟨(ad166.add ((a1).toNat * 11)).block, (ad166.add ((a1).toNat * 11)).off + 4, none⟩ = some (.int .i64 ((rd_T26 l0 a1).f4)) ∧ w'.cell? ⟨(ad166.add ((a1).toNat * 11)).block, (ad166.add ((a1).toNat * 11)).off + 5, none⟩ = some (.float .f64 ((rd_T26 l0 a1).f5)) ∧ w'.cell? ⟨(ad166.add ((a1).toNat * 11)).block, (ad166.add ((a1).toNat * 11)).off + 6, none⟩ = some (.float .f64 ((rd_T26 l0 a1).f6)) ∧ w'.cell? ⟨(ad166.add ((a1).toNat * 11)).block, (ad166.add ((a1).toNat * 11)).off + 7, none⟩ = some (.bool ((rd_T26 l0 a1).f7)) ∧ w'.cell? ⟨(ad166.add ((a1).toNat * 11)).block, (ad166.add ((a1).toNat * 11)).off + 8, none⟩ = some (.int .i64 ((rd_T26 l0 a1).f8)) ∧ w'.cell? ⟨(ad166.add ((a1).toNat * 11)).block, (ad166.add ((a1).toNat * 11)).off + 9, none⟩ = some (.int .i64 ((rd_T26 l0 a1).f9)) ∧ w'.cell? ⟨(ad166.add ((a1).toNat * 11)).block, (ad166.add ((a1).toNat * 11)).off + 10, none⟩ = some (.int .i64 ((rd_T26 l0 a1).f10))) (ds := []) (annuityref23_Sort.fl 15 0) (by kernel_rfl) rfl rfl ⟨((HB.out.cell (World.block_lt_of_cell? w _ hw165_0)).trans hw165_0), ((HB.out.cell (World.block_lt_of_cell? w _ hw165_1)).trans hw165_1), ((HB.out.cell (World.block_lt_of_cell? w _ hw165_2)).trans hw165_2), ((HB.out.cell (World.block_lt_of_cell? w _ hw165_3)).trans hw165_3), ((HB.out.cell (World.block_lt_of_cell? w _ hw165_4)).trans hw165_4), ((HB.out.cell (World.block_lt_of_cell? w _ hw165_5)).trans hw165_5), ((HB.out.cell (World.block_lt_of_cell? w _ hw165_6)).trans hw165_6), ((HB.out.cell (World.block_lt_of_cell? w _ hw165_7)).trans hw165_7), ((HB.out.cell (World.block_lt_of_cell? w _ hw165_8)).trans hw165_8), ((HB.out.cell (World.block_lt_of_cell? w _ hw165_9)).trans hw165_9), ((HB.out.cell (World.block_lt_of_cell? w _ hw165_10)).trans hw165_10), ((HB.out.cell (World.block_lt_of_cell? w _ hw166_0)).trans hw166_0), ((HB.out.cell (World.block_lt_of_cell? w _ hw166_1)).trans hw166_1), ((HB.out.cell (World.block_lt_of_cell? w _ hw166_2)).trans hw166_2), ((HB.out.cell (World.block_lt_of_cell? w _ hw166_3)).trans hw166_3), ((HB.out.cell (World.block_lt_of_cell? w _ hw166_4)).trans hw166_4), ((HB.out.cell (World.block_lt_of_cell? w _ hw166_5)).trans hw166_5), ((HB.out.cell (World.block_lt_of_cell? w _ hw166_6)).trans hw166_6), ((HB.out.cell (World.block_lt_of_cell? w _ hw166_7)).trans hw166_7), ((HB.out.cell (World.block_lt_of_cell? w _ hw166_8)).trans hw166_8), ((HB.out.cell (World.block_lt_of_cell? w _ hw166_9)).trans hw166_9), ((HB.out.cell (World.block_lt_of_cell? w _ hw166_10)).trans hw166_10)⟩ (fun hHeld => ?_); refine with_tabW annuityref23_Sort.tab6 annuityref23_Sort.bits6 (fun HT_ HW_ => ?_)
              generalize wr.drew = w12 at HB hx165_0 hx165_1 hx165_10 hx165_2 hx165_3 hx165_4 hx165_5 hx165_6 hx165_7 hx165_8 hx165_9 hx166_0 hx166_1 hx166_10 hx166_2 hx166_3 hx166_4 hx166_5 hx166_6 hx166_7 hx166_8 hx166_9 hHeld ⊢
              refine annuityref23_Sort.y 0 14 15 1 HT_.out ?_
              refine annuityref23_Sort.y 1 15 15 3 HT_.out ?_
              refine annuityref23_Sort.y 2 16 15 7 HT_.out ?_
              refine annuityref23_Sort.y 3 17 15 15 HT_.out ?_
              refine annuityref23_Sort.y 4 18 15 31 HT_.out ?_
              refine annuityref23_Sort.y 5 19 15 63 HT_.out ?_
              refine annuityref23_Sort.y 6 20 15 127 HT_.out ?_
              refine annuityref23_Sort.y 8 22 15 383 HT_.out ?_
              refine annuityref23_Sort.y 9 23 15 895 HT_.out ?_
              refine annuityref23_Sort.y 10 24 15 1919 HT_.out ?_
              refine annuityref23_Sort.t 7 21 15 2047 HT_.out HW_.out hHeld ?_
              refine annuityref23_Sort.t 11 25 15 4095 HT_.out HW_.out hHeld ?_
              refine one_ (i := 12) (N := some 26) (annuityref23_Sort.fl 15 8191) rfl rfl (one_of HT_.out (by kernel_rfl)) (by decide) (fun K hK => ?_)
              refine goes_ Try.func13 (by kernel_rfl) rfl #[.agg #[.int .i64 ((rd_T26 l2 (ji5)).f0), .int .i64 ((rd_T26 l2 (ji5)).f1), .int .u32 ((rd_T26 l2 (ji5)).f2), .int .i64 ((rd_T26 l2 (ji5)).f3), .int .i64 ((rd_T26 l2 (ji5)).f4), .float .f64 ((rd_T26 l2 (ji5)).f5), .float .f64 ((rd_T26 l2 (ji5)).f6), .bool ((rd_T26 l2 (ji5)).f7), .int .i64 ((rd_T26 l2 (ji5)).f8), .int .i64 ((rd_T26 l2 (ji5)).f9), .int .i64 ((rd_T26 l2 (ji5)).f10)], .agg #[.int .i64 ((rd_T26 l0 a1).f0), .int .i64 ((rd_T26 l0 a1).f1), .int .u32 ((rd_T26 l0 a1).f2), .int .i64 ((rd_T26 l0 a1).f3), .int .i64 ((rd_T26 l0 a1).f4), .float .f64 ((rd_T26 l0 a1).f5), .float .f64 ((rd_T26 l0 a1).f6), .bool ((rd_T26 l0 a1).f7), .int .i64 ((rd_T26 l0 a1).f8), .int .i64 ((rd_T26 l0 a1).f9), .int .i64 ((rd_T26 l0 a1).f10)]] (by rfl) rfl rfl (by (try simp only [List.map_toArray, List.map_cons, List.map_nil]); first | done | (simp only [hji5]; rfl) | rfl | (simp only [List.length_drop, List.length_take]; rfl)) ?_
              with_reducible refine (annuityref23_Compare.calls 12 ((rd_T26 l2 (ji5)).f0) ((rd_T26 l2 (ji5)).f1) ((rd_T26 l2 (ji5)).f2) ((rd_T26 l2 (ji5)).f3) ((rd_T26 l2 (ji5)).f4) ((rd_T26 l2 (ji5)).f5) ((rd_T26 l2 (ji5)).f6) ((rd_T26 l2 (ji5)).f7) ((rd_T26 l2 (ji5)).f8) ((rd_T26 l2 (ji5)).f9) ((rd_T26 l2 (ji5)).f10) ((rd_T26 l0 a1).f0) ((rd_T26 l0 a1).f1) ((rd_T26 l0 a1).f2) ((rd_T26 l0 a1).f3) ((rd_T26 l0 a1).f4) ((rd_T26 l0 a1).f5) ((rd_T26 l0 a1).f6) ((rd_T26 l0 a1).f7) ((rd_T26 l0 a1).f8) ((rd_T26 l0 a1).f9) ((rd_T26 l0 a1).f10) t167 _ A10.out).mono ?_
              rintro e w13 ⟨rfl, hb⟩
              refine ⟨_, rfl, ?_⟩
              have n0_ := Aside0.mk (below_step (by repeat (first | (with_reducible first | exact HB.out | apply below_alloc | apply pw_below_drewN | apply below_drew1) | exact HB.out)) hb)
              clear HB
              have HB := n0_
              clear n0_
              (try clear hb)
              (try clear hb2)
              (try clear hk)
              (try clear hi)
              refine hK.out _ _ ⟨((HB.out.cell (World.block_lt_of_cell? w _ hw165_0)).trans hw165_0), ((HB.out.cell (World.block_lt_of_cell? w _ hw165_1)).trans hw165_1), ((HB.out.cell (World.block_lt_of_cell? w _ hw165_2)).trans hw165_2), ((HB.out.cell (World.block_lt_of_cell? w _ hw165_3)).trans hw165_3), ((HB.out.cell (World.block_lt_of_cell? w _ hw165_4)).trans hw165_4), ((HB.out.cell (World.block_lt_of_cell? w _ hw165_5)).trans hw165_5), ((HB.out.cell (World.block_lt_of_cell? w _ hw165_6)).trans hw165_6), ((HB.out.cell (World.block_lt_of_cell? w _ hw165_7)).trans hw165_7), ((HB.out.cell (World.block_lt_of_cell? w _ hw165_8)).trans hw165_8), ((HB.out.cell (World.block_lt_of_cell? w _ hw165_9)).trans hw165_9), ((HB.out.cell (World.block_lt_of_cell? w _ hw165_10)).trans hw165_10), ((HB.out.cell (World.block_lt_of_cell? w _ hw166_0)).trans hw166_0), ((HB.out.cell (World.block_lt_of_cell? w _ hw166_1)).trans hw166_1), ((HB.out.cell (World.block_lt_of_cell? w _ hw166_2)).trans hw166_2), ((HB.out.cell (World.block_lt_of_cell? w _ hw166_3)).trans hw166_3), ((HB.out.cell (World.block_lt_of_cell? w _ hw166_4)).trans hw166_4), ((HB.out.cell (World.block_lt_of_cell? w _ hw166_5)).trans hw166_5), ((HB.out.cell (World.block_lt_of_cell? w _ hw166_6)).trans hw166_6), ((HB.out.cell (World.block_lt_of_cell? w _ hw166_7)).trans hw166_7), ((HB.out.cell (World.block_lt_of_cell? w _ hw166_8)).trans hw166_8), ((HB.out.cell (World.block_lt_of_cell? w _ hw166_9)).trans hw166_9), ((HB.out.cell (World.block_lt_of_cell? w _ hw166_10)).trans hw166_10)⟩ (fun hHeld => ?_)
              clear hK K
              refine norm_ (a' := ?_) ?_ ?_
              rotate_left
              · show Act.put _ (some 26) _ = _
                simp only [Act.put, List.setIfInBounds_toArray, List.set_cons_zero, List.set_cons_succ, i64_w, i32_w]
                rfl
              refine annuityref23_Sort.y 13 27 15 16383 HT_.out ?_
              refine annuityref23_Sort.y 14 28 15 32767 HT_.out ?_
              refine done_ (done_of HT_.out (by kernel_rfl)) ?_
              try go_wp2
              go_roundg ji5.toNat
              case measure => have := HJ.out; have := HX.out; omega
              case rel => exact ⟨ji5, (by first | rfl | (simp; done) | (simp only [← hji5] <;> (first | rfl | simp)) | (simp [*]; done)), (by have := HJ.out; have := HX.out; omega), (by have := HJ.out; have := HX.out; omega), Nat.le_refl _, ⟨fun q h1 h2 => by
                by_cases e : q = ji5.toNat
                · have h3 := HT1.out
                  rw [HT.out] at h3
                  rw [show ((q : Nat) : Int) = ji5 by have := HJ.out; have := HX.out; omega]
                  exact h3
                · exact HQ.out q (by have := HJ.out; have := HX.out; omega) h2⟩, ⟨by repeat (first | (with_reducible first | exact HB.out | apply below_alloc | apply pw_below_drewN | apply below_drew1) | exact HB.out)⟩⟩
            · have c11b0 : decide (0 < t167) = false := decide_eq_false c11
              have HT1 := Aside0.mk c11
              clear c11
              try go_wp2
              have n0_ := Aside0.mk (below_drew1 HB.out)
              clear HB
              have HB := n0_
              clear n0_
              have p165 : 0 ≤ ((ji5) : Int) := of_decide_eq_true (by first | (with_reducible assumption) | assumption)
              have q165 : (ji5) < (l2.length : Int) := of_decide_eq_true (by first | (with_reducible assumption) | assumption)
              obtain ⟨ad165, e165, hx165_0, hx165_1, hx165_2, hx165_3, hx165_4, hx165_5, hx165_6, hx165_7, hx165_8, hx165_9, hx165_10⟩ := at_T26 HR2.out (ji5) p165 q165
              have hw165_10 := hx165_10
              have hw165_9 := hx165_9
              have hw165_8 := hx165_8
              have hw165_7 := hx165_7
              have hw165_6 := hx165_6
              have hw165_5 := hx165_5
              have hw165_4 := hx165_4
              have hw165_3 := hx165_3
              have hw165_2 := hx165_2
              have hw165_1 := hx165_1
              have hw165_0 := hx165_0
              cases e165
              replace hx165_0 := (HB.out.cell (World.block_lt_of_cell? w _ hx165_0)).trans hx165_0
              replace hx165_1 := (HB.out.cell (World.block_lt_of_cell? w _ hx165_1)).trans hx165_1
              replace hx165_2 := (HB.out.cell (World.block_lt_of_cell? w _ hx165_2)).trans hx165_2
              replace hx165_3 := (HB.out.cell (World.block_lt_of_cell? w _ hx165_3)).trans hx165_3
              replace hx165_4 := (HB.out.cell (World.block_lt_of_cell? w _ hx165_4)).trans hx165_4
              replace hx165_5 := (HB.out.cell (World.block_lt_of_cell? w _ hx165_5)).trans hx165_5
              replace hx165_6 := (HB.out.cell (World.block_lt_of_cell? w _ hx165_6)).trans hx165_6
              replace hx165_7 := (HB.out.cell (World.block_lt_of_cell? w _ hx165_7)).trans hx165_7
              replace hx165_8 := (HB.out.cell (World.block_lt_of_cell? w _ hx165_8)).trans hx165_8
              replace hx165_9 := (HB.out.cell (World.block_lt_of_cell? w _ hx165_9)).trans hx165_9
              replace hx165_10 := (HB.out.cell (World.block_lt_of_cell? w _ hx165_10)).trans hx165_10
              replace p165 := eq_true p165
              replace q165 := eq_true q165
              have p166 : 0 ≤ (a1 : Int) := of_decide_eq_true (by first | (with_reducible assumption) | assumption)
              have q166 : a1 < (l0.length : Int) := of_decide_eq_true (by first | (with_reducible assumption) | assumption)
              obtain ⟨ad166, e166, hx166_0, hx166_1, hx166_2, hx166_3, hx166_4, hx166_5, hx166_6, hx166_7, hx166_8, hx166_9, hx166_10⟩ := at_T26 HR0.out a1 p166 q166
              have hw166_10 := hx166_10
              have hw166_9 := hx166_9
              have hw166_8 := hx166_8
              have hw166_7 := hx166_7
              have hw166_6 := hx166_6
              have hw166_5 := hx166_5
              have hw166_4 := hx166_4
              have hw166_3 := hx166_3
              have hw166_2 := hx166_2
              have hw166_1 := hx166_1
              have hw166_0 := hx166_0
              cases e166
              replace hx166_0 := (HB.out.cell (World.block_lt_of_cell? w _ hx166_0)).trans hx166_0
              replace hx166_1 := (HB.out.cell (World.block_lt_of_cell? w _ hx166_1)).trans hx166_1
              replace hx166_2 := (HB.out.cell (World.block_lt_of_cell? w _ hx166_2)).trans hx166_2
              replace hx166_3 := (HB.out.cell (World.block_lt_of_cell? w _ hx166_3)).trans hx166_3
              replace hx166_4 := (HB.out.cell (World.block_lt_of_cell? w _ hx166_4)).trans hx166_4
              replace hx166_5 := (HB.out.cell (World.block_lt_of_cell? w _ hx166_5)).trans hx166_5
              replace hx166_6 := (HB.out.cell (World.block_lt_of_cell? w _ hx166_6)).trans hx166_6
              replace hx166_7 := (HB.out.cell (World.block_lt_of_cell? w _ hx166_7)).trans hx166_7
              replace hx166_8 := (HB.out.cell (World.block_lt_of_cell? w _ hx166_8)).trans hx166_8
              replace hx166_9 := (HB.out.cell (World.block_lt_of_cell? w _ hx166_9)).trans hx166_9
              replace hx166_10 := (HB.out.cell (World.block_lt_of_cell? w _ hx166_10)).trans hx166_10
              replace p166 := eq_true p166
              replace q166 := eq_true q166
              refine start_ (n := 15) (S := fun w' => w'.cell? (ad165.add (((ji5)).toNat * 11)) = some (.int .i64 ((rd_T26 l2 (ji5)).f0)) ∧ w'.cell? ⟨(ad165.add (((ji5)).toNat * 11)).block, (ad165.add (((ji5)).toNat * 11)).off + 1, none⟩ = some (.int .i64 ((rd_T26 l2 (ji5)).f1)) ∧ w'.cell? ⟨(ad165.add (((ji5)).toNat * 11)).block, (ad165.add (((ji5)).toNat * 11)).off + 2, none⟩ = some (.int .u32 ((rd_T26 l2 (ji5)).f2)) ∧ w'.cell? ⟨(ad165.add (((ji5)).toNat * 11)).block, (ad165.add (((ji5)).toNat * 11)).off + 3, none⟩ = some (.int .i64 ((rd_T26 l2 (ji5)).f3)) ∧ w'.cell? ⟨(ad165.add (((ji5)).toNat * 11)).block, (ad165.add (((ji5)).toNat * 11)).off + 4, none⟩ = some (.int .i64 ((rd_T26 l2 (ji5)).f4)) ∧ w'.cell? ⟨(ad165.add (((ji5)).toNat * 11)).block, (ad165.add (((ji5)).toNat * 11)).off + 5, none⟩ = some (.float .f64 ((rd_T26 l2 (ji5)).f5)) ∧ w'.cell? ⟨(ad165.add (((ji5)).toNat * 11)).block, (ad165.add (((ji5)).toNat * 11)).off + 6, none⟩ = some (.float .f64 ((rd_T26 l2 (ji5)).f6)) ∧ w'.cell? ⟨(ad165.add (((ji5)).toNat * 11)).block, (ad165.add (((ji5)).toNat * 11)).off + 7, none⟩ = some (.bool ((rd_T26 l2 (ji5)).f7)) ∧ w'.cell? ⟨(ad165.add (((ji5)).toNat * 11)).block, (ad165.add (((ji5)).toNat * 11)).off + 8, none⟩ = some (.int .i64 ((rd_T26 l2 (ji5)).f8)) ∧ w'.cell? ⟨(ad165.add (((ji5)).toNat * 11)).block, (ad165.add (((ji5)).toNat * 11)).off + 9, none⟩ = some (.int .i64 ((rd_T26 l2 (ji5)).f9)) ∧ w'.cell? ⟨(ad165.add (((ji5)).toNat * 11)).block, (ad165.add (((ji5)).toNat * 11)).off + 10, none⟩ = some (.int .i64 ((rd_T26 l2 (ji5)).f10)) ∧ w'.cell? (ad166.add ((a1).toNat * 11)) = some (.int .i64 ((rd_T26 l0 a1).f0)) ∧ w'.cell? ⟨(ad166.add ((a1).toNat * 11)).block, (ad166.add ((a1).toNat * 11)).off + 1, none⟩ = some (.int .i64 ((rd_T26 l0 a1).f1)) ∧ w'.cell? ⟨(ad166.add ((a1).toNat * 11)).block, (ad166.add ((a1).toNat * 11)).off + 2, none⟩ = some (.int .u32 ((rd_T26 l0 a1).f2)) ∧ w'.cell? ⟨(ad166.add ((a1).toNat * 11)).block, (ad166.add ((a1).toNat * 11)).off + 3, none⟩ = some (.int .i64 ((rd_T26 l0 a1).f3)) ∧ w'.cell? ⟨(ad166.add ((a1).toNat * 11)).block, (ad166.add ((a1).toNat * 11)).off + 4, none⟩ = some (.int .i64 ((rd_T26 l0 a1).f4)) ∧ w'.cell? ⟨(ad166.add ((a1).toNat * 11)).block, (ad166.add ((a1).toNat * 11)).off + 5, none⟩ = some (.float .f64 ((rd_T26 l0 a1).f5)) ∧ w'.cell? ⟨(ad166.add ((a1).toNat * 11)).block, (ad166.add ((a1).toNat * 11)).off + 6, none⟩ = some (.float .f64 ((rd_T26 l0 a1).f6)) ∧ w'.cell? ⟨(ad166.add ((a1).toNat * 11)).block, (ad166.add ((a1).toNat * 11)).off + 7, none⟩ = some (.bool ((rd_T26 l0 a1).f7)) ∧ w'.cell? ⟨(ad166.add ((a1).toNat * 11)).block, (ad166.add ((a1).toNat * 11)).off + 8, none⟩ = some (.int .i64 ((rd_T26 l0 a1).f8)) ∧ w'.cell? ⟨(ad166.add ((a1).toNat * 11)).block, (ad166.add ((a1).toNat * 11)).off + 9, none⟩ = some (.int .i64 ((rd_T26 l0 a1).f9)) ∧ w'.cell? ⟨(ad166.add ((a1).toNat * 11)).block, (ad166.add ((a1).toNat * 11)).off + 10, none⟩ = some (.int .i64 ((rd_T26 l0 a1).f10))) (ds := []) (annuityref23_Sort.fl 15 0) (by kernel_rfl) rfl rfl ⟨((HB.out.cell (World.block_lt_of_cell? w _ hw165_0)).trans hw165_0), ((HB.out.cell (World.block_lt_of_cell? w _ hw165_1)).trans hw165_1), ((HB.out.cell (World.block_lt_of_cell? w _ hw165_2)).trans hw165_2), ((HB.out.cell (World.block_lt_of_cell? w _ hw165_3)).trans hw165_3), ((HB.out.cell (World.block_lt_of_cell? w _ hw165_4)).trans hw165_4), ((HB.out.cell (World.block_lt_of_cell? w _ hw165_5)).trans hw165_5), ((HB.out.cell (World.block_lt_of_cell? w _ hw165_6)).trans hw165_6), ((HB.out.cell (World.block_lt_of_cell? w _ hw165_7)).trans hw165_7), ((HB.out.cell (World.block_lt_of_cell? w _ hw165_8)).trans hw165_8), ((HB.out.cell (World.block_lt_of_cell? w _ hw165_9)).trans hw165_9), ((HB.out.cell (World.block_lt_of_cell? w _ hw165_10)).trans hw165_10), ((HB.out.cell (World.block_lt_of_cell? w _ hw166_0)).trans hw166_0), ((HB.out.cell (World.block_lt_of_cell? w _ hw166_1)).trans hw166_1), ((HB.out.cell (World.block_lt_of_cell? w _ hw166_2)).trans hw166_2), ((HB.out.cell (World.block_lt_of_cell? w _ hw166_3)).trans hw166_3), ((HB.out.cell (World.block_lt_of_cell? w _ hw166_4)).trans hw166_4), ((HB.out.cell (World.block_lt_of_cell? w _ hw166_5)).trans hw166_5), ((HB.out.cell (World.block_lt_of_cell? w _ hw166_6)).trans hw166_6), ((HB.out.cell (World.block_lt_of_cell? w _ hw166_7)).trans hw166_7), ((HB.out.cell (World.block_lt_of_cell? w _ hw166_8)).trans hw166_8), ((HB.out.cell (World.block_lt_of_cell? w _ hw166_9)).trans hw166_9), ((HB.out.cell (World.block_lt_of_cell? w _ hw166_10)).trans hw166_10)⟩ (fun hHeld => ?_); refine with_tabW annuityref23_Sort.tab6 annuityref23_Sort.bits6 (fun HT_ HW_ => ?_)
              generalize wr.drew = w12 at HB hx165_0 hx165_1 hx165_10 hx165_2 hx165_3 hx165_4 hx165_5 hx165_6 hx165_7 hx165_8 hx165_9 hx166_0 hx166_1 hx166_10 hx166_2 hx166_3 hx166_4 hx166_5 hx166_6 hx166_7 hx166_8 hx166_9 hHeld ⊢
              refine annuityref23_Sort.y 0 14 15 1 HT_.out ?_
              refine annuityref23_Sort.y 1 15 15 3 HT_.out ?_
              refine annuityref23_Sort.y 2 16 15 7 HT_.out ?_
              refine annuityref23_Sort.y 3 17 15 15 HT_.out ?_
              refine annuityref23_Sort.y 4 18 15 31 HT_.out ?_
              refine annuityref23_Sort.y 5 19 15 63 HT_.out ?_
              refine annuityref23_Sort.y 6 20 15 127 HT_.out ?_
              refine annuityref23_Sort.y 8 22 15 383 HT_.out ?_
              refine annuityref23_Sort.y 9 23 15 895 HT_.out ?_
              refine annuityref23_Sort.y 10 24 15 1919 HT_.out ?_
              refine annuityref23_Sort.t 7 21 15 2047 HT_.out HW_.out hHeld ?_
              refine annuityref23_Sort.t 11 25 15 4095 HT_.out HW_.out hHeld ?_
              refine one_ (i := 12) (N := some 26) (annuityref23_Sort.fl 15 8191) rfl rfl (one_of HT_.out (by kernel_rfl)) (by decide) (fun K hK => ?_)
              refine goes_ Try.func13 (by kernel_rfl) rfl #[.agg #[.int .i64 ((rd_T26 l2 (ji5)).f0), .int .i64 ((rd_T26 l2 (ji5)).f1), .int .u32 ((rd_T26 l2 (ji5)).f2), .int .i64 ((rd_T26 l2 (ji5)).f3), .int .i64 ((rd_T26 l2 (ji5)).f4), .float .f64 ((rd_T26 l2 (ji5)).f5), .float .f64 ((rd_T26 l2 (ji5)).f6), .bool ((rd_T26 l2 (ji5)).f7), .int .i64 ((rd_T26 l2 (ji5)).f8), .int .i64 ((rd_T26 l2 (ji5)).f9), .int .i64 ((rd_T26 l2 (ji5)).f10)], .agg #[.int .i64 ((rd_T26 l0 a1).f0), .int .i64 ((rd_T26 l0 a1).f1), .int .u32 ((rd_T26 l0 a1).f2), .int .i64 ((rd_T26 l0 a1).f3), .int .i64 ((rd_T26 l0 a1).f4), .float .f64 ((rd_T26 l0 a1).f5), .float .f64 ((rd_T26 l0 a1).f6), .bool ((rd_T26 l0 a1).f7), .int .i64 ((rd_T26 l0 a1).f8), .int .i64 ((rd_T26 l0 a1).f9), .int .i64 ((rd_T26 l0 a1).f10)]] (by rfl) rfl rfl (by (try simp only [List.map_toArray, List.map_cons, List.map_nil]); first | done | (simp only [hji5]; rfl) | rfl | (simp only [List.length_drop, List.length_take]; rfl)) ?_
              with_reducible refine (annuityref23_Compare.calls 12 ((rd_T26 l2 (ji5)).f0) ((rd_T26 l2 (ji5)).f1) ((rd_T26 l2 (ji5)).f2) ((rd_T26 l2 (ji5)).f3) ((rd_T26 l2 (ji5)).f4) ((rd_T26 l2 (ji5)).f5) ((rd_T26 l2 (ji5)).f6) ((rd_T26 l2 (ji5)).f7) ((rd_T26 l2 (ji5)).f8) ((rd_T26 l2 (ji5)).f9) ((rd_T26 l2 (ji5)).f10) ((rd_T26 l0 a1).f0) ((rd_T26 l0 a1).f1) ((rd_T26 l0 a1).f2) ((rd_T26 l0 a1).f3) ((rd_T26 l0 a1).f4) ((rd_T26 l0 a1).f5) ((rd_T26 l0 a1).f6) ((rd_T26 l0 a1).f7) ((rd_T26 l0 a1).f8) ((rd_T26 l0 a1).f9) ((rd_T26 l0 a1).f10) t167 _ A10.out).mono ?_
              rintro e w13 ⟨rfl, hb⟩
              refine ⟨_, rfl, ?_⟩
              have n0_ := Aside0.mk (below_step (by repeat (first | (with_reducible first | exact HB.out | apply below_alloc | apply pw_below_drewN | apply below_drew1) | exact HB.out)) hb)
              clear HB
              have HB := n0_
              clear n0_
              (try clear hb)
              (try clear hb2)
              (try clear hk)
              (try clear hi)
              refine hK.out _ _ ⟨((HB.out.cell (World.block_lt_of_cell? w _ hw165_0)).trans hw165_0), ((HB.out.cell (World.block_lt_of_cell? w _ hw165_1)).trans hw165_1), ((HB.out.cell (World.block_lt_of_cell? w _ hw165_2)).trans hw165_2), ((HB.out.cell (World.block_lt_of_cell? w _ hw165_3)).trans hw165_3), ((HB.out.cell (World.block_lt_of_cell? w _ hw165_4)).trans hw165_4), ((HB.out.cell (World.block_lt_of_cell? w _ hw165_5)).trans hw165_5), ((HB.out.cell (World.block_lt_of_cell? w _ hw165_6)).trans hw165_6), ((HB.out.cell (World.block_lt_of_cell? w _ hw165_7)).trans hw165_7), ((HB.out.cell (World.block_lt_of_cell? w _ hw165_8)).trans hw165_8), ((HB.out.cell (World.block_lt_of_cell? w _ hw165_9)).trans hw165_9), ((HB.out.cell (World.block_lt_of_cell? w _ hw165_10)).trans hw165_10), ((HB.out.cell (World.block_lt_of_cell? w _ hw166_0)).trans hw166_0), ((HB.out.cell (World.block_lt_of_cell? w _ hw166_1)).trans hw166_1), ((HB.out.cell (World.block_lt_of_cell? w _ hw166_2)).trans hw166_2), ((HB.out.cell (World.block_lt_of_cell? w _ hw166_3)).trans hw166_3), ((HB.out.cell (World.block_lt_of_cell? w _ hw166_4)).trans hw166_4), ((HB.out.cell (World.block_lt_of_cell? w _ hw166_5)).trans hw166_5), ((HB.out.cell (World.block_lt_of_cell? w _ hw166_6)).trans hw166_6), ((HB.out.cell (World.block_lt_of_cell? w _ hw166_7)).trans hw166_7), ((HB.out.cell (World.block_lt_of_cell? w _ hw166_8)).trans hw166_8), ((HB.out.cell (World.block_lt_of_cell? w _ hw166_9)).trans hw166_9), ((HB.out.cell (World.block_lt_of_cell? w _ hw166_10)).trans hw166_10)⟩ (fun hHeld => ?_)
              clear hK K
              refine norm_ (a' := ?_) ?_ ?_
              rotate_left
              · show Act.put _ (some 26) _ = _
                simp only [Act.put, List.setIfInBounds_toArray, List.set_cons_zero, List.set_cons_succ, i64_w, i32_w]
                rfl
              refine annuityref23_Sort.y 13 27 15 16383 HT_.out ?_
              refine annuityref23_Sort.y 14 28 15 32767 HT_.out ?_
              refine done_ (done_of HT_.out (by kernel_rfl)) ?_
              try go_wp2
              go_meet
              case rel => exact ⟨x7_1, by first | rfl | (simp; done) | (simp [*]; done), ⟨by
                have h1 := HJ.out
                have h2 := HX.out
                refine ⟨by omega, by omega, at_right _ l2 x7_1.toNat HOr.out (by omega) HQ.out (.inr ?_)⟩
                have h3 := HT1.out
                rw [HT.out] at h3
                rw [show ((x7_1.toNat - 1 : Nat) : Int) = ji5 by omega]
                omega⟩, ⟨by repeat (first | (with_reducible first | exact HB.out | apply below_alloc | apply pw_below_drewN | apply below_drew1) | exact HB.out)⟩⟩
          · have c4b0 : decide (0 < x7_1) = false := decide_eq_false c4
            have HX := Aside0.mk (show x7_1 = 0 by omega)
            clear c4 hx0 hx1 hxk
            try go_wp2
            have n0_ := Aside0.mk (below_drew1 HB.out)
            clear HB
            have HB := n0_
            clear n0_
            refine start_ (n := 15) (S := fun w' => True) (ds := []) (annuityref23_Sort.fl 15 0) (by kernel_rfl) rfl rfl trivial (fun hHeld => ?_); refine with_tabW annuityref23_Sort.tab6 annuityref23_Sort.bits6 (fun HT_ HW_ => ?_)
            generalize wr.drew = w44 at HB hHeld ⊢
            refine annuityref23_Sort.y 0 14 15 1 HT_.out ?_
            refine annuityref23_Sort.y 1 15 15 3 HT_.out ?_
            refine annuityref23_Sort.y 2 16 15 7 HT_.out ?_
            refine annuityref23_Sort.g 3 17 15 15 HT_.out ?_
            refine annuityref23_Sort.g 4 18 15 31 HT_.out ?_
            refine annuityref23_Sort.g 5 19 15 63 HT_.out ?_
            refine annuityref23_Sort.g 6 20 15 127 HT_.out ?_
            refine annuityref23_Sort.g 7 21 15 255 HT_.out ?_
            refine annuityref23_Sort.g 8 22 15 511 HT_.out ?_
            refine annuityref23_Sort.g 9 23 15 1023 HT_.out ?_
            refine annuityref23_Sort.g 10 24 15 2047 HT_.out ?_
            refine annuityref23_Sort.g 11 25 15 4095 HT_.out ?_
            refine annuityref23_Sort.g 12 26 15 8191 HT_.out ?_
            refine annuityref23_Sort.g 13 27 15 16383 HT_.out ?_
            refine annuityref23_Sort.y 14 28 15 32767 HT_.out ?_
            refine done_ (done_of HT_.out (by kernel_rfl)) ?_
            try go_wp2
            go_meet
            case rel => exact ⟨x7_1, by first | rfl | (simp; done) | (simp [*]; done), ⟨by
              have h1 := HX.out
              refine ⟨by omega, by omega, at_right _ l2 x7_1.toNat HOr.out (by omega) HQ.out (.inl (by omega))⟩⟩, ⟨by repeat (first | (with_reducible first | exact HB.out | apply below_alloc | apply pw_below_drewN | apply below_drew1) | exact HB.out)⟩⟩
      case rest =>
        clear HB
        obtain ⟨x7_1, rfl, HX, HB⟩ := hcut
        have hx := HX.out
        have hI := HI.out
        have c35b0 := eq_true hx.1
        have c35b1 : decide (0 ≤ x7_1) = true := decide_eq_true hx.1
        have c36b0 := eq_true hx.2.1
        have c36b1 : decide (x7_1 ≤ (l2.length : Int)) = true := decide_eq_true hx.2.1
        obtain ⟨y192, hy192⟩ : ∃ y_ : List (S26), y_ = (([] : List (S26))) := ⟨_, rfl⟩
        obtain ⟨y195, hy195⟩ : ∃ y_ : List (S26), y_ = (l2.take (x7_1 : Int).toNat) := ⟨_, rfl⟩
        obtain ⟨y199, hy199⟩ : ∃ y_ : List (S26), y_ = (y192 ++ y195) := ⟨_, rfl⟩
        obtain ⟨y203, hy203⟩ : ∃ y_ : List (S26), y_ = (([(⟨(rd_T26 l0 a1).f0, (rd_T26 l0 a1).f1, (rd_T26 l0 a1).f2, (rd_T26 l0 a1).f3, (rd_T26 l0 a1).f4, (rd_T26 l0 a1).f5, (rd_T26 l0 a1).f6, (rd_T26 l0 a1).f7, (rd_T26 l0 a1).f8, (rd_T26 l0 a1).f9, (rd_T26 l0 a1).f10⟩ : S26)] : List (S26))) := ⟨_, rfl⟩
        obtain ⟨y206, hy206⟩ : ∃ y_ : List (S26), y_ = (y199 ++ y203) := ⟨_, rfl⟩
        obtain ⟨y209, hy209⟩ : ∃ y_ : List (S26), y_ = (l2.drop (x7_1 : Int).toNat) := ⟨_, rfl⟩
        obtain ⟨y213, hy213⟩ : ∃ y_ : List (S26), y_ = (y206 ++ y209) := ⟨_, rfl⟩
        have h195 : y195.length ≤ 100000 := by rw [hy195, List.length_take]; omega
        have h209 : y209.length ≤ 100000 := by rw [hy209, List.length_drop]; omega
        have h199 : y199.length ≤ 100000 := by rw [hy199, hy192]; simpa using h195
        have h206 : y206.length ≤ 100001 := by rw [hy206, hy203]; simpa using h199
        have HFIN := Aside0.mk (show y213 = sortE (l0.take (i + 1)) by
          rw [← HN.out, hy213, hy206, hy199, hy192, hy195, hy203, hy209]
          unfold insE
          rw [hx.2.2]
          simp)
        have LMc37 := Aside0.mk (show y192.length + y195.length < 1599289640401 by rw [hy192]; simp; omega)
        have LMc40 := Aside0.mk (show y199.length + y203.length < 1599289640401 by rw [hy203]; simp; omega)
        have LMc43 := Aside0.mk (show y206.length + y209.length < 1599289640401 by omega)
        have Ny192 := Aside0.mk hy192
        have Ny195 := Aside0.mk hy195
        have Ny199 := Aside0.mk hy199
        have Ny203 := Aside0.mk hy203
        have Ny206 := Aside0.mk hy206
        have Ny209 := Aside0.mk hy209
        have Ny213 := Aside0.mk hy213
        have hw00 := i64_w (a1 + 1)
        have HWA := Aside0.mk (show wrap64 (a1 + 1) = ((i + 1 : Nat) : Int) by unfold wrap64; omega)
        clear hx hI hy192 hy195 hy199 hy203 hy206 hy209 hy213 h195 h209 h199 h206
        try go_wp2
        have n0_ := Aside0.mk (below_drew1 HB.out)
        clear HB
        have HB := n0_
        clear n0_
        have q46 : (x7_1 : Int) ≤ ((l2.length : Int) : Int) := of_decide_eq_true (by first | (with_reducible assumption) | assumption)
        obtain ⟨i046, hi046, _, hsz46, _⟩ := info_parts info26
        have hroom46 : l2.length ≤ c2 := HC2.out
        have hC46 : Kd.C k26 _ A2 l2.length l2 := HR2.out
        have hcut46 := cut_to (P := Try.prog) 22 26 .i64 Try.underlying22 hi046 A2 l2.length c2 x7_1 (of_decide_eq_true (by first | (with_reducible assumption) | assumption)) q46 hroom46
        have hr46 := Kd.C_take (m := (x7_1 : Int).toNat) hC46 (by omega)
        have hy46 : y195.length = (x7_1 : Int).toNat := (by rw [Ny195.out, List.length_take]; omega)
        rw [← Ny195.out] at hr46
        rw [← hy46] at hcut46
        have HR198 := Aside0.mk hr46
        have HC198 := Aside0.mk (show y195.length ≤ c2 from by omega)
        clear hr46 hC46 hroom46 hi046 hsz46
        have KY46 := Aside0.mk hy46
        clear hy46
        replace q46 := eq_true q46
        have p202 : 0 ≤ (a1 : Int) := of_decide_eq_true (by first | (with_reducible assumption) | assumption)
        have q202 : a1 < (l0.length : Int) := of_decide_eq_true (by first | (with_reducible assumption) | assumption)
        obtain ⟨ad202, e202, hx202_0, hx202_1, hx202_2, hx202_3, hx202_4, hx202_5, hx202_6, hx202_7, hx202_8, hx202_9, hx202_10⟩ := at_T26 HR0.out a1 p202 q202
        have hw202_10 := hx202_10
        have hw202_9 := hx202_9
        have hw202_8 := hx202_8
        have hw202_7 := hx202_7
        have hw202_6 := hx202_6
        have hw202_5 := hx202_5
        have hw202_4 := hx202_4
        have hw202_3 := hx202_3
        have hw202_2 := hx202_2
        have hw202_1 := hx202_1
        have hw202_0 := hx202_0
        cases e202
        replace hx202_0 := (HB.out.cell (World.block_lt_of_cell? w _ hx202_0)).trans hx202_0
        replace hx202_1 := (HB.out.cell (World.block_lt_of_cell? w _ hx202_1)).trans hx202_1
        replace hx202_2 := (HB.out.cell (World.block_lt_of_cell? w _ hx202_2)).trans hx202_2
        replace hx202_3 := (HB.out.cell (World.block_lt_of_cell? w _ hx202_3)).trans hx202_3
        replace hx202_4 := (HB.out.cell (World.block_lt_of_cell? w _ hx202_4)).trans hx202_4
        replace hx202_5 := (HB.out.cell (World.block_lt_of_cell? w _ hx202_5)).trans hx202_5
        replace hx202_6 := (HB.out.cell (World.block_lt_of_cell? w _ hx202_6)).trans hx202_6
        replace hx202_7 := (HB.out.cell (World.block_lt_of_cell? w _ hx202_7)).trans hx202_7
        replace hx202_8 := (HB.out.cell (World.block_lt_of_cell? w _ hx202_8)).trans hx202_8
        replace hx202_9 := (HB.out.cell (World.block_lt_of_cell? w _ hx202_9)).trans hx202_9
        replace hx202_10 := (HB.out.cell (World.block_lt_of_cell? w _ hx202_10)).trans hx202_10
        replace p202 := eq_true p202
        replace q202 := eq_true q202
        have q47 : (x7_1 : Int) ≤ ((l2.length : Int) : Int) := of_decide_eq_true (by first | (with_reducible assumption) | assumption)
        obtain ⟨i047, hi047, _, hsz47, _⟩ := info_parts info26
        have hroom47 : l2.length ≤ c2 := HC2.out
        have hC47 : Kd.C k26 _ A2 l2.length l2 := HR2.out
        have q047 : (0 : Int) ≤ (x7_1 : Int) := of_decide_eq_true (by first | (with_reducible assumption) | assumption)
        have hcut47 := cut_from (P := Try.prog) 22 26 .i64 Try.underlying22 hi047 11 hsz47 A2 l2.length c2 x7_1 q047 q47
        have hr47 := Kd.C_drop (m := (x7_1 : Int).toNat) (c := c2) hC47 (by omega) hroom47
        obtain ⟨A47, hA47⟩ : ∃ A1, A1 = (if c2 = (x7_1 : Int).toNat then A2 else (A2 : Option Addr).map (·.add ((x7_1 : Int).toNat * 11))) := ⟨_, rfl⟩
        obtain ⟨c47, hc47⟩ : ∃ c1, c1 = c2 - (x7_1 : Int).toNat := ⟨_, rfl⟩
        have hy47 : y209.length = l2.length - (x7_1 : Int).toNat := (by rw [Ny209.out, List.length_drop] <;> omega)
        rw [show (l2).drop (x7_1 : Int).toNat = y209 from Ny209.out.symm] at hr47
        replace hr47 : Kd.C k26 _ A47 y209.length y209 := (by rw [hA47]; exact hr47)
        rw [← hy47, ← hA47, ← hc47] at hcut47
        have HR212 := Aside0.mk hr47
        have HC212 := Aside0.mk (show y209.length ≤ c47 from by rw [hy47, hc47]; exact Nat.sub_le_sub_right hroom47 _)
        clear hr47 hC47 hroom47 hi047 hsz47 hc47
        have KY47 := Aside0.mk hy47
        have KA47 := Aside0.mk hA47
        clear hy47 hA47
        replace q47 := eq_true q47
        refine start_ (n := 16) (S := fun w' => w'.cell? (ad202.add ((a1).toNat * 11)) = some (.int .i64 ((rd_T26 l0 a1).f0)) ∧ w'.cell? ⟨(ad202.add ((a1).toNat * 11)).block, (ad202.add ((a1).toNat * 11)).off + 1, none⟩ = some (.int .i64 ((rd_T26 l0 a1).f1)) ∧ w'.cell? ⟨(ad202.add ((a1).toNat * 11)).block, (ad202.add ((a1).toNat * 11)).off + 2, none⟩ = some (.int .u32 ((rd_T26 l0 a1).f2)) ∧ w'.cell? ⟨(ad202.add ((a1).toNat * 11)).block, (ad202.add ((a1).toNat * 11)).off + 3, none⟩ = some (.int .i64 ((rd_T26 l0 a1).f3)) ∧ w'.cell? ⟨(ad202.add ((a1).toNat * 11)).block, (ad202.add ((a1).toNat * 11)).off + 4, none⟩ = some (.int .i64 ((rd_T26 l0 a1).f4)) ∧ w'.cell? ⟨(ad202.add ((a1).toNat * 11)).block, (ad202.add ((a1).toNat * 11)).off + 5, none⟩ = some (.float .f64 ((rd_T26 l0 a1).f5)) ∧ w'.cell? ⟨(ad202.add ((a1).toNat * 11)).block, (ad202.add ((a1).toNat * 11)).off + 6, none⟩ = some (.float .f64 ((rd_T26 l0 a1).f6)) ∧ w'.cell? ⟨(ad202.add ((a1).toNat * 11)).block, (ad202.add ((a1).toNat * 11)).off + 7, none⟩ = some (.bool ((rd_T26 l0 a1).f7)) ∧ w'.cell? ⟨(ad202.add ((a1).toNat * 11)).block, (ad202.add ((a1).toNat * 11)).off + 8, none⟩ = some (.int .i64 ((rd_T26 l0 a1).f8)) ∧ w'.cell? ⟨(ad202.add ((a1).toNat * 11)).block, (ad202.add ((a1).toNat * 11)).off + 9, none⟩ = some (.int .i64 ((rd_T26 l0 a1).f9)) ∧ w'.cell? ⟨(ad202.add ((a1).toNat * 11)).block, (ad202.add ((a1).toNat * 11)).off + 10, none⟩ = some (.int .i64 ((rd_T26 l0 a1).f10))) (ds := []) (annuityref23_Sort.fl 16 0) (by kernel_rfl) rfl rfl ⟨((HB.out.cell (World.block_lt_of_cell? w _ hw202_0)).trans hw202_0), ((HB.out.cell (World.block_lt_of_cell? w _ hw202_1)).trans hw202_1), ((HB.out.cell (World.block_lt_of_cell? w _ hw202_2)).trans hw202_2), ((HB.out.cell (World.block_lt_of_cell? w _ hw202_3)).trans hw202_3), ((HB.out.cell (World.block_lt_of_cell? w _ hw202_4)).trans hw202_4), ((HB.out.cell (World.block_lt_of_cell? w _ hw202_5)).trans hw202_5), ((HB.out.cell (World.block_lt_of_cell? w _ hw202_6)).trans hw202_6), ((HB.out.cell (World.block_lt_of_cell? w _ hw202_7)).trans hw202_7), ((HB.out.cell (World.block_lt_of_cell? w _ hw202_8)).trans hw202_8), ((HB.out.cell (World.block_lt_of_cell? w _ hw202_9)).trans hw202_9), ((HB.out.cell (World.block_lt_of_cell? w _ hw202_10)).trans hw202_10)⟩ (fun hHeld => ?_); refine with_tabW annuityref23_Sort.tab8 annuityref23_Sort.bits8 (fun HT_ HW_ => ?_)
        generalize wc.drew = w45 at HB HR198 HR212 hx202_0 hx202_1 hx202_10 hx202_2 hx202_3 hx202_4 hx202_5 hx202_6 hx202_7 hx202_8 hx202_9 hHeld ⊢
        refine annuityref23_Sort.y 1 32 16 2 HT_.out ?_
        refine annuityref23_Sort.y 2 33 16 6 HT_.out ?_
        refine annuityref23_Sort.y 3 34 16 14 HT_.out ?_
        refine annuityref23_Sort.y 5 36 16 46 HT_.out ?_
        refine annuityref23_Sort.y 6 37 16 110 HT_.out ?_
        refine annuityref23_Sort.y 7 38 16 238 HT_.out ?_
        refine annuityref23_Sort.y 11 42 16 2286 HT_.out ?_
        refine annuityref23_Sort.y 12 43 16 6382 HT_.out ?_
        refine annuityref23_Sort.y 13 44 16 14574 HT_.out ?_
        refine annuityref23_Sort.t 8 39 16 14830 HT_.out HW_.out hHeld ?_
        refine join_ (σ := Value × Value × Value) 3 (annuityref23_Sort.fl 16 15359) (fun s_ => [(31, s_.1), (35, s_.2.1), (40, s_.2.2)]) (fun s_ w' => (w'.cell? (ad202.add ((a1).toNat * 11)) = some (.int .i64 ((rd_T26 l0 a1).f0)) ∧ w'.cell? ⟨(ad202.add ((a1).toNat * 11)).block, (ad202.add ((a1).toNat * 11)).off + 1, none⟩ = some (.int .i64 ((rd_T26 l0 a1).f1)) ∧ w'.cell? ⟨(ad202.add ((a1).toNat * 11)).block, (ad202.add ((a1).toNat * 11)).off + 2, none⟩ = some (.int .u32 ((rd_T26 l0 a1).f2)) ∧ w'.cell? ⟨(ad202.add ((a1).toNat * 11)).block, (ad202.add ((a1).toNat * 11)).off + 3, none⟩ = some (.int .i64 ((rd_T26 l0 a1).f3)) ∧ w'.cell? ⟨(ad202.add ((a1).toNat * 11)).block, (ad202.add ((a1).toNat * 11)).off + 4, none⟩ = some (.int .i64 ((rd_T26 l0 a1).f4)) ∧ w'.cell? ⟨(ad202.add ((a1).toNat * 11)).block, (ad202.add ((a1).toNat * 11)).off + 5, none⟩ = some (.float .f64 ((rd_T26 l0 a1).f5)) ∧ w'.cell? ⟨(ad202.add ((a1).toNat * 11)).block, (ad202.add ((a1).toNat * 11)).off + 6, none⟩ = some (.float .f64 ((rd_T26 l0 a1).f6)) ∧ w'.cell? ⟨(ad202.add ((a1).toNat * 11)).block, (ad202.add ((a1).toNat * 11)).off + 7, none⟩ = some (.bool ((rd_T26 l0 a1).f7)) ∧ w'.cell? ⟨(ad202.add ((a1).toNat * 11)).block, (ad202.add ((a1).toNat * 11)).off + 8, none⟩ = some (.int .i64 ((rd_T26 l0 a1).f8)) ∧ w'.cell? ⟨(ad202.add ((a1).toNat * 11)).block, (ad202.add ((a1).toNat * 11)).off + 9, none⟩ = some (.int .i64 ((rd_T26 l0 a1).f9)) ∧ w'.cell? ⟨(ad202.add ((a1).toNat * 11)).block, (ad202.add ((a1).toNat * 11)).off + 10, none⟩ = some (.int .i64 ((rd_T26 l0 a1).f10))) ∧ (Kd.R k26 26 w' w.heap.size (fun k_ => some k_ ≠ (s_.2.2 : Value).ownBlock) s_.2.1 y199) ∧ (Kd.R k26 26 w' w.heap.size (fun k_ => some k_ ≠ (s_.2.1 : Value).ownBlock) s_.2.2 y203) ∧ (Below w.heap.size w w')) ?_ ?_
        rotate_left
        · intro hCont
          refine two_ (i := 0) (j := 9) (Ni := some 31) (Nj := some 40) (annuityref23_Sort.fl 16 14831) (annuityref23_Sort.fl 16 15342) rfl rfl rfl rfl (two_of HT_.out (by kernel_rfl)) (by decide) (by decide) (fun K hK => ?_) (fun K hK => ?_)
          · skip
            refine Kd.R_lit_step k26 _ 26 ?hg (N := 31) ?hd (xs := ([] : List (S26))) (inner := []) (ok := fun _ => True) (okp := fun _ => True) ?hr ?hp (fun _ hk => hk) trivial (Below.refl _ _) (Nat.le_refl _) (by simp) ?_; (case hd => rfl); (case hg => rfl); (case hr => first | (go_simp; done) | (go_simp; rfl)); (case hp => exact (Reps.none _ _))
            intro v193 w48 ho49 hb hg_ hnew_
            clear hg_ hnew_
            (first | rw [← Ny192.out] at ho49 | (simp only [Int.reduceToNat] at ho49; rw [← Ny192.out] at ho49))
            have n0_ := Aside0.mk (Kd.R_lower ho49 (below_size (by repeat (first | (with_reducible first | exact HB.out | apply below_alloc | apply pw_below_drewN | apply below_drew1) | exact HB.out))))
            have n1_ := Aside0.mk (below_step (by repeat (first | (with_reducible first | exact HB.out | apply below_alloc | apply pw_below_drewN | apply below_drew1) | exact HB.out)) hb)
            clear HB
            have HO194 := n0_
            have HB := n1_
            clear n0_ n1_
            clear hb ho49
            refine hK.out _ _ ⟨((HB.out.cell (World.block_lt_of_cell? w _ hw202_0)).trans hw202_0), ((HB.out.cell (World.block_lt_of_cell? w _ hw202_1)).trans hw202_1), ((HB.out.cell (World.block_lt_of_cell? w _ hw202_2)).trans hw202_2), ((HB.out.cell (World.block_lt_of_cell? w _ hw202_3)).trans hw202_3), ((HB.out.cell (World.block_lt_of_cell? w _ hw202_4)).trans hw202_4), ((HB.out.cell (World.block_lt_of_cell? w _ hw202_5)).trans hw202_5), ((HB.out.cell (World.block_lt_of_cell? w _ hw202_6)).trans hw202_6), ((HB.out.cell (World.block_lt_of_cell? w _ hw202_7)).trans hw202_7), ((HB.out.cell (World.block_lt_of_cell? w _ hw202_8)).trans hw202_8), ((HB.out.cell (World.block_lt_of_cell? w _ hw202_9)).trans hw202_9), ((HB.out.cell (World.block_lt_of_cell? w _ hw202_10)).trans hw202_10)⟩ (fun hHeld => ?_)
            clear hK K
            refine norm_ (a' := ?_) ?_ ?_
            rotate_left
            · show Act.put _ (some 31) _ = _
              simp only [Act.put, List.setIfInBounds_toArray, List.set_cons_zero, List.set_cons_succ, i64_w, i32_w]
              rfl
            refine two_ (i := 4) (j := 9) (Ni := some 35) (Nj := some 40) (annuityref23_Sort.fl 16 14847) (annuityref23_Sort.fl 16 15343) rfl rfl rfl rfl (two_of HT_.out (by kernel_rfl)) (by decide) (by decide) (fun K hK => ?_) (fun K hK => ?_)
            · skip
              refine Kd.R_append_rows_step k26 (w0 := w) w.heap.size (by rfl) (.tmp 31) (.tmp 34) 22 26 (.agg #[(.int .i64 0), (.int .i64 0), (.int .u32 0), (.int .i64 0), (.int .i64 0), (.float .f64 0), (.float .f64 0), (.bool false), (.int .i64 0), (.int .i64 0), (.int .i64 0)]) 88 rfl Try.underlying22 info26 rfl (by decide) (by omega) v193 y192 y195 _ _ _ (fun _ => True) (fun _ => False) rfl rfl ?aO ?aR (fun _ _ h => h) (fun _ h => h.elim) ?aF ?aB ?aS ?aL ?_
              (case aR => repeat (first | exact (Kd.C_below HR198.out HB.out) | (with_reducible refine Kd.C_alloc ?_ _) | (with_reducible refine Kd.C_drewN ?_ _) | (with_reducible refine Kd.C_drew ?_)))
              (case aB => exact (by repeat (first | (with_reducible first | exact HB.out | apply below_alloc | apply pw_below_drewN | apply below_drew1) | exact HB.out)))
              (case aF => exact (fun _ _ => trivial))
              (case aO => exact (by (with_reducible repeat (first | apply Kd.R_alloc | apply Kd.R_drewN | apply Kd.R_drew)); exact HO194.out))
              (case aS => exact (below_size (by repeat (first | (with_reducible first | exact HB.out | apply below_alloc | apply pw_below_drewN | apply below_drew1) | exact HB.out))))
              (case aL => have := LMc37.out; omega)
              intro v200 w50 ho hb hg hat
              rw [← Ny199.out] at ho
              have n0_ := Aside0.mk (hb)
              have n1_ := Aside0.mk (ho)
              clear HB
              clear HO194
              have HB := n0_
              have HO201 := n1_
              clear n0_ n1_
              clear ho hb hg hat
              refine hK.out _ _ ⟨((HB.out.cell (World.block_lt_of_cell? w _ hw202_0)).trans hw202_0), ((HB.out.cell (World.block_lt_of_cell? w _ hw202_1)).trans hw202_1), ((HB.out.cell (World.block_lt_of_cell? w _ hw202_2)).trans hw202_2), ((HB.out.cell (World.block_lt_of_cell? w _ hw202_3)).trans hw202_3), ((HB.out.cell (World.block_lt_of_cell? w _ hw202_4)).trans hw202_4), ((HB.out.cell (World.block_lt_of_cell? w _ hw202_5)).trans hw202_5), ((HB.out.cell (World.block_lt_of_cell? w _ hw202_6)).trans hw202_6), ((HB.out.cell (World.block_lt_of_cell? w _ hw202_7)).trans hw202_7), ((HB.out.cell (World.block_lt_of_cell? w _ hw202_8)).trans hw202_8), ((HB.out.cell (World.block_lt_of_cell? w _ hw202_9)).trans hw202_9), ((HB.out.cell (World.block_lt_of_cell? w _ hw202_10)).trans hw202_10)⟩ (fun hHeld => ?_)
              clear hK K
              refine norm_ (a' := ?_) ?_ ?_
              rotate_left
              · show Act.put _ (some 35) _ = _
                simp only [Act.put, List.setIfInBounds_toArray, List.set_cons_zero, List.set_cons_succ, i64_w, i32_w]
                rfl
              refine one_ (i := 9) (N := some 40) (annuityref23_Sort.fl 16 15359) rfl rfl (one_of HT_.out (by kernel_rfl)) (by decide) (fun K hK => ?_)
              refine Kd.R_lit_step k26 _ 26 ?hg (N := 40) ?hd (xs := ([(⟨(rd_T26 l0 a1).f0, (rd_T26 l0 a1).f1, (rd_T26 l0 a1).f2, (rd_T26 l0 a1).f3, (rd_T26 l0 a1).f4, (rd_T26 l0 a1).f5, (rd_T26 l0 a1).f6, (rd_T26 l0 a1).f7, (rd_T26 l0 a1).f8, (rd_T26 l0 a1).f9, (rd_T26 l0 a1).f10⟩ : S26)] : List (S26))) (inner := [.int .i64 ((rd_T26 l0 a1).f0), .int .i64 ((rd_T26 l0 a1).f1), .int .u32 ((rd_T26 l0 a1).f2), .int .i64 ((rd_T26 l0 a1).f3), .int .i64 ((rd_T26 l0 a1).f4), .float .f64 ((rd_T26 l0 a1).f5), .float .f64 ((rd_T26 l0 a1).f6), .bool ((rd_T26 l0 a1).f7), .int .i64 ((rd_T26 l0 a1).f8), .int .i64 ((rd_T26 l0 a1).f9), .int .i64 ((rd_T26 l0 a1).f10)]) (ok := fun _ => True) (okp := fun _ => True) ?hr ?hp (fun _ hk => hk) trivial (Below.refl _ _) (Nat.le_refl _) (by simp) ?_; (case hd => rfl); (case hg => rfl); (case hr => first | (go_simp; done) | (go_simp; rfl)); (case hp => exact (Reps.front (show Kd.M k26 _ _ _ (⟨(rd_T26 l0 a1).f0, (rd_T26 l0 a1).f1, (rd_T26 l0 a1).f2, (rd_T26 l0 a1).f3, (rd_T26 l0 a1).f4, (rd_T26 l0 a1).f5, (rd_T26 l0 a1).f6, (rd_T26 l0 a1).f7, (rd_T26 l0 a1).f8, (rd_T26 l0 a1).f9, (rd_T26 l0 a1).f10⟩ : S26) [.int .i64 ((rd_T26 l0 a1).f0), .int .i64 ((rd_T26 l0 a1).f1), .int .u32 ((rd_T26 l0 a1).f2), .int .i64 ((rd_T26 l0 a1).f3), .int .i64 ((rd_T26 l0 a1).f4), .float .f64 ((rd_T26 l0 a1).f5), .float .f64 ((rd_T26 l0 a1).f6), .bool ((rd_T26 l0 a1).f7), .int .i64 ((rd_T26 l0 a1).f8), .int .i64 ((rd_T26 l0 a1).f9), .int .i64 ((rd_T26 l0 a1).f10)] from (k26_mkM _ _ _ (⟨(rd_T26 l0 a1).f0, (rd_T26 l0 a1).f1, (rd_T26 l0 a1).f2, (rd_T26 l0 a1).f3, (rd_T26 l0 a1).f4, (rd_T26 l0 a1).f5, (rd_T26 l0 a1).f6, (rd_T26 l0 a1).f7, (rd_T26 l0 a1).f8, (rd_T26 l0 a1).f9, (rd_T26 l0 a1).f10⟩ : S26) )) rfl (Reps.none _ _) rfl))
              intro v204 w51 ho52 hb hg_ hnew_
              clear hg_ hnew_
              (first | rw [← Ny203.out] at ho52 | (simp only [Int.reduceToNat] at ho52; rw [← Ny203.out] at ho52))
              have n0_ := Aside0.mk (Kd.R_elder' (by (with_reducible repeat (first | apply Kd.R_alloc | apply Kd.R_drewN | apply Kd.R_drew)); exact HO201.out) (Kd.R_base ho52) hb)
              have n1_ := Aside0.mk (Kd.R_lower (Kd.R_new' ho52 (Kd.R_lt (by (with_reducible repeat (first | apply Kd.R_alloc | apply Kd.R_drewN | apply Kd.R_drew)); exact HO201.out))) (below_size (by repeat (first | (with_reducible first | exact HB.out | apply below_alloc | apply pw_below_drewN | apply below_drew1) | exact HB.out))))
              have n2_ := Aside0.mk (below_step (by repeat (first | (with_reducible first | exact HB.out | apply below_alloc | apply pw_below_drewN | apply below_drew1) | exact HB.out)) hb)
              clear HO201
              clear HB
              have HO201 := n0_
              have HO205 := n1_
              have HB := n2_
              clear n0_ n1_ n2_
              clear hb ho52
              refine hK.out _ _ ⟨((HB.out.cell (World.block_lt_of_cell? w _ hw202_0)).trans hw202_0), ((HB.out.cell (World.block_lt_of_cell? w _ hw202_1)).trans hw202_1), ((HB.out.cell (World.block_lt_of_cell? w _ hw202_2)).trans hw202_2), ((HB.out.cell (World.block_lt_of_cell? w _ hw202_3)).trans hw202_3), ((HB.out.cell (World.block_lt_of_cell? w _ hw202_4)).trans hw202_4), ((HB.out.cell (World.block_lt_of_cell? w _ hw202_5)).trans hw202_5), ((HB.out.cell (World.block_lt_of_cell? w _ hw202_6)).trans hw202_6), ((HB.out.cell (World.block_lt_of_cell? w _ hw202_7)).trans hw202_7), ((HB.out.cell (World.block_lt_of_cell? w _ hw202_8)).trans hw202_8), ((HB.out.cell (World.block_lt_of_cell? w _ hw202_9)).trans hw202_9), ((HB.out.cell (World.block_lt_of_cell? w _ hw202_10)).trans hw202_10)⟩ (fun hHeld => ?_)
              clear hK K
              refine norm_ (a' := ?_) ?_ ?_
              rotate_left
              · show Act.put _ (some 40) _ = _
                simp only [Act.put, List.setIfInBounds_toArray, List.set_cons_zero, List.set_cons_succ, i64_w, i32_w]
                rfl
              exact norm_ (by simp only [putAll, Act.put, List.setIfInBounds_toArray, List.set_cons_zero, List.set_cons_succ]) (hCont (v193, v200, v204) _ ⟨hHeld, (by (with_reducible repeat (first | apply Kd.R_alloc | apply Kd.R_drewN | apply Kd.R_drew)); exact Kd.R_mono HO201.out (fun _ hk => hk.2)), (by (with_reducible repeat (first | apply Kd.R_alloc | apply Kd.R_drewN | apply Kd.R_drew)); exact Kd.R_mono HO205.out (fun _ hk => hk.2)), (by repeat (first | (with_reducible first | exact HB.out | apply below_alloc | apply pw_below_drewN | apply below_drew1) | exact HB.out))⟩)
            · skip
              refine Kd.R_lit_step k26 _ 26 ?hg (N := 40) ?hd (xs := ([(⟨(rd_T26 l0 a1).f0, (rd_T26 l0 a1).f1, (rd_T26 l0 a1).f2, (rd_T26 l0 a1).f3, (rd_T26 l0 a1).f4, (rd_T26 l0 a1).f5, (rd_T26 l0 a1).f6, (rd_T26 l0 a1).f7, (rd_T26 l0 a1).f8, (rd_T26 l0 a1).f9, (rd_T26 l0 a1).f10⟩ : S26)] : List (S26))) (inner := [.int .i64 ((rd_T26 l0 a1).f0), .int .i64 ((rd_T26 l0 a1).f1), .int .u32 ((rd_T26 l0 a1).f2), .int .i64 ((rd_T26 l0 a1).f3), .int .i64 ((rd_T26 l0 a1).f4), .float .f64 ((rd_T26 l0 a1).f5), .float .f64 ((rd_T26 l0 a1).f6), .bool ((rd_T26 l0 a1).f7), .int .i64 ((rd_T26 l0 a1).f8), .int .i64 ((rd_T26 l0 a1).f9), .int .i64 ((rd_T26 l0 a1).f10)]) (ok := fun _ => True) (okp := fun _ => True) ?hr ?hp (fun _ hk => hk) trivial (Below.refl _ _) (Nat.le_refl _) (by simp) ?_; (case hd => rfl); (case hg => rfl); (case hr => first | (go_simp; done) | (go_simp; rfl)); (case hp => exact (Reps.front (show Kd.M k26 _ _ _ (⟨(rd_T26 l0 a1).f0, (rd_T26 l0 a1).f1, (rd_T26 l0 a1).f2, (rd_T26 l0 a1).f3, (rd_T26 l0 a1).f4, (rd_T26 l0 a1).f5, (rd_T26 l0 a1).f6, (rd_T26 l0 a1).f7, (rd_T26 l0 a1).f8, (rd_T26 l0 a1).f9, (rd_T26 l0 a1).f10⟩ : S26) [.int .i64 ((rd_T26 l0 a1).f0), .int .i64 ((rd_T26 l0 a1).f1), .int .u32 ((rd_T26 l0 a1).f2), .int .i64 ((rd_T26 l0 a1).f3), .int .i64 ((rd_T26 l0 a1).f4), .float .f64 ((rd_T26 l0 a1).f5), .float .f64 ((rd_T26 l0 a1).f6), .bool ((rd_T26 l0 a1).f7), .int .i64 ((rd_T26 l0 a1).f8), .int .i64 ((rd_T26 l0 a1).f9), .int .i64 ((rd_T26 l0 a1).f10)] from (k26_mkM _ _ _ (⟨(rd_T26 l0 a1).f0, (rd_T26 l0 a1).f1, (rd_T26 l0 a1).f2, (rd_T26 l0 a1).f3, (rd_T26 l0 a1).f4, (rd_T26 l0 a1).f5, (rd_T26 l0 a1).f6, (rd_T26 l0 a1).f7, (rd_T26 l0 a1).f8, (rd_T26 l0 a1).f9, (rd_T26 l0 a1).f10⟩ : S26) )) rfl (Reps.none _ _) rfl))
              intro v204 w50 ho51 hb hg_ hnew_
              clear hg_ hnew_
              (first | rw [← Ny203.out] at ho51 | (simp only [Int.reduceToNat] at ho51; rw [← Ny203.out] at ho51))
              have n0_ := Aside0.mk (Kd.R_elder' (by (with_reducible repeat (first | apply Kd.R_alloc | apply Kd.R_drewN | apply Kd.R_drew)); exact HO194.out) (Kd.R_base ho51) hb)
              have n1_ := Aside0.mk (Kd.R_lower (Kd.R_new' ho51 (Kd.R_lt (by (with_reducible repeat (first | apply Kd.R_alloc | apply Kd.R_drewN | apply Kd.R_drew)); exact HO194.out))) (below_size (by repeat (first | (with_reducible first | exact HB.out | apply below_alloc | apply pw_below_drewN | apply below_drew1) | exact HB.out))))
              have n2_ := Aside0.mk (below_step (by repeat (first | (with_reducible first | exact HB.out | apply below_alloc | apply pw_below_drewN | apply below_drew1) | exact HB.out)) hb)
              clear HO194
              clear HB
              have HO194 := n0_
              have HO205 := n1_
              have HB := n2_
              clear n0_ n1_ n2_
              clear hb ho51
              refine hK.out _ _ ⟨((HB.out.cell (World.block_lt_of_cell? w _ hw202_0)).trans hw202_0), ((HB.out.cell (World.block_lt_of_cell? w _ hw202_1)).trans hw202_1), ((HB.out.cell (World.block_lt_of_cell? w _ hw202_2)).trans hw202_2), ((HB.out.cell (World.block_lt_of_cell? w _ hw202_3)).trans hw202_3), ((HB.out.cell (World.block_lt_of_cell? w _ hw202_4)).trans hw202_4), ((HB.out.cell (World.block_lt_of_cell? w _ hw202_5)).trans hw202_5), ((HB.out.cell (World.block_lt_of_cell? w _ hw202_6)).trans hw202_6), ((HB.out.cell (World.block_lt_of_cell? w _ hw202_7)).trans hw202_7), ((HB.out.cell (World.block_lt_of_cell? w _ hw202_8)).trans hw202_8), ((HB.out.cell (World.block_lt_of_cell? w _ hw202_9)).trans hw202_9), ((HB.out.cell (World.block_lt_of_cell? w _ hw202_10)).trans hw202_10)⟩ (fun hHeld => ?_)
              clear hK K
              refine norm_ (a' := ?_) ?_ ?_
              rotate_left
              · show Act.put _ (some 40) _ = _
                simp only [Act.put, List.setIfInBounds_toArray, List.set_cons_zero, List.set_cons_succ, i64_w, i32_w]
                rfl
              refine one_ (i := 4) (N := some 35) (annuityref23_Sort.fl 16 15359) rfl rfl (one_of HT_.out (by kernel_rfl)) (by decide) (fun K hK => ?_)
              refine Kd.R_append_rows_step k26 (w0 := w) w.heap.size (by rfl) (.tmp 31) (.tmp 34) 22 26 (.agg #[(.int .i64 0), (.int .i64 0), (.int .u32 0), (.int .i64 0), (.int .i64 0), (.float .f64 0), (.float .f64 0), (.bool false), (.int .i64 0), (.int .i64 0), (.int .i64 0)]) 88 rfl Try.underlying22 info26 rfl (by decide) (by omega) v193 y192 y195 _ _ _ (fun k_ => some k_ ≠ (v204 : Value).ownBlock) (fun _ => False) rfl rfl ?aO ?aR (fun _ _ h => h) (fun _ h => h.elim) ?aF ?aB ?aS ?aL ?_
              (case aR => repeat (first | exact (Kd.C_below HR198.out HB.out) | (with_reducible refine Kd.C_alloc ?_ _) | (with_reducible refine Kd.C_drewN ?_ _) | (with_reducible refine Kd.C_drew ?_)))
              (case aB => exact (by repeat (first | (with_reducible first | exact HB.out | apply below_alloc | apply pw_below_drewN | apply below_drew1) | exact HB.out)))
              (case aF => exact (fun k_ hk => Kd.fresh' (Kd.R_lt (by (with_reducible repeat (first | apply Kd.R_alloc | apply Kd.R_drewN | apply Kd.R_drew)); exact HO205.out)) k_ hk))
              (case aO => exact (by (with_reducible repeat (first | apply Kd.R_alloc | apply Kd.R_drewN | apply Kd.R_drew)); exact Kd.R_mono HO194.out (fun _ hk => hk.2)))
              (case aS => exact (below_size (by repeat (first | (with_reducible first | exact HB.out | apply below_alloc | apply pw_below_drewN | apply below_drew1) | exact HB.out))))
              (case aL => have := LMc37.out; omega)
              intro v200 w52 ho hb hg hat
              rw [← Ny199.out] at ho
              have n0_ := Aside0.mk (Kd.R_after (ok := (fun _ => True)) (by (with_reducible repeat (first | apply Kd.R_alloc | apply Kd.R_drewN | apply Kd.R_drew)); exact HO205.out) hg hat)
              have n1_ := Aside0.mk (hb)
              have n2_ := Aside0.mk (ho)
              clear HO205
              clear HB
              clear HO194
              have HO205 := n0_
              have HB := n1_
              have HO201 := n2_
              clear n0_ n1_ n2_
              clear ho hb hg hat
              refine hK.out _ _ ⟨((HB.out.cell (World.block_lt_of_cell? w _ hw202_0)).trans hw202_0), ((HB.out.cell (World.block_lt_of_cell? w _ hw202_1)).trans hw202_1), ((HB.out.cell (World.block_lt_of_cell? w _ hw202_2)).trans hw202_2), ((HB.out.cell (World.block_lt_of_cell? w _ hw202_3)).trans hw202_3), ((HB.out.cell (World.block_lt_of_cell? w _ hw202_4)).trans hw202_4), ((HB.out.cell (World.block_lt_of_cell? w _ hw202_5)).trans hw202_5), ((HB.out.cell (World.block_lt_of_cell? w _ hw202_6)).trans hw202_6), ((HB.out.cell (World.block_lt_of_cell? w _ hw202_7)).trans hw202_7), ((HB.out.cell (World.block_lt_of_cell? w _ hw202_8)).trans hw202_8), ((HB.out.cell (World.block_lt_of_cell? w _ hw202_9)).trans hw202_9), ((HB.out.cell (World.block_lt_of_cell? w _ hw202_10)).trans hw202_10)⟩ (fun hHeld => ?_)
              clear hK K
              refine norm_ (a' := ?_) ?_ ?_
              rotate_left
              · show Act.put _ (some 35) _ = _
                simp only [Act.put, List.setIfInBounds_toArray, List.set_cons_zero, List.set_cons_succ, i64_w, i32_w]
                rfl
              exact norm_ (by simp only [putAll, Act.put, List.setIfInBounds_toArray, List.set_cons_zero, List.set_cons_succ]) (hCont (v193, v200, v204) _ ⟨hHeld, (by (with_reducible repeat (first | apply Kd.R_alloc | apply Kd.R_drewN | apply Kd.R_drew)); exact HO201.out), (by (with_reducible repeat (first | apply Kd.R_alloc | apply Kd.R_drewN | apply Kd.R_drew)); exact Kd.R_mono HO205.out (fun _ hk => hk.2)), (by repeat (first | (with_reducible first | exact HB.out | apply below_alloc | apply pw_below_drewN | apply below_drew1) | exact HB.out))⟩)
          · skip
            refine Kd.R_lit_step k26 _ 26 ?hg (N := 40) ?hd (xs := ([(⟨(rd_T26 l0 a1).f0, (rd_T26 l0 a1).f1, (rd_T26 l0 a1).f2, (rd_T26 l0 a1).f3, (rd_T26 l0 a1).f4, (rd_T26 l0 a1).f5, (rd_T26 l0 a1).f6, (rd_T26 l0 a1).f7, (rd_T26 l0 a1).f8, (rd_T26 l0 a1).f9, (rd_T26 l0 a1).f10⟩ : S26)] : List (S26))) (inner := [.int .i64 ((rd_T26 l0 a1).f0), .int .i64 ((rd_T26 l0 a1).f1), .int .u32 ((rd_T26 l0 a1).f2), .int .i64 ((rd_T26 l0 a1).f3), .int .i64 ((rd_T26 l0 a1).f4), .float .f64 ((rd_T26 l0 a1).f5), .float .f64 ((rd_T26 l0 a1).f6), .bool ((rd_T26 l0 a1).f7), .int .i64 ((rd_T26 l0 a1).f8), .int .i64 ((rd_T26 l0 a1).f9), .int .i64 ((rd_T26 l0 a1).f10)]) (ok := fun _ => True) (okp := fun _ => True) ?hr ?hp (fun _ hk => hk) trivial (Below.refl _ _) (Nat.le_refl _) (by simp) ?_; (case hd => rfl); (case hg => rfl); (case hr => first | (go_simp; done) | (go_simp; rfl)); (case hp => exact (Reps.front (show Kd.M k26 _ _ _ (⟨(rd_T26 l0 a1).f0, (rd_T26 l0 a1).f1, (rd_T26 l0 a1).f2, (rd_T26 l0 a1).f3, (rd_T26 l0 a1).f4, (rd_T26 l0 a1).f5, (rd_T26 l0 a1).f6, (rd_T26 l0 a1).f7, (rd_T26 l0 a1).f8, (rd_T26 l0 a1).f9, (rd_T26 l0 a1).f10⟩ : S26) [.int .i64 ((rd_T26 l0 a1).f0), .int .i64 ((rd_T26 l0 a1).f1), .int .u32 ((rd_T26 l0 a1).f2), .int .i64 ((rd_T26 l0 a1).f3), .int .i64 ((rd_T26 l0 a1).f4), .float .f64 ((rd_T26 l0 a1).f5), .float .f64 ((rd_T26 l0 a1).f6), .bool ((rd_T26 l0 a1).f7), .int .i64 ((rd_T26 l0 a1).f8), .int .i64 ((rd_T26 l0 a1).f9), .int .i64 ((rd_T26 l0 a1).f10)] from (k26_mkM _ _ _ (⟨(rd_T26 l0 a1).f0, (rd_T26 l0 a1).f1, (rd_T26 l0 a1).f2, (rd_T26 l0 a1).f3, (rd_T26 l0 a1).f4, (rd_T26 l0 a1).f5, (rd_T26 l0 a1).f6, (rd_T26 l0 a1).f7, (rd_T26 l0 a1).f8, (rd_T26 l0 a1).f9, (rd_T26 l0 a1).f10⟩ : S26) )) rfl (Reps.none _ _) rfl))
            intro v204 w48 ho49 hb hg_ hnew_
            clear hg_ hnew_
            (first | rw [← Ny203.out] at ho49 | (simp only [Int.reduceToNat] at ho49; rw [← Ny203.out] at ho49))
            have n0_ := Aside0.mk (Kd.R_lower ho49 (below_size (by repeat (first | (with_reducible first | exact HB.out | apply below_alloc | apply pw_below_drewN | apply below_drew1) | exact HB.out))))
            have n1_ := Aside0.mk (below_step (by repeat (first | (with_reducible first | exact HB.out | apply below_alloc | apply pw_below_drewN | apply below_drew1) | exact HB.out)) hb)
            clear HB
            have HO205 := n0_
            have HB := n1_
            clear n0_ n1_
            clear hb ho49
            refine hK.out _ _ ⟨((HB.out.cell (World.block_lt_of_cell? w _ hw202_0)).trans hw202_0), ((HB.out.cell (World.block_lt_of_cell? w _ hw202_1)).trans hw202_1), ((HB.out.cell (World.block_lt_of_cell? w _ hw202_2)).trans hw202_2), ((HB.out.cell (World.block_lt_of_cell? w _ hw202_3)).trans hw202_3), ((HB.out.cell (World.block_lt_of_cell? w _ hw202_4)).trans hw202_4), ((HB.out.cell (World.block_lt_of_cell? w _ hw202_5)).trans hw202_5), ((HB.out.cell (World.block_lt_of_cell? w _ hw202_6)).trans hw202_6), ((HB.out.cell (World.block_lt_of_cell? w _ hw202_7)).trans hw202_7), ((HB.out.cell (World.block_lt_of_cell? w _ hw202_8)).trans hw202_8), ((HB.out.cell (World.block_lt_of_cell? w _ hw202_9)).trans hw202_9), ((HB.out.cell (World.block_lt_of_cell? w _ hw202_10)).trans hw202_10)⟩ (fun hHeld => ?_)
            clear hK K
            refine norm_ (a' := ?_) ?_ ?_
            rotate_left
            · show Act.put _ (some 40) _ = _
              simp only [Act.put, List.setIfInBounds_toArray, List.set_cons_zero, List.set_cons_succ, i64_w, i32_w]
              rfl
            refine one_ (i := 0) (N := some 31) (annuityref23_Sort.fl 16 15343) rfl rfl (one_of HT_.out (by kernel_rfl)) (by decide) (fun K hK => ?_)
            refine Kd.R_lit_step k26 _ 26 ?hg (N := 31) ?hd (xs := ([] : List (S26))) (inner := []) (ok := fun _ => True) (okp := fun _ => True) ?hr ?hp (fun _ hk => hk) trivial (Below.refl _ _) (Nat.le_refl _) (by simp) ?_; (case hd => rfl); (case hg => rfl); (case hr => first | (go_simp; done) | (go_simp; rfl)); (case hp => exact (Reps.none _ _))
            intro v193 w50 ho51 hb hg_ hnew_
            clear hg_ hnew_
            (first | rw [← Ny192.out] at ho51 | (simp only [Int.reduceToNat] at ho51; rw [← Ny192.out] at ho51))
            have n0_ := Aside0.mk (Kd.R_elder' (by (with_reducible repeat (first | apply Kd.R_alloc | apply Kd.R_drewN | apply Kd.R_drew)); exact HO205.out) (Kd.R_base ho51) hb)
            have n1_ := Aside0.mk (Kd.R_lower (Kd.R_new' ho51 (Kd.R_lt (by (with_reducible repeat (first | apply Kd.R_alloc | apply Kd.R_drewN | apply Kd.R_drew)); exact HO205.out))) (below_size (by repeat (first | (with_reducible first | exact HB.out | apply below_alloc | apply pw_below_drewN | apply below_drew1) | exact HB.out))))
            have n2_ := Aside0.mk (below_step (by repeat (first | (with_reducible first | exact HB.out | apply below_alloc | apply pw_below_drewN | apply below_drew1) | exact HB.out)) hb)
            clear HO205
            clear HB
            have HO205 := n0_
            have HO194 := n1_
            have HB := n2_
            clear n0_ n1_ n2_
            clear hb ho51
            refine hK.out _ _ ⟨((HB.out.cell (World.block_lt_of_cell? w _ hw202_0)).trans hw202_0), ((HB.out.cell (World.block_lt_of_cell? w _ hw202_1)).trans hw202_1), ((HB.out.cell (World.block_lt_of_cell? w _ hw202_2)).trans hw202_2), ((HB.out.cell (World.block_lt_of_cell? w _ hw202_3)).trans hw202_3), ((HB.out.cell (World.block_lt_of_cell? w _ hw202_4)).trans hw202_4), ((HB.out.cell (World.block_lt_of_cell? w _ hw202_5)).trans hw202_5), ((HB.out.cell (World.block_lt_of_cell? w _ hw202_6)).trans hw202_6), ((HB.out.cell (World.block_lt_of_cell? w _ hw202_7)).trans hw202_7), ((HB.out.cell (World.block_lt_of_cell? w _ hw202_8)).trans hw202_8), ((HB.out.cell (World.block_lt_of_cell? w _ hw202_9)).trans hw202_9), ((HB.out.cell (World.block_lt_of_cell? w _ hw202_10)).trans hw202_10)⟩ (fun hHeld => ?_)
            clear hK K
            refine norm_ (a' := ?_) ?_ ?_
            rotate_left
            · show Act.put _ (some 31) _ = _
              simp only [Act.put, List.setIfInBounds_toArray, List.set_cons_zero, List.set_cons_succ, i64_w, i32_w]
              rfl
            refine one_ (i := 4) (N := some 35) (annuityref23_Sort.fl 16 15359) rfl rfl (one_of HT_.out (by kernel_rfl)) (by decide) (fun K hK => ?_)
            refine Kd.R_append_rows_step k26 (w0 := w) w.heap.size (by rfl) (.tmp 31) (.tmp 34) 22 26 (.agg #[(.int .i64 0), (.int .i64 0), (.int .u32 0), (.int .i64 0), (.int .i64 0), (.float .f64 0), (.float .f64 0), (.bool false), (.int .i64 0), (.int .i64 0), (.int .i64 0)]) 88 rfl Try.underlying22 info26 rfl (by decide) (by omega) v193 y192 y195 _ _ _ (fun k_ => some k_ ≠ (v204 : Value).ownBlock) (fun _ => False) rfl rfl ?aO ?aR (fun _ _ h => h) (fun _ h => h.elim) ?aF ?aB ?aS ?aL ?_
            (case aR => repeat (first | exact (Kd.C_below HR198.out HB.out) | (with_reducible refine Kd.C_alloc ?_ _) | (with_reducible refine Kd.C_drewN ?_ _) | (with_reducible refine Kd.C_drew ?_)))
            (case aB => exact (by repeat (first | (with_reducible first | exact HB.out | apply below_alloc | apply pw_below_drewN | apply below_drew1) | exact HB.out)))
            (case aF => exact (fun k_ hk => Kd.fresh' (Kd.R_lt (by (with_reducible repeat (first | apply Kd.R_alloc | apply Kd.R_drewN | apply Kd.R_drew)); exact HO205.out)) k_ hk))
            (case aO => exact (by (with_reducible repeat (first | apply Kd.R_alloc | apply Kd.R_drewN | apply Kd.R_drew)); exact Kd.R_mono HO194.out (fun _ hk => hk.2)))
            (case aS => exact (below_size (by repeat (first | (with_reducible first | exact HB.out | apply below_alloc | apply pw_below_drewN | apply below_drew1) | exact HB.out))))
            (case aL => have := LMc37.out; omega)
            intro v200 w52 ho hb hg hat
            rw [← Ny199.out] at ho
            have n0_ := Aside0.mk (Kd.R_after (ok := (fun _ => True)) (by (with_reducible repeat (first | apply Kd.R_alloc | apply Kd.R_drewN | apply Kd.R_drew)); exact HO205.out) hg hat)
            have n1_ := Aside0.mk (hb)
            have n2_ := Aside0.mk (ho)
            clear HO205
            clear HB
            clear HO194
            have HO205 := n0_
            have HB := n1_
            have HO201 := n2_
            clear n0_ n1_ n2_
            clear ho hb hg hat
            refine hK.out _ _ ⟨((HB.out.cell (World.block_lt_of_cell? w _ hw202_0)).trans hw202_0), ((HB.out.cell (World.block_lt_of_cell? w _ hw202_1)).trans hw202_1), ((HB.out.cell (World.block_lt_of_cell? w _ hw202_2)).trans hw202_2), ((HB.out.cell (World.block_lt_of_cell? w _ hw202_3)).trans hw202_3), ((HB.out.cell (World.block_lt_of_cell? w _ hw202_4)).trans hw202_4), ((HB.out.cell (World.block_lt_of_cell? w _ hw202_5)).trans hw202_5), ((HB.out.cell (World.block_lt_of_cell? w _ hw202_6)).trans hw202_6), ((HB.out.cell (World.block_lt_of_cell? w _ hw202_7)).trans hw202_7), ((HB.out.cell (World.block_lt_of_cell? w _ hw202_8)).trans hw202_8), ((HB.out.cell (World.block_lt_of_cell? w _ hw202_9)).trans hw202_9), ((HB.out.cell (World.block_lt_of_cell? w _ hw202_10)).trans hw202_10)⟩ (fun hHeld => ?_)
            clear hK K
            refine norm_ (a' := ?_) ?_ ?_
            rotate_left
            · show Act.put _ (some 35) _ = _
              simp only [Act.put, List.setIfInBounds_toArray, List.set_cons_zero, List.set_cons_succ, i64_w, i32_w]
              rfl
            exact norm_ (by simp only [putAll, Act.put, List.setIfInBounds_toArray, List.set_cons_zero, List.set_cons_succ]) (hCont (v193, v200, v204) _ ⟨hHeld, (by (with_reducible repeat (first | apply Kd.R_alloc | apply Kd.R_drewN | apply Kd.R_drew)); exact HO201.out), (by (with_reducible repeat (first | apply Kd.R_alloc | apply Kd.R_drewN | apply Kd.R_drew)); exact Kd.R_mono HO205.out (fun _ hk => hk.2)), (by repeat (first | (with_reducible first | exact HB.out | apply below_alloc | apply pw_below_drewN | apply below_drew1) | exact HB.out))⟩)
        rintro ⟨v193, v200, v204⟩ w53 ⟨hS_, h0_, h1_, h2_⟩
        have n0_ : Aside0 (Kd.R k26 26 w53 w.heap.size (fun k_ => some k_ ≠ (v204 : Value).ownBlock) v200 y199) := ⟨h0_⟩
        have n1_ : Aside0 (Kd.R k26 26 w53 w.heap.size (fun k_ => some k_ ≠ (v200 : Value).ownBlock) v204 y203) := ⟨h1_⟩
        have n2_ : Aside0 (Below w.heap.size w w53) := ⟨h2_⟩
        clear HB
        clear h0_ h1_ h2_
        have HO201 := n0_
        have HO205 := n1_
        have HB := n2_
        clear n0_ n1_ n2_
        have hHeld : w53.cell? (ad202.add ((a1).toNat * 11)) = some (.int .i64 ((rd_T26 l0 a1).f0)) ∧ w53.cell? ⟨(ad202.add ((a1).toNat * 11)).block, (ad202.add ((a1).toNat * 11)).off + 1, none⟩ = some (.int .i64 ((rd_T26 l0 a1).f1)) ∧ w53.cell? ⟨(ad202.add ((a1).toNat * 11)).block, (ad202.add ((a1).toNat * 11)).off + 2, none⟩ = some (.int .u32 ((rd_T26 l0 a1).f2)) ∧ w53.cell? ⟨(ad202.add ((a1).toNat * 11)).block, (ad202.add ((a1).toNat * 11)).off + 3, none⟩ = some (.int .i64 ((rd_T26 l0 a1).f3)) ∧ w53.cell? ⟨(ad202.add ((a1).toNat * 11)).block, (ad202.add ((a1).toNat * 11)).off + 4, none⟩ = some (.int .i64 ((rd_T26 l0 a1).f4)) ∧ w53.cell? ⟨(ad202.add ((a1).toNat * 11)).block, (ad202.add ((a1).toNat * 11)).off + 5, none⟩ = some (.float .f64 ((rd_T26 l0 a1).f5)) ∧ w53.cell? ⟨(ad202.add ((a1).toNat * 11)).block, (ad202.add ((a1).toNat * 11)).off + 6, none⟩ = some (.float .f64 ((rd_T26 l0 a1).f6)) ∧ w53.cell? ⟨(ad202.add ((a1).toNat * 11)).block, (ad202.add ((a1).toNat * 11)).off + 7, none⟩ = some (.bool ((rd_T26 l0 a1).f7)) ∧ w53.cell? ⟨(ad202.add ((a1).toNat * 11)).block, (ad202.add ((a1).toNat * 11)).off + 8, none⟩ = some (.int .i64 ((rd_T26 l0 a1).f8)) ∧ w53.cell? ⟨(ad202.add ((a1).toNat * 11)).block, (ad202.add ((a1).toNat * 11)).off + 9, none⟩ = some (.int .i64 ((rd_T26 l0 a1).f9)) ∧ w53.cell? ⟨(ad202.add ((a1).toNat * 11)).block, (ad202.add ((a1).toNat * 11)).off + 10, none⟩ = some (.int .i64 ((rd_T26 l0 a1).f10)) := hS_
        obtain ⟨Ao55, co55, eo55⟩ := Kd.R_slice HO205.out
        (first | subst eo55 | (injection eo55 with f1_ f2_ f3_; have f4_ := f1_.symm; have f5_ := f3_.symm; clear f1_ f2_ f3_; subst f4_; subst f5_))
        refine norm_ (a' := ?_) ?_ ?_
        rotate_left
        · simp only [putAll, Act.put, List.setIfInBounds_toArray, List.set_cons_zero, List.set_cons_succ]
          rfl
        refine one_ (i := 10) (N := some 41) (annuityref23_Sort.fl 16 16383) rfl rfl (one_of HT_.out (by kernel_rfl)) (by decide) (fun K hK => ?_)
        refine Kd.R_append_rows_step k26 (w0 := w) w.heap.size (by rfl) (.tmp 35) (.tmp 40) 22 26 (.agg #[(.int .i64 0), (.int .i64 0), (.int .u32 0), (.int .i64 0), (.int .i64 0), (.float .f64 0), (.float .f64 0), (.bool false), (.int .i64 0), (.int .i64 0), (.int .i64 0)]) 88 rfl Try.underlying22 info26 rfl (by decide) (by omega) v200 y199 y203 _ _ _ (fun k_ => some k_ ≠ (.slice Ao55 y203.length co55 : Value).ownBlock) (fun _ => False) rfl rfl ?aO ?aR (fun _ _ h => h) (fun _ h => h.elim) ?aF ?aB ?aS ?aL ?_
        (case aR => repeat (first | exact (Kd.R_reads' HO205.out).2.2 | (with_reducible refine Kd.C_alloc ?_ _) | (with_reducible refine Kd.C_drewN ?_ _) | (with_reducible refine Kd.C_drew ?_)))
        (case aB => exact (by repeat (first | (with_reducible first | exact HB.out | apply below_alloc | apply pw_below_drewN | apply below_drew1) | exact HB.out)))
        (case aF => exact (fun k_ hk => Kd.fresh' (Kd.R_lt (by (with_reducible repeat (first | apply Kd.R_alloc | apply Kd.R_drewN | apply Kd.R_drew)); exact HO205.out)) k_ hk))
        (case aO => exact (by (with_reducible repeat (first | apply Kd.R_alloc | apply Kd.R_drewN | apply Kd.R_drew)); exact HO201.out))
        (case aS => exact (below_size (by repeat (first | (with_reducible first | exact HB.out | apply below_alloc | apply pw_below_drewN | apply below_drew1) | exact HB.out))))
        (case aL => have := LMc40.out; omega)
        intro v207 w54 ho hb hg hat
        rw [← Ny206.out] at ho
        have n0_ := Aside0.mk (Kd.R_after (ok := (fun _ => True)) (by (with_reducible repeat (first | apply Kd.R_alloc | apply Kd.R_drewN | apply Kd.R_drew)); exact Kd.R_mono HO205.out (fun _ hk => ⟨trivial, hk⟩)) hg hat)
        have n1_ := Aside0.mk (hb)
        have n2_ := Aside0.mk (ho)
        clear HO205
        clear HB
        clear HO201
        have HO205 := n0_
        have HB := n1_
        have HO208 := n2_
        clear n0_ n1_ n2_
        clear ho hb hg hat
        refine hK.out _ _ ⟨((HB.out.cell (World.block_lt_of_cell? w _ hw202_0)).trans hw202_0), ((HB.out.cell (World.block_lt_of_cell? w _ hw202_1)).trans hw202_1), ((HB.out.cell (World.block_lt_of_cell? w _ hw202_2)).trans hw202_2), ((HB.out.cell (World.block_lt_of_cell? w _ hw202_3)).trans hw202_3), ((HB.out.cell (World.block_lt_of_cell? w _ hw202_4)).trans hw202_4), ((HB.out.cell (World.block_lt_of_cell? w _ hw202_5)).trans hw202_5), ((HB.out.cell (World.block_lt_of_cell? w _ hw202_6)).trans hw202_6), ((HB.out.cell (World.block_lt_of_cell? w _ hw202_7)).trans hw202_7), ((HB.out.cell (World.block_lt_of_cell? w _ hw202_8)).trans hw202_8), ((HB.out.cell (World.block_lt_of_cell? w _ hw202_9)).trans hw202_9), ((HB.out.cell (World.block_lt_of_cell? w _ hw202_10)).trans hw202_10)⟩ (fun hHeld => ?_)
        clear hK K
        refine norm_ (a' := ?_) ?_ ?_
        rotate_left
        · show Act.put _ (some 41) _ = _
          simp only [Act.put, List.setIfInBounds_toArray, List.set_cons_zero, List.set_cons_succ, i64_w, i32_w]
          rfl
        refine one_ (i := 14) (N := some 45) (annuityref23_Sort.fl 16 32767) rfl rfl (one_of HT_.out (by kernel_rfl)) (by decide) (fun K hK => ?_)
        refine Kd.R_append_rows_step k26 (w0 := w) w.heap.size (by rfl) (.tmp 41) (.tmp 44) 22 26 (.agg #[(.int .i64 0), (.int .i64 0), (.int .u32 0), (.int .i64 0), (.int .i64 0), (.float .f64 0), (.float .f64 0), (.bool false), (.int .i64 0), (.int .i64 0), (.int .i64 0)]) 88 rfl Try.underlying22 info26 rfl (by decide) (by omega) v207 y206 y209 _ _ _ (fun k_ => some k_ ≠ (.slice Ao55 y203.length co55 : Value).ownBlock) (fun _ => False) rfl rfl ?aO ?aR (fun _ _ h => h) (fun _ h => h.elim) ?aF ?aB ?aS ?aL ?_
        (case aR => repeat (first | exact (Kd.C_below HR212.out HB.out) | (with_reducible refine Kd.C_alloc ?_ _) | (with_reducible refine Kd.C_drewN ?_ _) | (with_reducible refine Kd.C_drew ?_)))
        (case aB => exact (by repeat (first | (with_reducible first | exact HB.out | apply below_alloc | apply pw_below_drewN | apply below_drew1) | exact HB.out)))
        (case aF => exact (fun k_ hk => Kd.fresh' (Kd.R_lt (by (with_reducible repeat (first | apply Kd.R_alloc | apply Kd.R_drewN | apply Kd.R_drew)); exact HO205.out)) k_ hk))
        (case aO => exact (by (with_reducible repeat (first | apply Kd.R_alloc | apply Kd.R_drewN | apply Kd.R_drew)); exact HO208.out))
        (case aS => exact (below_size (by repeat (first | (with_reducible first | exact HB.out | apply below_alloc | apply pw_below_drewN | apply below_drew1) | exact HB.out))))
        (case aL => have := LMc43.out; omega)
        intro v214 w56 ho hb hg hat
        rw [← Ny213.out] at ho
        have n0_ := Aside0.mk (Kd.R_after (ok := (fun _ => True)) (by (with_reducible repeat (first | apply Kd.R_alloc | apply Kd.R_drewN | apply Kd.R_drew)); exact HO205.out) hg hat)
        have n1_ := Aside0.mk (hb)
        have n2_ := Aside0.mk (ho)
        clear HO205
        clear HB
        clear HO208
        have HO205 := n0_
        have HB := n1_
        have HO215 := n2_
        clear n0_ n1_ n2_
        clear ho hb hg hat
        refine hK.out _ _ ⟨((HB.out.cell (World.block_lt_of_cell? w _ hw202_0)).trans hw202_0), ((HB.out.cell (World.block_lt_of_cell? w _ hw202_1)).trans hw202_1), ((HB.out.cell (World.block_lt_of_cell? w _ hw202_2)).trans hw202_2), ((HB.out.cell (World.block_lt_of_cell? w _ hw202_3)).trans hw202_3), ((HB.out.cell (World.block_lt_of_cell? w _ hw202_4)).trans hw202_4), ((HB.out.cell (World.block_lt_of_cell? w _ hw202_5)).trans hw202_5), ((HB.out.cell (World.block_lt_of_cell? w _ hw202_6)).trans hw202_6), ((HB.out.cell (World.block_lt_of_cell? w _ hw202_7)).trans hw202_7), ((HB.out.cell (World.block_lt_of_cell? w _ hw202_8)).trans hw202_8), ((HB.out.cell (World.block_lt_of_cell? w _ hw202_9)).trans hw202_9), ((HB.out.cell (World.block_lt_of_cell? w _ hw202_10)).trans hw202_10)⟩ (fun hHeld => ?_)
        clear hK K
        refine norm_ (a' := ?_) ?_ ?_
        rotate_left
        · show Act.put _ (some 45) _ = _
          simp only [Act.put, List.setIfInBounds_toArray, List.set_cons_zero, List.set_cons_succ, i64_w, i32_w]
          rfl
        refine annuityref23_Sort.y 15 3 16 65535 HT_.out ?_
        refine done_ (done_of HT_.out (by kernel_rfl)) ?_
        try go_wp2
        go_roundg (l0.length - (i + 1))
        case measure => have := HI.out; omega
        case rel => exact ⟨i + 1, (by first | (rw [← HWA.out]; done) | (rw [← HWA.out]; rfl) | (rw [← HWA.out]; simp [*]; done)), (by have := HI.out; omega), Nat.le_refl _, ⟨by rw [← HFIN.out]; (with_reducible repeat (first | apply Kd.R_alloc | apply Kd.R_drewN | apply Kd.R_drew)); exact Kd.R_mono (Kd.R_lower HO215.out HBo.out.size) (fun _ _ => trivial)⟩, ⟨HBo.out.trans ((show Below w.heap.size w _ by repeat (first | (with_reducible first | exact HB.out | apply below_alloc | apply pw_below_drewN | apply below_drew1) | exact HB.out)).mono HBo.out.size)⟩⟩
    · have hltz : ¬ (i : Int) < (l0.length : Int) := by omega
      obtain rfl : i = l0.length := by omega
      have hfin : sortE (l0.take l0.length) = sortE l0 := by rw [List.take_length]
      rw [hfin] at HO
      go_wp2
      go_ret
      exact ⟨_, by first | rfl | (simp; done), HO.out, HBo.out⟩
end Go.Proofs.Ytjdhhbjnihhncaa.P
