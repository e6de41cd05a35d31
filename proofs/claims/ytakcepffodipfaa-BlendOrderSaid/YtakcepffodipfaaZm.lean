/- blend.mean, Rate, Count: walked by hand (a function value, a deferred closure). -/
import Derived.Test.YtakcepffodipfaaZaa
import Derived.Test.YtakcepffodipfaaPx4
import Derived.Test.YtakcepffodipfaaPx7
import Derived.Test.YtakcepffodipfaaZn
import Derived.Defers
import Derived.Recover
namespace Go.Proofs.Ytakcepffodipfaa.P
open Go.RowKit Go.Proofs.YtakcepffodipfaaW.PrintWords Go.Proofs.YtakcepffodipfaaW.PrintLast Go.Proofs.YtakcepffodipfaaW.PrintMore
attribute [local go_sem] max2_int min2_int max_two min_two max_three min_three max_four min_four   -- for this text's walks alone
set_option linter.unusedVariables false
set_option linter.unusedSimpArgs false
/-- w.add, where it does not run over. -/
def blend_wide_add.f (h l a b : Int) : Option (Int × Int) := if 0 ≤ h ∧ 0 ≤ l ∧ l < 18446744073709551616 ∧ 0 ≤ a ∧ a < 18446744073709551616 ∧ 0 ≤ b ∧ b < 18446744073709551616 ∧ h * 18446744073709551616 + l + a * b < 340282366920938463463374607431768211456 then some ((h * 18446744073709551616 + l + a * b) / 18446744073709551616, (h * 18446744073709551616 + l + a * b) % 18446744073709551616) else none
theorem blend_wide_add.calls (h l a b : Int) (r1 r2 : Int) (w : World) (hh : blend_wide_add.f h l a b = some (r1, r2)) :
    Calls Try.prog 32 #[.agg #[.int .u64 h, .int .u64 l], .int .u64 a, .int .u64 b] w fun e w' => e = .returned (.agg #[.int .u64 r1, .int .u64 r2]) ∧ Below w.heap.size w w' := by
  unfold blend_wide_add.f at hh
  by_cases c : 0 ≤ h ∧ 0 ≤ l ∧ l < 18446744073709551616 ∧ 0 ≤ a ∧ a < 18446744073709551616 ∧ 0 ≤ b ∧ b < 18446744073709551616 ∧ h * 18446744073709551616 + l + a * b < 340282366920938463463374607431768211456
  · rw [if_pos c] at hh
    simp only [Option.some.injEq, Prod.mk.injEq] at hh
    obtain ⟨rfl, rfl⟩ := hh
    obtain ⟨q1, q2, q3, q4, q5, q6, q7, q8⟩ := c
    exact blend_wide.add_ok h l a b q1 q2 q3 q4 q5 q6 q7 q8 w
  · rw [if_neg c] at hh; cases hh
/-! ### blend_wide_by: function 31 -/
def blend_wide_by.f (k : Nat) (a0_0 : Int) (a0_1 : Int) (a1 : Int) : Option (Int) := (money_Div.f k a0_0 a0_1 a1).bind fun bt148 => (if bt148.2.2 = true then (if bt148.2.1 > 0 then (some (IntKind.u64.wrap (bt148.1 + 1))) else (some bt148.1)) else none)
set_option maxHeartbeats 8000000 in
set_option maxRecDepth 100000 in
theorem blend_wide_by.calls (k : Nat) (a0_0 : Int) (a0_1 : Int) (a1 : Int) (r : Int) (w : World) (h : blend_wide_by.f k a0_0 a0_1 a1 = some r) :
    Calls Try.prog 33 #[.agg #[.int .u64 a0_0, .int .u64 a0_1], .int .u64 a1] w fun e w' => e = .returned (.int .u64 r) ∧ Below w.heap.size w w' := by
  have hu := Try.underlying62
  have HB := Aside0.mk (Below.refl w.heap.size w)
  have H : ((money_Div.f k a0_0 a0_1 a1).bind fun bt148 => (if bt148.2.2 = true then (if bt148.2.1 > 0 then (some (IntKind.u64.wrap (bt148.1 + 1))) else (some bt148.1)) else none)) = some r := h
  clear h
  replace H := Option.bind_eq_some_iff.mp H
  obtain ⟨⟨t148, t149, t150⟩, A30, H⟩ := H
  replace H : (if t150 = true then (if t149 > 0 then (some (IntKind.u64.wrap (t148 + 1))) else (some t148)) else none) = some r := H
  by_cases c5 : t150 = true
  case neg => rw [if_neg c5] at H; exact absurd H (by simp)
  rw [if_pos c5] at H
  subst c5
  have A3 := Aside0.mk A30
  clear A30
  by_cases c4 : t149 > 0
  · rw [if_pos c4] at H
    have c4b0 : decide (0 < t149) = true := decide_eq_true c4
    clear c4
    obtain rfl := Option.some.inj H
    go_enter Try.func33, Try.ntmps33
    go_wp2_with (first | ((with_reducible refine gate_dst (N := 2) rfl ?_); refine box_event ?hg (N := 2) ?hd (cs := #[.int .u64 a0_0, .int .u64 a0_1]) (t := 62) ?hr ?_; (case hd => rfl); (case hg => rfl); (case hr => first | (go_simp; done) | (go_simp; rfl)); intro gb147 hg w5 hbox hb; have n0_ := Aside0.mk (below_step (by exact h0q HB.out) hb); have n1_ := Aside0.mk (hbox); have n2_ := Aside0.mk ((by rw [hg]; exact (below_size (by exact h0q HB.out)) : w.heap.size ≤ gb147)); have n3_ := Aside0.mk ((by rw [hg]; exact (below_size (by exact h0q HB.out)) : w.heap.size ≤ gb147)); clear HB; have HB := n0_; have BK147 := n1_; have GW147 := n2_; have GE147 := n3_; clear n0_ n1_ n2_ n3_; clear hb hbox hg; have hcz6_0 : w5.cell? ⟨gb147, 0, none⟩ = some (.int .u64 a0_0) := (blk_cell BK147.out 0).trans rfl; have hcz6_1 : w5.cell? ⟨gb147, 1, none⟩ = some (.int .u64 a0_1) := (blk_cell BK147.out 1).trans rfl; have hfz6_0 := blk_frozen BK147.out 0; have hfz6_1 := blk_frozen BK147.out 1) | ((with_reducible refine gate_callee (f := 47) rfl ?_); refine goesL_ (some 14) rfl rfl Try.func47 (by kernel_rfl) rfl #[.int .u64 a0_0, .int .u64 a0_1, .int .u64 a1] rfl (by (try simp only [List.map_toArray, List.map_cons, List.map_nil]); first | done | rfl | (simp only [List.length_drop, List.length_take]; rfl)) ?_; (with_reducible refine (money_Div.calls k a0_0 a0_1 a1 t148 t149 true _ A3.out).mono ?_); rintro e w' ⟨rfl, ⟨nd, rfl⟩⟩; refine ⟨_, rfl, ?_⟩))
    go_ret
    exact ⟨by first | rfl | (simp [errW_none, errW_some] <;> rfl) | (simp [*, errW_none, errW_some] <;> rfl), by exact h1q HB.out GE147.out⟩
  · rw [if_neg c4] at H
    have c4b0 : decide (0 < t149) = false := decide_eq_false c4
    clear c4
    obtain rfl := Option.some.inj H
    go_enter Try.func33, Try.ntmps33
    go_wp2_with (first | ((with_reducible refine gate_dst (N := 2) rfl ?_); refine box_event ?hg (N := 2) ?hd (cs := #[.int .u64 a0_0, .int .u64 a0_1]) (t := 62) ?hr ?_; (case hd => rfl); (case hg => rfl); (case hr => first | (go_simp; done) | (go_simp; rfl)); intro gb147 hg w7 hbox hb; have n0_ := Aside0.mk (below_step (by exact h0q HB.out) hb); have n1_ := Aside0.mk (hbox); have n2_ := Aside0.mk ((by rw [hg]; exact (below_size (by exact h0q HB.out)) : w.heap.size ≤ gb147)); have n3_ := Aside0.mk ((by rw [hg]; exact (below_size (by exact h0q HB.out)) : w.heap.size ≤ gb147)); clear HB; have HB := n0_; have BK147 := n1_; have GW147 := n2_; have GE147 := n3_; clear n0_ n1_ n2_ n3_; clear hb hbox hg; have hcz8_0 : w7.cell? ⟨gb147, 0, none⟩ = some (.int .u64 a0_0) := (blk_cell BK147.out 0).trans rfl; have hcz8_1 : w7.cell? ⟨gb147, 1, none⟩ = some (.int .u64 a0_1) := (blk_cell BK147.out 1).trans rfl; have hfz8_0 := blk_frozen BK147.out 0; have hfz8_1 := blk_frozen BK147.out 1) | ((with_reducible refine gate_callee (f := 47) rfl ?_); refine goesL_ (some 14) rfl rfl Try.func47 (by kernel_rfl) rfl #[.int .u64 a0_0, .int .u64 a0_1, .int .u64 a1] rfl (by (try simp only [List.map_toArray, List.map_cons, List.map_nil]); first | done | rfl | (simp only [List.length_drop, List.length_take]; rfl)) ?_; (with_reducible refine (money_Div.calls k a0_0 a0_1 a1 t148 t149 true _ A3.out).mono ?_); rintro e w' ⟨rfl, ⟨nd, rfl⟩⟩; refine ⟨_, rfl, ?_⟩))
    go_ret
    exact ⟨by first | rfl | (simp [errW_none, errW_some] <;> rfl) | (simp [*, errW_none, errW_some] <;> rfl), by exact h1q HB.out GE147.out⟩

/-! ### blend_mean: function 18 -/
def blend_mean.l0 (of : S31 → Int) : Nat → List Int → Int → List (S31) → Int → Int → Int → Int → Option (Int × Int)
  | 0, _, _, _, _, _, _, _ => none
  | k + 1, x6, x7, x21, x22, x23, x157000, x157001 => if x23 < x22 then (if 0 ≤ x23 then (if x23 < (x21.length : Int) then (if x23 < (x6.length : Int) then ((some (of (rd_T31 x21 x23))).bind fun t161 => ((blend_wide_add.f x157000 x157001 (rd x6 x23) (IntKind.u64.wrap (t161))).bind fun bt162 => (blend_mean.l0 of k x6 x7 x21 x22 (wrap64 (x23 + 1)) bt162.1 bt162.2))) else (none)) else (none)) else (none)) else ((blend_wide_by.f k x157000 x157001 (IntKind.u64.wrap (x7))).bind fun t157 => (some (wrap64 (t157), 0)))
def blend_mean.f (of : S31 → Int) (k : Nat) (l0 : List (S31)) : Option (Int × Int) := (blend_weights.f k l0).bind fun bt151 => (if bt151.2.2 = 0 then (blend_mean.l0 of k bt151.1 bt151.2.1 l0 (l0.length : Int) 0 0 0) else (some (0, bt151.2.2)))
theorem goesV_ {ops : Array Oper} {Q : Exit → Act → World → Prop} {oi : Oper} {N : Option Tmp} {a : Act} {w : World} {K : Act → World → Prop} {f : FuncId} {fn : Func} {p : Operand} {ps : Array Operand} {ts : Array TypeId} (hf : Try.prog.funcs[f]? = some fn) (hname : (fn.name == "runtime.NumGoroutine") = false) (hb : fn.body.isSome = true) (args : Array Value)
    (hw : Region.wanted oi (yielded ops a.tmps) = true) (hN : oi.dst = N) (hop : oi.op = .call { callee := .value p, args := ps, argTypes := ts }) (hp : a.eval p = .func (.func f) #[] #[]) (hargs : ps.map a.eval = args)
    (h : Calls Try.prog f args w fun e w' => ∃ v, e = .returned v ∧ K (a.put N v) w') : if Region.wanted oi (yielded ops a.tmps) = true then Oper.wp Try.prog oi a w K Q else K (a.put N undef) w := by
  refine call_ f args hw hN ?_ h
  have he := enters_ hf hname hb args w
  unfold execOp
  simp [hop, resolve, Deferred.ofValue, invoke, hp, hargs, he]
theorem leaves_tmps {P : Program} {fn : Func} {t t' : Array Value} {R : Ending → World → Prop} (h : ∀ w, (results fn t).run P w = (results fn t').run P w) : ∀ ds u w, Leaves P fn t R ds u w → Leaves P fn t' R ds u w
  | [], .returning, w, ⟨v, h1, h2⟩ => ⟨v, (h w).symm.trans h1, h2⟩
  | [], .panicking _, _, hh => hh
  | [], .run, _, hh => hh.elim
  | d :: ds, u, w, ⟨h1, fv, cap, f, args, a, b, c⟩ => ⟨h1, fv, cap, f, args, a, b, c.mono (fun e u' w' he => by
      cases e with
      | returned v => exact leaves_tmps h ds _ _ he
      | panicked ch => exact leaves_tmps h ds _ _ he
      | outgrown => exact he)⟩
theorem blend_mean.panic_put {R : Ending → World → Prop} {c : List PanicEntry} {a : Act} {w : World} {N : Option Tmp} {v : Value} (hN : ∃ i, N = some i ∧ i ≠ 4 ∧ i ≠ 5) (h : bodyPostD Try.prog Try.f18 R (.panic c) (a.put N v) w) : bodyPostD Try.prog Try.f18 R (.panic c) a w := by
  obtain ⟨i, rfl, h4, h5⟩ := hN
  refine leaves_tmps (t := (a.put (some i) v).tmps) (fun w => ?_) _ _ _ h
  have a4 : (a.put (some i) v).tmps[4]? = a.tmps[4]? := by simp [Act.put, Array.getElem?_setIfInBounds_ne h4]
  have a5 : (a.put (some i) v).tmps[5]? = a.tmps[5]? := by simp [Act.put, Array.getElem?_setIfInBounds_ne h5]
  have e : Try.f18.results = #[.cell 4 3, .cell 5 25] := rfl
  simp only [results, e]
  simp [a4, a5]
set_option maxHeartbeats 8000000 in
set_option maxRecDepth 100000 in
theorem blend_mean.idle (p q : Addr) (w : World) :
    CallsD Try.prog 31 #[.pointer (some p), .pointer (some q)] .returning w fun e u' w' => e = .returned (.tuple #[]) ∧ u' = .returning ∧ w' = w := by
  refine callsD_of_wpS Try.func31 rfl fun c₀ cs hu => ?_
  apply wpS_seq
  apply wpS_region
  simp [wpOpsS, go_sem, recoverD, hu, Try.ntmps31, Exit.thenS]
  refine wpS_of_wp ?_
  go_wp2
  cases c₀
  simp_all [bodyPostS, results, Try.results31]
def blend_mean.T8 : Bool × List (List Nat × List Nat) := (true, [([], []), ([], []), ([], []), ([1, 2], [1, 2]), ([3], [3]), ([], []), ([], []), ([5, 6], [5, 6]), ([7], [7]), ([0, 4, 8, 7], [0, 4, 8]), ([9, 9, 0, 1, 2, 3, 4, 5, 6, 7, 8, 9], [9])])
def blend_mean.B8 : List Nat := [0, 0, 0, 6, 14, 0, 0, 96, 224, 511, 1023]
theorem blend_mean.tab8 : rtab .any (opsOf Try.f18 9) = blend_mean.T8 := by kernel_rfl
theorem blend_mean.bits8 : waitsOk blend_mean.T8.2 blend_mean.B8 = true := by kernel_rfl
set_option maxHeartbeats 8000000 in
set_option maxRecDepth 100000 in
theorem blend_mean.calls (of : S31 → Int) (fi : Nat) (fn : Func) (hf1 : Try.prog.funcs[fi]? = some fn) (hf2 : (fn.name == "runtime.NumGoroutine") = false) (hf3 : fn.body.isSome = true)
    (hcall : ∀ (x : S31) (t : Int) (w : World), of x = t → Calls Try.prog fi #[.agg #[.int .i64 x.f0, .int .i64 x.f1, .int .i64 x.f2, .int .i64 x.f3, .int .i64 x.f4, .int .i64 x.f5, .bool x.f6, .int .i64 x.f7, .int .i64 x.f8, .int .i64 x.f9, .int .i64 x.f10, .int .i64 x.f11, .int .i64 x.f12]] w fun e w' => e = .returned (.int .i64 t) ∧ Below w.heap.size w w')
    (k : Nat) (A0 : Option Addr) (c0 : Nat) (l0 : List (S31)) (r1 : Int) (r2 : Int) (w0 : World) (hr0 : Kd.C k31 w0 A0 l0.length l0) (hc0 : l0.length ≤ c0) (h : blend_mean.f of k l0 = some (r1, r2)) :
    Calls Try.prog 18 #[.slice A0 l0.length c0, .func (.func fi) #[] #[]] w0 fun e w' => e = .returned (.tuple #[.int .i64 r1, .int .i64 r2]) ∧ Below w0.heap.size w0 w' := by
  have HCL := Aside0.mk hcall
  have HF1 := Aside0.mk hf1
  have HF2 := Aside0.mk hf2
  have HF3 := Aside0.mk hf3
  clear hcall hf1 hf2 hf3
  have hmf : ∀ (fn : Fn) (first cap : Array Value) (w : World), (Instr.makeFunc fn first cap).run Try.prog w = .ok (.func fn first cap) w := fun _ _ _ _ => rfl
  have hu59 := Try.underlying62
  have hu31 := Try.underlying31
  have HR00 := Aside0.mk hr0
  have HC0 := Aside0.mk hc0
  clear hr0 hc0
  have H : ((blend_weights.f k l0).bind fun bt151 => (if bt151.2.2 = 0 then (blend_mean.l0 of k bt151.1 bt151.2.1 l0 (l0.length : Int) 0 0 0) else (some (0, bt151.2.2)))) = some (r1, r2) := h
  clear h
  replace H := Option.bind_eq_some_iff.mp H
  obtain ⟨⟨t151, t152, t153⟩, A30, H⟩ := H
  replace H : (if t153 = 0 then (blend_mean.l0 of k t151 t152 l0 (l0.length : Int) 0 0 0) else (some (0, t153))) = some (r1, r2) := H
  have A3 := Aside0.mk A30
  clear A30
  by_cases c4 : t153 = 0
  · rw [if_pos c4] at H
    have c4b0 : (t153 == 0) = true := beq_iff_eq.mpr c4
    have c4b1 : (t153 != 0) = false := bne_eq_false_iff_eq.mpr c4
    clear c4
    have H' := Aside0.mk H
    clear H
    go_enter_defers Try.func18, Try.ntmps18
    (go_upto_region 1 with (fail))
    obtain ⟨w, hW⟩ : ∃ w, w = (w0.alloc (Obj.cells #[.int .i64 0] 3)).alloc (Obj.cells #[.int .i64 0] 25) := ⟨_, rfl⟩
    have BN : Aside0 (w.heap[w0.heap.size]? = some (.cells #[.int .i64 0] 3 (0, 0))) := ⟨by rw [hW]; exact blk_alloc (blk_new w0 (Obj.cells #[.int .i64 0] 3)) _⟩
    have BE : Aside0 (w.heap[w0.heap.size + 1]? = some (.cells #[.int .i64 0] 25 (0, 0))) := ⟨by rw [hW]; have := blk_new (w0.alloc (Obj.cells #[.int .i64 0] 3)) (Obj.cells #[.int .i64 0] 25); simpa using this⟩
    have HB0 : Aside0 (Below w0.heap.size w0 w) := ⟨by rw [hW]; exact ((Below.refl _ _).alloc (Nat.le_refl _) _).alloc (by simp) _⟩
    have HR0 := Aside0.mk (Kd.C_below HR00.out HB0.out)
    rw [← hW]
    clear hW HR00
    have HB := Aside0.mk (Below.refl w.heap.size w)
    go_wp2_with (first | ((with_reducible refine gate_callee (f := 24) rfl ?_); refine goesL_ (some 14) rfl rfl Try.func24 (by kernel_rfl) rfl #[.slice A0 l0.length c0] rfl (by (try simp only [List.map_toArray, List.map_cons, List.map_nil]); first | done | rfl | (simp only [List.length_drop, List.length_take]; rfl)) ?_; (with_reducible refine (blend_weights.calls k _ _ l0 t151 t152 t153 _ ?side1 ?side2 A3.out).mono ?_); (case side1 => repeat (first | exact HR0.out | (with_reducible refine Kd.C_alloc ?_ _) | (with_reducible refine Kd.C_drewN ?_ _) | (with_reducible refine Kd.C_drew ?_))); (case side2 => exact HC0.out); rintro e w5 ⟨v154, rfl, ho0, hb⟩; refine ⟨_, rfl, ?_⟩; have n0_ := Aside0.mk (Kd.R_lower ho0 (below_size (by exact h0q HB.out))); have n1_ := Aside0.mk (below_step (by exact h0q HB.out) hb); clear HB; have HO155 := n0_; have HB := n1_; clear n0_ n1_; (try clear hb); (try clear hb2); (try clear hk); (try clear hi); (try clear ho0)) | ((with_reducible refine gate_dst (N := 9) rfl ?_); refine box_event ?hg (N := 9) ?hd (cs := #[.int .u64 0, .int .u64 0]) (t := 62) ?hr ?_; (case hd => rfl); (case hg => rfl); (case hr => first | (go_simp; done) | (go_simp; rfl)); intro gb156 hg w6 hbox hb; have n0_ := Aside0.mk (Kd.R_below (by exact rq HO155.out) hb); have n1_ := Aside0.mk (below_step (by exact h0q HB.out) hb); have n2_ := Aside0.mk (hbox); have n3_ := Aside0.mk ((by rw [hg]; exact (below_size (by exact h0q HB.out)) : w.heap.size ≤ gb156)); have n4_ := Aside0.mk ((by rw [hg]; exact (below_size (by exact h0q HB.out)) : w.heap.size ≤ gb156)); clear HO155; clear HB; have HO155 := n0_; have HB := n1_; have BK156 := n2_; have GW156 := n3_; have GE156 := n4_; clear n0_ n1_ n2_ n3_ n4_; clear hb hbox hg))
    go_loopg [24] k (fun kq v23 w' => ∃ (x23_1 : Int) (x157000_1 : Int) (x157001_1 : Int), v23 = .int .i64 x23_1 ∧ Aside0 (blend_mean.l0 of kq t151 t152 l0 (l0.length : Int) x23_1 x157000_1 x157001_1 = some (r1, r2)) ∧ Aside0 (kq ≤ k) ∧ Aside0 (Kd.R (Kd.int .u64) 60 w' w.heap.size (fun _ => True) v154 t151) ∧ Aside0 (w'.heap[gb156]? = some (.cells #[.int .u64 x157000_1, .int .u64 x157001_1] 62 (0, 0))) ∧ Aside0 (Below w.heap.size w w'))
    case atStart => exact ⟨(0), (0), (0), (by first | rfl | (simp; done) | (simp [*]; done)), H', ⟨Nat.le_refl _⟩, ⟨by exact rq HO155.out⟩, ⟨by exact bb BK156.out⟩, ⟨by exact h1q HB.out GE156.out⟩⟩
    case round =>
      clear H'
      try clear c1
      try clear c2
      try clear p2
      try clear c4
      try clear c4b0
      try clear c4b1
      obtain ⟨x23_1, x157000_1, x157001_1, rfl, HA, HK1, HO_6, BK156, HB⟩ := hrel
      cases gk with
      | zero => exact absurd HA.out (by simp [blend_mean.l0])
      | succ k1 =>
        have H := HA.out
        clear HA
        simp only [blend_mean.l0] at H
        by_cases c7 : x23_1 < (l0.length : Int)
        · rw [if_pos c7] at H
          have c7b0 : decide (x23_1 < (l0.length : Int)) = true := decide_eq_true c7
          clear c7
          by_cases c8 : 0 ≤ x23_1
          · rw [if_pos c8] at H
            have c8b0 : decide (0 ≤ x23_1) = true := decide_eq_true c8
            clear c8
            by_cases c9 : x23_1 < (l0.length : Int)
            · rw [if_pos c9] at H
              have c9b0 : decide (x23_1 < (l0.length : Int)) = true := decide_eq_true c9
              clear c9
              by_cases c10 : x23_1 < (t151.length : Int)
              · rw [if_pos c10] at H
                have c10b0 : decide (x23_1 < (t151.length : Int)) = true := decide_eq_true c10
                clear c10
                replace H := Option.bind_eq_some_iff.mp H
                obtain ⟨t161, A110, H⟩ := H
                replace H : ((blend_wide_add.f x157000_1 x157001_1 (rd t151 x23_1) (IntKind.u64.wrap (t161))).bind fun bt162 => (blend_mean.l0 of k1 t151 t152 l0 (l0.length : Int) (wrap64 (x23_1 + 1)) bt162.1 bt162.2)) = some (r1, r2) := H
                have A11 := Aside0.mk A110
                clear A110
                replace H := Option.bind_eq_some_iff.mp H
                obtain ⟨⟨t162, t163⟩, A120, H⟩ := H
                replace H : (blend_mean.l0 of k1 t151 t152 l0 (l0.length : Int) (wrap64 (x23_1 + 1)) t162 t163) = some (r1, r2) := H
                have A12 := Aside0.mk A120
                clear A120
                have H' := Aside0.mk H
                clear H
                have p158 : 0 ≤ (x23_1 : Int) := yd
                have q158 : x23_1 < (l0.length : Int) := yd
                obtain ⟨ad158, e158, hx158_0, hx158_1, hx158_2, hx158_3, hx158_4, hx158_5, hx158_6, hx158_7, hx158_8, hx158_9, hx158_10, hx158_11, hx158_12⟩ := at_T31 HR0.out x23_1 p158 q158
                cases e158
                replace hx158_0 := hxb HB.out hx158_0
                replace hx158_1 := hxb HB.out hx158_1
                replace hx158_2 := hxb HB.out hx158_2
                replace hx158_3 := hxb HB.out hx158_3
                replace hx158_4 := hxb HB.out hx158_4
                replace hx158_5 := hxb HB.out hx158_5
                replace hx158_6 := hxb HB.out hx158_6
                replace hx158_7 := hxb HB.out hx158_7
                replace hx158_8 := hxb HB.out hx158_8
                replace hx158_9 := hxb HB.out hx158_9
                replace hx158_10 := hxb HB.out hx158_10
                replace hx158_11 := hxb HB.out hx158_11
                replace hx158_12 := hxb HB.out hx158_12
                replace p158 := eq_true p158
                replace q158 := eq_true q158
                try go_wp2_with (first | ((with_reducible refine gate_dst (N := 11) rfl ?_); refine box_event ?hg (N := 11) ?hd (cs := #[.int .i64 0, .int .i64 0, .int .i64 0, .int .i64 0, .int .i64 0, .int .i64 0, .bool false, .int .i64 0, .int .i64 0, .int .i64 0, .int .i64 0, .int .i64 0, .int .i64 0]) (t := 31) ?hr ?_; (case hd => rfl); (case hg => rfl); (case hr => first | (go_simp; done) | (go_simp; rfl)); intro gb159 hg w13 hbox hb; have n0_ := Aside0.mk (Kd.R_below (by exact rq HO_6.out) hb); have n1_ := Aside0.mk (blk_below (g := gb156) (Up.up BK156.out) hb); have n2_ := Aside0.mk (below_step (by exact h1q HB.out GE156.out) hb); have n3_ := Aside0.mk (hbox); have n4_ := Aside0.mk ((by rw [hg]; exact (below_size (by exact h1q HB.out GE156.out)) : w.heap.size ≤ gb159)); have n5_ := Aside0.mk ((by rw [hg]; exact (below_size (by exact h1q HB.out GE156.out)) : w.heap.size ≤ gb159)); have n6_ := Aside0.mk ((by rw [hg]; exact Nat.ne_of_lt (blk_lt (g := gb156) (Up.up BK156.out)) : gb156 ≠ gb159)); have n7_ := Aside0.mk ((by rw [hg]; exact Nat.ne_of_gt (blk_lt (g := gb156) (Up.up BK156.out)) : gb159 ≠ gb156)); clear HO_6; clear BK156; clear HB; have HO_6 := n0_; have BK156 := n1_; have HB := n2_; have BK159 := n3_; have GW159 := n4_; have GE159 := n5_; have NB156_159 := n6_; have NB159_156 := n7_; clear n0_ n1_ n2_ n3_ n4_ n5_ n6_ n7_; clear hb hbox hg; have hnb14 := NB159_156.out; have hnc14 := NB156_159.out; obtain ⟨hcz15_0, hcz15_1, hcz15_2, hcz15_3, hcz15_4, hcz15_5, hcz15_6, hcz15_7, hcz15_8, hcz15_9, hcz15_10, hcz15_11, hcz15_12, hfz15_0, hfz15_1, hfz15_2, hfz15_3, hfz15_4, hfz15_5, hfz15_6, hfz15_7, hfz15_8, hfz15_9, hfz15_10, hfz15_11, hfz15_12⟩ := lc13 BK159.out))
                have n0_ : Aside0 (Kd.R (Kd.int .u64) 60 (((((((((((((w13.setCell ⟨gb159, 0, none⟩ (.int .i64 ((rd_T31 l0 x23_1).f0))).setCell ⟨gb159, 1, none⟩ (.int .i64 ((rd_T31 l0 x23_1).f1))).setCell ⟨gb159, 2, none⟩ (.int .i64 ((rd_T31 l0 x23_1).f2))).setCell ⟨gb159, 3, none⟩ (.int .i64 ((rd_T31 l0 x23_1).f3))).setCell ⟨gb159, 4, none⟩ (.int .i64 ((rd_T31 l0 x23_1).f4))).setCell ⟨gb159, 5, none⟩ (.int .i64 ((rd_T31 l0 x23_1).f5))).setCell ⟨gb159, 6, none⟩ (.bool ((rd_T31 l0 x23_1).f6))).setCell ⟨gb159, 7, none⟩ (.int .i64 ((rd_T31 l0 x23_1).f7))).setCell ⟨gb159, 8, none⟩ (.int .i64 ((rd_T31 l0 x23_1).f8))).setCell ⟨gb159, 9, none⟩ (.int .i64 ((rd_T31 l0 x23_1).f9))).setCell ⟨gb159, 10, none⟩ (.int .i64 ((rd_T31 l0 x23_1).f10))).setCell ⟨gb159, 11, none⟩ (.int .i64 ((rd_T31 l0 x23_1).f11))).setCell ⟨gb159, 12, none⟩ (.int .i64 ((rd_T31 l0 x23_1).f12))) w.heap.size (fun _ => True) v154 t151) := ⟨by (with_reducible repeat (first | apply Kd.R_alloc | apply Kd.R_drewN | apply Kd.R_drew)); exact Kd.R_mono (Kd.R_far (p := ⟨gb159, 12, none⟩) (Kd.R_far (p := ⟨gb159, 11, none⟩) (Kd.R_far (p := ⟨gb159, 10, none⟩) (Kd.R_far (p := ⟨gb159, 9, none⟩) (Kd.R_far (p := ⟨gb159, 8, none⟩) (Kd.R_far (p := ⟨gb159, 7, none⟩) (Kd.R_far (p := ⟨gb159, 6, none⟩) (Kd.R_far (p := ⟨gb159, 5, none⟩) (Kd.R_far (p := ⟨gb159, 4, none⟩) (Kd.R_far (p := ⟨gb159, 3, none⟩) (Kd.R_far (p := ⟨gb159, 2, none⟩) (Kd.R_far (p := ⟨gb159, 1, none⟩) (Kd.R_far (p := ⟨gb159, 0, none⟩) (Kd.R_types HO_6.out BK159.out (by decide)) (fun _ hk => hk.2) (.int .i64 ((rd_T31 l0 x23_1).f0))) (fun _ hk => hk.2) (.int .i64 ((rd_T31 l0 x23_1).f1))) (fun _ hk => hk.2) (.int .i64 ((rd_T31 l0 x23_1).f2))) (fun _ hk => hk.2) (.int .i64 ((rd_T31 l0 x23_1).f3))) (fun _ hk => hk.2) (.int .i64 ((rd_T31 l0 x23_1).f4))) (fun _ hk => hk.2) (.int .i64 ((rd_T31 l0 x23_1).f5))) (fun _ hk => hk.2) (.bool ((rd_T31 l0 x23_1).f6))) (fun _ hk => hk.2) (.int .i64 ((rd_T31 l0 x23_1).f7))) (fun _ hk => hk.2) (.int .i64 ((rd_T31 l0 x23_1).f8))) (fun _ hk => hk.2) (.int .i64 ((rd_T31 l0 x23_1).f9))) (fun _ hk => hk.2) (.int .i64 ((rd_T31 l0 x23_1).f10))) (fun _ hk => hk.2) (.int .i64 ((rd_T31 l0 x23_1).f11))) (fun _ hk => hk.2) (.int .i64 ((rd_T31 l0 x23_1).f12))) (fun _ hk => trivial)⟩
                have n1_ : Aside0 ((((((((((((((w13.setCell ⟨gb159, 0, none⟩ (.int .i64 ((rd_T31 l0 x23_1).f0))).setCell ⟨gb159, 1, none⟩ (.int .i64 ((rd_T31 l0 x23_1).f1))).setCell ⟨gb159, 2, none⟩ (.int .i64 ((rd_T31 l0 x23_1).f2))).setCell ⟨gb159, 3, none⟩ (.int .i64 ((rd_T31 l0 x23_1).f3))).setCell ⟨gb159, 4, none⟩ (.int .i64 ((rd_T31 l0 x23_1).f4))).setCell ⟨gb159, 5, none⟩ (.int .i64 ((rd_T31 l0 x23_1).f5))).setCell ⟨gb159, 6, none⟩ (.bool ((rd_T31 l0 x23_1).f6))).setCell ⟨gb159, 7, none⟩ (.int .i64 ((rd_T31 l0 x23_1).f7))).setCell ⟨gb159, 8, none⟩ (.int .i64 ((rd_T31 l0 x23_1).f8))).setCell ⟨gb159, 9, none⟩ (.int .i64 ((rd_T31 l0 x23_1).f9))).setCell ⟨gb159, 10, none⟩ (.int .i64 ((rd_T31 l0 x23_1).f10))).setCell ⟨gb159, 11, none⟩ (.int .i64 ((rd_T31 l0 x23_1).f11))).setCell ⟨gb159, 12, none⟩ (.int .i64 ((rd_T31 l0 x23_1).f12))).heap[gb156]? = some (.cells #[.int .u64 x157000_1, .int .u64 x157001_1] 62 (0, 0))) := ⟨by (iterate 13 ((with_reducible repeat (first | refine blk_drewN ?_ _ | refine blk_drew ?_ | refine blk_alloc ?_ _)); refine blk_far ?_ NB156_159.out _)); (with_reducible repeat (first | refine blk_drewN ?_ _ | refine blk_drew ?_ | refine blk_alloc ?_ _)); exact BK156.out⟩
                have n2_ : Aside0 ((((((((((((((w13.setCell ⟨gb159, 0, none⟩ (.int .i64 ((rd_T31 l0 x23_1).f0))).setCell ⟨gb159, 1, none⟩ (.int .i64 ((rd_T31 l0 x23_1).f1))).setCell ⟨gb159, 2, none⟩ (.int .i64 ((rd_T31 l0 x23_1).f2))).setCell ⟨gb159, 3, none⟩ (.int .i64 ((rd_T31 l0 x23_1).f3))).setCell ⟨gb159, 4, none⟩ (.int .i64 ((rd_T31 l0 x23_1).f4))).setCell ⟨gb159, 5, none⟩ (.int .i64 ((rd_T31 l0 x23_1).f5))).setCell ⟨gb159, 6, none⟩ (.bool ((rd_T31 l0 x23_1).f6))).setCell ⟨gb159, 7, none⟩ (.int .i64 ((rd_T31 l0 x23_1).f7))).setCell ⟨gb159, 8, none⟩ (.int .i64 ((rd_T31 l0 x23_1).f8))).setCell ⟨gb159, 9, none⟩ (.int .i64 ((rd_T31 l0 x23_1).f9))).setCell ⟨gb159, 10, none⟩ (.int .i64 ((rd_T31 l0 x23_1).f10))).setCell ⟨gb159, 11, none⟩ (.int .i64 ((rd_T31 l0 x23_1).f11))).setCell ⟨gb159, 12, none⟩ (.int .i64 ((rd_T31 l0 x23_1).f12))).heap[gb159]? = some (.cells #[.int .i64 ((rd_T31 l0 x23_1).f0), .int .i64 ((rd_T31 l0 x23_1).f1), .int .i64 ((rd_T31 l0 x23_1).f2), .int .i64 ((rd_T31 l0 x23_1).f3), .int .i64 ((rd_T31 l0 x23_1).f4), .int .i64 ((rd_T31 l0 x23_1).f5), .bool ((rd_T31 l0 x23_1).f6), .int .i64 ((rd_T31 l0 x23_1).f7), .int .i64 ((rd_T31 l0 x23_1).f8), .int .i64 ((rd_T31 l0 x23_1).f9), .int .i64 ((rd_T31 l0 x23_1).f10), .int .i64 ((rd_T31 l0 x23_1).f11), .int .i64 ((rd_T31 l0 x23_1).f12)] 31 (0, 0))) := ⟨by (with_reducible repeat (first | refine blk_drewN ?_ _ | refine blk_drew ?_ | refine blk_alloc ?_ _)); refine blk_put (cs := #[.int .i64 ((rd_T31 l0 x23_1).f0), .int .i64 ((rd_T31 l0 x23_1).f1), .int .i64 ((rd_T31 l0 x23_1).f2), .int .i64 ((rd_T31 l0 x23_1).f3), .int .i64 ((rd_T31 l0 x23_1).f4), .int .i64 ((rd_T31 l0 x23_1).f5), .bool ((rd_T31 l0 x23_1).f6), .int .i64 ((rd_T31 l0 x23_1).f7), .int .i64 ((rd_T31 l0 x23_1).f8), .int .i64 ((rd_T31 l0 x23_1).f9), .int .i64 ((rd_T31 l0 x23_1).f10), .int .i64 ((rd_T31 l0 x23_1).f11), .int .i64 0]) ?_ 12 _ rfl; (with_reducible repeat (first | refine blk_drewN ?_ _ | refine blk_drew ?_ | refine blk_alloc ?_ _)); refine blk_put (cs := #[.int .i64 ((rd_T31 l0 x23_1).f0), .int .i64 ((rd_T31 l0 x23_1).f1), .int .i64 ((rd_T31 l0 x23_1).f2), .int .i64 ((rd_T31 l0 x23_1).f3), .int .i64 ((rd_T31 l0 x23_1).f4), .int .i64 ((rd_T31 l0 x23_1).f5), .bool ((rd_T31 l0 x23_1).f6), .int .i64 ((rd_T31 l0 x23_1).f7), .int .i64 ((rd_T31 l0 x23_1).f8), .int .i64 ((rd_T31 l0 x23_1).f9), .int .i64 ((rd_T31 l0 x23_1).f10), .int .i64 0, .int .i64 0]) ?_ 11 _ rfl; (with_reducible repeat (first | refine blk_drewN ?_ _ | refine blk_drew ?_ | refine blk_alloc ?_ _)); refine blk_put (cs := #[.int .i64 ((rd_T31 l0 x23_1).f0), .int .i64 ((rd_T31 l0 x23_1).f1), .int .i64 ((rd_T31 l0 x23_1).f2), .int .i64 ((rd_T31 l0 x23_1).f3), .int .i64 ((rd_T31 l0 x23_1).f4), .int .i64 ((rd_T31 l0 x23_1).f5), .bool ((rd_T31 l0 x23_1).f6), .int .i64 ((rd_T31 l0 x23_1).f7), .int .i64 ((rd_T31 l0 x23_1).f8), .int .i64 ((rd_T31 l0 x23_1).f9), .int .i64 0, .int .i64 0, .int .i64 0]) ?_ 10 _ rfl; (with_reducible repeat (first | refine blk_drewN ?_ _ | refine blk_drew ?_ | refine blk_alloc ?_ _)); refine blk_put (cs := #[.int .i64 ((rd_T31 l0 x23_1).f0), .int .i64 ((rd_T31 l0 x23_1).f1), .int .i64 ((rd_T31 l0 x23_1).f2), .int .i64 ((rd_T31 l0 x23_1).f3), .int .i64 ((rd_T31 l0 x23_1).f4), .int .i64 ((rd_T31 l0 x23_1).f5), .bool ((rd_T31 l0 x23_1).f6), .int .i64 ((rd_T31 l0 x23_1).f7), .int .i64 ((rd_T31 l0 x23_1).f8), .int .i64 0, .int .i64 0, .int .i64 0, .int .i64 0]) ?_ 9 _ rfl; (with_reducible repeat (first | refine blk_drewN ?_ _ | refine blk_drew ?_ | refine blk_alloc ?_ _)); refine blk_put (cs := #[.int .i64 ((rd_T31 l0 x23_1).f0), .int .i64 ((rd_T31 l0 x23_1).f1), .int .i64 ((rd_T31 l0 x23_1).f2), .int .i64 ((rd_T31 l0 x23_1).f3), .int .i64 ((rd_T31 l0 x23_1).f4), .int .i64 ((rd_T31 l0 x23_1).f5), .bool ((rd_T31 l0 x23_1).f6), .int .i64 ((rd_T31 l0 x23_1).f7), .int .i64 0, .int .i64 0, .int .i64 0, .int .i64 0, .int .i64 0]) ?_ 8 _ rfl; (with_reducible repeat (first | refine blk_drewN ?_ _ | refine blk_drew ?_ | refine blk_alloc ?_ _)); refine blk_put (cs := #[.int .i64 ((rd_T31 l0 x23_1).f0), .int .i64 ((rd_T31 l0 x23_1).f1), .int .i64 ((rd_T31 l0 x23_1).f2), .int .i64 ((rd_T31 l0 x23_1).f3), .int .i64 ((rd_T31 l0 x23_1).f4), .int .i64 ((rd_T31 l0 x23_1).f5), .bool ((rd_T31 l0 x23_1).f6), .int .i64 0, .int .i64 0, .int .i64 0, .int .i64 0, .int .i64 0, .int .i64 0]) ?_ 7 _ rfl; (with_reducible repeat (first | refine blk_drewN ?_ _ | refine blk_drew ?_ | refine blk_alloc ?_ _)); refine blk_put (cs := #[.int .i64 ((rd_T31 l0 x23_1).f0), .int .i64 ((rd_T31 l0 x23_1).f1), .int .i64 ((rd_T31 l0 x23_1).f2), .int .i64 ((rd_T31 l0 x23_1).f3), .int .i64 ((rd_T31 l0 x23_1).f4), .int .i64 ((rd_T31 l0 x23_1).f5), .bool false, .int .i64 0, .int .i64 0, .int .i64 0, .int .i64 0, .int .i64 0, .int .i64 0]) ?_ 6 _ rfl; (with_reducible repeat (first | refine blk_drewN ?_ _ | refine blk_drew ?_ | refine blk_alloc ?_ _)); refine blk_put (cs := #[.int .i64 ((rd_T31 l0 x23_1).f0), .int .i64 ((rd_T31 l0 x23_1).f1), .int .i64 ((rd_T31 l0 x23_1).f2), .int .i64 ((rd_T31 l0 x23_1).f3), .int .i64 ((rd_T31 l0 x23_1).f4), .int .i64 0, .bool false, .int .i64 0, .int .i64 0, .int .i64 0, .int .i64 0, .int .i64 0, .int .i64 0]) ?_ 5 _ rfl; (with_reducible repeat (first | refine blk_drewN ?_ _ | refine blk_drew ?_ | refine blk_alloc ?_ _)); refine blk_put (cs := #[.int .i64 ((rd_T31 l0 x23_1).f0), .int .i64 ((rd_T31 l0 x23_1).f1), .int .i64 ((rd_T31 l0 x23_1).f2), .int .i64 ((rd_T31 l0 x23_1).f3), .int .i64 0, .int .i64 0, .bool false, .int .i64 0, .int .i64 0, .int .i64 0, .int .i64 0, .int .i64 0, .int .i64 0]) ?_ 4 _ rfl; (with_reducible repeat (first | refine blk_drewN ?_ _ | refine blk_drew ?_ | refine blk_alloc ?_ _)); refine blk_put (cs := #[.int .i64 ((rd_T31 l0 x23_1).f0), .int .i64 ((rd_T31 l0 x23_1).f1), .int .i64 ((rd_T31 l0 x23_1).f2), .int .i64 0, .int .i64 0, .int .i64 0, .bool false, .int .i64 0, .int .i64 0, .int .i64 0, .int .i64 0, .int .i64 0, .int .i64 0]) ?_ 3 _ rfl; (with_reducible repeat (first | refine blk_drewN ?_ _ | refine blk_drew ?_ | refine blk_alloc ?_ _)); refine blk_put (cs := #[.int .i64 ((rd_T31 l0 x23_1).f0), .int .i64 ((rd_T31 l0 x23_1).f1), .int .i64 0, .int .i64 0, .int .i64 0, .int .i64 0, .bool false, .int .i64 0, .int .i64 0, .int .i64 0, .int .i64 0, .int .i64 0, .int .i64 0]) ?_ 2 _ rfl; (with_reducible repeat (first | refine blk_drewN ?_ _ | refine blk_drew ?_ | refine blk_alloc ?_ _)); refine blk_put (cs := #[.int .i64 ((rd_T31 l0 x23_1).f0), .int .i64 0, .int .i64 0, .int .i64 0, .int .i64 0, .int .i64 0, .bool false, .int .i64 0, .int .i64 0, .int .i64 0, .int .i64 0, .int .i64 0, .int .i64 0]) ?_ 1 _ rfl; (with_reducible repeat (first | refine blk_drewN ?_ _ | refine blk_drew ?_ | refine blk_alloc ?_ _)); refine blk_put (cs := #[.int .i64 0, .int .i64 0, .int .i64 0, .int .i64 0, .int .i64 0, .int .i64 0, .bool false, .int .i64 0, .int .i64 0, .int .i64 0, .int .i64 0, .int .i64 0, .int .i64 0]) ?_ 0 _ rfl; (with_reducible repeat (first | refine blk_drewN ?_ _ | refine blk_drew ?_ | refine blk_alloc ?_ _)); exact BK159.out⟩
                have n3_ : Aside0 (Below w.heap.size w (((((((((((((w13.setCell ⟨gb159, 0, none⟩ (.int .i64 ((rd_T31 l0 x23_1).f0))).setCell ⟨gb159, 1, none⟩ (.int .i64 ((rd_T31 l0 x23_1).f1))).setCell ⟨gb159, 2, none⟩ (.int .i64 ((rd_T31 l0 x23_1).f2))).setCell ⟨gb159, 3, none⟩ (.int .i64 ((rd_T31 l0 x23_1).f3))).setCell ⟨gb159, 4, none⟩ (.int .i64 ((rd_T31 l0 x23_1).f4))).setCell ⟨gb159, 5, none⟩ (.int .i64 ((rd_T31 l0 x23_1).f5))).setCell ⟨gb159, 6, none⟩ (.bool ((rd_T31 l0 x23_1).f6))).setCell ⟨gb159, 7, none⟩ (.int .i64 ((rd_T31 l0 x23_1).f7))).setCell ⟨gb159, 8, none⟩ (.int .i64 ((rd_T31 l0 x23_1).f8))).setCell ⟨gb159, 9, none⟩ (.int .i64 ((rd_T31 l0 x23_1).f9))).setCell ⟨gb159, 10, none⟩ (.int .i64 ((rd_T31 l0 x23_1).f10))).setCell ⟨gb159, 11, none⟩ (.int .i64 ((rd_T31 l0 x23_1).f11))).setCell ⟨gb159, 12, none⟩ (.int .i64 ((rd_T31 l0 x23_1).f12)))) := ⟨by exact h2q HB.out GE156.out GE159.out⟩
                (try clear HO_6)
                (try clear BK156)
                (try clear BK159)
                (try clear HB)
                try simp only [show ∀ (w_ : World) (n_ : Nat) (p_ : Addr) (v_ : Value), (w_.drewN n_).setCell p_ v_ = (w_.setCell p_ v_).drewN n_ from fun _ _ _ _ => rfl]
                generalize (((((((((((((w13.setCell ⟨gb159, 0, none⟩ (.int .i64 ((rd_T31 l0 x23_1).f0))).setCell ⟨gb159, 1, none⟩ (.int .i64 ((rd_T31 l0 x23_1).f1))).setCell ⟨gb159, 2, none⟩ (.int .i64 ((rd_T31 l0 x23_1).f2))).setCell ⟨gb159, 3, none⟩ (.int .i64 ((rd_T31 l0 x23_1).f3))).setCell ⟨gb159, 4, none⟩ (.int .i64 ((rd_T31 l0 x23_1).f4))).setCell ⟨gb159, 5, none⟩ (.int .i64 ((rd_T31 l0 x23_1).f5))).setCell ⟨gb159, 6, none⟩ (.bool ((rd_T31 l0 x23_1).f6))).setCell ⟨gb159, 7, none⟩ (.int .i64 ((rd_T31 l0 x23_1).f7))).setCell ⟨gb159, 8, none⟩ (.int .i64 ((rd_T31 l0 x23_1).f8))).setCell ⟨gb159, 9, none⟩ (.int .i64 ((rd_T31 l0 x23_1).f9))).setCell ⟨gb159, 10, none⟩ (.int .i64 ((rd_T31 l0 x23_1).f10))).setCell ⟨gb159, 11, none⟩ (.int .i64 ((rd_T31 l0 x23_1).f11))).setCell ⟨gb159, 12, none⟩ (.int .i64 ((rd_T31 l0 x23_1).f12))) = w16 at n0_ n1_ n2_ n3_ ⊢
                have HO_6 := n0_
                have BK156 := n1_
                have BK159 := n2_
                have HB := n3_
                clear n0_ n1_ n2_ n3_
                have n0_ := Aside0.mk (Kd.R_drew HO_6.out)
                have n1_ := Aside0.mk (blk_drew BK156.out)
                have n2_ := Aside0.mk (blk_drew BK159.out)
                have n3_ := Aside0.mk (below_drew1 HB.out)
                clear HO_6
                clear BK156
                clear BK159
                clear HB
                have HO_6 := n0_
                have BK156 := n1_
                have BK159 := n2_
                have HB := n3_
                clear n0_ n1_ n2_ n3_
                obtain ⟨Ao18, co18, eo18⟩ := Kd.R_slice HO_6.out
                (first | subst eo18 | (injection eo18 with f1_ f2_ f3_; have f4_ := f1_.symm; have f5_ := f3_.symm; clear f1_ f2_ f3_; subst f4_; subst f5_))
                have p160 : 0 ≤ (x23_1 : Int) := yd
                have q160 : x23_1 < (t151.length : Int) := yd
                obtain ⟨ad160, e160, hx160_0⟩ := Kd.at_int (Kd.R_reads' HO_6.out).2.2 x23_1 p160 q160
                cases e160
                replace p160 := eq_true p160
                replace q160 := eq_true q160
                refine start_ (n := 11) (S := fun w' => w'.cell? ⟨gb156, 0, none⟩ = some (.int .u64 x157000_1) ∧ w'.cell? ⟨gb156, 1, none⟩ = some (.int .u64 x157001_1) ∧ w'.cell? ⟨gb159, 0, none⟩ = some (.int .i64 ((rd_T31 l0 x23_1).f0)) ∧ w'.cell? ⟨gb159, 1, none⟩ = some (.int .i64 ((rd_T31 l0 x23_1).f1)) ∧ w'.cell? ⟨gb159, 2, none⟩ = some (.int .i64 ((rd_T31 l0 x23_1).f2)) ∧ w'.cell? ⟨gb159, 3, none⟩ = some (.int .i64 ((rd_T31 l0 x23_1).f3)) ∧ w'.cell? ⟨gb159, 4, none⟩ = some (.int .i64 ((rd_T31 l0 x23_1).f4)) ∧ w'.cell? ⟨gb159, 5, none⟩ = some (.int .i64 ((rd_T31 l0 x23_1).f5)) ∧ w'.cell? ⟨gb159, 6, none⟩ = some (.bool ((rd_T31 l0 x23_1).f6)) ∧ w'.cell? ⟨gb159, 7, none⟩ = some (.int .i64 ((rd_T31 l0 x23_1).f7)) ∧ w'.cell? ⟨gb159, 8, none⟩ = some (.int .i64 ((rd_T31 l0 x23_1).f8)) ∧ w'.cell? ⟨gb159, 9, none⟩ = some (.int .i64 ((rd_T31 l0 x23_1).f9)) ∧ w'.cell? ⟨gb159, 10, none⟩ = some (.int .i64 ((rd_T31 l0 x23_1).f10)) ∧ w'.cell? ⟨gb159, 11, none⟩ = some (.int .i64 ((rd_T31 l0 x23_1).f11)) ∧ w'.cell? ⟨gb159, 12, none⟩ = some (.int .i64 ((rd_T31 l0 x23_1).f12)) ∧ w'.cell? (ad160.add (x23_1).toNat) = some (.int .u64 (rd t151 x23_1))) (ds := [10]) #[false, false, false, false, false, false, false, false, false, false, false] (by kernel_rfl) rfl rfl ⟨(blk_cell BK156.out 0).trans rfl, (blk_cell BK156.out 1).trans rfl, (blk_cell BK159.out 0).trans rfl, (blk_cell BK159.out 1).trans rfl, (blk_cell BK159.out 2).trans rfl, (blk_cell BK159.out 3).trans rfl, (blk_cell BK159.out 4).trans rfl, (blk_cell BK159.out 5).trans rfl, (blk_cell BK159.out 6).trans rfl, (blk_cell BK159.out 7).trans rfl, (blk_cell BK159.out 8).trans rfl, (blk_cell BK159.out 9).trans rfl, (blk_cell BK159.out 10).trans rfl, (blk_cell BK159.out 11).trans rfl, (blk_cell BK159.out 12).trans rfl, hx160_0⟩ (fun hHeld => ?_); refine with_tabW blend_mean.tab8 blend_mean.bits8 (fun HT_ HW_ => ?_)
                generalize w16.drew = w17 at HO_6 BK156 BK159 HB hx160_0 hHeld ⊢
                refine pure_ (i := 1) (N := some 30) (v := ?_) (a' := ?_) #[false, true, false, false, false, false, false, false, false, false, false] rfl rfl (any_of HT_.out (by kernel_rfl)) (fun _ _ _ h => blend_mean.panic_put ⟨_, rfl, by decide, by decide⟩ h) (Or.inl ⟨by rfl, ?_⟩) ?_ ?_
                rotate_left
                · intro w'
                  go_simp
                  with_reducible rfl
                rotate_left
                · simp only [Act.put, List.setIfInBounds_toArray, List.set_cons_zero, List.set_cons_succ, i64_w, i32_w]
                  rfl
                refine pure_ (i := 2) (N := some 31) (v := ?_) (a' := ?_) #[false, true, true, false, false, false, false, false, false, false, false] rfl rfl (any_of HT_.out (by kernel_rfl)) (fun _ _ _ h => blend_mean.panic_put ⟨_, rfl, by decide, by decide⟩ h) (Or.inl ⟨by rfl, ?_⟩) ?_ ?_
                rotate_left
                · intro w'
                  go_simp
                  with_reducible rfl
                rotate_left
                · simp only [Act.put, List.setIfInBounds_toArray, List.set_cons_zero, List.set_cons_succ, i64_w, i32_w]
                  rfl
                refine pure_ (i := 3) (N := some 32) (v := ?_) (a' := ?_) #[false, true, true, true, false, false, false, false, false, false, false] rfl rfl (any_of HT_.out (by kernel_rfl)) (fun _ _ _ h => blend_mean.panic_put ⟨_, rfl, by decide, by decide⟩ h) (Or.inl ⟨by rfl, ?_⟩) ?_ ?_
                rotate_left
                · intro w'
                  go_simp
                  with_reducible rfl
                rotate_left
                · simp only [Act.put, List.setIfInBounds_toArray, List.set_cons_zero, List.set_cons_succ, i64_w, i32_w]
                  rfl
                refine pure_ (i := 5) (N := some 34) (v := ?_) (a' := ?_) #[false, true, true, true, false, true, false, false, false, false, false] rfl rfl (any_of HT_.out (by kernel_rfl)) (fun _ _ _ h => blend_mean.panic_put ⟨_, rfl, by decide, by decide⟩ h) (Or.inl ⟨by rfl, ?_⟩) ?_ ?_
                rotate_left
                · intro w'
                  go_simp
                  with_reducible rfl
                rotate_left
                · simp only [Act.put, List.setIfInBounds_toArray, List.set_cons_zero, List.set_cons_succ, i64_w, i32_w]
                  rfl
                refine take_ (i := 0) (N := some 29) (v := ?_) (a' := ?_) #[true, true, true, true, false, true, false, false, false, false, false] rfl rfl (take_ofW HT_.out HW_.out (by kernel_rfl)) (fun _ _ _ h => blend_mean.panic_put ⟨_, rfl, by decide, by decide⟩ h) (Or.inl ⟨by rfl, ?_⟩) hHeld ?_ ?_
                rotate_left
                · rintro w' ⟨s0, s1, s2, s3, s4, s5, s6, s7, s8, s9, s10, s11, s12, s13, s14, s15⟩
                  go_simp
                  with_reducible rfl
                rotate_left
                · simp only [Act.put, List.setIfInBounds_toArray, List.set_cons_zero, List.set_cons_succ, i64_w, i32_w]
                  rfl
                refine take_ (i := 4) (N := some 33) (v := ?_) (a' := ?_) #[true, true, true, true, true, true, false, false, false, false, false] rfl rfl (take_ofW HT_.out HW_.out (by kernel_rfl)) (fun _ _ _ h => blend_mean.panic_put ⟨_, rfl, by decide, by decide⟩ h) (Or.inl ⟨by rfl, ?_⟩) hHeld ?_ ?_
                rotate_left
                · rintro w' ⟨s0, s1, s2, s3, s4, s5, s6, s7, s8, s9, s10, s11, s12, s13, s14, s15⟩
                  go_simp
                  with_reducible rfl
                rotate_left
                · simp only [Act.put, List.setIfInBounds_toArray, List.set_cons_zero, List.set_cons_succ, i64_w, i32_w]
                  rfl
                refine take_ (i := 6) (N := some 35) (v := ?_) (a' := ?_) #[true, true, true, true, true, true, true, false, false, false, false] rfl rfl (take_ofW HT_.out HW_.out (by kernel_rfl)) (fun _ _ _ h => blend_mean.panic_put ⟨_, rfl, by decide, by decide⟩ h) (Or.inl ⟨by rfl, ?_⟩) hHeld ?_ ?_
                rotate_left
                · rintro w' ⟨s0, s1, s2, s3, s4, s5, s6, s7, s8, s9, s10, s11, s12, s13, s14, s15⟩
                  go_simp
                  with_reducible rfl
                rotate_left
                · simp only [Act.put, List.setIfInBounds_toArray, List.set_cons_zero, List.set_cons_succ, i64_w, i32_w]
                  rfl
                refine one_ (i := 7) (N := some 36) #[true, true, true, true, true, true, true, true, false, false, false] rfl rfl (one_of HT_.out (by kernel_rfl)) (by decide) (fun K hK => ?_)
                refine goesV_ (p := .tmp 34) HF1.out HF2.out HF3.out #[.agg #[.int .i64 ((rd_T31 l0 x23_1).f0), .int .i64 ((rd_T31 l0 x23_1).f1), .int .i64 ((rd_T31 l0 x23_1).f2), .int .i64 ((rd_T31 l0 x23_1).f3), .int .i64 ((rd_T31 l0 x23_1).f4), .int .i64 ((rd_T31 l0 x23_1).f5), .bool ((rd_T31 l0 x23_1).f6), .int .i64 ((rd_T31 l0 x23_1).f7), .int .i64 ((rd_T31 l0 x23_1).f8), .int .i64 ((rd_T31 l0 x23_1).f9), .int .i64 ((rd_T31 l0 x23_1).f10), .int .i64 ((rd_T31 l0 x23_1).f11), .int .i64 ((rd_T31 l0 x23_1).f12)]] (by rfl) rfl rfl rfl (by (try simp only [List.map_toArray, List.map_cons, List.map_nil]); first | done | rfl | (simp only [List.length_drop, List.length_take]; rfl)) ?_
                with_reducible refine (HCL.out (rd_T31 l0 x23_1) t161 _ (Option.some.inj A11.out)).mono ?_
                rintro e w19 ⟨rfl, hb⟩
                have HS15_ := hxb hb (hHeld.2.2.2.2.2.2.2.2.2.2.2.2.2.2.2)
                refine ⟨_, rfl, ?_⟩
                have n0_ := Aside0.mk (Kd.R_below (by exact rq HO_6.out) hb)
                have n1_ := Aside0.mk (blk_below (g := gb156) (Up.up BK156.out) hb)
                have n2_ := Aside0.mk (blk_below (g := gb159) (Up.up BK159.out) hb)
                have n3_ := Aside0.mk (below_step (by exact h2q HB.out GE156.out GE159.out) hb)
                clear HO_6
                clear BK156
                clear BK159
                clear HB
                have HO_6 := n0_
                have BK156 := n1_
                have BK159 := n2_
                have HB := n3_
                clear n0_ n1_ n2_ n3_
                (try clear hb)
                (try clear hb2)
                (try clear hk)
                (try clear hi)
                refine hK.out _ _ ⟨(blk_cell BK156.out 0).trans rfl, (blk_cell BK156.out 1).trans rfl, (blk_cell BK159.out 0).trans rfl, (blk_cell BK159.out 1).trans rfl, (blk_cell BK159.out 2).trans rfl, (blk_cell BK159.out 3).trans rfl, (blk_cell BK159.out 4).trans rfl, (blk_cell BK159.out 5).trans rfl, (blk_cell BK159.out 6).trans rfl, (blk_cell BK159.out 7).trans rfl, (blk_cell BK159.out 8).trans rfl, (blk_cell BK159.out 9).trans rfl, (blk_cell BK159.out 10).trans rfl, (blk_cell BK159.out 11).trans rfl, (blk_cell BK159.out 12).trans rfl, HS15_⟩ (fun hHeld => ?_)
                clear hK K
                refine norm_ (a' := ?_) ?_ ?_
                rotate_left
                · show Act.put _ (some 36) _ = _
                  simp only [Act.put, List.setIfInBounds_toArray, List.set_cons_zero, List.set_cons_succ, i64_w, i32_w]
                  rfl
                refine pure_ (i := 8) (N := some 37) (v := ?_) (a' := ?_) #[true, true, true, true, true, true, true, true, true, false, false] rfl rfl (any_of HT_.out (by kernel_rfl)) (fun _ _ _ h => blend_mean.panic_put ⟨_, rfl, by decide, by decide⟩ h) (Or.inl ⟨by rfl, ?_⟩) ?_ ?_
                rotate_left
                · intro w'
                  go_simp
                  with_reducible rfl
                rotate_left
                · simp only [Act.put, List.setIfInBounds_toArray, List.set_cons_zero, List.set_cons_succ, i64_w, i32_w]
                  rfl
                refine one_ (i := 9) (N := some 38) #[true, true, true, true, true, true, true, true, true, true, false] rfl rfl (one_of HT_.out (by kernel_rfl)) (by decide) (fun K hK => ?_)
                refine goes_ Try.func32 (by kernel_rfl) rfl #[.agg #[.int .u64 x157000_1, .int .u64 x157001_1], .int .u64 (rd t151 x23_1), .int .u64 (IntKind.u64.wrap (t161))] (by rfl) rfl rfl (by (try simp only [List.map_toArray, List.map_cons, List.map_nil]); first | done | rfl | (simp only [List.length_drop, List.length_take]; rfl)) ?_
                with_reducible refine (blend_wide_add.calls x157000_1 x157001_1 (rd t151 x23_1) (IntKind.u64.wrap (t161)) t162 t163 _ A12.out).mono ?_
                rintro e w20 ⟨rfl, hb⟩
                have HS15_ := hxb hb (hHeld.2.2.2.2.2.2.2.2.2.2.2.2.2.2.2)
                refine ⟨_, rfl, ?_⟩
                have n0_ := Aside0.mk (Kd.R_below (by exact rq HO_6.out) hb)
                have n1_ := Aside0.mk (blk_below (g := gb156) (Up.up BK156.out) hb)
                have n2_ := Aside0.mk (blk_below (g := gb159) (Up.up BK159.out) hb)
                have n3_ := Aside0.mk (below_step (by exact h2q HB.out GE156.out GE159.out) hb)
                clear HO_6
                clear BK156
                clear BK159
                clear HB
                have HO_6 := n0_
                have BK156 := n1_
                have BK159 := n2_
                have HB := n3_
                clear n0_ n1_ n2_ n3_
                (try clear hb)
                (try clear hb2)
                (try clear hk)
                (try clear hi)
                refine hK.out _ _ ⟨(blk_cell BK156.out 0).trans rfl, (blk_cell BK156.out 1).trans rfl, (blk_cell BK159.out 0).trans rfl, (blk_cell BK159.out 1).trans rfl, (blk_cell BK159.out 2).trans rfl, (blk_cell BK159.out 3).trans rfl, (blk_cell BK159.out 4).trans rfl, (blk_cell BK159.out 5).trans rfl, (blk_cell BK159.out 6).trans rfl, (blk_cell BK159.out 7).trans rfl, (blk_cell BK159.out 8).trans rfl, (blk_cell BK159.out 9).trans rfl, (blk_cell BK159.out 10).trans rfl, (blk_cell BK159.out 11).trans rfl, (blk_cell BK159.out 12).trans rfl, HS15_⟩ (fun hHeld => ?_)
                clear hK K
                refine norm_ (a' := ?_) ?_ ?_
                rotate_left
                · show Act.put _ (some 38) _ = _
                  simp only [Act.put, List.setIfInBounds_toArray, List.set_cons_zero, List.set_cons_succ, i64_w, i32_w]
                  rfl
                refine last_ (i := 10) (N := none) #[true, true, true, true, true, true, true, true, true, true, true] rfl rfl (one_of HT_.out (by kernel_rfl)) (by decide) (fun K hK => ?_)
                have hs21 : w20.cell? ⟨gb156, 0, none⟩ = some (.int .u64 x157000_1) := (blk_cell BK156.out 0).trans rfl
                have hfs21 := blk_frozen BK156.out 0
                have hns21_1 := NB159_156.out
                have hms21_1 := NB156_159.out
                have hs22 : w20.cell? ⟨gb156, 1, none⟩ = some (.int .u64 x157001_1) := (blk_cell BK156.out 1).trans rfl
                have hfs22 := blk_frozen BK156.out 1
                have hns22_1 := NB159_156.out
                have hms22_1 := NB156_159.out
                refine skip_ (w1 := ?_) (by rfl) rfl ?_ ?_
                rotate_left
                · go_simp
                  rfl
                refine hK.out _ _ ?_
                clear hK K
                refine done_ (done_of HT_.out (by kernel_rfl)) ?_
                try go_wp2
                go_roundg k1
                case measure => have := HK1.out; omega
                case rel => exact ⟨(wrap64 (x23_1 + 1)), (t162), (t163), (by first | rfl | (simp; done) | (simp [*]; done)), H', ⟨by have := HK1.out; omega⟩, ⟨by (with_reducible repeat (first | apply Kd.R_alloc | apply Kd.R_drewN | apply Kd.R_drew)); exact Kd.R_mono (Kd.R_far (p := ⟨gb156, 1, none⟩) (Kd.R_far (p := ⟨gb156, 0, none⟩) (Kd.R_types HO_6.out BK156.out (by decide)) (fun _ hk => hk.2) (.int .u64 t162)) (fun _ hk => hk.2) (.int .u64 t163)) (fun _ hk => trivial)⟩, ⟨by (with_reducible repeat (first | refine blk_drewN ?_ _ | refine blk_drew ?_ | refine blk_alloc ?_ _)); refine blk_put (cs := #[.int .u64 t162, .int .u64 x157001_1]) ?_ 1 _ rfl; (with_reducible repeat (first | refine blk_drewN ?_ _ | refine blk_drew ?_ | refine blk_alloc ?_ _)); refine blk_put (cs := #[.int .u64 x157000_1, .int .u64 x157001_1]) ?_ 0 _ rfl; (with_reducible repeat (first | refine blk_drewN ?_ _ | refine blk_drew ?_ | refine blk_alloc ?_ _)); exact BK156.out⟩, ⟨by exact h2q HB.out GE156.out GE159.out⟩⟩
              · rw [if_neg c10] at H
                exact absurd H (by simp)
            · rw [if_neg c9] at H
              exact absurd H (by simp)
          · rw [if_neg c8] at H
            exact absurd H (by simp)
        · rw [if_neg c7] at H
          have c7b0 : decide (x23_1 < (l0.length : Int)) = false := decide_eq_false c7
          clear c7
          replace H := Option.bind_eq_some_iff.mp H
          obtain ⟨t157, A230, H⟩ := H
          replace H : (some (wrap64 (t157), 0)) = some (r1, r2) := H
          have A23 := Aside0.mk A230
          clear A230
          simp only [Option.some.injEq, Prod.mk.injEq] at H
          obtain ⟨rfl, rfl⟩ := H
          have hcz24_0 : wr.cell? ⟨gb156, 0, none⟩ = some (.int .u64 x157000_1) := (blk_cell BK156.out 0).trans rfl
          have hcz24_1 : wr.cell? ⟨gb156, 1, none⟩ = some (.int .u64 x157001_1) := (blk_cell BK156.out 1).trans rfl
          have hfz24_0 := blk_frozen BK156.out 0
          have hfz24_1 := blk_frozen BK156.out 1
          go_wp2_with (first | ((with_reducible refine gate_callee (f := 33) rfl ?_); refine goesL_ (some 43) rfl rfl Try.func33 (by kernel_rfl) rfl #[.agg #[.int .u64 x157000_1, .int .u64 x157001_1], .int .u64 (IntKind.u64.wrap (t152))] rfl (by (try simp only [List.map_toArray, List.map_cons, List.map_nil]); first | done | rfl | (simp only [List.length_drop, List.length_take]; rfl)) ?_; (with_reducible refine (blend_wide_by.calls k1 x157000_1 x157001_1 (IntKind.u64.wrap (t152)) t157 _ A23.out).mono ?_); rintro e w25 ⟨rfl, hb⟩; refine ⟨_, rfl, ?_⟩; have n0_ := Aside0.mk (Kd.R_below (by exact rq HO_6.out) hb); have n1_ := Aside0.mk (blk_below (g := gb156) (Up.up BK156.out) hb); have n2_ := Aside0.mk (below_step (by exact h1q HB.out GE156.out) hb); clear HO_6; clear BK156; clear HB; have HO_6 := n0_; have BK156 := n1_; have HB := n2_; clear n0_ n1_ n2_; (try clear hb); (try clear hb2); (try clear hk); (try clear hi); have bn_ := blk_below (g := w0.heap.size) BN.out HB.out; have be_ := blk_below (g := w0.heap.size + 1) BE.out HB.out; have hcn := (blk_cell bn_ 0).trans rfl; have hfn := blk_frozen bn_ 0; have be2_ := blk_far be_ (p := ⟨w0.heap.size, 0, none⟩) (by simp) (.int .i64 (wrap64 t157)); have hce := (blk_cell be2_ 0).trans rfl; have hfe := blk_frozen be2_ 0))
          refine leaves_cons (f := 31) (args := #[.pointer (some ⟨w0.heap.size, 0, none⟩), .pointer (some ⟨w0.heap.size + 1, 0, none⟩)]) (by simp) (by simp [go_sem]) ?_
          refine (blend_mean.idle _ _ _).mono ?_
          rintro e u' w'' ⟨rfl, rfl, rfl⟩
          have bn_ := blk_below (g := w0.heap.size) BN.out HB.out
          have be_ := blk_below (g := w0.heap.size + 1) BE.out HB.out
          have k1 := blk_far (blk_put (cs' := #[.int .i64 (wrap64 t157)]) bn_ 0 (.int .i64 (wrap64 t157)) rfl) (p := ⟨w0.heap.size + 1, 0, none⟩) (by simp) (.int .i64 0)
          have k3 := blk_put (cs' := #[.int .i64 0]) (blk_far be_ (p := ⟨w0.heap.size, 0, none⟩) (by simp) (.int .i64 (wrap64 t157))) 0 (.int .i64 0) rfl
          have g1 := (blk_cell k1 0).trans rfl
          have g2 := (blk_cell k3 0).trans rfl
          simp [Leaves, settle, results, Try.results18, go_sem, g1, g2]
          exact ((below_step HB0.out HB.out).setCell (Nat.le_refl _) _).setCell (by simp) _
  · rw [if_neg c4] at H
    have c4b0 : (t153 == 0) = false := beq_eq_false_iff_ne.mpr c4
    have c4b1 : (t153 != 0) = true := bne_iff_ne.mpr c4
    simp only [Option.some.injEq, Prod.mk.injEq] at H
    obtain ⟨rfl, rfl⟩ := H
    go_enter_defers Try.func18, Try.ntmps18
    (go_upto_region 1 with (fail))
    obtain ⟨w, hW⟩ : ∃ w, w = (w0.alloc (Obj.cells #[.int .i64 0] 3)).alloc (Obj.cells #[.int .i64 0] 25) := ⟨_, rfl⟩
    have BN : Aside0 (w.heap[w0.heap.size]? = some (.cells #[.int .i64 0] 3 (0, 0))) := ⟨by rw [hW]; exact blk_alloc (blk_new w0 (Obj.cells #[.int .i64 0] 3)) _⟩
    have BE : Aside0 (w.heap[w0.heap.size + 1]? = some (.cells #[.int .i64 0] 25 (0, 0))) := ⟨by rw [hW]; have := blk_new (w0.alloc (Obj.cells #[.int .i64 0] 3)) (Obj.cells #[.int .i64 0] 25); simpa using this⟩
    have HB0 : Aside0 (Below w0.heap.size w0 w) := ⟨by rw [hW]; exact ((Below.refl _ _).alloc (Nat.le_refl _) _).alloc (by simp) _⟩
    have HR0 := Aside0.mk (Kd.C_below HR00.out HB0.out)
    rw [← hW]
    clear hW HR00
    have HB := Aside0.mk (Below.refl w.heap.size w)
    go_wp2_with (first | ((with_reducible refine gate_callee (f := 24) rfl ?_); refine goesL_ (some 14) rfl rfl Try.func24 (by kernel_rfl) rfl #[.slice A0 l0.length c0] rfl (by (try simp only [List.map_toArray, List.map_cons, List.map_nil]); first | done | rfl | (simp only [List.length_drop, List.length_take]; rfl)) ?_; (with_reducible refine (blend_weights.calls k _ _ l0 t151 t152 t153 _ ?side1 ?side2 A3.out).mono ?_); (case side1 => repeat (first | exact HR0.out | (with_reducible refine Kd.C_alloc ?_ _) | (with_reducible refine Kd.C_drewN ?_ _) | (with_reducible refine Kd.C_drew ?_))); (case side2 => exact HC0.out); rintro e w26 ⟨v154, rfl, ho0, hb⟩; refine ⟨_, rfl, ?_⟩; have n0_ := Aside0.mk (Kd.R_lower ho0 (below_size (by exact h0q HB.out))); have n1_ := Aside0.mk (below_step (by exact h0q HB.out) hb); clear HB; have HO155 := n0_; have HB := n1_; clear n0_ n1_; (try clear hb); (try clear hb2); (try clear hk); (try clear hi); (try clear ho0); have bn_ := blk_below (g := w0.heap.size) BN.out HB.out; have be_ := blk_below (g := w0.heap.size + 1) BE.out HB.out; have hcn := (blk_cell bn_ 0).trans rfl; have hfn := blk_frozen bn_ 0; have be2_ := blk_far be_ (p := ⟨w0.heap.size, 0, none⟩) (by simp) (.int .i64 (0)); have hce := (blk_cell be2_ 0).trans rfl; have hfe := blk_frozen be2_ 0))
    have bn_ := blk_below (g := w0.heap.size) BN.out HB.out
    have be_ := blk_below (g := w0.heap.size + 1) BE.out HB.out
    have k1 := blk_far (blk_put (cs' := #[.int .i64 0]) bn_ 0 (.int .i64 0) rfl) (p := ⟨w0.heap.size + 1, 0, none⟩) (by simp) (.int .i64 t153)
    have k3 := blk_put (cs' := #[.int .i64 t153]) (blk_far be_ (p := ⟨w0.heap.size, 0, none⟩) (by simp) (.int .i64 0)) 0 (.int .i64 t153) rfl
    have g1 := (blk_cell k1 0).trans rfl
    have g2 := (blk_cell k3 0).trans rfl
    simp [bodyPostD, Leaves, settle, results, Try.results18, go_sem, g1, g2]
    exact ((below_step HB0.out HB.out).setCell (Nat.le_refl _) _).setCell (by simp) _
set_option maxHeartbeats 8000000 in
set_option maxRecDepth 100000 in
theorem blend_of_ppm (x : S31) (t : Int) (w : World) (h : x.f5 = t) : Calls Try.prog 19 #[.agg #[.int .i64 x.f0, .int .i64 x.f1, .int .i64 x.f2, .int .i64 x.f3, .int .i64 x.f4, .int .i64 x.f5, .bool x.f6, .int .i64 x.f7, .int .i64 x.f8, .int .i64 x.f9, .int .i64 x.f10, .int .i64 x.f11, .int .i64 x.f12]] w fun e w' => e = .returned (.int .i64 t) ∧ Below w.heap.size w w' := by
  subst h
  have hu31 := Try.underlying31
  have HB := Aside0.mk (Below.refl w.heap.size w)
  go_enter Try.func19, Try.ntmps19
  go_wp2_with (first | ((with_reducible refine gate_dst (N := 1) rfl ?_); refine box_event ?hg (N := 1) ?hd (cs := #[.int .i64 x.f0, .int .i64 x.f1, .int .i64 x.f2, .int .i64 x.f3, .int .i64 x.f4, .int .i64 x.f5, .bool x.f6, .int .i64 x.f7, .int .i64 x.f8, .int .i64 x.f9, .int .i64 x.f10, .int .i64 x.f11, .int .i64 x.f12]) (t := 31) ?hr ?_; (case hd => rfl); (case hg => rfl); (case hr => first | (go_simp; done) | (go_simp; rfl)); intro gb143 hg w4 hbox hb; have n0_ := Aside0.mk (below_step (by exact h0q HB.out) hb); have n1_ := Aside0.mk (hbox); have n2_ := Aside0.mk ((by rw [hg]; exact (below_size (by exact h0q HB.out)) : w.heap.size ≤ gb143)); have n3_ := Aside0.mk ((by rw [hg]; exact (below_size (by exact h0q HB.out)) : w.heap.size ≤ gb143)); clear HB; have HB := n0_; have BK143 := n1_; have GW143 := n2_; have GE143 := n3_; clear n0_ n1_ n2_ n3_; clear hb hbox hg; obtain ⟨hcz5_0, hcz5_1, hcz5_2, hcz5_3, hcz5_4, hcz5_5, hcz5_6, hcz5_7, hcz5_8, hcz5_9, hcz5_10, hcz5_11, hcz5_12, hfz5_0, hfz5_1, hfz5_2, hfz5_3, hfz5_4, hfz5_5, hfz5_6, hfz5_7, hfz5_8, hfz5_9, hfz5_10, hfz5_11, hfz5_12⟩ := lc13 BK143.out))
  go_ret
  exact ⟨by first | rfl | (simp [errW_none, errW_some] <;> rfl) | (simp [*, errW_none, errW_some] <;> rfl), by exact h1q HB.out GE143.out⟩
set_option maxHeartbeats 8000000 in
set_option maxRecDepth 100000 in
theorem blend_of_count (x : S31) (t : Int) (w : World) (h : x.f12 = t) : Calls Try.prog 22 #[.agg #[.int .i64 x.f0, .int .i64 x.f1, .int .i64 x.f2, .int .i64 x.f3, .int .i64 x.f4, .int .i64 x.f5, .bool x.f6, .int .i64 x.f7, .int .i64 x.f8, .int .i64 x.f9, .int .i64 x.f10, .int .i64 x.f11, .int .i64 x.f12]] w fun e w' => e = .returned (.int .i64 t) ∧ Below w.heap.size w w' := by
  subst h
  have hu31 := Try.underlying31
  have HB := Aside0.mk (Below.refl w.heap.size w)
  go_enter Try.func22, Try.ntmps22
  go_wp2_with (first | ((with_reducible refine gate_dst (N := 1) rfl ?_); refine box_event ?hg (N := 1) ?hd (cs := #[.int .i64 x.f0, .int .i64 x.f1, .int .i64 x.f2, .int .i64 x.f3, .int .i64 x.f4, .int .i64 x.f5, .bool x.f6, .int .i64 x.f7, .int .i64 x.f8, .int .i64 x.f9, .int .i64 x.f10, .int .i64 x.f11, .int .i64 x.f12]) (t := 31) ?hr ?_; (case hd => rfl); (case hg => rfl); (case hr => first | (go_simp; done) | (go_simp; rfl)); intro gb143 hg w4 hbox hb; have n0_ := Aside0.mk (below_step (by exact h0q HB.out) hb); have n1_ := Aside0.mk (hbox); have n2_ := Aside0.mk ((by rw [hg]; exact (below_size (by exact h0q HB.out)) : w.heap.size ≤ gb143)); have n3_ := Aside0.mk ((by rw [hg]; exact (below_size (by exact h0q HB.out)) : w.heap.size ≤ gb143)); clear HB; have HB := n0_; have BK143 := n1_; have GW143 := n2_; have GE143 := n3_; clear n0_ n1_ n2_ n3_; clear hb hbox hg; obtain ⟨hcz5_0, hcz5_1, hcz5_2, hcz5_3, hcz5_4, hcz5_5, hcz5_6, hcz5_7, hcz5_8, hcz5_9, hcz5_10, hcz5_11, hcz5_12, hfz5_0, hfz5_1, hfz5_2, hfz5_3, hfz5_4, hfz5_5, hfz5_6, hfz5_7, hfz5_8, hfz5_9, hfz5_10, hfz5_11, hfz5_12⟩ := lc13 BK143.out))
  go_ret
  exact ⟨by first | rfl | (simp [errW_none, errW_some] <;> rfl) | (simp [*, errW_none, errW_some] <;> rfl), by exact h1q HB.out GE143.out⟩
/-! ### blend_Rate: function 8 -/
def blend_Rate.f (k : Nat) (l0 : List (S31)) : Option (Int × Int) := (blend_mean.f (fun x => x.f5) k l0).bind fun bt164 => (if bt164.2 = 0 then (some (mn (wrap64 ((wrap64 (Int.tdiv (wrap64 ((wrap64 (bt164.1 + 1250)) - 1)) 1250)) * 1250)) 1000000, 0)) else (some (0, bt164.2)))
set_option maxHeartbeats 8000000 in
set_option maxRecDepth 100000 in
theorem blend_Rate.calls (k : Nat) (A0 : Option Addr) (c0 : Nat) (l0 : List (S31)) (r1 : Int) (r2 : Int) (w : World) (hr0 : Kd.C k31 w A0 l0.length l0) (hc0 : l0.length ≤ c0) (h : blend_Rate.f k l0 = some (r1, r2)) :
    Calls Try.prog 8 #[.slice A0 l0.length c0] w fun e w' => e = .returned (.tuple #[.int .i64 r1, .int .i64 r2]) ∧ Below w.heap.size w w' := by
  have HR0 := Aside0.mk hr0
  have HC0 := Aside0.mk hc0
  clear hr0 hc0
  have HB := Aside0.mk (Below.refl w.heap.size w)
  have H : ((blend_mean.f (fun x => x.f5) k l0).bind fun bt164 => (if bt164.2 = 0 then (some (mn (wrap64 ((wrap64 (Int.tdiv (wrap64 ((wrap64 (bt164.1 + 1250)) - 1)) 1250)) * 1250)) 1000000, 0)) else (some (0, bt164.2)))) = some (r1, r2) := h
  clear h
  replace H := Option.bind_eq_some_iff.mp H
  obtain ⟨⟨t164, t165⟩, A20, H⟩ := H
  replace H : (if t165 = 0 then (some (mn (wrap64 ((wrap64 (Int.tdiv (wrap64 ((wrap64 (t164 + 1250)) - 1)) 1250)) * 1250)) 1000000, 0)) else (some (0, t165))) = some (r1, r2) := H
  have A2 := Aside0.mk A20
  clear A20
  by_cases c3 : t165 = 0
  · rw [if_pos c3] at H
    have c3b0 : (t165 == 0) = true := beq_iff_eq.mpr c3
    have c3b1 : (t165 != 0) = false := bne_eq_false_iff_eq.mpr c3
    clear c3
    obtain ⟨ji4, hji4⟩ : ∃ j_ : Int, (mn (wrap64 ((wrap64 (Int.tdiv (wrap64 ((wrap64 (t164 + 1250)) - 1)) 1250)) * 1250)) 1000000) = j_ := ⟨_, rfl⟩
    replace H : (some (ji4, 0)) = some (r1, r2) := by first | (rw [hji4] at H; exact H) | (simp only [hji4] at H ⊢; exact H)
    (try rw [hji4] at A2)
    (try (have hji4h : ji4 ≤ 1000000 := by (rw [← hji4]; unfold mn; (repeat' split) <;> omega)))
    (try (have hji4g : ji4 ≤ 64 := by omega))
    have hji4_ : (if 1000000 < (wrap64 ((wrap64 (Int.tdiv (wrap64 ((wrap64 (t164 + 1250)) - 1)) 1250)) * 1250)) then 1000000 else (wrap64 ((wrap64 (Int.tdiv (wrap64 ((wrap64 (t164 + 1250)) - 1)) 1250)) * 1250))) = ji4 := hji4
    simp only [Option.some.injEq, Prod.mk.injEq] at H
    obtain ⟨rfl, rfl⟩ := H
    have hmf : ∀ (fn : Fn) (first cap : Array Value) (w : World), (Instr.makeFunc fn first cap).run Try.prog w = .ok (.func fn first cap) w := fun _ _ _ _ => rfl
    go_enter Try.func8, Try.ntmps8
    go_wp2_with (first | ((with_reducible refine gate_callee (f := 18) rfl ?_); refine goesL_ (some 8) rfl rfl Try.func18 (by kernel_rfl) rfl #[.slice A0 l0.length c0, .func (.func 19) #[] #[]] rfl (by (try simp only [List.map_toArray, List.map_cons, List.map_nil]); first | done | rfl | (simp only [List.length_drop, List.length_take]; rfl)) ?_; (with_reducible refine (blend_mean.calls (fun x => x.f5) 19 _ Try.func19 (by kernel_rfl) rfl blend_of_ppm k _ _ l0 t164 t165 _ ?side1 ?side2 A2.out).mono ?_); (case side1 => repeat (first | exact HR0.out | (with_reducible refine Kd.C_alloc ?_ _) | (with_reducible refine Kd.C_drewN ?_ _) | (with_reducible refine Kd.C_drew ?_))); (case side2 => exact HC0.out); rintro e w5 ⟨rfl, hb⟩; refine ⟨_, rfl, ?_⟩; have n0_ := Aside0.mk (below_step (by exact h0q HB.out) hb); clear HB; have HB := n0_; clear n0_; (try clear hb); (try clear hb2); (try clear hk); (try clear hi)))
    go_ret2
    exact ⟨by first | rfl | (simp [errW_none, errW_some] <;> rfl) | (simp only [← hji4]; first | rfl | (simp [errW_none, errW_some] <;> rfl)) | (simp [*, errW_none, errW_some] <;> rfl), by exact h0q HB.out⟩
  · rw [if_neg c3] at H
    have c3b0 : (t165 == 0) = false := beq_eq_false_iff_ne.mpr c3
    have c3b1 : (t165 != 0) = true := bne_iff_ne.mpr c3
    simp only [Option.some.injEq, Prod.mk.injEq] at H
    obtain ⟨rfl, rfl⟩ := H
    have hmf : ∀ (fn : Fn) (first cap : Array Value) (w : World), (Instr.makeFunc fn first cap).run Try.prog w = .ok (.func fn first cap) w := fun _ _ _ _ => rfl
    go_enter Try.func8, Try.ntmps8
    go_wp2_with (first | ((with_reducible refine gate_callee (f := 18) rfl ?_); refine goesL_ (some 8) rfl rfl Try.func18 (by kernel_rfl) rfl #[.slice A0 l0.length c0, .func (.func 19) #[] #[]] rfl (by (try simp only [List.map_toArray, List.map_cons, List.map_nil]); first | done | rfl | (simp only [List.length_drop, List.length_take]; rfl)) ?_; (with_reducible refine (blend_mean.calls (fun x => x.f5) 19 _ Try.func19 (by kernel_rfl) rfl blend_of_ppm k _ _ l0 t164 t165 _ ?side1 ?side2 A2.out).mono ?_); (case side1 => repeat (first | exact HR0.out | (with_reducible refine Kd.C_alloc ?_ _) | (with_reducible refine Kd.C_drewN ?_ _) | (with_reducible refine Kd.C_drew ?_))); (case side2 => exact HC0.out); rintro e w6 ⟨rfl, hb⟩; refine ⟨_, rfl, ?_⟩; have n0_ := Aside0.mk (below_step (by exact h0q HB.out) hb); clear HB; have HB := n0_; clear n0_; (try clear hb); (try clear hb2); (try clear hk); (try clear hi)))
    go_ret2
    exact ⟨by first | rfl | (simp [errW_none, errW_some] <;> rfl) | (simp [*, errW_none, errW_some] <;> rfl), by exact h0q HB.out⟩

/-! ### blend_Count: function 10 -/
def blend_Count.f (k : Nat) (l0 : List (S31)) : Option (Int × Int) := (blend_mean.f (fun x => x.f12) k l0).bind fun bt166 => (some (bt166.1, bt166.2))
set_option maxHeartbeats 8000000 in
set_option maxRecDepth 100000 in
theorem blend_Count.calls (k : Nat) (A0 : Option Addr) (c0 : Nat) (l0 : List (S31)) (r1 : Int) (r2 : Int) (w : World) (hr0 : Kd.C k31 w A0 l0.length l0) (hc0 : l0.length ≤ c0) (h : blend_Count.f k l0 = some (r1, r2)) :
    Calls Try.prog 10 #[.slice A0 l0.length c0] w fun e w' => e = .returned (.tuple #[.int .i64 r1, .int .i64 r2]) ∧ Below w.heap.size w w' := by
  have HR0 := Aside0.mk hr0
  have HC0 := Aside0.mk hc0
  clear hr0 hc0
  have HB := Aside0.mk (Below.refl w.heap.size w)
  have H : ((blend_mean.f (fun x => x.f12) k l0).bind fun bt166 => (some (bt166.1, bt166.2))) = some (r1, r2) := h
  clear h
  replace H := Option.bind_eq_some_iff.mp H
  obtain ⟨⟨t166, t167⟩, A20, H⟩ := H
  replace H : (some (t166, t167)) = some (r1, r2) := H
  have A2 := Aside0.mk A20
  clear A20
  simp only [Option.some.injEq, Prod.mk.injEq] at H
  obtain ⟨rfl, rfl⟩ := H
  have hmf : ∀ (fn : Fn) (first cap : Array Value) (w : World), (Instr.makeFunc fn first cap).run Try.prog w = .ok (.func fn first cap) w := fun _ _ _ _ => rfl
  go_enter Try.func10, Try.ntmps10
  go_wp2_with (first | ((with_reducible refine gate_callee (f := 18) rfl ?_); refine goesL_ (some 5) rfl rfl Try.func18 (by kernel_rfl) rfl #[.slice A0 l0.length c0, .func (.func 22) #[] #[]] rfl (by (try simp only [List.map_toArray, List.map_cons, List.map_nil]); first | done | rfl | (simp only [List.length_drop, List.length_take]; rfl)) ?_; (with_reducible refine (blend_mean.calls (fun x => x.f12) 22 _ Try.func22 (by kernel_rfl) rfl blend_of_count k _ _ l0 t166 t167 _ ?side1 ?side2 A2.out).mono ?_); (case side1 => repeat (first | exact HR0.out | (with_reducible refine Kd.C_alloc ?_ _) | (with_reducible refine Kd.C_drewN ?_ _) | (with_reducible refine Kd.C_drew ?_))); (case side2 => exact HC0.out); rintro e w3 ⟨rfl, hb⟩; refine ⟨_, rfl, ?_⟩; have n0_ := Aside0.mk (below_step (by exact h0q HB.out) hb); clear HB; have HB := n0_; clear n0_; (try clear hb); (try clear hb2); (try clear hk); (try clear hi)))
  go_ret2
  exact ⟨by first | rfl | (simp [errW_none, errW_some] <;> rfl) | (simp [*, errW_none, errW_some] <;> rfl), by exact h0q HB.out⟩

end Go.Proofs.Ytakcepffodipfaa.P
