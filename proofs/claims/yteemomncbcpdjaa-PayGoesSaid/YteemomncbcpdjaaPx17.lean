/- A part of a proof. -/
import Derived.Test.YteemomncbcpdjaaZaa
import Derived.Test.YteemomncbcpdjaaPx0
import Derived.Test.YteemomncbcpdjaaPx2
import Derived.Test.YteemomncbcpdjaaPx8
import Derived.Test.YteemomncbcpdjaaPx9
import Derived.Test.YteemomncbcpdjaaPx14
import Derived.Test.YteemomncbcpdjaaPx15
import Derived.Test.YteemomncbcpdjaaPx16
import Derived.Test.YteemomncbcpdjaaZo
import Derived.Test.YteemomncbcpdjaaZr
namespace Go.Proofs.Yteemomncbcpdjaa.P
open Go.RowKit W.PrintWords W.PrintLast W.PrintMore
attribute [local go_sem] qZs qZq qZ5 qZ6 qZk qZl qZt qZp
set_option linter.unusedVariables false
set_option linter.unusedSimpArgs false
def qQ8.f (k : Nat) (l0 : List (S43)) (a1 : Int) : Option (Bool) := if (l0.length : Int) > 100 then ((qQ3.f k).bind fun t243 => (some t243)) else ((qZ4.f l0).bind fun t244 => ((qQg.f k t244 a1).bind fun bt247 => ((qQe.f k l0 a1).bind fun bt256 => ((qZ7.f k t244).bind fun t265 => ((qQz.f k l0).bind fun t268 => ((qQ2.f k t265 t268).bind fun t271 => (if t271 = true then ((qQj.f k bt247.1 bt256.1).bind fun t272 => (if t272 = true then ((qZf.f bt247.2.1 bt247.2.2.1 bt247.2.2.2.1 bt247.2.2.2.2.1 bt256.2.1 bt256.2.2.1 bt256.2.2.2.1 bt256.2.2.2.2.1).bind fun t273 => (if t273 = true then (if bt247.2.2.2.2.2 = bt256.2.2.2.2.2 then ((qQj.f k t244 l0).bind fun t274 => (if t274 = true then ((qQ3.f k).bind fun t275 => (some t275)) else (none))) else (none)) else (none))) else (none))) else (none))))))))
set_option maxHeartbeats 8000000 in
set_option maxRecDepth 100000 in
theorem qQ8.calls (k : Nat) (A0 : Option Addr) (c0 : Nat) (l0 : List (S43)) (a1 : Int) (r : Bool) (w : World) (hr0 : Kd.C k43 w A0 l0.length l0) (hc0 : l0.length ≤ c0) (h : qQ8.f k l0 a1 = some r) :
  Calls Try.prog 3 #[.slice A0 l0.length c0, .int .i64 a1] w fun e w' => e = .returned (.bool r) ∧ Below w.heap.size w w' := by
 have hu26 := Try.underlying26
 have hu31 := Try.underlying31
 have HR0 := am hr0
 have HC0 := am hc0
 clear hr0 hc0
 have HB := am (Below.refl w.heap.size w)
 have H : (if (l0.length : Int) > 100 then ((qQ3.f k).bind fun t243 => (some t243)) else ((qZ4.f l0).bind fun t244 => ((qQg.f k t244 a1).bind fun bt247 => ((qQe.f k l0 a1).bind fun bt256 => ((qZ7.f k t244).bind fun t265 => ((qQz.f k l0).bind fun t268 => ((qQ2.f k t265 t268).bind fun t271 => (if t271 = true then ((qQj.f k bt247.1 bt256.1).bind fun t272 => (if t272 = true then ((qZf.f bt247.2.1 bt247.2.2.1 bt247.2.2.2.1 bt247.2.2.2.2.1 bt256.2.1 bt256.2.2.1 bt256.2.2.2.1 bt256.2.2.2.2.1).bind fun t273 => (if t273 = true then (if bt247.2.2.2.2.2 = bt256.2.2.2.2.2 then ((qQj.f k t244 l0).bind fun t274 => (if t274 = true then ((qQ3.f k).bind fun t275 => (some t275)) else (none))) else (none)) else (none))) else (none))) else (none))))))))) = some r := h
 clear h
 by_cases c3 : (l0.length : Int) > 100
 ·rw [if_pos c3] at H
  have c3b0 : decide (100 < (l0.length : Int)) = true := decide_eq_true c3
  have c3b1 : decide (100 < l0.length) = true := decide_eq_true (by omega)
  clear c3
  replace H := Option.bind_eq_some_iff.mp H
  obtain ⟨t243, A40, H⟩ := H
  replace H : (some t243) = some r := H
  have A4 := am A40
  clear A40
  obtain rfl := Option.some.inj H
  go_enter Try.func3, Try.ntmps3
  go_wp2_with (first | ((with_reducible refine qQ4 (f := 7) rfl ?_); refine goesL_ (some 14) rfl rfl Try.func7 (by kernel_rfl) rfl #[] rfl ml ?_; (with_reducible refine (qQ3.calls k  t243 _ A4.out).mono ?_); rintro e w5 ⟨rfl, hb⟩; refine ⟨_, rfl, ?_⟩; have n0_ := am (qQn (by exact h0q HB.out) hb); clear HB; have HB := n0_; clear n0_; (try clear hb); (try clear hb2); (try clear hk); (try clear hi)))
  go_ret
  exact ⟨er, by exact h0q HB.out⟩
 ·rw [if_neg c3] at H
  have c3b0 : decide (100 < (l0.length : Int)) = false := decide_eq_false c3
  have c3b1 : decide (100 < l0.length) = false := decide_eq_false (by omega)
  clear c3
  replace H := Option.bind_eq_some_iff.mp H
  obtain ⟨t244, A60, H⟩ := H
  replace H : ((qQg.f k t244 a1).bind fun bt247 => ((qQe.f k l0 a1).bind fun bt256 => ((qZ7.f k t244).bind fun t265 => ((qQz.f k l0).bind fun t268 => ((qQ2.f k t265 t268).bind fun t271 => (if t271 = true then ((qQj.f k bt247.1 bt256.1).bind fun t272 => (if t272 = true then ((qZf.f bt247.2.1 bt247.2.2.1 bt247.2.2.2.1 bt247.2.2.2.2.1 bt256.2.1 bt256.2.2.1 bt256.2.2.2.1 bt256.2.2.2.2.1).bind fun t273 => (if t273 = true then (if bt247.2.2.2.2.2 = bt256.2.2.2.2.2 then ((qQj.f k t244 l0).bind fun t274 => (if t274 = true then ((qQ3.f k).bind fun t275 => (some t275)) else (none))) else (none)) else (none))) else (none))) else (none))))))) = some r := H
  have A6 := am A60
  clear A60
  replace H := Option.bind_eq_some_iff.mp H
  obtain ⟨⟨t247, t250, t251, t252, t253, t254⟩, A70, H⟩ := H
  replace H : ((qQe.f k l0 a1).bind fun bt256 => ((qZ7.f k t244).bind fun t265 => ((qQz.f k l0).bind fun t268 => ((qQ2.f k t265 t268).bind fun t271 => (if t271 = true then ((qQj.f k t247 bt256.1).bind fun t272 => (if t272 = true then ((qZf.f t250 t251 t252 t253 bt256.2.1 bt256.2.2.1 bt256.2.2.2.1 bt256.2.2.2.2.1).bind fun t273 => (if t273 = true then (if t254 = bt256.2.2.2.2.2 then ((qQj.f k t244 l0).bind fun t274 => (if t274 = true then ((qQ3.f k).bind fun t275 => (some t275)) else (none))) else (none)) else (none))) else (none))) else (none)))))) = some r := H
  have A7 := am A70
  clear A70
  replace H := Option.bind_eq_some_iff.mp H
  obtain ⟨⟨t256, t259, t260, t261, t262, t263⟩, A80, H⟩ := H
  replace H : ((qZ7.f k t244).bind fun t265 => ((qQz.f k l0).bind fun t268 => ((qQ2.f k t265 t268).bind fun t271 => (if t271 = true then ((qQj.f k t247 t256).bind fun t272 => (if t272 = true then ((qZf.f t250 t251 t252 t253 t259 t260 t261 t262).bind fun t273 => (if t273 = true then (if t254 = t263 then ((qQj.f k t244 l0).bind fun t274 => (if t274 = true then ((qQ3.f k).bind fun t275 => (some t275)) else (none))) else (none)) else (none))) else (none))) else (none))))) = some r := H
  have A8 := am A80
  clear A80
  replace H := Option.bind_eq_some_iff.mp H
  obtain ⟨t265, A90, H⟩ := H
  replace H : ((qQz.f k l0).bind fun t268 => ((qQ2.f k t265 t268).bind fun t271 => (if t271 = true then ((qQj.f k t247 t256).bind fun t272 => (if t272 = true then ((qZf.f t250 t251 t252 t253 t259 t260 t261 t262).bind fun t273 => (if t273 = true then (if t254 = t263 then ((qQj.f k t244 l0).bind fun t274 => (if t274 = true then ((qQ3.f k).bind fun t275 => (some t275)) else (none))) else (none)) else (none))) else (none))) else (none)))) = some r := H
  have A9 := am A90
  clear A90
  replace H := Option.bind_eq_some_iff.mp H
  obtain ⟨t268, A100, H⟩ := H
  replace H : ((qQ2.f k t265 t268).bind fun t271 => (if t271 = true then ((qQj.f k t247 t256).bind fun t272 => (if t272 = true then ((qZf.f t250 t251 t252 t253 t259 t260 t261 t262).bind fun t273 => (if t273 = true then (if t254 = t263 then ((qQj.f k t244 l0).bind fun t274 => (if t274 = true then ((qQ3.f k).bind fun t275 => (some t275)) else (none))) else (none)) else (none))) else (none))) else (none))) = some r := H
  have A10 := am A100
  clear A100
  replace H := Option.bind_eq_some_iff.mp H
  obtain ⟨t271, A110, H⟩ := H
  replace H : (if t271 = true then ((qQj.f k t247 t256).bind fun t272 => (if t272 = true then ((qZf.f t250 t251 t252 t253 t259 t260 t261 t262).bind fun t273 => (if t273 = true then (if t254 = t263 then ((qQj.f k t244 l0).bind fun t274 => (if t274 = true then ((qQ3.f k).bind fun t275 => (some t275)) else (none))) else (none)) else (none))) else (none))) else (none)) = some r := H
  have A11 := am A110
  clear A110
  by_cases c12 : t271 = true
  ·subst c12
   have H1 : ((qQj.f k t247 t256).bind fun t272 => (if t272 = true then ((qZf.f t250 t251 t252 t253 t259 t260 t261 t262).bind fun t273 => (if t273 = true then (if t254 = t263 then ((qQj.f k t244 l0).bind fun t274 => (if t274 = true then ((qQ3.f k).bind fun t275 => (some t275)) else (none))) else (none)) else (none))) else (none))) = some r := by rw [if_pos rfl] at H; exact H
   clear H
   have H := H1
   clear H1
   replace H := Option.bind_eq_some_iff.mp H
   obtain ⟨t272, A130, H⟩ := H
   replace H : (if t272 = true then ((qZf.f t250 t251 t252 t253 t259 t260 t261 t262).bind fun t273 => (if t273 = true then (if t254 = t263 then ((qQj.f k t244 l0).bind fun t274 => (if t274 = true then ((qQ3.f k).bind fun t275 => (some t275)) else (none))) else (none)) else (none))) else (none)) = some r := H
   have A13 := am A130
   clear A130
   by_cases c14 : t272 = true
   ·subst c14
    have H1 : ((qZf.f t250 t251 t252 t253 t259 t260 t261 t262).bind fun t273 => (if t273 = true then (if t254 = t263 then ((qQj.f k t244 l0).bind fun t274 => (if t274 = true then ((qQ3.f k).bind fun t275 => (some t275)) else (none))) else (none)) else (none))) = some r := by rw [if_pos rfl] at H; exact H
    clear H
    have H := H1
    clear H1
    replace H := Option.bind_eq_some_iff.mp H
    obtain ⟨t273, A150, H⟩ := H
    replace H : (if t273 = true then (if t254 = t263 then ((qQj.f k t244 l0).bind fun t274 => (if t274 = true then ((qQ3.f k).bind fun t275 => (some t275)) else (none))) else (none)) else (none)) = some r := H
    have A15 := am A150
    clear A150
    by_cases c16 : t273 = true
    ·subst c16
     have H1 : (if t254 = t263 then ((qQj.f k t244 l0).bind fun t274 => (if t274 = true then ((qQ3.f k).bind fun t275 => (some t275)) else (none))) else (none)) = some r := by rw [if_pos rfl] at H; exact H
     clear H
     have H := H1
     clear H1
     by_cases c17 : t254 = t263
     ·rw [if_pos c17] at H
      have c17b0 : (t254 == t263) = true := beq_iff_eq.mpr c17
      have c17b1 : (t254 != t263) = false := bne_eq_false_iff_eq.mpr c17
      clear c17
      replace H := Option.bind_eq_some_iff.mp H
      obtain ⟨t274, A180, H⟩ := H
      replace H : (if t274 = true then ((qQ3.f k).bind fun t275 => (some t275)) else (none)) = some r := H
      have A18 := am A180
      clear A180
      by_cases c19 : t274 = true
      ·subst c19
       have H1 : ((qQ3.f k).bind fun t275 => (some t275)) = some r := by rw [if_pos rfl] at H; exact H
       clear H
       have H := H1
       clear H1
       replace H := Option.bind_eq_some_iff.mp H
       obtain ⟨t275, A200, H⟩ := H
       replace H : (some t275) = some r := H
       have A20 := am A200
       clear A200
       obtain rfl := Option.some.inj H
       go_enter Try.func3, Try.ntmps3
       go_wp2_with (first | ((with_reducible refine qQ4 (f := 8) rfl ?_); refine goesL_ (some 16) rfl rfl Try.func8 (by kernel_rfl) rfl #[.slice A0 l0.length c0] rfl ml ?_; (with_reducible refine (qZ4.calls _ _ l0 t244 _ ?side1 ?side2 A6.out).mono ?_); (case side1 => exact cq (HR0.out)); (case side2 => exact HC0.out); rintro e w21 ⟨v245, rfl, ho0, hb⟩; refine ⟨_, rfl, ?_⟩; have n0_ := am (Kd.qZe ho0 (qQh (by exact h0q HB.out))); have n1_ := am (qQn (by exact h0q HB.out) hb); clear HB; have HO246 := n0_; have HB := n1_; clear n0_ n1_; (try clear hb); (try clear hb2); (try clear hk); (try clear hi); (try clear ho0); obtain ⟨Ao22, co22, eo22⟩ := Kd.qZ8 HO246.out; subst eo22) | ((with_reducible refine qQ4 (f := 9) rfl ?_); refine goesL_ (some 20) rfl rfl Try.func9 (by kernel_rfl) rfl #[.slice Ao22 t244.length co22, .int .i64 a1] rfl ml ?_; (with_reducible refine (qQg.calls k _ _ t244 a1 t247 t250 t251 t252 t253 t254 _ ?side1 ?side2 A7.out).mono ?_); (case side1 => exact cq ((Kd.qQx HO246.out).2.2)); (case side2 => exact (Kd.qQx HO246.out).2.1); rintro e w23 ⟨v248, rfl, ho0, hb⟩; refine ⟨_, rfl, ?_⟩; have n0_ := am (Kd.qQ7 (by exact rq HO246.out) (Kd.qZo ho0) hb); have n1_ := am (Kd.qZe (Kd.qZn ho0 (Kd.R_lt (by exact rq HO246.out))) (qQh (by exact h0q HB.out))); have n2_ := am (qQn (by exact h0q HB.out) hb); clear HO246; clear HB; have HO246 := n0_; have HO249 := n1_; have HB := n2_; clear n0_ n1_ n2_; (try clear hb); (try clear hb2); (try clear hk); (try clear hi); (try clear ho0)) | ((with_reducible refine qZj (N := 7) rfl ?_); refine qZu ?hg (N := 7) ?hd (cs := #[.int .i64 0, .int .i64 0, .int .i64 0, .int .i64 0]) (t := 26) ?hr ?_; (case hd => rfl); (case hg => rfl); (case hr => first | (go_simp; done) | (go_simp; rfl)); intro gb255 hg w24 hbox hb; have n0_ := am (Kd.qQw (by exact rq HO246.out) hb); have n1_ := am (Kd.qQw (by exact rq HO249.out) hb); have n2_ := am (qQn (by exact h0q HB.out) hb); have n3_ := am (hbox); have n4_ := am ((by rw [hg]; exact (qQh (by exact h0q HB.out)) : w.heap.size ≤ gb255)); have n5_ := am ((by rw [hg]; exact (qQh (by exact h0q HB.out)) : w.heap.size ≤ gb255)); clear HO246; clear HO249; clear HB; have HO246 := n0_; have HO249 := n1_; have HB := n2_; have BK255 := n3_; have GW255 := n4_; have GE255 := n5_; clear n0_ n1_ n2_ n3_ n4_ n5_; clear hb hbox hg; have hz25 := lc4_ BK255.out) | ((with_reducible refine qQ4 (f := 10) rfl ?_); refine goesL_ (some 27) rfl rfl Try.func10 (by kernel_rfl) rfl #[.slice A0 l0.length c0, .int .i64 a1] rfl ml ?_; (with_reducible refine (qQe.calls k _ _ l0 a1 t256 t259 t260 t261 t262 t263 _ ?side1 ?side2 A8.out).mono ?_); (case side1 => exact Kd.qZw HR0.out (by exact h1q HB.out GE255.out)); (case side2 => exact HC0.out); rintro e w26 ⟨v257, rfl, ho0, hb⟩; refine ⟨_, rfl, ?_⟩; have n0_ := am (Kd.qQ7 (by (with_reducible repeat (first | apply Kd.qQs | apply Kd.qQq | apply Kd.qQt)); exact (Kd.qQv (Kd.R_far (p := ⟨gb255, 3, none⟩) (Kd.R_far (p := ⟨gb255, 2, none⟩) (Kd.R_far (p := ⟨gb255, 1, none⟩) (Kd.R_far (p := ⟨gb255, 0, none⟩) (Kd.qZc HO246.out BK255.out (by decide)) (fun _ hk => hk.2) (.int .i64 t250)) (fun _ hk => hk.2) (.int .i64 t251)) (fun _ hk => hk.2) (.int .i64 t252)) (fun _ hk => hk.2) (.int .i64 t253)) (fun _ h_ => h_.1))) (Kd.qZo ho0) hb); have n1_ := am (Kd.qQ7 (by (with_reducible repeat (first | apply Kd.qQs | apply Kd.qQq | apply Kd.qQt)); exact (Kd.qQv (Kd.R_far (p := ⟨gb255, 3, none⟩) (Kd.R_far (p := ⟨gb255, 2, none⟩) (Kd.R_far (p := ⟨gb255, 1, none⟩) (Kd.R_far (p := ⟨gb255, 0, none⟩) (Kd.qZc HO249.out BK255.out (by decide)) (fun _ hk => hk.2) (.int .i64 t250)) (fun _ hk => hk.2) (.int .i64 t251)) (fun _ hk => hk.2) (.int .i64 t252)) (fun _ hk => hk.2) (.int .i64 t253)) (fun _ h_ => h_.1))) (Kd.qZo ho0) hb); have n2_ := am (Kd.qZe (Kd.qZn (Kd.qZn ho0 (Kd.R_lt (by (with_reducible repeat (first | apply Kd.qQs | apply Kd.qQq | apply Kd.qQt)); exact (Kd.qQv (Kd.R_far (p := ⟨gb255, 3, none⟩) (Kd.R_far (p := ⟨gb255, 2, none⟩) (Kd.R_far (p := ⟨gb255, 1, none⟩) (Kd.R_far (p := ⟨gb255, 0, none⟩) (Kd.qZc HO246.out BK255.out (by decide)) (fun _ hk => hk.2) (.int .i64 t250)) (fun _ hk => hk.2) (.int .i64 t251)) (fun _ hk => hk.2) (.int .i64 t252)) (fun _ hk => hk.2) (.int .i64 t253)) (fun _ h_ => h_.1))))) (Kd.R_lt (by (with_reducible repeat (first | apply Kd.qQs | apply Kd.qQq | apply Kd.qQt)); exact (Kd.qQv (Kd.R_far (p := ⟨gb255, 3, none⟩) (Kd.R_far (p := ⟨gb255, 2, none⟩) (Kd.R_far (p := ⟨gb255, 1, none⟩) (Kd.R_far (p := ⟨gb255, 0, none⟩) (Kd.qZc HO249.out BK255.out (by decide)) (fun _ hk => hk.2) (.int .i64 t250)) (fun _ hk => hk.2) (.int .i64 t251)) (fun _ hk => hk.2) (.int .i64 t252)) (fun _ hk => hk.2) (.int .i64 t253)) (fun _ h_ => h_.1))))) (qQh (by exact h1q HB.out GE255.out))); have n3_ := am (qQu (g := gb255) (o := .cells #[.int .i64 t250, .int .i64 t251, .int .i64 t252, .int .i64 t253] 26 (0, 0)) (by (with_reducible repeat (first | refine qQm ?_ _ | refine qQk ?_ | refine qQo ?_ _)); refine qQ1 (cs := #[.int .i64 t250, .int .i64 t251, .int .i64 t252, .int .i64 0]) ?_ 3 _ rfl; (with_reducible repeat (first | refine qQm ?_ _ | refine qQk ?_ | refine qQo ?_ _)); refine qQ1 (cs := #[.int .i64 t250, .int .i64 t251, .int .i64 0, .int .i64 0]) ?_ 2 _ rfl; (with_reducible repeat (first | refine qQm ?_ _ | refine qQk ?_ | refine qQo ?_ _)); refine qQ1 (cs := #[.int .i64 t250, .int .i64 0, .int .i64 0, .int .i64 0]) ?_ 1 _ rfl; (with_reducible repeat (first | refine qQm ?_ _ | refine qQk ?_ | refine qQo ?_ _)); refine qQ1 (cs := #[.int .i64 0, .int .i64 0, .int .i64 0, .int .i64 0]) ?_ 0 _ rfl; (with_reducible repeat (first | refine qQm ?_ _ | refine qQk ?_ | refine qQo ?_ _)); exact BK255.out) hb); have n4_ := am (qQn (by exact h1q HB.out GE255.out) hb); clear HO246; clear HO249; clear BK255; clear HB; have HO246 := n0_; have HO249 := n1_; have HO258 := n2_; have BK255 := n3_; have HB := n4_; clear n0_ n1_ n2_ n3_ n4_; (try clear hb); (try clear hb2); (try clear hk); (try clear hi); (try clear ho0)) | ((with_reducible refine qZj (N := 9) rfl ?_); refine qZu ?hg (N := 9) ?hd (cs := #[.slice none 0 0, .int .i64 0, .int .i64 0, .int .i64 0, .int .i64 0]) (t := 31) ?hr ?_; (case hd => rfl); (case hg => rfl); (case hr => first | (go_simp; done) | (go_simp; rfl)); intro gb264 hg w27 hbox hb; have n0_ := am (Kd.qQw (by exact rq HO246.out) hb); have n1_ := am (Kd.qQw (by exact rq HO249.out) hb); have n2_ := am (Kd.qQw (by exact rq HO258.out) hb); have n3_ := am (qQu (g := gb255) (Up.up BK255.out) hb); have n4_ := am (qQn (by exact h1q HB.out GE255.out) hb); have n5_ := am (hbox); have n6_ := am ((by rw [hg]; exact (qQh (by exact h1q HB.out GE255.out)) : w.heap.size ≤ gb264)); have n7_ := am ((by rw [hg]; exact (qQh (by exact h1q HB.out GE255.out)) : w.heap.size ≤ gb264)); have n8_ := am ((by rw [hg]; exact Nat.ne_of_lt (qZd (g := gb255) (Up.up BK255.out)) : gb255 ≠ gb264)); have n9_ := am ((by rw [hg]; exact Nat.ne_of_gt (qZd (g := gb255) (Up.up BK255.out)) : gb264 ≠ gb255)); clear HO246; clear HO249; clear HO258; clear BK255; clear HB; have HO246 := n0_; have HO249 := n1_; have HO258 := n2_; have BK255 := n3_; have HB := n4_; have BK264 := n5_; have GW264 := n6_; have GE264 := n7_; have NB255_264 := n8_; have NB264_255 := n9_; clear n0_ n1_ n2_ n3_ n4_ n5_ n6_ n7_ n8_ n9_; clear hb hbox hg; obtain ⟨Ao28, co28, eo28⟩ := Kd.qZ8 HO258.out; subst eo28; have hnb29 := NB264_255.out; have hnc29 := NB255_264.out; have hz30 := lc5_ BK264.out) | ((with_reducible refine qQ4 (f := 12) rfl ?_); refine goesL_ (some 31) rfl rfl Try.func12 (by kernel_rfl) rfl #[.slice Ao22 t244.length co22] rfl ml ?_; (with_reducible refine (qZ7.calls k _ _ t244 t265 _ ?side1 ?side2 A9.out).mono ?_); (case side1 => refine (Kd.qQx (e := 43) (base := w.heap.size) (ok := fun k_ => ((True ∧ some k_ ≠ (v248 : Value).ownBlock) ∧ some k_ ≠ (.slice Ao28 t256.length co28 : Value).ownBlock)) (n := t244.length) (c := co22) ?_).2.2; exact (by (with_reducible repeat (first | apply Kd.qQs | apply Kd.qQq | apply Kd.qQt)); exact (Kd.qQv (Kd.R_far (p := ⟨gb264, 4, none⟩) (Kd.R_far (p := ⟨gb264, 3, none⟩) (Kd.R_far (p := ⟨gb264, 2, none⟩) (Kd.R_far (p := ⟨gb264, 1, none⟩) (Kd.R_far (p := ⟨gb264, 0, none⟩) (Kd.qZc HO246.out BK264.out (by decide)) (fun _ hk => hk.2) (.slice Ao28 t256.length co28)) (fun _ hk => hk.2) (.int .i64 t259)) (fun _ hk => hk.2) (.int .i64 t260)) (fun _ hk => hk.2) (.int .i64 t261)) (fun _ hk => hk.2) (.int .i64 t262)) (fun _ h_ => h_.1)))); (case side2 => exact (Kd.qQx HO246.out).2.1); rintro e w31 ⟨v266, rfl, ho0, hb⟩; refine ⟨_, rfl, ?_⟩; have n0_ := am (Kd.qQw (by (with_reducible repeat (first | apply Kd.qQs | apply Kd.qQq | apply Kd.qQt)); exact (Kd.qQv (Kd.R_far (p := ⟨gb264, 4, none⟩) (Kd.R_far (p := ⟨gb264, 3, none⟩) (Kd.R_far (p := ⟨gb264, 2, none⟩) (Kd.R_far (p := ⟨gb264, 1, none⟩) (Kd.R_far (p := ⟨gb264, 0, none⟩) (Kd.qZc HO246.out BK264.out (by decide)) (fun _ hk => hk.2) (.slice Ao28 t256.length co28)) (fun _ hk => hk.2) (.int .i64 t259)) (fun _ hk => hk.2) (.int .i64 t260)) (fun _ hk => hk.2) (.int .i64 t261)) (fun _ hk => hk.2) (.int .i64 t262)) (fun _ h_ => h_.1))) hb); have n1_ := am (Kd.qQw (by (with_reducible repeat (first | apply Kd.qQs | apply Kd.qQq | apply Kd.qQt)); exact (Kd.qQv (Kd.R_far (p := ⟨gb264, 4, none⟩) (Kd.R_far (p := ⟨gb264, 3, none⟩) (Kd.R_far (p := ⟨gb264, 2, none⟩) (Kd.R_far (p := ⟨gb264, 1, none⟩) (Kd.R_far (p := ⟨gb264, 0, none⟩) (Kd.qZc HO249.out BK264.out (by decide)) (fun _ hk => hk.2) (.slice Ao28 t256.length co28)) (fun _ hk => hk.2) (.int .i64 t259)) (fun _ hk => hk.2) (.int .i64 t260)) (fun _ hk => hk.2) (.int .i64 t261)) (fun _ hk => hk.2) (.int .i64 t262)) (fun _ h_ => h_.1))) hb); have n2_ := am (Kd.qQw (by (with_reducible repeat (first | apply Kd.qQs | apply Kd.qQq | apply Kd.qQt)); exact (Kd.qQv (Kd.R_far (p := ⟨gb264, 4, none⟩) (Kd.R_far (p := ⟨gb264, 3, none⟩) (Kd.R_far (p := ⟨gb264, 2, none⟩) (Kd.R_far (p := ⟨gb264, 1, none⟩) (Kd.R_far (p := ⟨gb264, 0, none⟩) (Kd.qZc HO258.out BK264.out (by decide)) (fun _ hk => hk.2) (.slice Ao28 t256.length co28)) (fun _ hk => hk.2) (.int .i64 t259)) (fun _ hk => hk.2) (.int .i64 t260)) (fun _ hk => hk.2) (.int .i64 t261)) (fun _ hk => hk.2) (.int .i64 t262)) (fun _ h_ => h_.1))) hb); have n3_ := am (Kd.qZe ho0 (qQh (by exact h2q HB.out GE255.out GE264.out))); have n4_ := am (qQu (g := gb255) (o := .cells #[.int .i64 t250, .int .i64 t251, .int .i64 t252, .int .i64 t253] 26 (0, 0)) (by (iterate 5 ((with_reducible repeat (first | refine qQm ?_ _ | refine qQk ?_ | refine qQo ?_ _)); refine qZi ?_ NB255_264.out _)); (with_reducible repeat (first | refine qQm ?_ _ | refine qQk ?_ | refine qQo ?_ _)); exact BK255.out) hb); have n5_ := am (qQu (g := gb264) (o := .cells #[.slice Ao28 t256.length co28, .int .i64 t259, .int .i64 t260, .int .i64 t261, .int .i64 t262] 31 (0, 0)) (by (with_reducible repeat (first | refine qQm ?_ _ | refine qQk ?_ | refine qQo ?_ _)); refine qQ1 (cs := #[.slice Ao28 t256.length co28, .int .i64 t259, .int .i64 t260, .int .i64 t261, .int .i64 0]) ?_ 4 _ rfl; (with_reducible repeat (first | refine qQm ?_ _ | refine qQk ?_ | refine qQo ?_ _)); refine qQ1 (cs := #[.slice Ao28 t256.length co28, .int .i64 t259, .int .i64 t260, .int .i64 0, .int .i64 0]) ?_ 3 _ rfl; (with_reducible repeat (first | refine qQm ?_ _ | refine qQk ?_ | refine qQo ?_ _)); refine qQ1 (cs := #[.slice Ao28 t256.length co28, .int .i64 t259, .int .i64 0, .int .i64 0, .int .i64 0]) ?_ 2 _ rfl; (with_reducible repeat (first | refine qQm ?_ _ | refine qQk ?_ | refine qQo ?_ _)); refine qQ1 (cs := #[.slice Ao28 t256.length co28, .int .i64 0, .int .i64 0, .int .i64 0, .int .i64 0]) ?_ 1 _ rfl; (with_reducible repeat (first | refine qQm ?_ _ | refine qQk ?_ | refine qQo ?_ _)); refine qQ1 (cs := #[.slice none 0 0, .int .i64 0, .int .i64 0, .int .i64 0, .int .i64 0]) ?_ 0 _ rfl; (with_reducible repeat (first | refine qQm ?_ _ | refine qQk ?_ | refine qQo ?_ _)); exact BK264.out) hb); have n6_ := am (qQn (by exact h2q HB.out GE255.out GE264.out) hb); clear HO246; clear HO249; clear HO258; clear BK255; clear BK264; clear HB; have HO246 := n0_; have HO249 := n1_; have HO258 := n2_; have HO267 := n3_; have BK255 := n4_; have BK264 := n5_; have HB := n6_; clear n0_ n1_ n2_ n3_ n4_ n5_ n6_; (try clear hb); (try clear hb2); (try clear hk); (try clear hi); (try clear ho0)) | ((with_reducible refine qQ4 (f := 13) rfl ?_); refine goesL_ (some 33) rfl rfl Try.func13 (by kernel_rfl) rfl #[.slice A0 l0.length c0] rfl ml ?_; (with_reducible refine (qQz.calls k _ _ l0 t268 _ ?side1 ?side2 A10.out).mono ?_); (case side1 => exact cq ((Kd.qZw HR0.out HB.out))); (case side2 => exact HC0.out); rintro e w32 ⟨v269, rfl, ho0, hb⟩; refine ⟨_, rfl, ?_⟩; have n0_ := am (Kd.qQw (by exact rq HO246.out) hb); have n1_ := am (Kd.qQw (by exact rq HO249.out) hb); have n2_ := am (Kd.qQw (by exact rq HO258.out) hb); have n3_ := am (Kd.qQ7 (by exact rq HO267.out) (Kd.qZo ho0) hb); have n4_ := am (Kd.qZe (Kd.qZn ho0 (Kd.R_lt (by exact rq HO267.out))) (qQh (by exact h2q HB.out GE255.out GE264.out))); have n5_ := am (qQu (g := gb255) (Up.up BK255.out) hb); have n6_ := am (qQu (g := gb264) (Up.up BK264.out) hb); have n7_ := am (qQn (by exact h2q HB.out GE255.out GE264.out) hb); clear HO246; clear HO249; clear HO258; clear HO267; clear BK255; clear BK264; clear HB; have HO246 := n0_; have HO249 := n1_; have HO258 := n2_; have HO267 := n3_; have HO270 := n4_; have BK255 := n5_; have BK264 := n6_; have HB := n7_; clear n0_ n1_ n2_ n3_ n4_ n5_ n6_ n7_; (try clear hb); (try clear hb2); (try clear hk); (try clear hi); (try clear ho0); obtain ⟨Ao33, co33, eo33⟩ := Kd.qZ8 HO267.out; subst eo33; obtain ⟨Ao34, co34, eo34⟩ := Kd.qZ8 HO270.out; subst eo34) | ((with_reducible refine qQ4 (f := 11) rfl ?_); refine goesL_ (some 34) rfl rfl Try.func11 (by kernel_rfl) rfl #[.slice Ao33 t265.length co33, .slice Ao34 t268.length co34] rfl ml ?_; (with_reducible refine (qQ2.calls k _ _ t265 _ _ t268 true _ ?side1 ?side2 ?side3 ?side4 A11.out).mono ?_); (case side1 => exact cq ((Kd.qQx HO267.out).2.2)); (case side2 => exact (Kd.qQx HO267.out).2.1); (case side3 => exact cq ((Kd.qQx HO270.out).2.2)); (case side4 => exact (Kd.qQx HO270.out).2.1); rintro e w' ⟨rfl, ⟨nd, rfl⟩⟩; refine ⟨_, rfl, ?_⟩; have hcz35_0 : w32.cell? ⟨gb264, 0, none⟩ = some (.slice Ao28 t256.length co28) := (qQa BK264.out 0).trans rfl; have hcz35_1 : w32.cell? ⟨gb264, 1, none⟩ = some (.int .i64 t259) := (qQa BK264.out 1).trans rfl; have hcz35_2 : w32.cell? ⟨gb264, 2, none⟩ = some (.int .i64 t260) := (qQa BK264.out 2).trans rfl; have hcz35_3 : w32.cell? ⟨gb264, 3, none⟩ = some (.int .i64 t261) := (qQa BK264.out 3).trans rfl; have hcz35_4 : w32.cell? ⟨gb264, 4, none⟩ = some (.int .i64 t262) := (qQa BK264.out 4).trans rfl; have hfz35_0 := qQi BK264.out 0; have hfz35_1 := qQi BK264.out 1; have hfz35_2 := qQi BK264.out 2; have hfz35_3 := qQi BK264.out 3; have hfz35_4 := qQi BK264.out 4; obtain ⟨Ao36, co36, eo36⟩ := Kd.qZ8 HO249.out; subst eo36) | (go_at_call 14; (with_reducible refine (qQj.calls k _ _ t247 _ _ t256 true _ ?side1 ?side2 ?side3 ?side4 A13.out).mono ?_); (case side1 => exact cq ((Kd.qQx HO249.out).2.2)); (case side2 => exact (Kd.qQx HO249.out).2.1); (case side3 => exact cq ((Kd.qQx HO258.out).2.2)); (case side4 => exact (Kd.qQx HO258.out).2.1); rintro e w37 ⟨rfl, hb⟩; have n0_ := am (Kd.qQw (by exact rq HO246.out) hb); have n1_ := am (Kd.qQw (by exact rq HO249.out) hb); have n2_ := am (Kd.qQw (by exact rq HO258.out) hb); have n3_ := am (Kd.qQw (by exact rq HO267.out) hb); have n4_ := am (Kd.qQw (by exact rq HO270.out) hb); have n5_ := am (qQu (g := gb255) (Up.up BK255.out) hb); have n6_ := am (qQu (g := gb264) (Up.up BK264.out) hb); have n7_ := am (qQn (by exact h2q HB.out GE255.out GE264.out) hb); clear HO246; clear HO249; clear HO258; clear HO267; clear HO270; clear BK255; clear BK264; clear HB; have HO246 := n0_; have HO249 := n1_; have HO258 := n2_; have HO267 := n3_; have HO270 := n4_; have BK255 := n5_; have BK264 := n6_; have HB := n7_; clear n0_ n1_ n2_ n3_ n4_ n5_ n6_ n7_; (try clear hb); (try clear hb2); (try clear hk); (try clear hi); have hcz38_0 : w37.cell? ⟨gb255, 0, none⟩ = some (.int .i64 t250) := (qQa BK255.out 0).trans rfl; have hcz38_1 : w37.cell? ⟨gb255, 1, none⟩ = some (.int .i64 t251) := (qQa BK255.out 1).trans rfl; have hcz38_2 : w37.cell? ⟨gb255, 2, none⟩ = some (.int .i64 t252) := (qQa BK255.out 2).trans rfl; have hcz38_3 : w37.cell? ⟨gb255, 3, none⟩ = some (.int .i64 t253) := (qQa BK255.out 3).trans rfl; have hfz38_0 := qQi BK255.out 0; have hfz38_1 := qQi BK255.out 1; have hfz38_2 := qQi BK255.out 2; have hfz38_3 := qQi BK255.out 3; have hcz39_0 : w37.cell? ⟨gb264, 0, none⟩ = some (.slice Ao28 t256.length co28) := (qQa BK264.out 0).trans rfl; have hcz39_1 : w37.cell? ⟨gb264, 1, none⟩ = some (.int .i64 t259) := (qQa BK264.out 1).trans rfl; have hcz39_2 : w37.cell? ⟨gb264, 2, none⟩ = some (.int .i64 t260) := (qQa BK264.out 2).trans rfl; have hcz39_3 : w37.cell? ⟨gb264, 3, none⟩ = some (.int .i64 t261) := (qQa BK264.out 3).trans rfl; have hcz39_4 : w37.cell? ⟨gb264, 4, none⟩ = some (.int .i64 t262) := (qQa BK264.out 4).trans rfl; have hfz39_0 := qQi BK264.out 0; have hfz39_1 := qQi BK264.out 1; have hfz39_2 := qQi BK264.out 2; have hfz39_3 := qQi BK264.out 3; have hfz39_4 := qQi BK264.out 4) | (go_at_call 15; (with_reducible refine (qZf.calls t250 t251 t252 t253 t259 t260 t261 t262 true _ A15.out).mono ?_); rintro e w40 ⟨rfl, hb⟩; have n0_ := am (Kd.qQw (by exact rq HO246.out) hb); have n1_ := am (Kd.qQw (by exact rq HO249.out) hb); have n2_ := am (Kd.qQw (by exact rq HO258.out) hb); have n3_ := am (Kd.qQw (by exact rq HO267.out) hb); have n4_ := am (Kd.qQw (by exact rq HO270.out) hb); have n5_ := am (qQu (g := gb255) (Up.up BK255.out) hb); have n6_ := am (qQu (g := gb264) (Up.up BK264.out) hb); have n7_ := am (qQn (by exact h2q HB.out GE255.out GE264.out) hb); clear HO246; clear HO249; clear HO258; clear HO267; clear HO270; clear BK255; clear BK264; clear HB; have HO246 := n0_; have HO249 := n1_; have HO258 := n2_; have HO267 := n3_; have HO270 := n4_; have BK255 := n5_; have BK264 := n6_; have HB := n7_; clear n0_ n1_ n2_ n3_ n4_ n5_ n6_ n7_; (try clear hb); (try clear hb2); (try clear hk); (try clear hi)) | (go_at_call 14; (with_reducible refine (qQj.calls k _ _ t244 _ _ l0 true _ ?side1 ?side2 ?side3 ?side4 A18.out).mono ?_); (case side1 => exact cq ((Kd.qQx HO246.out).2.2)); (case side2 => exact (Kd.qQx HO246.out).2.1); (case side3 => exact cq ((Kd.qZw HR0.out HB.out))); (case side4 => exact HC0.out); rintro e w41 ⟨rfl, hb⟩; have n0_ := am (Kd.qQw (by exact rq HO246.out) hb); have n1_ := am (Kd.qQw (by exact rq HO249.out) hb); have n2_ := am (Kd.qQw (by exact rq HO258.out) hb); have n3_ := am (Kd.qQw (by exact rq HO267.out) hb); have n4_ := am (Kd.qQw (by exact rq HO270.out) hb); have n5_ := am (qQu (g := gb255) (Up.up BK255.out) hb); have n6_ := am (qQu (g := gb264) (Up.up BK264.out) hb); have n7_ := am (qQn (by exact h2q HB.out GE255.out GE264.out) hb); clear HO246; clear HO249; clear HO258; clear HO267; clear HO270; clear BK255; clear BK264; clear HB; have HO246 := n0_; have HO249 := n1_; have HO258 := n2_; have HO267 := n3_; have HO270 := n4_; have BK255 := n5_; have BK264 := n6_; have HB := n7_; clear n0_ n1_ n2_ n3_ n4_ n5_ n6_ n7_; (try clear hb); (try clear hb2); (try clear hk); (try clear hi)) | (go_at_call 7; (with_reducible refine (qQ3.calls k  t275 _ A20.out).mono ?_); rintro e w42 ⟨rfl, hb⟩; have n0_ := am (Kd.qQw (by exact rq HO246.out) hb); have n1_ := am (Kd.qQw (by exact rq HO249.out) hb); have n2_ := am (Kd.qQw (by exact rq HO258.out) hb); have n3_ := am (Kd.qQw (by exact rq HO267.out) hb); have n4_ := am (Kd.qQw (by exact rq HO270.out) hb); have n5_ := am (qQu (g := gb255) (Up.up BK255.out) hb); have n6_ := am (qQu (g := gb264) (Up.up BK264.out) hb); have n7_ := am (qQn (by exact h2q HB.out GE255.out GE264.out) hb); clear HO246; clear HO249; clear HO258; clear HO267; clear HO270; clear BK255; clear BK264; clear HB; have HO246 := n0_; have HO249 := n1_; have HO258 := n2_; have HO267 := n3_; have HO270 := n4_; have BK255 := n5_; have BK264 := n6_; have HB := n7_; clear n0_ n1_ n2_ n3_ n4_ n5_ n6_ n7_; (try clear hb); (try clear hb2); (try clear hk); (try clear hi)))
       go_ret
       exact ⟨er, by exact h2q HB.out GE255.out GE264.out⟩
      ·replace c19 := Bool.eq_false_iff.mpr c19
       subst c19
       have H1 : (none) = some r := by rw [if_neg (show ¬ (false = true) by decide)] at H; exact H
       clear H
       have H := H1
       clear H1
       exact absurd H (by simp)
     ·rw [if_neg c17] at H
      exact absurd H (by simp)
    ·replace c16 := Bool.eq_false_iff.mpr c16
     subst c16
     have H1 : (none) = some r := by rw [if_neg (show ¬ (false = true) by decide)] at H; exact H
     clear H
     have H := H1
     clear H1
     exact absurd H (by simp)
   ·replace c14 := Bool.eq_false_iff.mpr c14
    subst c14
    have H1 : (none) = some r := by rw [if_neg (show ¬ (false = true) by decide)] at H; exact H
    clear H
    have H := H1
    clear H1
    exact absurd H (by simp)
  ·replace c12 := Bool.eq_false_iff.mpr c12
   subst c12
   have H1 : (none) = some r := by rw [if_neg (show ¬ (false = true) by decide)] at H; exact H
   clear H
   have H := H1
   clear H1
   exact absurd H (by simp)
def qQ8.wf43 (x : S43) : Prop := (Lit.int .i64 x.f0).wf = true ∧ (Lit.int .i64 x.f1).wf = true ∧ (Lit.int .i64 x.f2).wf = true ∧ (Lit.int .i64 x.f3).wf = true ∧ (Lit.int .i64 x.f4).wf = true ∧ (Lit.int .i64 x.f5).wf = true ∧ (Lit.int .i64 x.f7).wf = true ∧ (Lit.int .i64 x.f8).wf = true ∧ (Lit.int .i64 x.f9).wf = true ∧ (Lit.int .i64 x.f10).wf = true ∧ (Lit.int .i64 x.f11).wf = true ∧ (Lit.int .i64 x.f12).wf = true
def qQ8.Pure : Prop := ∀ (l0 : List (S43)) (a1 : Int), l0.length ≤ maxLen → l0.length * 104 ≤ 140737488351232 → (∀ x ∈ l0, qQ8.wf43 x) → (Lit.int .i64 a1).wf = true → ∃ k, qQ8.f k l0 a1 = some true
theorem qQ8.walk (P : qQ8.Pure) (a0 : Option Addr) (cap0 : Nat) (l0 : List S43) (a1 : Int) (w : World) (hr0 : Kd.C k43 w a0 l0.length l0) (hc0 : l0.length ≤ cap0) (hm0 : l0.length ≤ maxLen) (y0 : l0.length * 104 ≤ 140737488351232) (hw0 : ∀ x ∈ l0, qQ8.wf43 x) (w1 : (Lit.int .i64 a1).wf = true) :
  Calls Try.prog 3 #[.slice a0 l0.length cap0, .int .i64 a1] w fun e w' => e = .returned (.bool true) ∧ Below w.heap.size w w' := by
 obtain ⟨k, h⟩ := P l0 a1 hm0 y0 hw0 w1
 refine (qQ8.calls k _ _ l0 a1 true w hr0 hc0 h).mono ?_
 rintro e w' ⟨rfl, hd⟩
 exact ⟨rfl, hd⟩
end Go.Proofs.Yteemomncbcpdjaa.P
