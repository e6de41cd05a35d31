/- Stretches that are exchanged, turned, merged: slices.SortStableFunc's family, walked at elements of one cell. -/
import Derived.Test.YtlhcohipnieidaaPx0
import Derived.Test.YtlhcohipnieidaaSins
import Derived.Shelf.SlSortCmp.Kit1
import Derived.Sort.WalkB2
import Derived.Sort.WalkB12
import Derived.Deep.LoopGhost
import Derived.LoopN
namespace Go.Proofs.Ytlhcohipnieidaa.St
open Go.Shelf Go.RowKit Go.Lib Go.Sort
set_option linter.unusedVariables false
set_option linter.unusedSimpArgs false
variable {α : Type} [Inhabited α]
set_option maxHeartbeats 16000000 in
set_option maxRecDepth 1000000 in
theorem symOne (v : α → Int) (cf : α → α → Int) (Rl : α → α → Prop) (hT : ∀ x y z, Rl x y → Rl y z → Rl x z) (g : Nat) (cb : Array Value) (blk off len cap a m b : Nat) (d0 d : Array α) (w0 w : World)
    (eg : ∀ args w, (callFunc g args).run Try.prog w = .ok (.enter g args) w) (hcmp : CmpLays1 Try.prog g cb (fun x => Value.int .i64 (v x)) cf blk off len w0)
    (R : Row1 (fun x => Value.int .i64 (v x)) w0 blk off d0) (hs : d0.size = len) (hl : d.size = len) (S : SW (fun x => Value.int .i64 (v x)) w0 blk off d w) (ham : a < m) (hmb : m < b) (hb : b ≤ len) (hsz : len < 1152921504606846976)
    (hS1 : Srt Rl a m d) (hS2 : Srt Rl m b d) (hC : CrsIn (ltOf cf) Rl a m b d) (h1 : m = a + 1) :
    Calls Try.prog 95 #[.slice (some ⟨blk, off, none⟩) len cap, .int .i64 a, .int .i64 m, .int .i64 b, .func (.func g) #[] cb] w fun e w' => e = .returned (.tuple #[]) ∧ ∃ d', SW (fun x => Value.int .i64 (v x)) w0 blk off d' w' ∧ MG Rl a b d d' := by
  have mx := mixed
  have HC : Aside _ := hcmp
  have HCr : Aside _ := hC
  have HT : Aside _ := hT
  have HS1 : Aside _ := hS1
  have HS2 : Aside _ := hS2
  have S0 : Aside (SW (fun x => Value.int .i64 (v x)) w0 blk off d w) := S
  clear S hcmp hC hT hS1 hS2
  have z1 : IntKind.i64.wrap ((m : Int) - (a : Int)) = (m : Int) - (a : Int) := by rw [IntKind.wrap_i64]; omega
  have z2 : (m : Int) - (a : Int) = 1 := by omega
  go_enter Try.func95, Try.ntmps95
  go_wp2
  go_loopg [10, 11] (b - m) (fun kx s1 s2 wr => ∃ (i j : Nat), s1 = .int .i64 i ∧ s2 = .int .i64 j ∧ m ≤ i ∧ i ≤ j ∧ j ≤ b ∧ j - i ≤ kx ∧ Aside (SW (fun x => Value.int .i64 (v x)) w0 blk off d wr) ∧ Aside ((i = m ∨ ltOf cf d[i - 1]! d[a]! = true) ∧ (j = b ∨ ltOf cf d[j]! d[a]! = false)))
  case atStart => exact ⟨m, b, by first | rfl | (congr 1; omega), rfl, Nat.le_refl _, by omega, Nat.le_refl _, Nat.le_refl _, S0, ⟨.inl rfl, .inl rfl⟩⟩
  case round =>
    clear S0
    obtain ⟨i, j, rfl, rfl, hmi, hij, hjb, hkx, S1, HF⟩ := hrel
    by_cases hlt : i < j
    · have hltz : (i : Int) < (j : Int) := by omega
      obtain ⟨h, hh⟩ : ∃ h, h = (i + j) / 2 := ⟨_, rfl⟩
      have zz : IntKind.i64.wrap ((i : Int) + (j : Int)) = (i : Int) + (j : Int) := by rw [IntKind.wrap_i64]; omega
      cases hlv : (ltOf cf) d[h]! d[a]! with
      | true =>
        go_wp2_with fail
        obtain ⟨iN1, hiN1⟩ : ∃ q, q = h := ⟨_, rfl⟩
        obtain ⟨jN1, hjN1⟩ : ∃ q, q = a := ⟨_, rfl⟩
        have ea1 : (((i : Int) + (j : Int)) / 2).toNat = iN1 := by omega
        have pa1 : (0 : Int) ≤ ((i : Int) + (j : Int)) / 2 := by omega
        have ba1 : ((i : Int) + (j : Int)) / 2 < (len : Int) := by omega
        have ra1 : IntKind.i64.wrap (((i : Int) + (j : Int)) / 2) = ((i : Int) + (j : Int)) / 2 := by rw [IntKind.wrap_i64]; omega
        have ec1 : ((a : Int)).toNat = jN1 := by omega
        have pc1 : (0 : Int) ≤ (a : Int) := by omega
        have bc1 : (a : Int) < (len : Int) := by omega
        have rc1 : IntKind.i64.wrap ((a : Int)) = (a : Int) := by rw [IntKind.wrap_i64]; omega
        obtain ⟨x1, hx1⟩ : ∃ x, x = d[h]! := ⟨_, rfl⟩
        obtain ⟨y1, hy1⟩ : ∃ x, x = d[a]! := ⟨_, rfl⟩
        have l1a := S1.out.cl R (by omega) (h) (by omega)
        rw [← hx1, ← hiN1] at l1a
        have l1b := S1.out.cl R (by omega) (a) (by omega)
        rw [← hy1, ← hjN1] at l1b
        have hc1 := S1.out.cmp HC.out (by omega) x1 y1
        have hv1 : cf x1 y1 < 0 := by rw [hx1, hy1]; exact of_decide_eq_true hlv
        have hd1 : decide (cf x1 y1 < 0) = true := decide_eq_true hv1
        clear hx1 hy1 hiN1 hjN1
        go_wp2_with fail
        go_quiet_grown (first | (go_at_fn g; refine Calls.grown_of (hc1 _ _)))
        have S2 : Aside (SW (fun x => Value.int .i64 (v x)) w0 blk off d (grow (wr.drewN nq) osq)) := S1.out.grown nq osq
        clear l1a l1b hc1 S1
        generalize grow (wr.drewN nq) osq = w2 at S2 ⊢
        clear nq osq
        clear ea1 ec1
        go_wp2
        go_roundg (j - (h + 1))
        case measure => omega
        case rel => exact ⟨h + 1, j, by first | rfl | (congr 1; omega), rfl, by omega, by omega, hjb, Nat.le_refl _, S2, (show Aside _ from ⟨.inr hlv, HF.out.2⟩)⟩
      | false =>
        go_wp2_with fail
        obtain ⟨iN2, hiN2⟩ : ∃ q, q = h := ⟨_, rfl⟩
        obtain ⟨jN2, hjN2⟩ : ∃ q, q = a := ⟨_, rfl⟩
        have ea2 : (((i : Int) + (j : Int)) / 2).toNat = iN2 := by omega
        have pa2 : (0 : Int) ≤ ((i : Int) + (j : Int)) / 2 := by omega
        have ba2 : ((i : Int) + (j : Int)) / 2 < (len : Int) := by omega
        have ra2 : IntKind.i64.wrap (((i : Int) + (j : Int)) / 2) = ((i : Int) + (j : Int)) / 2 := by rw [IntKind.wrap_i64]; omega
        have ec2 : ((a : Int)).toNat = jN2 := by omega
        have pc2 : (0 : Int) ≤ (a : Int) := by omega
        have bc2 : (a : Int) < (len : Int) := by omega
        have rc2 : IntKind.i64.wrap ((a : Int)) = (a : Int) := by rw [IntKind.wrap_i64]; omega
        obtain ⟨x2, hx2⟩ : ∃ x, x = d[h]! := ⟨_, rfl⟩
        obtain ⟨y2, hy2⟩ : ∃ x, x = d[a]! := ⟨_, rfl⟩
        have l2a := S1.out.cl R (by omega) (h) (by omega)
        rw [← hx2, ← hiN2] at l2a
        have l2b := S1.out.cl R (by omega) (a) (by omega)
        rw [← hy2, ← hjN2] at l2b
        have hc2 := S1.out.cmp HC.out (by omega) x2 y2
        have hv2 : ¬ cf x2 y2 < 0 := by rw [hx2, hy2]; exact of_decide_eq_false hlv
        have hd2 : decide (cf x2 y2 < 0) = false := decide_eq_false hv2
        clear hx2 hy2 hiN2 hjN2
        go_wp2_with fail
        go_quiet_grown (first | (go_at_fn g; refine Calls.grown_of (hc2 _ _)))
        have S2 : Aside (SW (fun x => Value.int .i64 (v x)) w0 blk off d (grow (wr.drewN nq) osq)) := S1.out.grown nq osq
        clear l2a l2b hc2 S1
        generalize grow (wr.drewN nq) osq = w2 at S2 ⊢
        clear nq osq
        clear ea2 ec2
        go_wp2
        go_roundg (h - i)
        case measure => omega
        case rel => exact ⟨i, h, rfl, by first | rfl | (congr 1; omega), hmi, by omega, by omega, Nat.le_refl _, S2, (show Aside _ from ⟨HF.out.1, .inr hlv⟩)⟩
    · have hltz : ¬ (i : Int) < (j : Int) := by omega
      obtain rfl : i = j := by omega
      clear hij hkx
      go_wp2
      go_loopg [13] (b - a) (fun kx s1 wr => ∃ (k : Nat) (dk : Array α), s1 = .int .i64 k ∧ a ≤ k ∧ k ≤ i - 1 ∧ i - 1 - k ≤ kx ∧ Aside (SW (fun x => Value.int .i64 (v x)) w0 blk off dk wr) ∧ Aside (BU d a k a b dk))
      case atStart => exact ⟨a, d, rfl, Nat.le_refl _, by omega, by omega, S1, BU.start d a a b⟩
      case round =>
        clear S1
        obtain ⟨k, dk, rfl, hak, hki, hkx, S1, HB⟩ := hrel
        have hds : dk.size = len := (psz HB.out.pm).trans hl
        have zi : IntKind.i64.wrap ((i : Int) - 1) = (i : Int) - 1 := by rw [IntKind.wrap_i64]; omega
        by_cases hlk : k < i - 1
        · have hlz : (k : Int) < (i : Int) - 1 := by omega
          go_wp2_with fail
          obtain ⟨iN3, hiN3⟩ : ∃ q, q = k := ⟨_, rfl⟩
          obtain ⟨jN3, hjN3⟩ : ∃ q, q = k + 1 := ⟨_, rfl⟩
          have ea3 : ((k : Int)).toNat = iN3 := by omega
          have pa3 : (0 : Int) ≤ (k : Int) := by omega
          have ba3 : (k : Int) < (len : Int) := by omega
          have ra3 : IntKind.i64.wrap ((k : Int)) = (k : Int) := by rw [IntKind.wrap_i64]; omega
          have ec3 : ((k : Int) + 1).toNat = jN3 := by omega
          have pc3 : (0 : Int) ≤ (k : Int) + 1 := by omega
          have bc3 : (k : Int) + 1 < (len : Int) := by omega
          have rc3 : IntKind.i64.wrap ((k : Int) + 1) = (k : Int) + 1 := by rw [IntKind.wrap_i64]; omega
          obtain ⟨x3, hx3⟩ : ∃ x, x = dk[k]! := ⟨_, rfl⟩
          obtain ⟨y3, hy3⟩ : ∃ x, x = dk[k + 1]! := ⟨_, rfl⟩
          have S2 : Aside (SW (fun x => Value.int .i64 (v x)) w0 blk off (swp dk (k) (k + 1)) (((wr.setCell ⟨blk, off + iN3, none⟩ (Value.int .i64 (v y3))).setCell ⟨blk, off + jN3, none⟩ (Value.int .i64 (v x3))).drew)) := by rw [hiN3, hjN3, hx3, hy3]; exact S1.out.swapped R (k) (k + 1) (by omega) (by omega)
          have c3a := S1.out.c1 R (by omega) (k) (by omega)
          have f3a := S1.out.f1 R (by omega) (k) (by omega)
          have c3b := S1.out.c1 R (by omega) (k + 1) (by omega)
          have f3b := S1.out.f1 R (by omega) (k + 1) (by omega)
          obtain ⟨u3, c3c⟩ := S1.out.c2 R (by omega) (k) (k + 1) (by omega) (by omega) (Value.int .i64 (v y3))
          rw [← hjN3, ← hiN3] at c3c
          rw [← hx3, ← hiN3] at c3a
          rw [← hy3, ← hjN3] at c3b
          rw [← hiN3] at f3a
          rw [← hjN3] at f3b
          clear S1 hx3 hy3 hiN3 hjN3
          go_wp2_with fail
          go_big_region_o
          clear c3a c3b c3c f3a f3b
          generalize ((wr.setCell ⟨blk, off + iN3, none⟩ (Value.int .i64 (v y3))).setCell ⟨blk, off + jN3, none⟩ (Value.int .i64 (v x3))).drew = w2 at S2 ⊢
          clear ea3 ec3
          go_wp2
          go_roundg (i - 1 - (k + 1))
          case measure => omega
          case rel => exact ⟨k + 1, swp dk k (k + 1), by first | rfl | go_num | (congr 1; omega), by omega, by omega, Nat.le_refl _, S2, HB.out.step hak (Nat.le_refl _) (by omega) (by omega)⟩
        · have hlz : ¬ (k : Int) < (i : Int) - 1 := by omega
          obtain rfl : k = i - 1 := by omega
          go_wp2
          ((try simp only [Exit.inBlock, Exit.then]); refine bodyPost_ret (results_none rfl _ _ _) rfl ?_)
          refine ⟨rfl, dk, S1.out, ?_⟩
          subst h1
          exact up_done HT.out (by omega) HS2.out HCr.out hmi hjb HF.out.1 HF.out.2 HB.out
set_option maxHeartbeats 16000000 in
set_option maxRecDepth 1000000 in
theorem symLast (v : α → Int) (cf : α → α → Int) (Rl : α → α → Prop) (hT : ∀ x y z, Rl x y → Rl y z → Rl x z) (g : Nat) (cb : Array Value) (blk off len cap a m b : Nat) (d0 d : Array α) (w0 w : World)
    (eg : ∀ args w, (callFunc g args).run Try.prog w = .ok (.enter g args) w) (hcmp : CmpLays1 Try.prog g cb (fun x => Value.int .i64 (v x)) cf blk off len w0)
    (R : Row1 (fun x => Value.int .i64 (v x)) w0 blk off d0) (hs : d0.size = len) (hl : d.size = len) (S : SW (fun x => Value.int .i64 (v x)) w0 blk off d w) (ham : a < m) (hmb : m < b) (hb : b ≤ len) (hsz : len < 1152921504606846976)
    (hS1 : Srt Rl a m d) (hS2 : Srt Rl m b d) (hC : CrsIn (ltOf cf) Rl a m b d) (h1 : m ≠ a + 1) (h2 : b = m + 1) :
    Calls Try.prog 95 #[.slice (some ⟨blk, off, none⟩) len cap, .int .i64 a, .int .i64 m, .int .i64 b, .func (.func g) #[] cb] w fun e w' => e = .returned (.tuple #[]) ∧ ∃ d', SW (fun x => Value.int .i64 (v x)) w0 blk off d' w' ∧ MG Rl a b d d' := by
  have mx := mixed
  have HC : Aside _ := hcmp
  have HCr : Aside _ := hC
  have HT : Aside _ := hT
  have HS1 : Aside _ := hS1
  have HS2 : Aside _ := hS2
  have S0 : Aside (SW (fun x => Value.int .i64 (v x)) w0 blk off d w) := S
  clear S hcmp hC hT hS1 hS2
  have z1 : IntKind.i64.wrap ((m : Int) - (a : Int)) = (m : Int) - (a : Int) := by rw [IntKind.wrap_i64]; omega
  have z2 : ¬ (m : Int) - (a : Int) = 1 := by omega
  have z3 : IntKind.i64.wrap ((b : Int) - (m : Int)) = (b : Int) - (m : Int) := by rw [IntKind.wrap_i64]; omega
  have z4 : (b : Int) - (m : Int) = 1 := by omega
  go_enter Try.func95, Try.ntmps95
  go_wp2
  go_loopg [14, 15] (m - a) (fun kx s1 s2 wr => ∃ (i j : Nat), s1 = .int .i64 i ∧ s2 = .int .i64 j ∧ a ≤ i ∧ i ≤ j ∧ j ≤ m ∧ j - i ≤ kx ∧ Aside (SW (fun x => Value.int .i64 (v x)) w0 blk off d wr) ∧ Aside ((i = a ∨ ltOf cf d[m]! d[i - 1]! = false) ∧ (j = m ∨ ltOf cf d[m]! d[j]! = true)))
  case atStart => exact ⟨a, m, rfl, by first | rfl | (congr 1; omega), Nat.le_refl _, by omega, Nat.le_refl _, Nat.le_refl _, S0, ⟨.inl rfl, .inl rfl⟩⟩
  case round =>
    clear S0
    obtain ⟨i, j, rfl, rfl, hmi, hij, hjb, hkx, S1, HF⟩ := hrel
    by_cases hlt : i < j
    · have hltz : (i : Int) < (j : Int) := by omega
      obtain ⟨h, hh⟩ : ∃ h, h = (i + j) / 2 := ⟨_, rfl⟩
      have zz : IntKind.i64.wrap ((i : Int) + (j : Int)) = (i : Int) + (j : Int) := by rw [IntKind.wrap_i64]; omega
      cases hlv : (ltOf cf) d[m]! d[h]! with
      | false =>
        go_wp2_with fail
        obtain ⟨iN1, hiN1⟩ : ∃ q, q = m := ⟨_, rfl⟩
        obtain ⟨jN1, hjN1⟩ : ∃ q, q = h := ⟨_, rfl⟩
        have ea1 : ((m : Int)).toNat = iN1 := by omega
        have pa1 : (0 : Int) ≤ (m : Int) := by omega
        have ba1 : (m : Int) < (len : Int) := by omega
        have ra1 : IntKind.i64.wrap ((m : Int)) = (m : Int) := by rw [IntKind.wrap_i64]; omega
        have ec1 : (((i : Int) + (j : Int)) / 2).toNat = jN1 := by omega
        have pc1 : (0 : Int) ≤ ((i : Int) + (j : Int)) / 2 := by omega
        have bc1 : ((i : Int) + (j : Int)) / 2 < (len : Int) := by omega
        have rc1 : IntKind.i64.wrap (((i : Int) + (j : Int)) / 2) = ((i : Int) + (j : Int)) / 2 := by rw [IntKind.wrap_i64]; omega
        obtain ⟨x1, hx1⟩ : ∃ x, x = d[m]! := ⟨_, rfl⟩
        obtain ⟨y1, hy1⟩ : ∃ x, x = d[h]! := ⟨_, rfl⟩
        have l1a := S1.out.cl R (by omega) (m) (by omega)
        rw [← hx1, ← hiN1] at l1a
        have l1b := S1.out.cl R (by omega) (h) (by omega)
        rw [← hy1, ← hjN1] at l1b
        have hc1 := S1.out.cmp HC.out (by omega) x1 y1
        have hv1 : ¬ cf x1 y1 < 0 := by rw [hx1, hy1]; exact of_decide_eq_false hlv
        have hd1 : decide (cf x1 y1 < 0) = false := decide_eq_false hv1
        clear hx1 hy1 hiN1 hjN1
        go_wp2_with fail
        go_quiet_grown (first | (go_at_fn g; refine Calls.grown_of (hc1 _ _)))
        have S2 : Aside (SW (fun x => Value.int .i64 (v x)) w0 blk off d (grow (wr.drewN nq) osq)) := S1.out.grown nq osq
        clear l1a l1b hc1 S1
        generalize grow (wr.drewN nq) osq = w2 at S2 ⊢
        clear nq osq
        clear ea1 ec1
        go_wp2
        go_roundg (j - (h + 1))
        case measure => omega
        case rel => exact ⟨h + 1, j, by first | rfl | (congr 1; omega), rfl, by omega, by omega, hjb, Nat.le_refl _, S2, (show Aside _ from ⟨.inr hlv, HF.out.2⟩)⟩
      | true =>
        go_wp2_with fail
        obtain ⟨iN2, hiN2⟩ : ∃ q, q = m := ⟨_, rfl⟩
        obtain ⟨jN2, hjN2⟩ : ∃ q, q = h := ⟨_, rfl⟩
        have ea2 : ((m : Int)).toNat = iN2 := by omega
        have pa2 : (0 : Int) ≤ (m : Int) := by omega
        have ba2 : (m : Int) < (len : Int) := by omega
        have ra2 : IntKind.i64.wrap ((m : Int)) = (m : Int) := by rw [IntKind.wrap_i64]; omega
        have ec2 : (((i : Int) + (j : Int)) / 2).toNat = jN2 := by omega
        have pc2 : (0 : Int) ≤ ((i : Int) + (j : Int)) / 2 := by omega
        have bc2 : ((i : Int) + (j : Int)) / 2 < (len : Int) := by omega
        have rc2 : IntKind.i64.wrap (((i : Int) + (j : Int)) / 2) = ((i : Int) + (j : Int)) / 2 := by rw [IntKind.wrap_i64]; omega
        obtain ⟨x2, hx2⟩ : ∃ x, x = d[m]! := ⟨_, rfl⟩
        obtain ⟨y2, hy2⟩ : ∃ x, x = d[h]! := ⟨_, rfl⟩
        have l2a := S1.out.cl R (by omega) (m) (by omega)
        rw [← hx2, ← hiN2] at l2a
        have l2b := S1.out.cl R (by omega) (h) (by omega)
        rw [← hy2, ← hjN2] at l2b
        have hc2 := S1.out.cmp HC.out (by omega) x2 y2
        have hv2 : cf x2 y2 < 0 := by rw [hx2, hy2]; exact of_decide_eq_true hlv
        have hd2 : decide (cf x2 y2 < 0) = true := decide_eq_true hv2
        clear hx2 hy2 hiN2 hjN2
        go_wp2_with fail
        go_quiet_grown (first | (go_at_fn g; refine Calls.grown_of (hc2 _ _)))
        have S2 : Aside (SW (fun x => Value.int .i64 (v x)) w0 blk off d (grow (wr.drewN nq) osq)) := S1.out.grown nq osq
        clear l2a l2b hc2 S1
        generalize grow (wr.drewN nq) osq = w2 at S2 ⊢
        clear nq osq
        clear ea2 ec2
        go_wp2
        go_roundg (h - i)
        case measure => omega
        case rel => exact ⟨i, h, rfl, by first | rfl | (congr 1; omega), hmi, by omega, by omega, Nat.le_refl _, S2, (show Aside _ from ⟨HF.out.1, .inr hlv⟩)⟩
    · have hltz : ¬ (i : Int) < (j : Int) := by omega
      obtain rfl : i = j := by omega
      clear hij hkx
      go_wp2
      go_loopg [17] (b - a) (fun kx s1 wr => ∃ (k : Nat) (dk : Array α), s1 = .int .i64 k ∧ i ≤ k ∧ k ≤ m ∧ k - i ≤ kx ∧ Aside (SW (fun x => Value.int .i64 (v x)) w0 blk off dk wr) ∧ Aside (BD d m k a b dk))
      case atStart => exact ⟨m, d, by first | rfl | (congr 1; omega), by omega, Nat.le_refl _, by omega, S1, BD.start d m a b⟩
      case round =>
        clear S1
        obtain ⟨k, dk, rfl, hak, hki, hkx, S1, HB⟩ := hrel
        have hds : dk.size = len := (psz HB.out.pm).trans hl
        by_cases hlk : i < k
        · have hlz : (k : Int) > (i : Int) := by omega
          go_wp2_with fail
          obtain ⟨iN3, hiN3⟩ : ∃ q, q = k := ⟨_, rfl⟩
          obtain ⟨jN3, hjN3⟩ : ∃ q, q = k - 1 := ⟨_, rfl⟩
          have ea3 : ((k : Int)).toNat = iN3 := by omega
          have pa3 : (0 : Int) ≤ (k : Int) := by omega
          have ba3 : (k : Int) < (len : Int) := by omega
          have ra3 : IntKind.i64.wrap ((k : Int)) = (k : Int) := by rw [IntKind.wrap_i64]; omega
          have ec3 : ((k : Int) - 1).toNat = jN3 := by omega
          have pc3 : (0 : Int) ≤ (k : Int) - 1 := by omega
          have bc3 : (k : Int) - 1 < (len : Int) := by omega
          have rc3 : IntKind.i64.wrap ((k : Int) - 1) = (k : Int) - 1 := by rw [IntKind.wrap_i64]; omega
          obtain ⟨x3, hx3⟩ : ∃ x, x = dk[k]! := ⟨_, rfl⟩
          obtain ⟨y3, hy3⟩ : ∃ x, x = dk[k - 1]! := ⟨_, rfl⟩
          have S2 : Aside (SW (fun x => Value.int .i64 (v x)) w0 blk off (swp dk (k) (k - 1)) (((wr.setCell ⟨blk, off + iN3, none⟩ (Value.int .i64 (v y3))).setCell ⟨blk, off + jN3, none⟩ (Value.int .i64 (v x3))).drew)) := by rw [hiN3, hjN3, hx3, hy3]; exact S1.out.swapped R (k) (k - 1) (by omega) (by omega)
          have c3a := S1.out.c1 R (by omega) (k) (by omega)
          have f3a := S1.out.f1 R (by omega) (k) (by omega)
          have c3b := S1.out.c1 R (by omega) (k - 1) (by omega)
          have f3b := S1.out.f1 R (by omega) (k - 1) (by omega)
          obtain ⟨u3, c3c⟩ := S1.out.c2 R (by omega) (k) (k - 1) (by omega) (by omega) (Value.int .i64 (v y3))
          rw [← hjN3, ← hiN3] at c3c
          rw [← hx3, ← hiN3] at c3a
          rw [← hy3, ← hjN3] at c3b
          rw [← hiN3] at f3a
          rw [← hjN3] at f3b
          clear S1 hx3 hy3 hiN3 hjN3
          go_wp2_with fail
          go_big_region_o
          clear c3a c3b c3c f3a f3b
          generalize ((wr.setCell ⟨blk, off + iN3, none⟩ (Value.int .i64 (v y3))).setCell ⟨blk, off + jN3, none⟩ (Value.int .i64 (v x3))).drew = w2 at S2 ⊢
          clear ea3 ec3
          go_wp2
          go_roundg (k - 1 - i)
          case measure => omega
          case rel => exact ⟨k - 1, swp dk k (k - 1), by first | rfl | go_num | (congr 1; omega), by omega, by omega, Nat.le_refl _, S2, HB.out.step hki (by omega) (by omega) (by omega)⟩
        · have hlz : ¬ (k : Int) > (i : Int) := by omega
          obtain rfl : k = i := by omega
          go_wp2
          ((try simp only [Exit.inBlock, Exit.then]); refine bodyPost_ret (results_none rfl _ _ _) rfl ?_)
          refine ⟨rfl, dk, S1.out, ?_⟩
          have hb2 := HB.out
          subst h2
          exact down_done HT.out (by omega) HS1.out HCr.out hmi hjb HF.out.1 HF.out.2 hb2
end Go.Proofs.Ytlhcohipnieidaa.St
