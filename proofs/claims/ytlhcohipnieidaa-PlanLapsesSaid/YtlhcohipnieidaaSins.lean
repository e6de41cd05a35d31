/- Stretches that are exchanged, turned, merged: slices.SortStableFunc's family, walked at elements of one cell. -/
import Derived.Test.YtlhcohipnieidaaPx0
import Derived.Test.YtlhcohipnieidaaSwalk
import Derived.Shelf.SlSortCmp.Kit1
import Derived.Sort.WalkB2
import Derived.Sort.WalkB12
import Derived.Deep.LoopGhost
import Derived.LoopN
namespace Go.Proofs.Ytlhcohipnieidaa.St
open Go.Shelf Go.RowKit Go.Lib Go.Sort
set_option linter.unusedVariables false
set_option linter.unusedSimpArgs false
variable {α : Type} [Inhabited α]
set_option maxHeartbeats 16000000 in
set_option maxRecDepth 1000000 in
theorem insertion (v : α → Int) (cf : α → α → Int) (Rl : α → α → Prop) (hT : ∀ x y z, Rl x y → Rl y z → Rl x z) (g : Nat) (cb : Array Value) (blk off len cap a b : Nat) (d0 d : Array α) (w0 w : World)
    (eg : ∀ args w, (callFunc g args).run Try.prog w = .ok (.enter g args) w) (hcmp : CmpLays1 Try.prog g cb (fun x => Value.int .i64 (v x)) cf blk off len w0)
    (R : Row1 (fun x => Value.int .i64 (v x)) w0 blk off d0) (hs : d0.size = len) (hl : d.size = len) (S : SW (fun x => Value.int .i64 (v x)) w0 blk off d w) (hab : a ≤ b) (hb : b ≤ len) (hsz : len < 4611686018427387904)
    (hC : CrsAll (ltOf cf) Rl a b d) :
    Calls Try.prog 94 #[.slice (some ⟨blk, off, none⟩) len cap, .int .i64 a, .int .i64 b, .func (.func g) #[] cb] w fun e w' => e = .returned (.tuple #[]) ∧ ∃ d', SW (fun x => Value.int .i64 (v x)) w0 blk off d' w' ∧ MG Rl a b d d' := by
  have mx := mixed
  have HC : Aside _ := hcmp
  have HCr : Aside _ := hC
  have HT : Aside _ := hT
  have S0 : Aside (SW (fun x => Value.int .i64 (v x)) w0 blk off d w) := S
  clear S hcmp hC hT
  go_enter Try.func94, Try.ntmps94
  go_wp2
  go_loopg [8] (b - a) (fun g1 vi wr => ∃ (i : Nat) (dk : Array α), vi = .int .i64 i ∧ a < i ∧ i ≤ b + 1 ∧ b + 1 - i ≤ g1 + 1 ∧ Aside (SW (fun x => Value.int .i64 (v x)) w0 blk off dk wr) ∧ Aside (MG Rl a (min i b) d dk))
  case atStart => exact ⟨a + 1, d, by go_num, by omega, by omega, by omega, S0, ⟨permIn_refl d _ _, Srt.one a _ d (by omega)⟩⟩
  case round =>
    clear S0
    obtain ⟨i, dk, rfl, hai, hib, hg1, S1, HO⟩ := hrel
    have hsk : dk.size = len := (psz HO.out.1).trans hl
    by_cases hlt : i < b
    · have hltz : (i : Int) < (b : Int) := by omega
      have HO2 : Aside (MG Rl a i d dk) := by
        have := HO.out
        rw [show min i b = i by omega] at this
        exact this
      clear HO
      go_wp2
      go_loopg [9] i (fun g2 vj wr2 => ∃ (j : Nat) (dj : Array α), vj = .int .i64 j ∧ a ≤ j ∧ j ≤ i ∧ j ≤ g2 ∧ Aside (SW (fun x => Value.int .i64 (v x)) w0 blk off dj wr2) ∧ Aside (BD dk i j a (i + 1) dj) ∧ Aside (j = i ∨ ltOf cf dk[i]! dk[j]! = true))
      case atStart => exact ⟨i, dk, rfl, by omega, Nat.le_refl _, Nat.le_refl _, S1, BD.start dk i a (i + 1), .inl rfl⟩
      case round =>
        clear S1
        obtain ⟨j, dj, rfl, haj, hji, hg2, SJ, HB, HU⟩ := hrel
        have hsj : dj.size = len := (psz HB.out.pm).trans hsk
        have out : (j = a ∨ ltOf cf dk[i]! dk[j - 1]! = false) → MG Rl a (min (i + 1) b) d dj := fun hst => by
          rw [show min (i + 1) b = i + 1 by omega]
          exact ins_step HT.out hlt (by omega) (by omega) HO2.out HCr.out haj hji hst HU.out HB.out
        have OUT : Aside _ := out
        clear out
        by_cases hja : a < j
        · have hjaz : (a : Int) < (j : Int) := by omega
          obtain ⟨jp, hjp⟩ : ∃ q, q + 1 = j := ⟨j - 1, by omega⟩
          have zjp : (j : Int) = (jp : Int) + 1 := by omega
          have hjad : decide ((jp : Int) + 1 > (a : Int)) = true := decide_eq_true (by omega)
          have hjaz' : (a : Int) < (jp : Int) + 1 := by omega
          have q1 : dj[j]! = dk[i]! := by rw [HB.out.at_ j, if_neg (by omega), if_pos rfl]
          have q2 : dj[j - 1]! = dk[j - 1]! := by rw [HB.out.at_ (j - 1), if_neg (by omega), if_neg (by omega)]
          have Q1 : Aside _ := q1
          have Q2 : Aside _ := q2
          clear q1 q2
          cases hlv : (ltOf cf) dj[j]! dj[j - 1]! with
          | true =>
            obtain ⟨iN1193, hiN1193⟩ : ∃ q, q = j := ⟨_, rfl⟩
            obtain ⟨jN1193, hjN1193⟩ : ∃ q, q = j - 1 := ⟨_, rfl⟩
            have ea1193 : ((jp : Int) + 1).toNat = iN1193 := by omega
            have pa1193 : (0 : Int) ≤ (jp : Int) + 1 := by omega
            have ba1193 : (jp : Int) + 1 < (len : Int) := by omega
            have ra1193 : IntKind.i64.wrap ((jp : Int) + 1) = (jp : Int) + 1 := by rw [IntKind.wrap_i64]; omega
            have ec1193 : ((jp : Int)).toNat = jN1193 := by omega
            have pc1193 : (0 : Int) ≤ (jp : Int) := by omega
            have bc1193 : (jp : Int) < (len : Int) := by omega
            have rc1193 : IntKind.i64.wrap ((jp : Int)) = (jp : Int) := by rw [IntKind.wrap_i64]; omega
            obtain ⟨x1193, hx1193⟩ : ∃ x, x = dj[j]! := ⟨_, rfl⟩
            obtain ⟨y1193, hy1193⟩ : ∃ x, x = dj[j - 1]! := ⟨_, rfl⟩
            have l1193a := SJ.out.cl R (by omega) (j) (by omega)
            rw [← hx1193, ← hiN1193] at l1193a
            have l1193b := SJ.out.cl R (by omega) (j - 1) (by omega)
            rw [← hy1193, ← hjN1193] at l1193b
            have hc1193 := SJ.out.cmp HC.out (by omega) x1193 y1193
            have hv1193 : cf x1193 y1193 < 0 := by rw [hx1193, hy1193]; exact of_decide_eq_true hlv
            have hd1193 : decide (cf x1193 y1193 < 0) = true := decide_eq_true hv1193
            clear hx1193 hy1193 hiN1193 hjN1193
            go_wp2_with fail
            go_quiet_grown (first | (go_at_fn g; refine Calls.grown_of (hc1193 _ _)))
            have S2 : Aside (SW (fun x => Value.int .i64 (v x)) w0 blk off dj (grow (wr.drewN nq) osq)) := SJ.out.grown nq osq
            clear l1193a l1193b hc1193 SJ
            generalize grow (wr.drewN nq) osq = w2 at S2 ⊢
            clear nq osq
            clear ea1193 ec1193
            go_wp2_with fail
            obtain ⟨iN1194, hiN1194⟩ : ∃ q, q = j := ⟨_, rfl⟩
            obtain ⟨jN1194, hjN1194⟩ : ∃ q, q = j - 1 := ⟨_, rfl⟩
            have ea1194 : ((jp : Int) + 1).toNat = iN1194 := by omega
            have pa1194 : (0 : Int) ≤ (jp : Int) + 1 := by omega
            have ba1194 : (jp : Int) + 1 < (len : Int) := by omega
            have ra1194 : IntKind.i64.wrap ((jp : Int) + 1) = (jp : Int) + 1 := by rw [IntKind.wrap_i64]; omega
            have ec1194 : ((jp : Int)).toNat = jN1194 := by omega
            have pc1194 : (0 : Int) ≤ (jp : Int) := by omega
            have bc1194 : (jp : Int) < (len : Int) := by omega
            have rc1194 : IntKind.i64.wrap ((jp : Int)) = (jp : Int) := by rw [IntKind.wrap_i64]; omega
            obtain ⟨x1194, hx1194⟩ : ∃ x, x = dj[j]! := ⟨_, rfl⟩
            obtain ⟨y1194, hy1194⟩ : ∃ x, x = dj[j - 1]! := ⟨_, rfl⟩
            have S3 : Aside (SW (fun x => Value.int .i64 (v x)) w0 blk off (swp dj (j) (j - 1)) (((w2.setCell ⟨blk, off + iN1194, none⟩ (Value.int .i64 (v y1194))).setCell ⟨blk, off + jN1194, none⟩ (Value.int .i64 (v x1194))).drew)) := by rw [hiN1194, hjN1194, hx1194, hy1194]; exact S2.out.swapped R (j) (j - 1) (by omega) (by omega)
            have c1194a := S2.out.c1 R (by omega) (j) (by omega)
            have f1194a := S2.out.f1 R (by omega) (j) (by omega)
            have c1194b := S2.out.c1 R (by omega) (j - 1) (by omega)
            have f1194b := S2.out.f1 R (by omega) (j - 1) (by omega)
            obtain ⟨u1194, c1194c⟩ := S2.out.c2 R (by omega) (j) (j - 1) (by omega) (by omega) (Value.int .i64 (v y1194))
            rw [← hjN1194, ← hiN1194] at c1194c
            rw [← hx1194, ← hiN1194] at c1194a
            rw [← hy1194, ← hjN1194] at c1194b
            rw [← hiN1194] at f1194a
            rw [← hjN1194] at f1194b
            clear S2 hx1194 hy1194 hiN1194 hjN1194
            go_wp2_with fail
            go_big_region_o
            clear c1194a c1194b c1194c f1194a f1194b
            generalize ((w2.setCell ⟨blk, off + iN1194, none⟩ (Value.int .i64 (v y1194))).setCell ⟨blk, off + jN1194, none⟩ (Value.int .i64 (v x1194))).drew = w3 at S3 ⊢
            clear ea1194 ec1194
            go_wp2
            go_roundg (j - 1)
            case measure => omega
            case rel => exact ⟨j - 1, swp dj j (j - 1), by first | rfl | go_num | (congr 1; omega), by omega, by omega, Nat.le_refl _, S3, HB.out.step hji (by omega) (by omega) (by omega), (show Aside _ from .inr (by rw [← Q1.out, ← Q2.out]; exact hlv))⟩
          | false =>
            obtain ⟨iN1195, hiN1195⟩ : ∃ q, q = j := ⟨_, rfl⟩
            obtain ⟨jN1195, hjN1195⟩ : ∃ q, q = j - 1 := ⟨_, rfl⟩
            have ea1195 : ((jp : Int) + 1).toNat = iN1195 := by omega
            have pa1195 : (0 : Int) ≤ (jp : Int) + 1 := by omega
            have ba1195 : (jp : Int) + 1 < (len : Int) := by omega
            have ra1195 : IntKind.i64.wrap ((jp : Int) + 1) = (jp : Int) + 1 := by rw [IntKind.wrap_i64]; omega
            have ec1195 : ((jp : Int)).toNat = jN1195 := by omega
            have pc1195 : (0 : Int) ≤ (jp : Int) := by omega
            have bc1195 : (jp : Int) < (len : Int) := by omega
            have rc1195 : IntKind.i64.wrap ((jp : Int)) = (jp : Int) := by rw [IntKind.wrap_i64]; omega
            obtain ⟨x1195, hx1195⟩ : ∃ x, x = dj[j]! := ⟨_, rfl⟩
            obtain ⟨y1195, hy1195⟩ : ∃ x, x = dj[j - 1]! := ⟨_, rfl⟩
            have l1195a := SJ.out.cl R (by omega) (j) (by omega)
            rw [← hx1195, ← hiN1195] at l1195a
            have l1195b := SJ.out.cl R (by omega) (j - 1) (by omega)
            rw [← hy1195, ← hjN1195] at l1195b
            have hc1195 := SJ.out.cmp HC.out (by omega) x1195 y1195
            have hv1195 : ¬ cf x1195 y1195 < 0 := by rw [hx1195, hy1195]; exact of_decide_eq_false hlv
            have hd1195 : decide (cf x1195 y1195 < 0) = false := decide_eq_false hv1195
            clear hx1195 hy1195 hiN1195 hjN1195
            go_wp2_with fail
            go_quiet_grown (first | (go_at_fn g; refine Calls.grown_of (hc1195 _ _)))
            have S2 : Aside (SW (fun x => Value.int .i64 (v x)) w0 blk off dj (grow (wr.drewN nq) osq)) := SJ.out.grown nq osq
            clear l1195a l1195b hc1195 SJ
            generalize grow (wr.drewN nq) osq = w2 at S2 ⊢
            clear nq osq
            clear ea1195 ec1195
            go_wp2
            go_roundg (b - (i + 1))
            case measure => omega
            case rel => exact ⟨i + 1, dj, by go_num, by omega, by omega, by omega, S2, OUT.out (Or.inr (by rw [← Q1.out, ← Q2.out]; exact hlv))⟩
        · have hjaz : decide ((j : Int) > (a : Int)) = false := decide_eq_false (by omega)
          have hjaz' : ¬ (a : Int) < (j : Int) := by omega
          go_wp2_with fail
          go_big_region_o
          have S2 : Aside (SW (fun x => Value.int .i64 (v x)) w0 blk off dj wr.drew) := SJ.out.drew
          clear SJ
          generalize wr.drew = w2 at S2 ⊢
          go_wp2
          go_roundg (b - (i + 1))
          case measure => omega
          case rel => exact ⟨i + 1, dj, by go_num, by omega, by omega, by omega, S2, OUT.out (Or.inl (by omega))⟩
    · have hltz : ¬ (i : Int) < (b : Int) := by omega
      go_wp2
      go_end0
      exact ⟨rfl, dk, S1.out, by have := HO.out; rw [show min i b = b by omega] at this; exact this⟩
end Go.Proofs.Ytlhcohipnieidaa.St
