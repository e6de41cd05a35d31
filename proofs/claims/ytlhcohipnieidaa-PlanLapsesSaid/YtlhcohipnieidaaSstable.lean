/- Stretches that are exchanged, turned, merged: slices.SortStableFunc's family, walked at elements of one cell. -/
import Derived.Test.YtlhcohipnieidaaPx0
import Derived.Test.YtlhcohipnieidaaSstep
import Derived.Shelf.SlSortCmp.Kit1
import Derived.Sort.WalkB2
import Derived.Sort.WalkB12
import Derived.Deep.LoopGhost
import Derived.LoopN
namespace Go.Proofs.Ytlhcohipnieidaa.St
open Go.Shelf Go.RowKit Go.Lib Go.Sort
set_option linter.unusedVariables false
set_option linter.unusedSimpArgs false
variable {α : Type} [Inhabited α]
theorem symMerge (v : α → Int) (cf : α → α → Int) (Rl : α → α → Prop) (hT : ∀ x y z, Rl x y → Rl y z → Rl x z) (g : Nat) (cb : Array Value) (blk off len cap : Nat) (d0 : Array α) (w0 : World)
    (eg : ∀ args w, (callFunc g args).run Try.prog w = .ok (.enter g args) w) (hcmp : CmpLays1 Try.prog g cb (fun x => Value.int .i64 (v x)) cf blk off len w0)
    (R : Row1 (fun x => Value.int .i64 (v x)) w0 blk off d0) (hs : d0.size = len) (hsz : len < 1152921504606846976) : ∀ (N a m b : Nat) (d : Array α) (w : World), b - a ≤ N → d.size = len → SW (fun x => Value.int .i64 (v x)) w0 blk off d w → a < m → m < b → b ≤ len → Srt Rl a m d → Srt Rl m b d → CrsIn (ltOf cf) Rl a m b d →
      Calls Try.prog 95 #[.slice (some ⟨blk, off, none⟩) len cap, .int .i64 a, .int .i64 m, .int .i64 b, .func (.func g) #[] cb] w fun e w' => e = .returned (.tuple #[]) ∧ ∃ d', SW (fun x => Value.int .i64 (v x)) w0 blk off d' w' ∧ MG Rl a b d d' := by
  intro N
  induction N with
  | zero => intro a m b d w h1 h2 h3 h4 h5; omega
  | succ N ih =>
    intro a m b d w h1 h2 h3 h4 h5 h6 h7 h8 h9
    by_cases c1 : m = a + 1
    · exact symOne v cf Rl hT g cb blk off len cap a m b d0 d w0 w eg hcmp R hs h2 h3 h4 h5 h6 hsz h7 h8 h9 c1
    by_cases c2 : b = m + 1
    · exact symLast v cf Rl hT g cb blk off len cap a m b d0 d w0 w eg hcmp R hs h2 h3 h4 h5 h6 hsz h7 h8 h9 c1 c2
    exact symStep v cf Rl hT g cb blk off len cap a m b d0 d w0 w eg hcmp R hs h2 h3 h4 h5 h6 hsz h7 h8 h9 c1 c2 (fun a' m' b' d1 w1 k1 k2 k3 k4 k5 k6 k7 k8 k9 => ih a' m' b' d1 w1 (by omega) k2 k3 k4 k5 k6 k7 k8 k9)
set_option maxHeartbeats 16000000 in
set_option maxRecDepth 1000000 in
theorem stable (v : α → Int) (cf : α → α → Int) (Rl : α → α → Prop) (hT : ∀ x y z, Rl x y → Rl y z → Rl x z) (g : Nat) (cb : Array Value) (blk off len cap : Nat) (d0 : Array α) (w0 : World)
    (eg : ∀ args w, (callFunc g args).run Try.prog w = .ok (.enter g args) w) (hcmp : CmpLays1 Try.prog g cb (fun x => Value.int .i64 (v x)) cf blk off len w0)
    (R : Row1 (fun x => Value.int .i64 (v x)) w0 blk off d0) (hs : d0.size = len) (hsz : len < 1152921504606846976) (d : Array α) (w : World) (hl : d.size = len) (S : SW (fun x => Value.int .i64 (v x)) w0 blk off d w) (hC : CrsAll (ltOf cf) Rl 0 len d) :
    Calls Try.prog 91 #[.slice (some ⟨blk, off, none⟩) len cap, .int .i64 len, .func (.func g) #[] cb] w fun e w' => e = .returned (.tuple #[]) ∧ ∃ d', SW (fun x => Value.int .i64 (v x)) w0 blk off d' w' ∧ MG Rl 0 len d d' := by
  have hIns : ∀ (a b : Nat) (d1 : Array α) (w1 : World), d1.size = len → SW (fun x => Value.int .i64 (v x)) w0 blk off d1 w1 → a ≤ b → b ≤ len → CrsAll (ltOf cf) Rl a b d1 →
      Calls Try.prog 94 #[.slice (some ⟨blk, off, none⟩) len cap, .int .i64 a, .int .i64 b, .func (.func g) #[] cb] w1 fun e w' => e = .returned (.tuple #[]) ∧ ∃ d', SW (fun x => Value.int .i64 (v x)) w0 blk off d' w' ∧ MG Rl a b d1 d' := fun a b d1 w1 k1 k2 k3 k4 k5 =>
    insertion v cf Rl hT g cb blk off len cap a b d0 d1 w0 w1 eg hcmp R hs k1 k2 k3 k4 (by omega) k5
  have hMer : ∀ (a m b : Nat) (d1 : Array α) (w1 : World), d1.size = len → SW (fun x => Value.int .i64 (v x)) w0 blk off d1 w1 → a < m → m < b → b ≤ len → Srt Rl a m d1 → Srt Rl m b d1 → CrsIn (ltOf cf) Rl a m b d1 →
      Calls Try.prog 95 #[.slice (some ⟨blk, off, none⟩) len cap, .int .i64 a, .int .i64 m, .int .i64 b, .func (.func g) #[] cb] w1 fun e w' => e = .returned (.tuple #[]) ∧ ∃ d', SW (fun x => Value.int .i64 (v x)) w0 blk off d' w' ∧ MG Rl a b d1 d' := fun a m b d1 w1 =>
    symMerge v cf Rl hT g cb blk off len cap d0 w0 eg hcmp R hs hsz (b - a) a m b d1 w1 (Nat.le_refl _)
  have AI : Aside _ := hIns
  have AM : Aside _ := hMer
  have S0 : Aside (SW (fun x => Value.int .i64 (v x)) w0 blk off d w) := S
  have HC : Aside _ := hC
  clear hIns hMer S hC hcmp hT
  go_enter Try.func91, Try.ntmps91
  go_wp2
  go_loopg [7, 8] len (fun kx s1 s2 wr => ∃ (k a : Nat) (dk : Array α), s1 = .int .i64 a ∧ s2 = .int .i64 (a + 20 : Nat) ∧ Aside (a = k * 20) ∧ a ≤ len ∧ len - a ≤ kx ∧ Aside (SW (fun x => Value.int .i64 (v x)) w0 blk off dk wr) ∧ Aside (Blk1 (ltOf cf) Rl 20 len k d dk))
  case atStart => exact ⟨0, 0, d, rfl, rfl, (show Aside _ from rfl), by omega, by omega, S0, Blk1.start HC.out⟩
  case round =>
    clear S0
    obtain ⟨k, a, dk, rfl, rfl, hak, hal, hkx, S1, HB⟩ := hrel
    have hsk : dk.size = len := (psz HB.out.pm).trans hl
    have hr : CrsAll (ltOf cf) Rl a len dk := by rw [hak.out]; exact HB.out.rest
    by_cases hlt : a + 20 ≤ len
    · have hltz : (a : Int) + 20 ≤ (len : Int) := by omega
      have hc := AI.out a (a + 20) dk wr hsk S1.out (by omega) hlt (fun i j h1 h2 h3 => hr i j h1 h2 (by omega))
      rw [show ((a + 20 : Nat) : Int) = (a : Int) + 20 by omega] at hc
      have z1 : IntKind.i64.wrap ((a : Int) + 20 + 20) = (a : Int) + 20 + 20 := by rw [IntKind.wrap_i64]; omega
      clear S1 hr
      go_wp2_with (go_at_call 94; refine hc.mono ?_; rintro e w2 ⟨rfl, d2, S2, HM⟩)
      go_roundg (len - (a + 20))
      case measure => omega
      case rel => exact ⟨k + 1, a + 20, d2, by first | rfl | (congr 1; omega), by first | rfl | (congr 1; omega), (show Aside _ from by show a + 20 = (k + 1) * 20; have := hak.out; omega), by omega, Nat.le_refl _, S2, HB.out.step (by omega) (by have := hak.out; omega) (by have := hak.out; rw [show k * 20 = a by omega, show (k + 1) * 20 = a + 20 by omega]; exact HM)⟩
    · have hltz : ¬ (a : Int) + 20 ≤ (len : Int) := by omega
      have hc := AI.out a len dk wr hsk S1.out (by omega) (Nat.le_refl _) hr
      clear S1 hr
      go_wp2_with (go_at_call 94; refine hc.mono ?_; rintro e w2 ⟨rfl, d2, S2, HM⟩)
      have HB2 : Blk (ltOf cf) Rl 20 len d d2 := HB.out.done (by omega) (by have := hak.out; omega) (by have := hak.out; omega) (by have := hak.out; rw [show k * 20 = a by omega]; exact HM)
      have B2 : Aside _ := HB2
      have S3 : Aside _ := S2
      clear HB HB2 HM S2 hak hal hkx hltz hlt hc hsk
      go_loopg [6] len (fun kx s1 wr => ∃ (b : Nat) (dk : Array α), s1 = .int .i64 b ∧ 20 ≤ b ∧ (b < 2 * len ∨ b = 20) ∧ len - b ≤ kx ∧ Aside (SW (fun x => Value.int .i64 (v x)) w0 blk off dk wr) ∧ Aside (Blk (ltOf cf) Rl b len d dk))
      case atStart => exact ⟨20, d2, rfl, Nat.le_refl _, .inr rfl, by omega, S3, B2⟩
      case round =>
        clear S3 B2
        obtain ⟨b, dk, rfl, hb20, hb2, hkx, S1, HB⟩ := hrel
        by_cases hlt : b < len
        · have hltz : (b : Int) < (len : Int) := by omega
          have z1 : IntKind.i64.wrap (2 * (b : Int)) = 2 * (b : Int) := by rw [IntKind.wrap_i64]; omega
          have z2 : IntKind.i64.wrap ((b : Int) * 2) = (b : Int) * 2 := by rw [IntKind.wrap_i64]; omega
          go_wp2
          go_loopg [7, 8] len (fun kx s1 s2 wr => ∃ (k a : Nat) (dj : Array α), s1 = .int .i64 a ∧ s2 = .int .i64 (a + 2 * b : Nat) ∧ Aside (a = k * (2 * b)) ∧ a ≤ len ∧ len - a ≤ kx ∧ Aside (SW (fun x => Value.int .i64 (v x)) w0 blk off dj wr) ∧ Aside (Mrg (ltOf cf) Rl b len k d dj))
          case atStart => exact ⟨0, 0, dk, rfl, by first | rfl | (congr 1; omega), (show Aside _ from by show 0 = 0 * (2 * b); omega), by omega, by omega, S1, Mrg.start HB.out⟩
          case round =>
            clear S1
            obtain ⟨k, a, dj, rfl, rfl, hak, hal, hkx2, S1, HM⟩ := hrel
            have hsj : dj.size = len := (psz HM.out.pm).trans hl
            have z3 : IntKind.i64.wrap ((a : Int) + (b : Int)) = (a : Int) + (b : Int) := by rw [IntKind.wrap_i64]; omega
            by_cases hlk : a + 2 * b ≤ len
            · have hlz : (a : Int) + 2 * (b : Int) ≤ (len : Int) := by omega
              have z4 : IntKind.i64.wrap ((a : Int) + 2 * (b : Int) + 2 * (b : Int)) = (a : Int) + 2 * (b : Int) + 2 * (b : Int) := by rw [IntKind.wrap_i64]; omega
              have e1 : Srt Rl a (a + b) dj := by have := HM.out.left (by rw [← hak.out]; omega); rw [← hak.out] at this; exact this
              have e2 : Srt Rl (a + b) (a + 2 * b) dj := by have := HM.out.rightS (b := a + 2 * b) (by omega) (by rw [← hak.out]; omega); rw [← hak.out] at this; exact this
              have e3 : CrsIn (ltOf cf) Rl a (a + b) (a + 2 * b) dj := by have := HM.out.crs (b := a + 2 * b) (by omega); rw [← hak.out] at this; exact this
              have hc := AM.out a (a + b) (a + 2 * b) dj wr hsj S1.out (by omega) (by omega) hlk e1 e2 e3
              rw [show ((a + b : Nat) : Int) = (a : Int) + (b : Int) by omega, show ((a + 2 * b : Nat) : Int) = (a : Int) + 2 * (b : Int) by omega] at hc
              clear S1 e1 e2 e3
              have hk1 : (k + 1) * (2 * b) = a + 2 * b := by rw [Nat.add_mul, ← hak.out]; omega
              have HK1 : Aside _ := hk1
              clear hk1
              go_wp2_with (go_at_call 95; refine hc.mono ?_; rintro e w2 ⟨rfl, d2, S2, HG⟩)
              go_roundg (len - (a + 2 * b))
              case measure => omega
              case rel => exact ⟨k + 1, a + 2 * b, d2, by first | rfl | (congr 1; omega), by first | rfl | (congr 1; omega), (show Aside _ from HK1.out.symm), by omega, Nat.le_refl _, S2, HM.out.step (by omega) (by rw [HK1.out]; exact hlk) (by rw [HK1.out, ← hak.out]; exact HG)⟩
            · have hlz : ¬ (a : Int) + 2 * (b : Int) ≤ (len : Int) := by omega
              have hk1 : (k + 1) * (2 * b) = a + 2 * b := by rw [Nat.add_mul, ← hak.out]; omega
              have HK1 : Aside _ := hk1
              clear hk1
              by_cases hm : a + b < len
              · have hmz : (a : Int) + (b : Int) < (len : Int) := by omega
                have e1 : Srt Rl a (a + b) dj := by have := HM.out.left (by rw [← hak.out]; omega); rw [← hak.out] at this; exact this
                have e2 : Srt Rl (a + b) len dj := by have := HM.out.rightS (b := len) (by omega) (by rw [← hak.out]; omega); rw [← hak.out] at this; exact this
                have e3 : CrsIn (ltOf cf) Rl a (a + b) len dj := by have := HM.out.crs (b := len) (by omega); rw [← hak.out] at this; exact this
                have hc := AM.out a (a + b) len dj wr hsj S1.out (by omega) (by omega) (Nat.le_refl _) e1 e2 e3
                rw [show ((a + b : Nat) : Int) = (a : Int) + (b : Int) by omega] at hc
                clear S1 e1 e2 e3
                go_wp2_with (go_at_call 95; refine hc.mono ?_; rintro e w2 ⟨rfl, d2, S2, HG⟩)
                go_roundg (len - 2 * b)
                case measure => omega
                case rel => exact ⟨2 * b, d2, by first | rfl | (congr 1; omega), by omega, by omega, by omega, S2, HM.out.done (by omega) (by rw [← hak.out]; exact hal) (by rw [HK1.out]; omega) (by rw [← hak.out]; exact HG)⟩
              · have hmz : ¬ (a : Int) + (b : Int) < (len : Int) := by omega
                go_wp2
                go_roundg (len - 2 * b)
                case measure => omega
                case rel => exact ⟨2 * b, dj, by first | rfl | (congr 1; omega), by omega, by omega, by omega, S1, HM.out.done (by omega) (by rw [← hak.out]; exact hal) (by rw [HK1.out]; omega) (HM.out.last (by rw [← hak.out]; omega))⟩
        · have hltz : ¬ (b : Int) < (len : Int) := by omega
          go_wp2
          go_end0
          exact ⟨rfl, dk, S1.out, HB.out.all (by omega)⟩
set_option maxHeartbeats 16000000 in
set_option maxRecDepth 1000000 in
theorem sortStable (v : α → Int) (cf : α → α → Int) (Rl : α → α → Prop) (hT : ∀ x y z, Rl x y → Rl y z → Rl x z) (g : Nat) (cb : Array Value) (blk off len cap : Nat) (d0 : Array α) (w0 : World)
    (eg : ∀ args w, (callFunc g args).run Try.prog w = .ok (.enter g args) w) (hcmp : CmpLays1 Try.prog g cb (fun x => Value.int .i64 (v x)) cf blk off len w0)
    (R : Row1 (fun x => Value.int .i64 (v x)) w0 blk off d0) (hs : d0.size = len) (hsz : len < 1152921504606846976) (d : Array α) (w : World) (hl : d.size = len) (S : SW (fun x => Value.int .i64 (v x)) w0 blk off d w) (hC : CrsAll (ltOf cf) Rl 0 len d) :
    Calls Try.prog 83 #[.slice (some ⟨blk, off, none⟩) len cap, .func (.func g) #[] cb] w fun e w' => e = .returned (.tuple #[]) ∧ ∃ d', SW (fun x => Value.int .i64 (v x)) w0 blk off d' w' ∧ MG Rl 0 len d d' := by
  have HI := stable v cf Rl hT g cb blk off len cap d0 w0 eg hcmp R hs hsz d w hl S hC
  clear hT hcmp S hC
  go_enter Try.func83, Try.ntmps83
  go_wp2_with (go_at_call 91; refine HI.mono ?_; rintro e w2 ⟨rfl, d2, S2, HM⟩)
  go_end0
  exact ⟨rfl, d2, S2, HM⟩
end Go.Proofs.Ytlhcohipnieidaa.St
