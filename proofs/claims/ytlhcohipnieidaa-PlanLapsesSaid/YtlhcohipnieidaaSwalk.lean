/- Stretches that are exchanged, turned, merged: slices.SortStableFunc's family, walked at elements of one cell. -/
import Derived.Test.YtlhcohipnieidaaPx0
import Derived.Test.YtlhcohipnieidaaStable
import Derived.Shelf.SlSortCmp.Kit1
import Derived.Sort.WalkB2
import Derived.Sort.WalkB12
import Derived.Deep.LoopGhost
import Derived.LoopN
namespace Go.Proofs.Ytlhcohipnieidaa.St
open Go.Shelf Go.RowKit Go.Lib Go.Sort
set_option linter.unusedVariables false
set_option linter.unusedSimpArgs false
variable {α : Type} [Inhabited α]
theorem mixed : Try.prog.follows .mixedOrders = true := by kernel_rfl
set_option maxHeartbeats 4000000 in
set_option maxRecDepth 1000000 in
theorem swapRange (v : α → Int) (g : Nat) (cb : Array Value) (blk off len cap a b n lo hi : Nat) (d0 d : Array α) (w0 w : World)
    (R : Row1 (fun x => Value.int .i64 (v x)) w0 blk off d0) (hs : d0.size = len) (hl : d.size = len) (S : SW (fun x => Value.int .i64 (v x)) w0 blk off d w) (hlo : lo ≤ a) (hab : a + n ≤ b) (hb : b + n ≤ hi) (hhi : hi ≤ len) (hsz : len < 4611686018427387904) :
    Calls Try.prog 97 #[.slice (some ⟨blk, off, none⟩) len cap, .int .i64 a, .int .i64 b, .int .i64 n, .func (.func g) #[] cb] w fun e w' => e = .returned (.tuple #[]) ∧ ∃ d', SW (fun x => Value.int .i64 (v x)) w0 blk off d' w' ∧ SR d a b n lo hi d' := by
  have mx := mixed
  have S0 : Aside (SW (fun x => Value.int .i64 (v x)) w0 blk off d w) := S
  clear S
  go_enter Try.func97, Try.ntmps97
  go_wp2
  go_loopg [10] n (fun kx s8 wr => ∃ (i : Nat) (dk : Array α), s8 = .int .i64 i ∧ i ≤ n ∧ n - i ≤ kx ∧ Aside (SW (fun x => Value.int .i64 (v x)) w0 blk off dk wr) ∧ Aside (SR d a b i lo hi dk))
  case atStart => exact ⟨0, d, rfl, by omega, by omega, S0, SR.start d a b lo hi⟩
  case round =>
    clear S0
    obtain ⟨i, dk, rfl, hin, hkx, S1, HR⟩ := hrel
    have hds : dk.size = d.size := psz HR.out.pm
    by_cases hlt : (i : Int) < (n : Int)
    · go_wp2_with fail
      obtain ⟨iN1, hiN1⟩ : ∃ q, q = a + i := ⟨_, rfl⟩
      obtain ⟨jN1, hjN1⟩ : ∃ q, q = b + i := ⟨_, rfl⟩
      have ea1 : ((a : Int) + (i : Int)).toNat = iN1 := by omega
      have pa1 : (0 : Int) ≤ (a : Int) + (i : Int) := by omega
      have ba1 : (a : Int) + (i : Int) < (len : Int) := by omega
      have ra1 : IntKind.i64.wrap ((a : Int) + (i : Int)) = (a : Int) + (i : Int) := by rw [IntKind.wrap_i64]; omega
      have ec1 : ((b : Int) + (i : Int)).toNat = jN1 := by omega
      have pc1 : (0 : Int) ≤ (b : Int) + (i : Int) := by omega
      have bc1 : (b : Int) + (i : Int) < (len : Int) := by omega
      have rc1 : IntKind.i64.wrap ((b : Int) + (i : Int)) = (b : Int) + (i : Int) := by rw [IntKind.wrap_i64]; omega
      obtain ⟨x1, hx1⟩ : ∃ x, x = dk[a + i]! := ⟨_, rfl⟩
      obtain ⟨y1, hy1⟩ : ∃ x, x = dk[b + i]! := ⟨_, rfl⟩
      have S2 : Aside (SW (fun x => Value.int .i64 (v x)) w0 blk off (swp dk (a + i) (b + i)) (((wr.setCell ⟨blk, off + iN1, none⟩ (Value.int .i64 (v y1))).setCell ⟨blk, off + jN1, none⟩ (Value.int .i64 (v x1))).drew)) := by rw [hiN1, hjN1, hx1, hy1]; exact S1.out.swapped R (a + i) (b + i) (by omega) (by omega)
      have c1a := S1.out.c1 R (by omega) (a + i) (by omega)
      have f1a := S1.out.f1 R (by omega) (a + i) (by omega)
      have c1b := S1.out.c1 R (by omega) (b + i) (by omega)
      have f1b := S1.out.f1 R (by omega) (b + i) (by omega)
      obtain ⟨u1, c1c⟩ := S1.out.c2 R (by omega) (a + i) (b + i) (by omega) (by omega) (Value.int .i64 (v y1))
      rw [← hjN1, ← hiN1] at c1c
      rw [← hx1, ← hiN1] at c1a
      rw [← hy1, ← hjN1] at c1b
      rw [← hiN1] at f1a
      rw [← hjN1] at f1b
      clear S1 hx1 hy1 hiN1 hjN1
      go_wp2_with fail
      go_big_region_o
      clear c1a c1b c1c f1a f1b
      generalize ((wr.setCell ⟨blk, off + iN1, none⟩ (Value.int .i64 (v y1))).setCell ⟨blk, off + jN1, none⟩ (Value.int .i64 (v x1))).drew = w2 at S2 ⊢
      clear ea1 ec1
      go_wp2
      go_roundg (n - (i + 1))
      case measure => omega
      case rel => exact ⟨i + 1, swp dk (a + i) (b + i), by first | rfl | go_num, by omega, Nat.le_refl _, S2, HR.out.step (n := n) (by omega) hab hlo hb (by omega)⟩
    · go_wp2
      go_end0
      exact ⟨rfl, dk, S1.out, by have : i = n := by omega
                                 rw [← this]; exact HR.out⟩
set_option maxHeartbeats 4000000 in
set_option maxRecDepth 1000000 in
theorem rotate (v : α → Int) (g : Nat) (cb : Array Value) (blk off len cap a m b : Nat) (d0 d : Array α) (w0 w : World)
    (R : Row1 (fun x => Value.int .i64 (v x)) w0 blk off d0) (hs : d0.size = len) (hl : d.size = len) (S : SW (fun x => Value.int .i64 (v x)) w0 blk off d w) (ham : a < m) (hmb : m < b) (hb : b ≤ len) (hsz : len < 4611686018427387904) :
    Calls Try.prog 96 #[.slice (some ⟨blk, off, none⟩) len cap, .int .i64 a, .int .i64 m, .int .i64 b, .func (.func g) #[] cb] w fun e w' => e = .returned (.tuple #[]) ∧ ∃ d', SW (fun x => Value.int .i64 (v x)) w0 blk off d' w' ∧ Rot d a m b d' := by
  have S0 : Aside (SW (fun x => Value.int .i64 (v x)) w0 blk off d w) := S
  clear S
  go_enter Try.func96, Try.ntmps96
  have z1 : IntKind.i64.wrap ((m : Int) - (a : Int)) = (m : Int) - (a : Int) := by rw [IntKind.wrap_i64]; omega
  have z2 : IntKind.i64.wrap ((b : Int) - (m : Int)) = (b : Int) - (m : Int) := by rw [IntKind.wrap_i64]; omega
  go_wp2
  go_loopg [10, 11] (b - a) (fun kx s1 s2 wr => ∃ (i j : Nat) (dk : Array α), s1 = .int .i64 i ∧ s2 = .int .i64 j ∧ i + j ≤ kx ∧ Aside (SW (fun x => Value.int .i64 (v x)) w0 blk off dk wr) ∧ Aside (RotI d a m b i j dk))
  case atStart => exact ⟨m - a, b - m, d, by first | rfl | (congr 1; omega), by first | rfl | (congr 1; omega), by omega, S0, RotI.start d a m b ham hmb (by omega)⟩
  case round =>
    clear S0 z1 z2
    obtain ⟨i, j, dk, rfl, rfl, hkx, S1, HR⟩ := hrel
    have hds : dk.size = len := (psz HR.out.pm).trans hl
    have hi := HR.out.hi
    have hj := HR.out.hj
    by_cases hij : (i : Int) = (j : Int)
    · obtain rfl : i = j := by omega
      have hc := swapRange v g cb blk off len cap (m - i) m i a b d0 dk w0 wr R hs hds S1.out (by omega) (by omega) (by omega) hb hsz
      rw [show ((m - i : Nat) : Int) = (m : Int) - (i : Int) by omega] at hc
      have z1 : IntKind.i64.wrap ((m : Int) - (i : Int)) = (m : Int) - (i : Int) := by rw [IntKind.wrap_i64]; omega
      clear S1
      go_wp2_with (go_at_call 97; refine hc.mono ?_; rintro e w2 ⟨rfl, dj, S2, HS⟩)
      go_end0
      exact ⟨rfl, dj, S2, HR.out.eq ham hmb (by omega) HS⟩
    · by_cases hgt : (j : Int) < (i : Int)
      · have hc := swapRange v g cb blk off len cap (m - i) m j a b d0 dk w0 wr R hs hds S1.out (by omega) (by omega) (by omega) hb hsz
        rw [show ((m - i : Nat) : Int) = (m : Int) - (i : Int) by omega] at hc
        have z1 : IntKind.i64.wrap ((m : Int) - (i : Int)) = (m : Int) - (i : Int) := by rw [IntKind.wrap_i64]; omega
        have z2 : IntKind.i64.wrap ((i : Int) - (j : Int)) = (i : Int) - (j : Int) := by rw [IntKind.wrap_i64]; omega
        clear S1
        go_wp2_with (go_at_call 97; refine hc.mono ?_; rintro e w2 ⟨rfl, dj, S2, HS⟩)
        go_roundg (i - j + j)
        case measure => omega
        case rel => exact ⟨i - j, j, dj, by first | rfl | (congr 1; omega), rfl, Nat.le_refl _, S2, HR.out.gt ham hmb (by omega) (by omega) HS⟩
      · have hc := swapRange v g cb blk off len cap (m - i) (m + j - i) i a b d0 dk w0 wr R hs hds S1.out (by omega) (by omega) (by omega) hb hsz
        rw [show ((m - i : Nat) : Int) = (m : Int) - (i : Int) by omega, show ((m + j - i : Nat) : Int) = (m : Int) + (j : Int) - (i : Int) by omega] at hc
        have z1 : IntKind.i64.wrap ((m : Int) - (i : Int)) = (m : Int) - (i : Int) := by rw [IntKind.wrap_i64]; omega
        have z2 : IntKind.i64.wrap ((j : Int) - (i : Int)) = (j : Int) - (i : Int) := by rw [IntKind.wrap_i64]; omega
        have z3 : IntKind.i64.wrap ((m : Int) + (j : Int)) = (m : Int) + (j : Int) := by rw [IntKind.wrap_i64]; omega
        have z4 : IntKind.i64.wrap ((m : Int) + (j : Int) - (i : Int)) = (m : Int) + (j : Int) - (i : Int) := by rw [IntKind.wrap_i64]; omega
        clear S1
        go_wp2_with (go_at_call 97; refine hc.mono ?_; rintro e w2 ⟨rfl, dj, S2, HS⟩)
        go_roundg (i + (j - i))
        case measure => omega
        case rel => exact ⟨i, j - i, dj, rfl, by first | rfl | (congr 1; omega), Nat.le_refl _, S2, HR.out.less ham hmb (by omega) (by omega) HS⟩
end Go.Proofs.Ytlhcohipnieidaa.St
