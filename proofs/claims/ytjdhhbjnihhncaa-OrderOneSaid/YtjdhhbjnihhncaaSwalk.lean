/- Stretches that are exchanged, turned, merged: slices.SortStableFunc's family, walked at elements of several cells. -/
import Derived.Test.YtjdhhbjnihhncaaPx0
import Derived.Test.YtjdhhbjnihhncaaStable
import Derived.Shelf.SlSortCmp.KitK
import Derived.Sort.WalkB2
import Derived.Sort.WalkB12
import Derived.Deep.LoopGhost
import Derived.LoopN
namespace Go.Proofs.Ytjdhhbjnihhncaa.St
open Go.Shelf Go.RowKit Go.Lib Go.Sort
set_option linter.unusedVariables false
set_option linter.unusedSimpArgs false
variable {α : Type} [Inhabited α]
theorem aggE : ∀ w, (isAgg 26).run Try.prog w = .ok true w := fun w => by kernel_rfl
theorem mixed : Try.prog.follows .mixedOrders = true := by kernel_rfl
set_option maxHeartbeats 4000000 in
set_option maxRecDepth 1000000 in
theorem swapRange (kz : Nat) (zE_ : ∀ w, (Go.sizeOf 26).run Try.prog w = .ok kz w) (enc : α → List Value) (g : Nat) (cb : Array Value) (blk off len cap a b n lo hi : Nat) (d0 d : Array α) (w0 w : World)
    (R : RowK enc kz w0 blk off d0) (hs : d0.size = len) (hl : d.size = len) (S : SWK enc kz w0 blk off d w) (hlo : lo ≤ a) (hab : a + n ≤ b) (hb : b + n ≤ hi) (hhi : hi ≤ len) (hsz : len < 4611686018427387904) :
    Calls Try.prog 44 #[.slice (some ⟨blk, off, none⟩) len cap, .int .i64 a, .int .i64 b, .int .i64 n, .func (.func g) #[] cb] w fun e w' => e = .returned (.tuple #[]) ∧ ∃ d', SWK enc kz w0 blk off d' w' ∧ SR d a b n lo hi d' := by
  have mx := mixed
  have S0 : Aside (SWK enc kz w0 blk off d w) := S
  clear S
  have aE_ := aggE
  go_enter Try.func44, Try.ntmps44
  go_wp2
  go_loopg [10] n (fun kx s8 wr => ∃ (i : Nat) (dk : Array α), s8 = .int .i64 i ∧ i ≤ n ∧ n - i ≤ kx ∧ Aside (SWK enc kz w0 blk off dk wr) ∧ Aside (SR d a b i lo hi dk))
  case atStart => exact ⟨0, d, rfl, by omega, by omega, S0, SR.start d a b lo hi⟩
  case round =>
    clear S0
    obtain ⟨i, dk, rfl, hin, hkx, S1, HR⟩ := hrel
    have hds : dk.size = d.size := psz HR.out.pm
    by_cases hlt : (i : Int) < (n : Int)
    · go_wp2_with fail
      obtain ⟨iN1, hiN1⟩ : ∃ q, q = a + i := ⟨_, rfl⟩
      obtain ⟨jN1, hjN1⟩ : ∃ q, q = b + i := ⟨_, rfl⟩
      have ea1 : ((a : Int) + (i : Int)).toNat = iN1 := by omega
      have pa1 : (0 : Int) ≤ (a : Int) + (i : Int) := by omega
      have ba1 : (a : Int) + (i : Int) < (len : Int) := by omega
      have ra1 : IntKind.i64.wrap ((a : Int) + (i : Int)) = (a : Int) + (i : Int) := by rw [IntKind.wrap_i64]; omega
      have ec1 : ((b : Int) + (i : Int)).toNat = jN1 := by omega
      have pc1 : (0 : Int) ≤ (b : Int) + (i : Int) := by omega
      have bc1 : (b : Int) + (i : Int) < (len : Int) := by omega
      have rc1 : IntKind.i64.wrap ((b : Int) + (i : Int)) = (b : Int) + (i : Int) := by rw [IntKind.wrap_i64]; omega
      obtain ⟨cI1, hcI1⟩ : ∃ c, c = enc dk[a + i]! := ⟨_, rfl⟩
      obtain ⟨cJ1, hcJ1⟩ : ∃ c, c = enc dk[b + i]! := ⟨_, rfl⟩
      have S2 : Aside (SWK enc kz w0 blk off (swp dk (a + i) (b + i)) ((wr.drew.setCells blk (off + iN1 * kz) cJ1).setCells blk (off + jN1 * kz) cI1)) := by rw [hiN1, hjN1, hcI1, hcJ1]; exact S1.out.swapped R (a + i) (b + i) (by omega) (by omega)
      have l1a := S1.out.ld1 R (by omega) Try.prog (a + i) (by omega)
      have l1b := S1.out.ld1 R (by omega) Try.prog (b + i) (by omega)
      have s1a := S1.out.st1 R (by omega) Try.prog (a + i) (by omega) dk[b + i]!
      have s1b := S1.out.st2 R (by omega) Try.prog (a + i) (b + i) (by omega) (by omega) dk[b + i]! dk[a + i]!
      have n1a : (enc dk[a + i]!).length = kz := R.hk _
      have n1b : (enc dk[b + i]!).length = kz := R.hk _
      rw [← hcI1, ← hiN1] at l1a
      rw [← hcI1] at n1a
      rw [← hcJ1, ← hjN1] at l1b
      rw [← hcJ1] at n1b
      rw [← hcJ1, ← hiN1] at s1a
      rw [← hcI1, ← hcJ1, ← hjN1, ← hiN1] at s1b
      clear hcI1 hcJ1
      clear S1 hiN1 hjN1
      go_wp2_with fail
      go_big_region_o
      clear l1a l1b s1a s1b n1a n1b
      generalize (wr.drew.setCells blk (off + iN1 * kz) cJ1).setCells blk (off + jN1 * kz) cI1 = w2 at S2 ⊢
      clear ea1 ec1
      go_wp2
      go_roundg (n - (i + 1))
      case measure => omega
      case rel => exact ⟨i + 1, swp dk (a + i) (b + i), by first | rfl | go_num, by omega, Nat.le_refl _, S2, HR.out.step (n := n) (by omega) hab hlo hb (by omega)⟩
    · go_wp2
      go_end0
      exact ⟨rfl, dk, S1.out, by have : i = n := by omega
                                 rw [← this]; exact HR.out⟩
set_option maxHeartbeats 4000000 in
set_option maxRecDepth 1000000 in
theorem rotate (kz : Nat) (zE_ : ∀ w, (Go.sizeOf 26).run Try.prog w = .ok kz w) (enc : α → List Value) (g : Nat) (cb : Array Value) (blk off len cap a m b : Nat) (d0 d : Array α) (w0 w : World)
    (R : RowK enc kz w0 blk off d0) (hs : d0.size = len) (hl : d.size = len) (S : SWK enc kz w0 blk off d w) (ham : a < m) (hmb : m < b) (hb : b ≤ len) (hsz : len < 4611686018427387904) :
    Calls Try.prog 42 #[.slice (some ⟨blk, off, none⟩) len cap, .int .i64 a, .int .i64 m, .int .i64 b, .func (.func g) #[] cb] w fun e w' => e = .returned (.tuple #[]) ∧ ∃ d', SWK enc kz w0 blk off d' w' ∧ Rot d a m b d' := by
  have S0 : Aside (SWK enc kz w0 blk off d w) := S
  clear S
  have aE_ := aggE
  go_enter Try.func42, Try.ntmps42
  have z1 : IntKind.i64.wrap ((m : Int) - (a : Int)) = (m : Int) - (a : Int) := by rw [IntKind.wrap_i64]; omega
  have z2 : IntKind.i64.wrap ((b : Int) - (m : Int)) = (b : Int) - (m : Int) := by rw [IntKind.wrap_i64]; omega
  go_wp2
  go_loopg [10, 11] (b - a) (fun kx s1 s2 wr => ∃ (i j : Nat) (dk : Array α), s1 = .int .i64 i ∧ s2 = .int .i64 j ∧ i + j ≤ kx ∧ Aside (SWK enc kz w0 blk off dk wr) ∧ Aside (RotI d a m b i j dk))
  case atStart => exact ⟨m - a, b - m, d, by first | rfl | (congr 1; omega), by first | rfl | (congr 1; omega), by omega, S0, RotI.start d a m b ham hmb (by omega)⟩
  case round =>
    clear S0 z1 z2
    obtain ⟨i, j, dk, rfl, rfl, hkx, S1, HR⟩ := hrel
    have hds : dk.size = len := (psz HR.out.pm).trans hl
    have hi := HR.out.hi
    have hj := HR.out.hj
    by_cases hij : (i : Int) = (j : Int)
    · obtain rfl : i = j := by omega
      have hc := swapRange kz zE_ enc g cb blk off len cap (m - i) m i a b d0 dk w0 wr R hs hds S1.out (by omega) (by omega) (by omega) hb hsz
      rw [show ((m - i : Nat) : Int) = (m : Int) - (i : Int) by omega] at hc
      have z1 : IntKind.i64.wrap ((m : Int) - (i : Int)) = (m : Int) - (i : Int) := by rw [IntKind.wrap_i64]; omega
      clear S1
      go_wp2_with (go_at_call 44; refine hc.mono ?_; rintro e w2 ⟨rfl, dj, S2, HS⟩)
      go_end0
      exact ⟨rfl, dj, S2, HR.out.eq ham hmb (by omega) HS⟩
    · by_cases hgt : (j : Int) < (i : Int)
      · have hc := swapRange kz zE_ enc g cb blk off len cap (m - i) m j a b d0 dk w0 wr R hs hds S1.out (by omega) (by omega) (by omega) hb hsz
        rw [show ((m - i : Nat) : Int) = (m : Int) - (i : Int) by omega] at hc
        have z1 : IntKind.i64.wrap ((m : Int) - (i : Int)) = (m : Int) - (i : Int) := by rw [IntKind.wrap_i64]; omega
        have z2 : IntKind.i64.wrap ((i : Int) - (j : Int)) = (i : Int) - (j : Int) := by rw [IntKind.wrap_i64]; omega
        clear S1
        go_wp2_with (go_at_call 44; refine hc.mono ?_; rintro e w2 ⟨rfl, dj, S2, HS⟩)
        go_roundg (i - j + j)
        case measure => omega
        case rel => exact ⟨i - j, j, dj, by first | rfl | (congr 1; omega), rfl, Nat.le_refl _, S2, HR.out.gt ham hmb (by omega) (by omega) HS⟩
      · have hc := swapRange kz zE_ enc g cb blk off len cap (m - i) (m + j - i) i a b d0 dk w0 wr R hs hds S1.out (by omega) (by omega) (by omega) hb hsz
        rw [show ((m - i : Nat) : Int) = (m : Int) - (i : Int) by omega, show ((m + j - i : Nat) : Int) = (m : Int) + (j : Int) - (i : Int) by omega] at hc
        have z1 : IntKind.i64.wrap ((m : Int) - (i : Int)) = (m : Int) - (i : Int) := by rw [IntKind.wrap_i64]; omega
        have z2 : IntKind.i64.wrap ((j : Int) - (i : Int)) = (j : Int) - (i : Int) := by rw [IntKind.wrap_i64]; omega
        have z3 : IntKind.i64.wrap ((m : Int) + (j : Int)) = (m : Int) + (j : Int) := by rw [IntKind.wrap_i64]; omega
        have z4 : IntKind.i64.wrap ((m : Int) + (j : Int) - (i : Int)) = (m : Int) + (j : Int) - (i : Int) := by rw [IntKind.wrap_i64]; omega
        clear S1
        go_wp2_with (go_at_call 44; refine hc.mono ?_; rintro e w2 ⟨rfl, dj, S2, HS⟩)
        go_roundg (i + (j - i))
        case measure => omega
        case rel => exact ⟨i, j - i, dj, rfl, by first | rfl | (congr 1; omega), Nat.le_refl _, S2, HR.out.less ham hmb (by omega) (by omega) HS⟩
end Go.Proofs.Ytjdhhbjnihhncaa.St
