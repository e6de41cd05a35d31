/- Stretches that are exchanged, turned, merged: slices.SortStableFunc's family, walked at elements of one cell. -/
import Derived.Test.YtlhcohipnieidaaPx0
import Derived.Test.YtlhcohipnieidaaSsym
import Derived.Shelf.SlSortCmp.Kit1
import Derived.Sort.WalkB2
import Derived.Sort.WalkB12
import Derived.Deep.LoopGhost
import Derived.LoopN
namespace Go.Proofs.Ytlhcohipnieidaa.St
open Go.Shelf Go.RowKit Go.Lib Go.Sort
set_option linter.unusedVariables false
set_option linter.unusedSimpArgs false
variable {α : Type} [Inhabited α]
set_option maxHeartbeats 16000000 in
set_option maxRecDepth 1000000 in
theorem symStep (v : α → Int) (cf : α → α → Int) (Rl : α → α → Prop) (hT : ∀ x y z, Rl x y → Rl y z → Rl x z) (g : Nat) (cb : Array Value) (blk off len cap a m b : Nat) (d0 d : Array α) (w0 w : World)
    (eg : ∀ args w, (callFunc g args).run Try.prog w = .ok (.enter g args) w) (hcmp : CmpLays1 Try.prog g cb (fun x => Value.int .i64 (v x)) cf blk off len w0)
    (R : Row1 (fun x => Value.int .i64 (v x)) w0 blk off d0) (hs : d0.size = len) (hl : d.size = len) (S : SW (fun x => Value.int .i64 (v x)) w0 blk off d w) (ham : a < m) (hmb : m < b) (hb : b ≤ len) (hsz : len < 1152921504606846976)
    (hS1 : Srt Rl a m d) (hS2 : Srt Rl m b d) (hC : CrsIn (ltOf cf) Rl a m b d) (h1 : m ≠ a + 1) (h2 : b ≠ m + 1)
    (hIH : (∀ (a' m' b' : Nat) (d1 : Array α) (w1 : World), b' - a' < b - a → d1.size = len → SW (fun x => Value.int .i64 (v x)) w0 blk off d1 w1 → a' < m' → m' < b' → b' ≤ len → Srt Rl a' m' d1 → Srt Rl m' b' d1 → CrsIn (ltOf cf) Rl a' m' b' d1 →
      Calls Try.prog 95 #[.slice (some ⟨blk, off, none⟩) len cap, .int .i64 a', .int .i64 m', .int .i64 b', .func (.func g) #[] cb] w1 fun e w' => e = .returned (.tuple #[]) ∧ ∃ d', SW (fun x => Value.int .i64 (v x)) w0 blk off d' w' ∧ MG Rl a' b' d1 d')) :
    Calls Try.prog 95 #[.slice (some ⟨blk, off, none⟩) len cap, .int .i64 a, .int .i64 m, .int .i64 b, .func (.func g) #[] cb] w fun e w' => e = .returned (.tuple #[]) ∧ ∃ d', SW (fun x => Value.int .i64 (v x)) w0 blk off d' w' ∧ MG Rl a b d d' := by
  have mx := mixed
  have HC : Aside _ := hcmp
  have HCr : Aside _ := hC
  have HT : Aside _ := hT
  have HS1 : Aside _ := hS1
  have HS2 : Aside _ := hS2
  have S0 : Aside (SW (fun x => Value.int .i64 (v x)) w0 blk off d w) := S
  clear S hcmp hC hT hS1 hS2
  have HIH : Aside _ := hIH
  clear hIH
  obtain ⟨mid, hmid⟩ : ∃ mid, mid = (a + b) / 2 := ⟨_, rfl⟩
  obtain ⟨q1, q2, q3, q4, q5⟩ := s0_r0 ham hmb
  rw [← hmid] at q4 q5
  have BB : (m > mid ∧ s0 a m b = mid + m - b ∧ r0 a m b = mid) ∨ (m ≤ mid ∧ s0 a m b = a ∧ r0 a m b = m) := by
    unfold s0 r0; rw [← hmid]; by_cases c : m > mid
    · left; rw [if_pos c, if_pos c]; exact ⟨c, rfl, rfl⟩
    · right; rw [if_neg c, if_neg c]; exact ⟨by omega, rfl, rfl⟩
  have z1 : IntKind.i64.wrap ((m : Int) - (a : Int)) = (m : Int) - (a : Int) := by rw [IntKind.wrap_i64]; omega
  have z2 : ¬ (m : Int) - (a : Int) = 1 := by omega
  have z3 : IntKind.i64.wrap ((b : Int) - (m : Int)) = (b : Int) - (m : Int) := by rw [IntKind.wrap_i64]; omega
  have z4 : ¬ (b : Int) - (m : Int) = 1 := by omega
  have z5 : IntKind.i64.wrap ((a : Int) + (b : Int)) = (a : Int) + (b : Int) := by rw [IntKind.wrap_i64]; omega
  obtain ⟨N, hN⟩ : ∃ N, N = mid + m := ⟨_, rfl⟩
  obtain ⟨p, hp⟩ : ∃ p, p = N - 1 := ⟨_, rfl⟩
  have z6 : ((a : Int) + (b : Int)) / 2 + (m : Int) = (N : Int) := by omega
  have z7 : IntKind.i64.wrap (N : Int) = (N : Int) := by rw [IntKind.wrap_i64]; omega
  have z8 : IntKind.i64.wrap ((N : Int) - (b : Int)) = (N : Int) - (b : Int) := by rw [IntKind.wrap_i64]; omega
  have z9 : (N : Int) - 1 = (p : Int) := by omega
  have z10 : IntKind.i64.wrap (p : Int) = (p : Int) := by rw [IntKind.wrap_i64]; omega
  have HN : Aside _ := hN
  have HP : Aside _ := hp
  have HM : Aside _ := hmid
  have HBB : Aside _ := BB
  clear hN hp BB hmid
  go_enter Try.func95, Try.ntmps95
  go_upto_region 27 with (fail)
  rename_i K1 a1 K0 a0
  have hA : ∀ (x5 x6 x7 x8 x9 x10 x11 x12 x13 x14 x15 x16 x17 x22 x23 x24 x25 x26 x27 x28 x29 x30 x31 x32 x33 x34 x35 x36 x37 x38 x39 x40 x41 x42 x43 x44 x45 x46 x47 x48 x49 x50 x51 x52 x53 x54 x55 x56 x57 x58 x59 x60 x61 x62 x63 x64 x65 x66 x67 x68 x69 x70 x71 x72 x73 x74 x75 x76 x77 x78 x79 x80 x81 x82 x83 x84 x85 x86 x87 x88 x89 x90 x91 x92 x93 x94 x95 x96 x97 x98 x99 x100 x101 x102 x103 x104 x105 x106 x107 x108 x109 x110 x111 x112 x113 x114 x115 x116 x117 x118 x119 x120 x121 x122 x123 x124 x125 x126 x127 x128 x129 x130 x131 x132 x133 x134 x135 x136 x137 x138 x139 x140 x141 x142 x143 x144 x145 x146 x147 x148 x149 x150 x151 x152 x153 x154 x155 x156 x157 x158 x159 x160 x161 x162 x163 x164 x165 x166 x167 x168 x169 x170 x171 x172 x173 x174 x175 x176 x177 x178 x179 x180 x181 x182 x183 x184 x185 x186 x187 x188 x189 x190 x191 x192 x193 x194 x195 x196 x197 x198 x199 x200 x201 x202 x203 x204 x205 x206 x207 x208 x209 x210 x211 x212 x213 x214 x215 x216 x217 x218 x219 vs vr : Value), vs = .int .i64 ((s0 a m b : Nat) : Int) → vr = .int .i64 ((r0 a m b : Nat) : Int) → K1 { tmps := #[Value.slice (some ⟨blk, off, none⟩) len cap, Value.int .i64 (a : Int), Value.int .i64 (m : Int), Value.int .i64 (b : Int), Value.func (Fn.func g) #[] cb, x5, x6, x7, x8, x9, x10, x11, x12, x13, x14, x15, x16, x17, Value.int .i64 (((a : Int) + (b : Int)) / 2), Value.int .i64 (N : Int), vs, vr, x22, x23, x24, x25, x26, x27, x28, x29, x30, x31, x32, x33, x34, x35, x36, x37, x38, x39, x40, x41, x42, x43, x44, x45, x46, x47, x48, x49, x50, x51, x52, x53, x54, x55, x56, x57, x58, x59, x60, x61, x62, x63, x64, x65, x66, x67, x68, x69, x70, x71, x72, x73, x74, x75, x76, x77, x78, x79, x80, x81, x82, x83, x84, x85, x86, x87, x88, x89, x90, x91, x92, x93, x94, x95, x96, x97, x98, x99, x100, x101, x102, x103, x104, x105, x106, x107, x108, x109, x110, x111, x112, x113, x114, x115, x116, x117, x118, x119, x120, x121, x122, x123, x124, x125, x126, x127, x128, x129, x130, x131, x132, x133, x134, x135, x136, x137, x138, x139, x140, x141, x142, x143, x144, x145, x146, x147, x148, x149, x150, x151, x152, x153, x154, x155, x156, x157, x158, x159, x160, x161, x162, x163, x164, x165, x166, x167, x168, x169, x170, x171, x172, x173, x174, x175, x176, x177, x178, x179, x180, x181, x182, x183, x184, x185, x186, x187, x188, x189, x190, x191, x192, x193, x194, x195, x196, x197, x198, x199, x200, x201, x202, x203, x204, x205, x206, x207, x208, x209, x210, x211, x212, x213, x214, x215, x216, x217, x218, x219], defers := [] } w := by
    intro x5 x6 x7 x8 x9 x10 x11 x12 x13 x14 x15 x16 x17 x22 x23 x24 x25 x26 x27 x28 x29 x30 x31 x32 x33 x34 x35 x36 x37 x38 x39 x40 x41 x42 x43 x44 x45 x46 x47 x48 x49 x50 x51 x52 x53 x54 x55 x56 x57 x58 x59 x60 x61 x62 x63 x64 x65 x66 x67 x68 x69 x70 x71 x72 x73 x74 x75 x76 x77 x78 x79 x80 x81 x82 x83 x84 x85 x86 x87 x88 x89 x90 x91 x92 x93 x94 x95 x96 x97 x98 x99 x100 x101 x102 x103 x104 x105 x106 x107 x108 x109 x110 x111 x112 x113 x114 x115 x116 x117 x118 x119 x120 x121 x122 x123 x124 x125 x126 x127 x128 x129 x130 x131 x132 x133 x134 x135 x136 x137 x138 x139 x140 x141 x142 x143 x144 x145 x146 x147 x148 x149 x150 x151 x152 x153 x154 x155 x156 x157 x158 x159 x160 x161 x162 x163 x164 x165 x166 x167 x168 x169 x170 x171 x172 x173 x174 x175 x176 x177 x178 x179 x180 x181 x182 x183 x184 x185 x186 x187 x188 x189 x190 x191 x192 x193 x194 x195 x196 x197 x198 x199 x200 x201 x202 x203 x204 x205 x206 x207 x208 x209 x210 x211 x212 x213 x214 x215 x216 x217 x218 x219 vs vr e1 e2
    refine a1 _ _ ?_
    subst e1 e2
    clear a1 a0
    go_wp2
    go_loopg [20, 21] (b - a) (fun kx s1 s2 wr => ∃ (i j : Nat), s1 = .int .i64 i ∧ s2 = .int .i64 j ∧ j - i ≤ kx ∧ i ≤ j ∧ j ≤ mid ∧ Aside (SW (fun x => Value.int .i64 (v x)) w0 blk off d wr) ∧ Aside (Cut (ltOf cf) a m b i j d))
    case atStart =>
      have hN := HN.out
      have BB := HBB.out
      have hmid := HM.out
      exact ⟨s0 a m b, r0 a m b, rfl, rfl, by omega, by omega, by omega, S0, Cut.start ham hmb⟩
    case round =>
      clear S0
      obtain ⟨i, j, rfl, rfl, hkx, hij, hjm, S1, HF⟩ := hrel
      by_cases hlt : i < j
      · have hltz : (i : Int) < (j : Int) := by omega
        obtain ⟨h, hh⟩ : ∃ h, h = (i + j) / 2 := ⟨_, rfl⟩
        have g1 := HF.out.h1
        have zz : IntKind.i64.wrap ((i : Int) + (j : Int)) = (i : Int) + (j : Int) := by rw [IntKind.wrap_i64]; omega
        obtain ⟨pq, hq⟩ : ∃ pq, pq = p - h := ⟨_, rfl⟩
        have hN := HN.out
        have hp := HP.out
        have hmid := HM.out
        have ey : (a + b) / 2 + m - 1 - h = pq := by omega
        have zq : (p : Int) - ((i : Int) + (j : Int)) / 2 = (pq : Int) := by omega
        have hqi : pq < len := by omega
        have EY : Aside _ := ey
        clear ey hq hN hp hmid
        cases hlv : (ltOf cf) d[pq]! d[h]! with
        | false =>
          go_wp2_with fail
          obtain ⟨iN1, hiN1⟩ : ∃ q, q = pq := ⟨_, rfl⟩
          obtain ⟨jN1, hjN1⟩ : ∃ q, q = h := ⟨_, rfl⟩
          have ea1 : ((pq : Int)).toNat = iN1 := by omega
          have pa1 : (0 : Int) ≤ (pq : Int) := by omega
          have ba1 : (pq : Int) < (len : Int) := by omega
          have ra1 : IntKind.i64.wrap ((pq : Int)) = (pq : Int) := by rw [IntKind.wrap_i64]; omega
          have ec1 : (((i : Int) + (j : Int)) / 2).toNat = jN1 := by omega
          have pc1 : (0 : Int) ≤ ((i : Int) + (j : Int)) / 2 := by omega
          have bc1 : ((i : Int) + (j : Int)) / 2 < (len : Int) := by omega
          have rc1 : IntKind.i64.wrap (((i : Int) + (j : Int)) / 2) = ((i : Int) + (j : Int)) / 2 := by rw [IntKind.wrap_i64]; omega
          obtain ⟨x1, hx1⟩ : ∃ x, x = d[pq]! := ⟨_, rfl⟩
          obtain ⟨y1, hy1⟩ : ∃ x, x = d[h]! := ⟨_, rfl⟩
          have l1a := S1.out.cl R (by omega) (pq) (by omega)
          rw [← hx1, ← hiN1] at l1a
          have l1b := S1.out.cl R (by omega) (h) (by omega)
          rw [← hy1, ← hjN1] at l1b
          have hc1 := S1.out.cmp HC.out (by omega) x1 y1
          have hv1 : ¬ cf x1 y1 < 0 := by rw [hx1, hy1]; exact of_decide_eq_false hlv
          have hd1 : decide (cf x1 y1 < 0) = false := decide_eq_false hv1
          clear hx1 hy1 hiN1 hjN1
          go_wp2_with fail
          go_quiet_grown (first | (go_at_fn g; refine Calls.grown_of (hc1 _ _)))
          have S2 : Aside (SW (fun x => Value.int .i64 (v x)) w0 blk off d (grow (wr.drewN nq) osq)) := S1.out.grown nq osq
          clear l1a l1b hc1 S1
          generalize grow (wr.drewN nq) osq = w2 at S2 ⊢
          clear nq osq
          clear ea1 ec1
          go_wp2
          go_roundg (j - (h + 1))
          case measure => omega
          case rel => exact ⟨h + 1, j, by first | rfl | (congr 1; omega), rfl, Nat.le_refl _, by omega, hjm, S2, HF.out.up (c := h) (by omega) (by omega) (by rw [EY.out]; exact hlv)⟩
        | true =>
          go_wp2_with fail
          obtain ⟨iN2, hiN2⟩ : ∃ q, q = pq := ⟨_, rfl⟩
          obtain ⟨jN2, hjN2⟩ : ∃ q, q = h := ⟨_, rfl⟩
          have ea2 : ((pq : Int)).toNat = iN2 := by omega
          have pa2 : (0 : Int) ≤ (pq : Int) := by omega
          have ba2 : (pq : Int) < (len : Int) := by omega
          have ra2 : IntKind.i64.wrap ((pq : Int)) = (pq : Int) := by rw [IntKind.wrap_i64]; omega
          have ec2 : (((i : Int) + (j : Int)) / 2).toNat = jN2 := by omega
          have pc2 : (0 : Int) ≤ ((i : Int) + (j : Int)) / 2 := by omega
          have bc2 : ((i : Int) + (j : Int)) / 2 < (len : Int) := by omega
          have rc2 : IntKind.i64.wrap (((i : Int) + (j : Int)) / 2) = ((i : Int) + (j : Int)) / 2 := by rw [IntKind.wrap_i64]; omega
          obtain ⟨x2, hx2⟩ : ∃ x, x = d[pq]! := ⟨_, rfl⟩
          obtain ⟨y2, hy2⟩ : ∃ x, x = d[h]! := ⟨_, rfl⟩
          have l2a := S1.out.cl R (by omega) (pq) (by omega)
          rw [← hx2, ← hiN2] at l2a
          have l2b := S1.out.cl R (by omega) (h) (by omega)
          rw [← hy2, ← hjN2] at l2b
          have hc2 := S1.out.cmp HC.out (by omega) x2 y2
          have hv2 : cf x2 y2 < 0 := by rw [hx2, hy2]; exact of_decide_eq_true hlv
          have hd2 : decide (cf x2 y2 < 0) = true := decide_eq_true hv2
          clear hx2 hy2 hiN2 hjN2
          go_wp2_with fail
          go_quiet_grown (first | (go_at_fn g; refine Calls.grown_of (hc2 _ _)))
          have S2 : Aside (SW (fun x => Value.int .i64 (v x)) w0 blk off d (grow (wr.drewN nq) osq)) := S1.out.grown nq osq
          clear l2a l2b hc2 S1
          generalize grow (wr.drewN nq) osq = w2 at S2 ⊢
          clear nq osq
          clear ea2 ec2
          go_wp2
          go_roundg (h - i)
          case measure => omega
          case rel => exact ⟨i, h, rfl, by first | rfl | (congr 1; omega), Nat.le_refl _, by omega, by omega, S2, HF.out.dn (c := h) (by omega) (by omega) (by rw [EY.out]; exact hlv)⟩
      · have hltz : ¬ (i : Int) < (j : Int) := by omega
        obtain rfl : i = j := by omega
        clear hij hkx
        have g1 := HF.out.h1
        have g3 := HF.out.h3
        obtain ⟨e, he⟩ : ∃ e, e = mid + m - i := ⟨_, rfl⟩
        have hN := HN.out
        have hmid := HM.out
        have ze : (N : Int) - (i : Int) = (e : Int) := by omega
        have zf : IntKind.i64.wrap (e : Int) = (e : Int) := by rw [IntKind.wrap_i64]; omega
        have hcut : Cut (ltOf cf) a m b i i d := HF.out
        have hH : ∀ d1, Rot d i m e d1 → Halves (ltOf cf) Rl a i mid e b d1 := fun d1 h => by
          have := halves HT.out ham hmb (by omega) HS1.out HS2.out HCr.out hcut (dk := d1) (by rw [← hmid, ← he]; exact h)
          rw [← hmid, ← he] at this
          exact this
        have hRot : (i : Int) < (m : Int) → (m : Int) < (e : Int) → Calls Try.prog 96 #[.slice (some ⟨blk, off, none⟩) len cap, .int .i64 i, .int .i64 m, .int .i64 e, .func (.func g) #[] cb] wr fun e' w' => e' = .returned (.tuple #[]) ∧ ∃ d', SW (fun x => Value.int .i64 (v x)) w0 blk off d' w' ∧ Rot d i m e d' := fun h3 h4 => by
          have := rotate v g cb blk off len cap i m e d0 d w0 wr R hs hl S1.out (by omega) (by omega) (by omega) (by omega)
          exact this
        have hNRot : ¬ ((i : Int) < (m : Int) ∧ (m : Int) < (e : Int)) → Rot d i m e d := fun h3 => by
          by_cases c : i < m
          · rw [show e = m by omega]; exact Rot.noRight d i m (by omega)
          · obtain rfl : i = m := by omega
            exact Rot.noLeft d i e (by omega)
        have hsz1 : ∀ d1, Rot d i m e d1 → d1.size = len := fun d1 h => (psz h.pm).trans hl
        have hL : (a : Int) < (i : Int) → (i : Int) < ((a : Int) + (b : Int)) / 2 → ∀ d1 w1, SW (fun x => Value.int .i64 (v x)) w0 blk off d1 w1 → Rot d i m e d1 → Calls Try.prog 95 #[.slice (some ⟨blk, off, none⟩) len cap, .int .i64 a, .int .i64 i, .int .i64 (((a : Int) + (b : Int)) / 2), .func (.func g) #[] cb] w1 fun e' w' => e' = .returned (.tuple #[]) ∧ ∃ d', SW (fun x => Value.int .i64 (v x)) w0 blk off d' w' ∧ MG Rl a mid d1 d' := fun h3 h4 d1 w1 hS h => by
          have hh := hH d1 h
          have := HIH.out a i mid d1 w1 (by omega) (hsz1 d1 h) hS (by omega) (by omega) (by omega) hh.l1 hh.l2 hh.l3
          rw [show ((mid : Nat) : Int) = ((a : Int) + (b : Int)) / 2 by omega] at this
          exact this
        have hRi : ((a : Int) + (b : Int)) / 2 < (e : Int) → (e : Int) < (b : Int) → ∀ d1 d2 w1, SW (fun x => Value.int .i64 (v x)) w0 blk off d2 w1 → Rot d i m e d1 → MG Rl a mid d1 d2 → Calls Try.prog 95 #[.slice (some ⟨blk, off, none⟩) len cap, .int .i64 (((a : Int) + (b : Int)) / 2), .int .i64 e, .int .i64 b, .func (.func g) #[] cb] w1 fun e' w' => e' = .returned (.tuple #[]) ∧ ∃ d', SW (fun x => Value.int .i64 (v x)) w0 blk off d' w' ∧ MG Rl mid b d2 d' := fun h3 h4 d1 d2 w1 hS h hM => by
          obtain ⟨x1, x2, x3⟩ := (hH d1 h).right hM (by omega)
          have := HIH.out mid e b d2 w1 (by omega) ((psz hM.1).trans (hsz1 d1 h)) hS (by omega) (by omega) (by omega) x1 x2 x3
          rw [show ((mid : Nat) : Int) = ((a : Int) + (b : Int)) / 2 by omega] at this
          exact this
        have hNL : ¬ ((a : Int) < (i : Int) ∧ (i : Int) < ((a : Int) + (b : Int)) / 2) → ∀ d1, Rot d i m e d1 → MG Rl a mid d1 d1 := fun h3 d1 h => (hH d1 h).noLeft (by omega) (by omega)
        have hNR : ¬ (((a : Int) + (b : Int)) / 2 < (e : Int) ∧ (e : Int) < (b : Int)) → ∀ d1 d2, Rot d i m e d1 → MG Rl a mid d1 d2 → MG Rl mid b d2 d2 := fun h3 d1 d2 h hM => (hH d1 h).noRight (by omega) (by omega) hM (by omega)
        have hEnd : ∀ d1 d2 d3 w1, SW (fun x => Value.int .i64 (v x)) w0 blk off d3 w1 → Rot d i m e d1 → MG Rl a mid d1 d2 → MG Rl mid b d2 d3 → ∃ d', SW (fun x => Value.int .i64 (v x)) w0 blk off d' w1 ∧ MG Rl a b d d' := fun d1 d2 d3 w1 hS h hM hM2 =>
          ⟨d3, hS, (hH d1 h).done (by omega) (by omega) (by have := hsz1 d1 h; omega) (permIn_mono d d1 i e a b (by omega) (by omega) (by omega) h.pm) hM hM2⟩
        have AH : Aside _ := hRot
        have AL : Aside _ := hL
        have AR : Aside _ := hRi
        have ANL : Aside _ := hNL
        have ANR : Aside _ := hNR
        have AE : Aside _ := hEnd
        have ANo : Aside _ := hNRot
        have HE : Aside _ := he
        clear he hN hmid
        clear hH hRot hL hRi hNL hNR hEnd hNRot hsz1 hcut
        clear z1 z2 z3 z4 z5 z6 z7 z8 z9 z10 q1 q2 q3 q4 q5 g1 g3 hjm HF HCr HS1 HS2 HT HC HIH hs hl hsz R eg h1 h2 ham hmb hb
        have way : ∀ p q : Prop, (p ∧ q) ∨ (p ∧ ¬ q) ∨ ¬ p := fun p q => by
          by_cases c : p
          · by_cases c2 : q
            · exact .inl ⟨c, c2⟩
            · exact .inr (.inl ⟨c, c2⟩)
          · exact .inr (.inr c)
        go_upto_region 39 with (fail)
        rename_i aJ aH K2 aL KB aB K0 a0
        clear aJ aH aL
        have hB : ∀ (x5 x6 x7 x8 x9 x10 x11 x12 x13 x14 x15 x16 x17 x19 x21 x22 x23 x25 x26 x27 x28 x29 x30 x31 x32 x33 x34 x35 x36 x37 x38 x39 x40 x41 x42 x43 x44 x45 x46 x47 x48 x49 x50 x51 x52 x53 x54 x55 x56 x57 x58 x59 x60 x61 x62 x63 x64 x65 x66 x67 x68 x69 x70 x71 x72 x73 x74 x75 x76 x77 x78 x79 x80 x81 x82 x83 x84 x85 x86 x87 x88 x89 x90 x91 x92 x93 x94 x95 x96 x97 x98 x99 x100 x101 x102 x103 x104 x105 x106 x107 x108 x109 x110 x111 x112 x113 x114 x115 x116 x117 x118 x119 x120 x121 x122 x123 x124 x125 x126 x127 x128 x129 x130 x131 x132 x133 x134 x135 x136 x137 x138 x139 x140 x141 x142 x143 x144 x145 x146 x147 x148 x149 x150 x151 x152 x153 x154 x155 x156 x157 x158 x159 x160 x161 x162 x163 x164 x165 x166 x167 x168 x169 x170 x171 x172 x173 x174 x175 x176 x177 x178 x179 x180 x181 x182 x183 x184 x185 x186 x187 x188 x189 x190 x191 x192 x193 x194 x195 x196 x197 x198 x199 x200 x201 x202 x203 x204 x205 x206 x207 x208 x209 x210 x211 x212 x213 x214 x215 x216 x217 x218 x219 : Value) (w1 : World) (d1 : Array α), Aside (SW (fun x => Value.int .i64 (v x)) w0 blk off d1 w1) → Aside (Rot d i m e d1) → KB { tmps := #[Value.slice (some ⟨blk, off, none⟩) len cap, Value.int .i64 (a : Int), Value.int .i64 (m : Int), Value.int .i64 (b : Int), Value.func (Fn.func g) #[] cb, x5, x6, x7, x8, x9, x10, x11, x12, x13, x14, x15, x16, x17, Value.int .i64 (((a : Int) + (b : Int)) / 2), x19, Value.int .i64 (i : Int), x21, x22, x23, Value.int .i64 (e : Int), x25, x26, x27, x28, x29, x30, x31, x32, x33, x34, x35, x36, x37, x38, x39, x40, x41, x42, x43, x44, x45, x46, x47, x48, x49, x50, x51, x52, x53, x54, x55, x56, x57, x58, x59, x60, x61, x62, x63, x64, x65, x66, x67, x68, x69, x70, x71, x72, x73, x74, x75, x76, x77, x78, x79, x80, x81, x82, x83, x84, x85, x86, x87, x88, x89, x90, x91, x92, x93, x94, x95, x96, x97, x98, x99, x100, x101, x102, x103, x104, x105, x106, x107, x108, x109, x110, x111, x112, x113, x114, x115, x116, x117, x118, x119, x120, x121, x122, x123, x124, x125, x126, x127, x128, x129, x130, x131, x132, x133, x134, x135, x136, x137, x138, x139, x140, x141, x142, x143, x144, x145, x146, x147, x148, x149, x150, x151, x152, x153, x154, x155, x156, x157, x158, x159, x160, x161, x162, x163, x164, x165, x166, x167, x168, x169, x170, x171, x172, x173, x174, x175, x176, x177, x178, x179, x180, x181, x182, x183, x184, x185, x186, x187, x188, x189, x190, x191, x192, x193, x194, x195, x196, x197, x198, x199, x200, x201, x202, x203, x204, x205, x206, x207, x208, x209, x210, x211, x212, x213, x214, x215, x216, x217, x218, x219], defers := [] } w1 := by
          intro x5 x6 x7 x8 x9 x10 x11 x12 x13 x14 x15 x16 x17 x19 x21 x22 x23 x25 x26 x27 x28 x29 x30 x31 x32 x33 x34 x35 x36 x37 x38 x39 x40 x41 x42 x43 x44 x45 x46 x47 x48 x49 x50 x51 x52 x53 x54 x55 x56 x57 x58 x59 x60 x61 x62 x63 x64 x65 x66 x67 x68 x69 x70 x71 x72 x73 x74 x75 x76 x77 x78 x79 x80 x81 x82 x83 x84 x85 x86 x87 x88 x89 x90 x91 x92 x93 x94 x95 x96 x97 x98 x99 x100 x101 x102 x103 x104 x105 x106 x107 x108 x109 x110 x111 x112 x113 x114 x115 x116 x117 x118 x119 x120 x121 x122 x123 x124 x125 x126 x127 x128 x129 x130 x131 x132 x133 x134 x135 x136 x137 x138 x139 x140 x141 x142 x143 x144 x145 x146 x147 x148 x149 x150 x151 x152 x153 x154 x155 x156 x157 x158 x159 x160 x161 x162 x163 x164 x165 x166 x167 x168 x169 x170 x171 x172 x173 x174 x175 x176 x177 x178 x179 x180 x181 x182 x183 x184 x185 x186 x187 x188 x189 x190 x191 x192 x193 x194 x195 x196 x197 x198 x199 x200 x201 x202 x203 x204 x205 x206 x207 x208 x209 x210 x211 x212 x213 x214 x215 x216 x217 x218 x219 w1 d1 S2 HR
          refine aB _ _ ?_
          clear aB a0 S1
          go_upto_region 41 with (fail)
          rename_i KC aC K0 a0
          have hC : ∀ (x5 x6 x7 x8 x9 x10 x11 x12 x13 x14 x15 x16 x17 x19 x21 x22 x23 x25 x26 x27 x28 x29 x30 x31 x32 x33 x34 x35 x36 x37 x38 x39 x40 x41 x42 x43 x44 x45 x46 x47 x48 x49 x50 x51 x52 x53 x54 x55 x56 x57 x58 x59 x60 x61 x62 x63 x64 x65 x66 x67 x68 x69 x70 x71 x72 x73 x74 x75 x76 x77 x78 x79 x80 x81 x82 x83 x84 x85 x86 x87 x88 x89 x90 x91 x92 x93 x94 x95 x96 x97 x98 x99 x100 x101 x102 x103 x104 x105 x106 x107 x108 x109 x110 x111 x112 x113 x114 x115 x116 x117 x118 x119 x120 x121 x122 x123 x124 x125 x126 x127 x128 x129 x130 x131 x132 x133 x134 x135 x136 x137 x138 x139 x140 x141 x142 x143 x144 x145 x146 x147 x148 x149 x150 x151 x152 x153 x154 x155 x156 x157 x158 x159 x160 x161 x162 x163 x164 x165 x166 x167 x168 x169 x170 x171 x172 x173 x174 x175 x176 x177 x178 x179 x180 x181 x182 x183 x184 x185 x186 x187 x188 x189 x190 x191 x192 x193 x194 x195 x196 x197 x198 x199 x200 x201 x202 x203 x204 x205 x206 x207 x208 x209 x210 x211 x212 x213 x214 x215 x216 x217 x218 x219 : Value) (w1 : World) (d2 : Array α), Aside (SW (fun x => Value.int .i64 (v x)) w0 blk off d2 w1) → Aside (MG Rl a mid d1 d2) → KC { tmps := #[Value.slice (some ⟨blk, off, none⟩) len cap, Value.int .i64 (a : Int), Value.int .i64 (m : Int), Value.int .i64 (b : Int), Value.func (Fn.func g) #[] cb, x5, x6, x7, x8, x9, x10, x11, x12, x13, x14, x15, x16, x17, Value.int .i64 (((a : Int) + (b : Int)) / 2), x19, Value.int .i64 (i : Int), x21, x22, x23, Value.int .i64 (e : Int), x25, x26, x27, x28, x29, x30, x31, x32, x33, x34, x35, x36, x37, x38, x39, x40, x41, x42, x43, x44, x45, x46, x47, x48, x49, x50, x51, x52, x53, x54, x55, x56, x57, x58, x59, x60, x61, x62, x63, x64, x65, x66, x67, x68, x69, x70, x71, x72, x73, x74, x75, x76, x77, x78, x79, x80, x81, x82, x83, x84, x85, x86, x87, x88, x89, x90, x91, x92, x93, x94, x95, x96, x97, x98, x99, x100, x101, x102, x103, x104, x105, x106, x107, x108, x109, x110, x111, x112, x113, x114, x115, x116, x117, x118, x119, x120, x121, x122, x123, x124, x125, x126, x127, x128, x129, x130, x131, x132, x133, x134, x135, x136, x137, x138, x139, x140, x141, x142, x143, x144, x145, x146, x147, x148, x149, x150, x151, x152, x153, x154, x155, x156, x157, x158, x159, x160, x161, x162, x163, x164, x165, x166, x167, x168, x169, x170, x171, x172, x173, x174, x175, x176, x177, x178, x179, x180, x181, x182, x183, x184, x185, x186, x187, x188, x189, x190, x191, x192, x193, x194, x195, x196, x197, x198, x199, x200, x201, x202, x203, x204, x205, x206, x207, x208, x209, x210, x211, x212, x213, x214, x215, x216, x217, x218, x219], defers := [] } w1 := by
            intro x5 x6 x7 x8 x9 x10 x11 x12 x13 x14 x15 x16 x17 x19 x21 x22 x23 x25 x26 x27 x28 x29 x30 x31 x32 x33 x34 x35 x36 x37 x38 x39 x40 x41 x42 x43 x44 x45 x46 x47 x48 x49 x50 x51 x52 x53 x54 x55 x56 x57 x58 x59 x60 x61 x62 x63 x64 x65 x66 x67 x68 x69 x70 x71 x72 x73 x74 x75 x76 x77 x78 x79 x80 x81 x82 x83 x84 x85 x86 x87 x88 x89 x90 x91 x92 x93 x94 x95 x96 x97 x98 x99 x100 x101 x102 x103 x104 x105 x106 x107 x108 x109 x110 x111 x112 x113 x114 x115 x116 x117 x118 x119 x120 x121 x122 x123 x124 x125 x126 x127 x128 x129 x130 x131 x132 x133 x134 x135 x136 x137 x138 x139 x140 x141 x142 x143 x144 x145 x146 x147 x148 x149 x150 x151 x152 x153 x154 x155 x156 x157 x158 x159 x160 x161 x162 x163 x164 x165 x166 x167 x168 x169 x170 x171 x172 x173 x174 x175 x176 x177 x178 x179 x180 x181 x182 x183 x184 x185 x186 x187 x188 x189 x190 x191 x192 x193 x194 x195 x196 x197 x198 x199 x200 x201 x202 x203 x204 x205 x206 x207 x208 x209 x210 x211 x212 x213 x214 x215 x216 x217 x218 x219 w1 d2 S3 HL
            refine aC _ _ ?_
            clear aC a0 S2
            rcases way (((a : Int) + (b : Int)) / 2 < (e : Int)) ((e : Int) < (b : Int)) with ⟨c3, k3⟩ | ⟨c3, k3⟩ | c3
            · go_wp2_with (go_at_call 95; refine (AR.out c3 k3 d1 d2 _ S3 HR HL).mono ?_; rintro _ w4 ⟨rfl, d3, S4, HQ⟩)
              go_end0
              exact ⟨rfl, AE.out d1 d2 d3 _ S4 HR HL HQ⟩
            · have HQ := ANR.out (fun h => k3 h.2) d1 d2 HR HL
              go_wp2
              go_end0
              exact ⟨rfl, AE.out d1 d2 d2 _ S3 HR HL HQ⟩
            · have HQ := ANR.out (fun h => c3 h.1) d1 d2 HR HL
              go_wp2
              go_end0
              exact ⟨rfl, AE.out d1 d2 d2 _ S3 HR HL HQ⟩
          clear aC
          rcases way ((a : Int) < (i : Int)) ((i : Int) < ((a : Int) + (b : Int)) / 2) with ⟨c2, k2⟩ | ⟨c2, k2⟩ | c2
          · go_wp2_with (go_at_call 95; refine (AL.out c2 k2 d1 _ S2 HR).mono ?_; rintro _ w3 ⟨rfl, d2, S3, HL⟩)
            apply hC
            · exact S3
            · exact HL
          · have HL := ANL.out (fun h => k2 h.2) d1 HR
            go_wp2
            apply hC
            · exact S2
            · exact HL
          · have HL := ANL.out (fun h => c2 h.1) d1 HR
            go_wp2
            apply hC
            · exact S2
            · exact HL
        clear aB
        rcases way ((i : Int) < (m : Int)) ((m : Int) < (e : Int)) with ⟨c1, k1⟩ | ⟨c1, k1⟩ | c1
        · go_wp2_with (go_at_call 96; refine (AH.out c1 k1).mono ?_; rintro _ w2 ⟨rfl, d1, S2, HR⟩)
          apply hB
          · exact S2
          · exact HR
        · have HR := ANo.out (fun h => k1 h.2)
          go_wp2
          apply hB
          · exact S1
          · exact HR
        · have HR := ANo.out (fun h => c1 h.1)
          go_wp2
          apply hB
          · exact S1
          · exact HR
  clear a1
  rcases Nat.lt_or_ge mid m with hm | hm
  · have hmz : ((a : Int) + (b : Int)) / 2 < (m : Int) := by have := HM.out; omega
    go_wp2
    have hN := HN.out
    have BB := HBB.out
    apply hA
    · congr 1; omega
    · have hmid := HM.out
      congr 1; omega
  · have hmz : ¬ ((a : Int) + (b : Int)) / 2 < (m : Int) := by have := HM.out; omega
    go_wp2
    have hN := HN.out
    have BB := HBB.out
    apply hA
    · congr 1; omega
    · congr 1; omega
end Go.Proofs.Ytlhcohipnieidaa.St
