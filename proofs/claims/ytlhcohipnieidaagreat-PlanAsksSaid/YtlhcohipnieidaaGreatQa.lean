/- Several texts as one (written by a program): what the walks and the plain laws come to, one behind the other. -/
import Derived.Test.YtlhcohipnieidaaGreatProg
import Derived.Below
import Derived.Deep.Draws
import Derived.Deep.AppendLies
import Derived.Maps.AppendAt
import Derived.OwnWalk
import Derived.Laws.BytesArg
import Derived.Laws.MakeOwn
import Derived.Laws.OwnMore
import Derived.Deep.OwnRows
import Derived.Tactics
import Derived.Lib.ConvBytes
import Derived.Laws.Slices
import Derived.WalkKit
import Derived.KernelRfl
import Derived.RowKit3
import Derived.Deep.LoopGhost
import Derived.Deep.QuietTactic
import Derived.BigQuiet
import Derived.WideLaws
import Derived.Deep.DeepCutAuto
import Derived.Deep.CutBlock
import Derived.Deep.RegionHeld3
import Derived.Laws.Rows
import Derived.Lib.AppendStr
import Derived.ArgAppend
import Derived.Laws.IdiomCopy
import Derived.OrdersHeld
import Derived.Laws.BitsLemmas
import Derived.RowKit
import Derived.Defers
import Derived.Recover
import Derived.WalkLawsBesides
import Derived.WalkMore
import Derived.Test.YtlhcohipnieidaaGreatWWords
import Derived.Test.YtlhcohipnieidaaGreatWAll
import Derived.Laws.CopyOwn
import Derived.Deep.RegionHeld2
namespace Go.Proofs.YtlhcohipnieidaaGreat.P
open Go.RowKit W.PrintWords W.PrintLast W.PrintMore
attribute [local go_sem] qX8 qWa qWu qWv qXt qXu qX9 qWb
set_option linter.unusedVariables false
set_option linter.unusedSimpArgs false
def errW : Option Int -> Value
 | none => .nilIface
 | some c => .iface 0 (.int .i64 c)
theorem qQj : errW none = .nilIface := rfl
theorem qQk (c : Int) : errW (some c) = .iface 0 (.int .i64 c) := rfl
theorem info2 : (Tryz.prog.info? 2).map (fun i => (i.zero, i.size, i.bytes)) = some (some (.int .i64 0), 1, 8) := by kernel_rfl
theorem info3 : (Tryz.prog.info? 3).map (fun i => (i.zero, i.size, i.bytes)) = some (some (.int .i64 0), 1, 8) := by kernel_rfl
theorem info48 : (Tryz.prog.info? 48).map (fun i => (i.zero, i.size, i.bytes)) = some (some (.agg #[(.int .i64 0), (.int .i64 0), (.int .i64 0), (.int .i64 0), (.int .i64 0), (.int .i64 0), (.bool false), (.int .i64 0), (.int .i64 0), (.int .i64 0), (.int .i64 0), (.int .i64 0), (.int .i64 0)]), 13, 104) := by kernel_rfl
theorem info54 : (Tryz.prog.info? 54).map (fun i => (i.zero, i.size, i.bytes)) = some (some (.agg #[(.int .i64 0), (.int .i64 0), (.int .i64 0), (.int .i64 0), (.int .i64 0), (.slice none 0 0)]), 6, 64) := by kernel_rfl
theorem info102 : (Tryz.prog.info? 102).map (fun i => (i.zero, i.size, i.bytes)) = some (some (.int .u64 0), 1, 8) := by kernel_rfl
-- the values' own types
structure S54 where
 f0 : Int
 f1 : Int
 f2 : Int
 f3 : Int
 f4 : Int
 f5 : (List Int)
def z54 : S54 := ⟨(0 : Int), (0 : Int), (0 : Int), (0 : Int), (0 : Int), ([] : List Int)⟩
def k54 : Kd S54 := Kd.iso (Kd.pair (Kd.int .i64) (Kd.pair (Kd.int .i64) (Kd.pair (Kd.int .i64) (Kd.pair (Kd.int .i64) (Kd.pair (Kd.int .i64) (Kd.slice 3 (Kd.int .i64))))))) (fun x : S54 => (x.f0, x.f1, x.f2, x.f3, x.f4, x.f5))
theorem zV2 {w : World} {x : S54} {cs : List Value} (h : k54.K w x cs) : ∃ A5 c5, cs = [.int .i64 x.f0, .int .i64 x.f1, .int .i64 x.f2, .int .i64 x.f3, .int .i64 x.f4, .slice A5 x.f5.length c5] /\ x.f5.length <= c5 /\ (Kd.int .i64).C w A5 x.f5.length x.f5 := by
 obtain ⟨_, _, rfl, rfl, ⟨_, _, rfl, rfl, ⟨_, _, rfl, rfl, ⟨_, _, rfl, rfl, ⟨_, _, rfl, rfl, ⟨A5, c5, rfl, l5, g5⟩⟩⟩⟩⟩⟩ := h
 exact ⟨A5, c5, rfl, l5, g5⟩
theorem k54_mk (w : World) (x : S54) {A5 : Option Addr} {c5 : Nat} (l5 : x.f5.length <= c5) (g5 : (Kd.int .i64).C w A5 x.f5.length x.f5) : k54.K w x [.int .i64 x.f0, .int .i64 x.f1, .int .i64 x.f2, .int .i64 x.f3, .int .i64 x.f4, .slice A5 x.f5.length c5] := ⟨[.int .i64 x.f0], [.int .i64 x.f1, .int .i64 x.f2, .int .i64 x.f3, .int .i64 x.f4, .slice A5 x.f5.length c5], rfl, rfl, ⟨[.int .i64 x.f1], [.int .i64 x.f2, .int .i64 x.f3, .int .i64 x.f4, .slice A5 x.f5.length c5], rfl, rfl, ⟨[.int .i64 x.f2], [.int .i64 x.f3, .int .i64 x.f4, .slice A5 x.f5.length c5], rfl, rfl, ⟨[.int .i64 x.f3], [.int .i64 x.f4, .slice A5 x.f5.length c5], rfl, rfl, ⟨[.int .i64 x.f4], [.slice A5 x.f5.length c5], rfl, rfl, ⟨A5, c5, rfl, l5, g5⟩⟩⟩⟩⟩⟩
theorem zJn (w : World) (base : Nat) (ok : Nat -> Prop) (x : S54) {v5 : Value} (g5 : (Kd.int .i64).R 3 w base ok v5 x.f5) : k54.M w base ok x [.int .i64 x.f0, .int .i64 x.f1, .int .i64 x.f2, .int .i64 x.f3, .int .i64 x.f4, v5] := ⟨[.int .i64 x.f0], [.int .i64 x.f1, .int .i64 x.f2, .int .i64 x.f3, .int .i64 x.f4, v5], rfl, rfl, ⟨[.int .i64 x.f1], [.int .i64 x.f2, .int .i64 x.f3, .int .i64 x.f4, v5], rfl, rfl, ⟨[.int .i64 x.f2], [.int .i64 x.f3, .int .i64 x.f4, v5], rfl, rfl, ⟨[.int .i64 x.f3], [.int .i64 x.f4, v5], rfl, rfl, ⟨[.int .i64 x.f4], [v5], rfl, rfl, ⟨v5, rfl, g5⟩⟩⟩⟩⟩⟩
def qQu (xs : List S54) (i : Int) : S54 := xs.getD i.toNat z54
theorem zQm {w : World} {A : Option Addr} {n : Nat} {xs : List S54} (h : Kd.C k54 w A n xs) (i : Int) (h0 : 0 <= i) (h1 : i < n) : ∃ ad A5 c5, A = some ad /\ w.cell? (ad.add (i.toNat * 6)) = some (.int .i64 (qQu xs i).f0) /\ w.cell? ⟨(ad.add (i.toNat * 6)).block, (ad.add (i.toNat * 6)).off + 1, none⟩ = some (.int .i64 (qQu xs i).f1) /\ w.cell? ⟨(ad.add (i.toNat * 6)).block, (ad.add (i.toNat * 6)).off + 2, none⟩ = some (.int .i64 (qQu xs i).f2) /\ w.cell? ⟨(ad.add (i.toNat * 6)).block, (ad.add (i.toNat * 6)).off + 3, none⟩ = some (.int .i64 (qQu xs i).f3) /\ w.cell? ⟨(ad.add (i.toNat * 6)).block, (ad.add (i.toNat * 6)).off + 4, none⟩ = some (.int .i64 (qQu xs i).f4) /\ w.cell? ⟨(ad.add (i.toNat * 6)).block, (ad.add (i.toNat * 6)).off + 5, none⟩ = some (.slice A5 (qQu xs i).f5.length c5) /\ (qQu xs i).f5.length <= c5 /\ (Kd.int .i64).C w A5 (qQu xs i).f5.length (qQu xs i).f5 := by
 obtain ⟨ad, c, e, _, hK, hc0⟩ := Kd.C_get h z54 i h0 h1
 have hc : ∀ j u, c[j]? = some u -> w.cell? (ad.add (i.toNat * 6 + j)) = some u := hc0
 obtain ⟨A5, c5, rfl, l5, g5⟩ := zV2 hK
 exact ⟨ad, A5, c5, e, hc 0 _ rfl, by rw [<- qXd _ _ 1 (by omega)]; exact hc 1 _ rfl, by rw [<- qXd _ _ 2 (by omega)]; exact hc 2 _ rfl, by rw [<- qXd _ _ 3 (by omega)]; exact hc 3 _ rfl, by rw [<- qXd _ _ 4 (by omega)]; exact hc 4 _ rfl, by rw [<- qXd _ _ 5 (by omega)]; exact hc 5 _ rfl, l5, g5⟩
structure S48 where
 f0 : Int
 f1 : Int
 f2 : Int
 f3 : Int
 f4 : Int
 f5 : Int
 f6 : Bool
 f7 : Int
 f8 : Int
 f9 : Int
 f10 : Int
 f11 : Int
 f12 : Int
def z48 : S48 := ⟨(0 : Int), (0 : Int), (0 : Int), (0 : Int), (0 : Int), (0 : Int), false, (0 : Int), (0 : Int), (0 : Int), (0 : Int), (0 : Int), (0 : Int)⟩
def k48 : Kd S48 := Kd.iso (Kd.pair (Kd.int .i64) (Kd.pair (Kd.int .i64) (Kd.pair (Kd.int .i64) (Kd.pair (Kd.int .i64) (Kd.pair (Kd.int .i64) (Kd.pair (Kd.int .i64) (Kd.pair Kd.bool (Kd.pair (Kd.int .i64) (Kd.pair (Kd.int .i64) (Kd.pair (Kd.int .i64) (Kd.pair (Kd.int .i64) (Kd.pair (Kd.int .i64) (Kd.int .i64))))))))))))) (fun x : S48 => (x.f0, x.f1, x.f2, x.f3, x.f4, x.f5, x.f6, x.f7, x.f8, x.f9, x.f10, x.f11, x.f12))
theorem zV1 {w : World} {x : S48} {cs : List Value} (h : k48.K w x cs) : cs = [.int .i64 x.f0, .int .i64 x.f1, .int .i64 x.f2, .int .i64 x.f3, .int .i64 x.f4, .int .i64 x.f5, .bool x.f6, .int .i64 x.f7, .int .i64 x.f8, .int .i64 x.f9, .int .i64 x.f10, .int .i64 x.f11, .int .i64 x.f12] := by
 obtain ⟨_, _, rfl, rfl, ⟨_, _, rfl, rfl, ⟨_, _, rfl, rfl, ⟨_, _, rfl, rfl, ⟨_, _, rfl, rfl, ⟨_, _, rfl, rfl, ⟨_, _, rfl, rfl, ⟨_, _, rfl, rfl, ⟨_, _, rfl, rfl, ⟨_, _, rfl, rfl, ⟨_, _, rfl, rfl, ⟨_, _, rfl, rfl, rfl⟩⟩⟩⟩⟩⟩⟩⟩⟩⟩⟩⟩ := h
 exact rfl
theorem k48_mk (w : World) (x : S48)  : k48.K w x [.int .i64 x.f0, .int .i64 x.f1, .int .i64 x.f2, .int .i64 x.f3, .int .i64 x.f4, .int .i64 x.f5, .bool x.f6, .int .i64 x.f7, .int .i64 x.f8, .int .i64 x.f9, .int .i64 x.f10, .int .i64 x.f11, .int .i64 x.f12] := ⟨[.int .i64 x.f0], [.int .i64 x.f1, .int .i64 x.f2, .int .i64 x.f3, .int .i64 x.f4, .int .i64 x.f5, .bool x.f6, .int .i64 x.f7, .int .i64 x.f8, .int .i64 x.f9, .int .i64 x.f10, .int .i64 x.f11, .int .i64 x.f12], rfl, rfl, ⟨[.int .i64 x.f1], [.int .i64 x.f2, .int .i64 x.f3, .int .i64 x.f4, .int .i64 x.f5, .bool x.f6, .int .i64 x.f7, .int .i64 x.f8, .int .i64 x.f9, .int .i64 x.f10, .int .i64 x.f11, .int .i64 x.f12], rfl, rfl, ⟨[.int .i64 x.f2], [.int .i64 x.f3, .int .i64 x.f4, .int .i64 x.f5, .bool x.f6, .int .i64 x.f7, .int .i64 x.f8, .int .i64 x.f9, .int .i64 x.f10, .int .i64 x.f11, .int .i64 x.f12], rfl, rfl, ⟨[.int .i64 x.f3], [.int .i64 x.f4, .int .i64 x.f5, .bool x.f6, .int .i64 x.f7, .int .i64 x.f8, .int .i64 x.f9, .int .i64 x.f10, .int .i64 x.f11, .int .i64 x.f12], rfl, rfl, ⟨[.int .i64 x.f4], [.int .i64 x.f5, .bool x.f6, .int .i64 x.f7, .int .i64 x.f8, .int .i64 x.f9, .int .i64 x.f10, .int .i64 x.f11, .int .i64 x.f12], rfl, rfl, ⟨[.int .i64 x.f5], [.bool x.f6, .int .i64 x.f7, .int .i64 x.f8, .int .i64 x.f9, .int .i64 x.f10, .int .i64 x.f11, .int .i64 x.f12], rfl, rfl, ⟨[.bool x.f6], [.int .i64 x.f7, .int .i64 x.f8, .int .i64 x.f9, .int .i64 x.f10, .int .i64 x.f11, .int .i64 x.f12], rfl, rfl, ⟨[.int .i64 x.f7], [.int .i64 x.f8, .int .i64 x.f9, .int .i64 x.f10, .int .i64 x.f11, .int .i64 x.f12], rfl, rfl, ⟨[.int .i64 x.f8], [.int .i64 x.f9, .int .i64 x.f10, .int .i64 x.f11, .int .i64 x.f12], rfl, rfl, ⟨[.int .i64 x.f9], [.int .i64 x.f10, .int .i64 x.f11, .int .i64 x.f12], rfl, rfl, ⟨[.int .i64 x.f10], [.int .i64 x.f11, .int .i64 x.f12], rfl, rfl, ⟨[.int .i64 x.f11], [.int .i64 x.f12], rfl, rfl, rfl⟩⟩⟩⟩⟩⟩⟩⟩⟩⟩⟩⟩
theorem zZr (w : World) (base : Nat) (ok : Nat -> Prop) (x : S48)  : k48.M w base ok x [.int .i64 x.f0, .int .i64 x.f1, .int .i64 x.f2, .int .i64 x.f3, .int .i64 x.f4, .int .i64 x.f5, .bool x.f6, .int .i64 x.f7, .int .i64 x.f8, .int .i64 x.f9, .int .i64 x.f10, .int .i64 x.f11, .int .i64 x.f12] := ⟨[.int .i64 x.f0], [.int .i64 x.f1, .int .i64 x.f2, .int .i64 x.f3, .int .i64 x.f4, .int .i64 x.f5, .bool x.f6, .int .i64 x.f7, .int .i64 x.f8, .int .i64 x.f9, .int .i64 x.f10, .int .i64 x.f11, .int .i64 x.f12], rfl, rfl, ⟨[.int .i64 x.f1], [.int .i64 x.f2, .int .i64 x.f3, .int .i64 x.f4, .int .i64 x.f5, .bool x.f6, .int .i64 x.f7, .int .i64 x.f8, .int .i64 x.f9, .int .i64 x.f10, .int .i64 x.f11, .int .i64 x.f12], rfl, rfl, ⟨[.int .i64 x.f2], [.int .i64 x.f3, .int .i64 x.f4, .int .i64 x.f5, .bool x.f6, .int .i64 x.f7, .int .i64 x.f8, .int .i64 x.f9, .int .i64 x.f10, .int .i64 x.f11, .int .i64 x.f12], rfl, rfl, ⟨[.int .i64 x.f3], [.int .i64 x.f4, .int .i64 x.f5, .bool x.f6, .int .i64 x.f7, .int .i64 x.f8, .int .i64 x.f9, .int .i64 x.f10, .int .i64 x.f11, .int .i64 x.f12], rfl, rfl, ⟨[.int .i64 x.f4], [.int .i64 x.f5, .bool x.f6, .int .i64 x.f7, .int .i64 x.f8, .int .i64 x.f9, .int .i64 x.f10, .int .i64 x.f11, .int .i64 x.f12], rfl, rfl, ⟨[.int .i64 x.f5], [.bool x.f6, .int .i64 x.f7, .int .i64 x.f8, .int .i64 x.f9, .int .i64 x.f10, .int .i64 x.f11, .int .i64 x.f12], rfl, rfl, ⟨[.bool x.f6], [.int .i64 x.f7, .int .i64 x.f8, .int .i64 x.f9, .int .i64 x.f10, .int .i64 x.f11, .int .i64 x.f12], rfl, rfl, ⟨[.int .i64 x.f7], [.int .i64 x.f8, .int .i64 x.f9, .int .i64 x.f10, .int .i64 x.f11, .int .i64 x.f12], rfl, rfl, ⟨[.int .i64 x.f8], [.int .i64 x.f9, .int .i64 x.f10, .int .i64 x.f11, .int .i64 x.f12], rfl, rfl, ⟨[.int .i64 x.f9], [.int .i64 x.f10, .int .i64 x.f11, .int .i64 x.f12], rfl, rfl, ⟨[.int .i64 x.f10], [.int .i64 x.f11, .int .i64 x.f12], rfl, rfl, ⟨[.int .i64 x.f11], [.int .i64 x.f12], rfl, rfl, rfl⟩⟩⟩⟩⟩⟩⟩⟩⟩⟩⟩⟩
def qQb (xs : List S48) (i : Int) : S48 := xs.getD i.toNat z48
theorem qXr {w : World} {A : Option Addr} {n : Nat} {xs : List S48} (h : Kd.C k48 w A n xs) (i : Int) (h0 : 0 <= i) (h1 : i < n) : ∃ ad , A = some ad /\ w.cell? (ad.add (i.toNat * 13)) = some (.int .i64 (qQb xs i).f0) /\ w.cell? ⟨(ad.add (i.toNat * 13)).block, (ad.add (i.toNat * 13)).off + 1, none⟩ = some (.int .i64 (qQb xs i).f1) /\ w.cell? ⟨(ad.add (i.toNat * 13)).block, (ad.add (i.toNat * 13)).off + 2, none⟩ = some (.int .i64 (qQb xs i).f2) /\ w.cell? ⟨(ad.add (i.toNat * 13)).block, (ad.add (i.toNat * 13)).off + 3, none⟩ = some (.int .i64 (qQb xs i).f3) /\ w.cell? ⟨(ad.add (i.toNat * 13)).block, (ad.add (i.toNat * 13)).off + 4, none⟩ = some (.int .i64 (qQb xs i).f4) /\ w.cell? ⟨(ad.add (i.toNat * 13)).block, (ad.add (i.toNat * 13)).off + 5, none⟩ = some (.int .i64 (qQb xs i).f5) /\ w.cell? ⟨(ad.add (i.toNat * 13)).block, (ad.add (i.toNat * 13)).off + 6, none⟩ = some (.bool (qQb xs i).f6) /\ w.cell? ⟨(ad.add (i.toNat * 13)).block, (ad.add (i.toNat * 13)).off + 7, none⟩ = some (.int .i64 (qQb xs i).f7) /\ w.cell? ⟨(ad.add (i.toNat * 13)).block, (ad.add (i.toNat * 13)).off + 8, none⟩ = some (.int .i64 (qQb xs i).f8) /\ w.cell? ⟨(ad.add (i.toNat * 13)).block, (ad.add (i.toNat * 13)).off + 9, none⟩ = some (.int .i64 (qQb xs i).f9) /\ w.cell? ⟨(ad.add (i.toNat * 13)).block, (ad.add (i.toNat * 13)).off + 10, none⟩ = some (.int .i64 (qQb xs i).f10) /\ w.cell? ⟨(ad.add (i.toNat * 13)).block, (ad.add (i.toNat * 13)).off + 11, none⟩ = some (.int .i64 (qQb xs i).f11) /\ w.cell? ⟨(ad.add (i.toNat * 13)).block, (ad.add (i.toNat * 13)).off + 12, none⟩ = some (.int .i64 (qQb xs i).f12) := by
 obtain ⟨ad, c, e, _, hK, hc0⟩ := Kd.C_get h z48 i h0 h1
 have hc : ∀ j u, c[j]? = some u -> w.cell? (ad.add (i.toNat * 13 + j)) = some u := hc0
 obtain rfl := zV1 hK
 exact ⟨ad, e, hc 0 _ rfl, by rw [<- qXd _ _ 1 (by omega)]; exact hc 1 _ rfl, by rw [<- qXd _ _ 2 (by omega)]; exact hc 2 _ rfl, by rw [<- qXd _ _ 3 (by omega)]; exact hc 3 _ rfl, by rw [<- qXd _ _ 4 (by omega)]; exact hc 4 _ rfl, by rw [<- qXd _ _ 5 (by omega)]; exact hc 5 _ rfl, by rw [<- qXd _ _ 6 (by omega)]; exact hc 6 _ rfl, by rw [<- qXd _ _ 7 (by omega)]; exact hc 7 _ rfl, by rw [<- qXd _ _ 8 (by omega)]; exact hc 8 _ rfl, by rw [<- qXd _ _ 9 (by omega)]; exact hc 9 _ rfl, by rw [<- qXd _ _ 10 (by omega)]; exact hc 10 _ rfl, by rw [<- qXd _ _ 11 (by omega)]; exact hc 11 _ rfl, by rw [<- qXd _ _ 12 (by omega)]; exact hc 12 _ rfl⟩
class Up (w w' : World) : Prop where
 up : ∀ {g : Nat} {o : Obj}, w.heap[g]? = some o -> w'.heap[g]? = some o
instance (w : World) : Up w w := ⟨fun h => h⟩
instance (w w' : World) (n : Nat) [Up w w'] : Up w (w'.drewN n) := ⟨fun h => qZ4 (Up.up h) n⟩
instance (w w' : World) [Up w w'] : Up w w'.drew := ⟨fun h => qXf (Up.up h)⟩
instance (w w' : World) (o : Obj) [Up w w'] : Up w (w'.alloc o) := ⟨fun h => qYq (Up.up h) o⟩
theorem lc13 {w : World} {g : Nat} {t : TypeId} {v0 v1 v2 v3 v4 v5 v6 v7 v8 v9 cL cO cT : Value} (h : w.heap[g]? = some (.cells #[v0, v1, v2, v3, v4, v5, v6, v7, v8, v9, cL, cO, cT] t (0, 0))) :
  w.cell? ⟨g, 0, none⟩ = some v0 /\ w.cell? ⟨g, 1, none⟩ = some v1 /\ w.cell? ⟨g, 2, none⟩ = some v2 /\ w.cell? ⟨g, 3, none⟩ = some v3 /\ w.cell? ⟨g, 4, none⟩ = some v4 /\ w.cell? ⟨g, 5, none⟩ = some v5 /\ w.cell? ⟨g, 6, none⟩ = some v6 /\ w.cell? ⟨g, 7, none⟩ = some v7 /\ w.cell? ⟨g, 8, none⟩ = some v8 /\ w.cell? ⟨g, 9, none⟩ = some v9 /\ w.cell? ⟨g, 10, none⟩ = some cL /\ w.cell? ⟨g, 11, none⟩ = some cO /\ w.cell? ⟨g, 12, none⟩ = some cT /\ w.frozen? ⟨g, 0, none⟩ = false /\ w.frozen? ⟨g, 1, none⟩ = false /\ w.frozen? ⟨g, 2, none⟩ = false /\ w.frozen? ⟨g, 3, none⟩ = false /\ w.frozen? ⟨g, 4, none⟩ = false /\ w.frozen? ⟨g, 5, none⟩ = false /\ w.frozen? ⟨g, 6, none⟩ = false /\ w.frozen? ⟨g, 7, none⟩ = false /\ w.frozen? ⟨g, 8, none⟩ = false /\ w.frozen? ⟨g, 9, none⟩ = false /\ w.frozen? ⟨g, 10, none⟩ = false /\ w.frozen? ⟨g, 11, none⟩ = false /\ w.frozen? ⟨g, 12, none⟩ = false :=
 ⟨(qQa h 0).trans rfl, (qQa h 1).trans rfl, (qQa h 2).trans rfl, (qQa h 3).trans rfl, (qQa h 4).trans rfl, (qQa h 5).trans rfl, (qQa h 6).trans rfl, (qQa h 7).trans rfl, (qQa h 8).trans rfl, (qQa h 9).trans rfl, (qQa h 10).trans rfl, (qQa h 11).trans rfl, (qQa h 12).trans rfl, qQd h 0, qQd h 1, qQd h 2, qQd h 3, qQd h 4, qQd h 5, qQd h 6, qQd h 7, qQd h 8, qQd h 9, qQd h 10, qQd h 11, qQd h 12⟩
theorem lc13c {w : World} {g : Nat} {t : TypeId} {v0 v1 v2 v3 v4 v5 v6 v7 v8 v9 cL cO cT : Value} (h : w.heap[g]? = some (.cells #[v0, v1, v2, v3, v4, v5, v6, v7, v8, v9, cL, cO, cT] t (0, 0))) :
  w.cell? ⟨g, 0, none⟩ = some v0 /\ w.cell? ⟨g, 1, none⟩ = some v1 /\ w.cell? ⟨g, 2, none⟩ = some v2 /\ w.cell? ⟨g, 3, none⟩ = some v3 /\ w.cell? ⟨g, 4, none⟩ = some v4 /\ w.cell? ⟨g, 5, none⟩ = some v5 /\ w.cell? ⟨g, 6, none⟩ = some v6 /\ w.cell? ⟨g, 7, none⟩ = some v7 /\ w.cell? ⟨g, 8, none⟩ = some v8 /\ w.cell? ⟨g, 9, none⟩ = some v9 /\ w.cell? ⟨g, 10, none⟩ = some cL /\ w.cell? ⟨g, 11, none⟩ = some cO /\ w.cell? ⟨g, 12, none⟩ = some cT :=
 ⟨(qQa h 0).trans rfl, (qQa h 1).trans rfl, (qQa h 2).trans rfl, (qQa h 3).trans rfl, (qQa h 4).trans rfl, (qQa h 5).trans rfl, (qQa h 6).trans rfl, (qQa h 7).trans rfl, (qQa h 8).trans rfl, (qQa h 9).trans rfl, (qQa h 10).trans rfl, (qQa h 11).trans rfl, (qQa h 12).trans rfl⟩
end Go.Proofs.YtlhcohipnieidaaGreat.P
namespace Go.Proofs.YtlhcohipnieidaaGreat.P
open Go.RowKit W.PrintWords W.PrintLast W.PrintMore
theorem rq {P Q : Prop} (h : Q) (f : Q -> P := by intro h_; (with_reducible repeat (first | apply Kd.qKr | apply Kd.qV8 | apply Kd.qVj)); exact h_) : P := f h
theorem bb {P Q : Prop} (h : Q) (f : Q -> P := by intro h_; (with_reducible repeat (first | refine qZ4 ?_ _ | refine qXf ?_ | refine qYq ?_ _)); exact h_) : P := f h
theorem h0q {P Q : Prop} (h : Q) (f : Q -> P := by intro h_; repeat (first | (with_reducible first | exact h_ | apply qZo | apply qQr | apply qZk) | exact h_)) : P := f h
theorem h1q {P Q G0 : Prop} (h : Q) (g0 : G0) (f : Q -> G0 -> P := by intro h_ g0_; repeat (first | (with_reducible first | exact h_ | apply qZo | apply qQr | apply qZk | refine qQ1 ?_ g0_) | exact h_)) : P := f h g0
theorem h2q {P Q G0 G1 : Prop} (h : Q) (g0 : G0) (g1 : G1) (f : Q -> G0 -> G1 -> P := by intro h_ g0_ g1_; repeat (first | (with_reducible first | exact h_ | apply qZo | apply qQr | apply qZk | refine qQ1 ?_ g0_ | refine qQ1 ?_ g1_) | exact h_)) : P := f h g0 g1
theorem h3q {P Q G0 G1 G2 : Prop} (h : Q) (g0 : G0) (g1 : G1) (g2 : G2) (f : Q -> G0 -> G1 -> G2 -> P := by intro h_ g0_ g1_ g2_; repeat (first | (with_reducible first | exact h_ | apply qZo | apply qQr | apply qZk | refine qQ1 ?_ g0_ | refine qQ1 ?_ g1_ | refine qQ1 ?_ g2_) | exact h_)) : P := f h g0 g1 g2
theorem h4q {P Q G0 G1 G2 G3 : Prop} (h : Q) (g0 : G0) (g1 : G1) (g2 : G2) (g3 : G3) (f : Q -> G0 -> G1 -> G2 -> G3 -> P := by intro h_ g0_ g1_ g2_ g3_; repeat (first | (with_reducible first | exact h_ | apply qZo | apply qQr | apply qZk | refine qQ1 ?_ g0_ | refine qQ1 ?_ g1_ | refine qQ1 ?_ g2_ | refine qQ1 ?_ g3_) | exact h_)) : P := f h g0 g1 g2 g3
theorem h5q {P Q G0 G1 G2 G3 G4 : Prop} (h : Q) (g0 : G0) (g1 : G1) (g2 : G2) (g3 : G3) (g4 : G4) (f : Q -> G0 -> G1 -> G2 -> G3 -> G4 -> P := by intro h_ g0_ g1_ g2_ g3_ g4_; repeat (first | (with_reducible first | exact h_ | apply qZo | apply qQr | apply qZk | refine qQ1 ?_ g0_ | refine qQ1 ?_ g1_ | refine qQ1 ?_ g2_ | refine qQ1 ?_ g3_ | refine qQ1 ?_ g4_) | exact h_)) : P := f h g0 g1 g2 g3 g4
theorem hxb {w w' : World} {p : Addr} {v : Value} (h : Below w.heap.size w w') (hx : w.cell? p = some v) : w'.cell? p = some v := (h.cell (World.block_lt_of_cell? w _ hx)).trans hx
theorem am {p : Prop} (h : p) : Aside0 p := ⟨h⟩
theorem lc4_ {w : World} {g : Nat} {t : TypeId} {v0 v1 v2 v3 : Value} (hb : w.heap[g]? = some (.cells #[v0, v1, v2, v3] t (0, 0))) : w.cell? ⟨g, 0, none⟩ = some v0 /\ w.cell? ⟨g, 1, none⟩ = some v1 /\ w.cell? ⟨g, 2, none⟩ = some v2 /\ w.cell? ⟨g, 3, none⟩ = some v3 /\ w.frozen? ⟨g, 0, none⟩ = false /\ w.frozen? ⟨g, 1, none⟩ = false /\ w.frozen? ⟨g, 2, none⟩ = false /\ w.frozen? ⟨g, 3, none⟩ = false := ⟨(qQa hb 0).trans rfl, (qQa hb 1).trans rfl, (qQa hb 2).trans rfl, (qQa hb 3).trans rfl, qQd hb 0, qQd hb 1, qQd hb 2, qQd hb 3⟩
theorem lc5_ {w : World} {g : Nat} {t : TypeId} {v0 v1 v2 v3 v4 : Value} (hb : w.heap[g]? = some (.cells #[v0, v1, v2, v3, v4] t (0, 0))) : w.cell? ⟨g, 0, none⟩ = some v0 /\ w.cell? ⟨g, 1, none⟩ = some v1 /\ w.cell? ⟨g, 2, none⟩ = some v2 /\ w.cell? ⟨g, 3, none⟩ = some v3 /\ w.cell? ⟨g, 4, none⟩ = some v4 /\ w.frozen? ⟨g, 0, none⟩ = false /\ w.frozen? ⟨g, 1, none⟩ = false /\ w.frozen? ⟨g, 2, none⟩ = false /\ w.frozen? ⟨g, 3, none⟩ = false /\ w.frozen? ⟨g, 4, none⟩ = false := ⟨(qQa hb 0).trans rfl, (qQa hb 1).trans rfl, (qQa hb 2).trans rfl, (qQa hb 3).trans rfl, (qQa hb 4).trans rfl, qQd hb 0, qQd hb 1, qQd hb 2, qQd hb 3, qQd hb 4⟩
theorem cq {P Q : Prop} (h : Q) (f : Q -> P := by intro h_; repeat (first | exact h_ | (with_reducible refine Kd.zXr ?_ _) | (with_reducible refine Kd.zZl ?_ _) | (with_reducible refine Kd.zKt ?_))) : P := f h
theorem er {p : Prop} (h : p := by first | rfl | (simp [qQj, qQk] <;> rfl) | (simp [*, qQj, qQk] <;> rfl)) : p := h
theorem ml {p : Prop} (h : p := by (try simp only [List.map_toArray, List.map_cons, List.map_nil]); first | done | rfl | (simp only [List.length_drop, List.length_take]; rfl)) : p := h
theorem pu {p : Prop} (h : p := by simp only [Act.put, List.setIfInBounds_toArray, List.set_cons_zero, List.set_cons_succ, i64_w, i32_w]; rfl) : p := h
theorem yd {p : Prop} [Decidable p] (h : decide p = true := by first | (with_reducible assumption) | assumption) : p := of_decide_eq_true h
set_option linter.unusedVariables false
theorem Rb {Q : Prop} {α : Type} {d : Kd α} {e base : Nat} {w w1 : World} {ok : Nat -> Prop} {v : Value} {xs : List α} (h : Aside0 Q) (hb : Below w.heap.size w w1) (f : Q -> d.R e w base ok v xs := by intro h_; (with_reducible repeat (first | apply Kd.qKr | apply Kd.qV8 | apply Kd.qVj)); exact h_) : Aside0 (d.R e w1 base ok v xs) := ⟨Kd.qYa (f h.out) hb⟩
theorem Re {Q : Prop} {α : Type} {d : Kd α} {e base : Nat} {w w1 : World} {ok : Nat -> Prop} {u v : Value} {xs : List α} {α' : Type} {d' : Kd α'} {e' : Nat} {w' : World} {ok' : Nat -> Prop} {ys : List α'} (h : Aside0 Q) (ho : d'.R e' w' w.heap.size ok' v ys) (hb : Below w.heap.size w w1) (f : Q -> d.R e w base ok u xs := by intro h_; (with_reducible repeat (first | apply Kd.qKr | apply Kd.qV8 | apply Kd.qVj)); exact h_) : Aside0 (d.R e w1 base (fun k => ok k /\ some k ≠ v.ownBlock) u xs) := ⟨Kd.zYg (f h.out) (Kd.zYf ho) hb⟩
theorem rA {P Q : Prop} (h : Aside0 Q) (f : Q -> P := by intro h_; (with_reducible repeat (first | apply Kd.qKr | apply Kd.qV8 | apply Kd.qVj)); exact h_) : Aside0 P := ⟨f h.out⟩
theorem bA {P Q : Prop} (h : Aside0 Q) (f : Q -> P := by intro h_; (with_reducible repeat (first | refine qZ4 ?_ _ | refine qXf ?_ | refine qYq ?_ _)); exact h_) : Aside0 P := ⟨f h.out⟩
theorem bB {w W w1 : World} {g : Nat} {o : Obj} [Up w W] (h : Aside0 (w.heap[g]? = some o)) (hb : Below W.heap.size W w1) : Aside0 (w1.heap[g]? = some o) := ⟨qQv (Up.up h.out) hb⟩
theorem bG {α : Type} {d : Kd α} {e base g t : Nat} {cells : Array Value} {w W w1 : World} {ok : Nat -> Prop} {v : Value} {xs : List α} [Up w W] (h : Aside0 (w.heap[g]? = some (.cells cells t (0, 0)))) (hg : W.grownBy w1 v.ownBlock) (r : Aside0 (d.R e w base ok v xs)) (hd : e ≠ t := by decide) : Aside0 (w1.heap[g]? = some (.cells cells t (0, 0))) := ⟨qVk (Up.up h.out) hg (Kd.R_ne r.out h.out hd)⟩
theorem nL {w W : World} {g gb : Nat} {o : Obj} [Up w W] (h : Aside0 (w.heap[g]? = some o)) (hg : gb = W.heap.size) : Aside0 (g ≠ gb) := ⟨by rw [hg]; exact Nat.ne_of_lt (qXq (Up.up h.out))⟩
theorem nG {w W : World} {g gb : Nat} {o : Obj} [Up w W] (h : Aside0 (w.heap[g]? = some o)) (hg : gb = W.heap.size) : Aside0 (gb ≠ g) := ⟨by rw [hg]; exact Nat.ne_of_gt (qXq (Up.up h.out))⟩
theorem fr {P : Prop} (h : P := by first | rfl | (simp; done) | (simp [*]; done)) : P := h
theorem dr {w w' : World} (h : Drawn0 w w' := by repeat (first | exact Drawn0.refl _ | apply Drawn0.step)) : Drawn0 w w' := h
theorem o0 {P : Prop} (f : P := by first | omega | exact Nat.le_refl _) : Aside0 P := ⟨f⟩
theorem o1 {P Q : Prop} (h : Aside0 Q) (f : Q -> P := by intro h_; first | omega | exact Nat.le_refl _) : Aside0 P := ⟨f h.out⟩
theorem o2 {P Q R : Prop} (h : Aside0 Q) (g : Aside0 R) (f : Q -> R -> P := by intro h_ g_; first | omega | exact Nat.le_refl _) : Aside0 P := ⟨f h.out g.out⟩
theorem s0 {Q : Prop} {w W w2 : World} (h : Aside0 Q) (hb : Below W.heap.size W w2) (f : Q -> Below w.heap.size w W := by intro h_ ; repeat (first | (with_reducible first | exact h_ | apply qZo | apply qQr | apply qZk ) | exact h_)) : Aside0 (Below w.heap.size w w2) := ⟨qQo (f h.out) hb⟩
theorem e0 {Q : Prop} {w W : World} (h : Aside0 Q)  {gb : Nat} (hg : gb = W.heap.size) (f : Q -> Below w.heap.size w W := by intro h_ ; repeat (first | (with_reducible first | exact h_ | apply qZo | apply qQr | apply qZk ) | exact h_)) : Aside0 (w.heap.size <= gb) := ⟨by rw [hg]; exact qQn (f h.out)⟩
theorem a0_ {Q : Prop} {w W : World} (h : Aside0 Q) (f : Q -> Below w.heap.size w W := by intro h_ ; repeat (first | (with_reducible first | exact h_ | apply qZo | apply qQr | apply qZk ) | exact h_)) : Aside0 (Below w.heap.size w W) := ⟨f h.out⟩
theorem s1 {Q G0 : Prop} {w W w2 : World} (h : Aside0 Q) (g0 : Aside0 G0) (hb : Below W.heap.size W w2) (f : Q -> G0 -> Below w.heap.size w W := by intro h_ g0_; repeat (first | (with_reducible first | exact h_ | apply qZo | apply qQr | apply qZk | refine qQ1 ?_ g0_) | exact h_)) : Aside0 (Below w.heap.size w w2) := ⟨qQo (f h.out g0.out) hb⟩
theorem e1 {Q G0 : Prop} {w W : World} (h : Aside0 Q) (g0 : Aside0 G0) {gb : Nat} (hg : gb = W.heap.size) (f : Q -> G0 -> Below w.heap.size w W := by intro h_ g0_; repeat (first | (with_reducible first | exact h_ | apply qZo | apply qQr | apply qZk | refine qQ1 ?_ g0_) | exact h_)) : Aside0 (w.heap.size <= gb) := ⟨by rw [hg]; exact qQn (f h.out g0.out)⟩
theorem a1_ {Q G0 : Prop} {w W : World} (h : Aside0 Q) (g0 : Aside0 G0) (f : Q -> G0 -> Below w.heap.size w W := by intro h_ g0_; repeat (first | (with_reducible first | exact h_ | apply qZo | apply qQr | apply qZk | refine qQ1 ?_ g0_) | exact h_)) : Aside0 (Below w.heap.size w W) := ⟨f h.out g0.out⟩
theorem s2 {Q G0 G1 : Prop} {w W w2 : World} (h : Aside0 Q) (g0 : Aside0 G0) (g1 : Aside0 G1) (hb : Below W.heap.size W w2) (f : Q -> G0 -> G1 -> Below w.heap.size w W := by intro h_ g0_ g1_; repeat (first | (with_reducible first | exact h_ | apply qZo | apply qQr | apply qZk | refine qQ1 ?_ g0_ | refine qQ1 ?_ g1_) | exact h_)) : Aside0 (Below w.heap.size w w2) := ⟨qQo (f h.out g0.out g1.out) hb⟩
theorem e2 {Q G0 G1 : Prop} {w W : World} (h : Aside0 Q) (g0 : Aside0 G0) (g1 : Aside0 G1) {gb : Nat} (hg : gb = W.heap.size) (f : Q -> G0 -> G1 -> Below w.heap.size w W := by intro h_ g0_ g1_; repeat (first | (with_reducible first | exact h_ | apply qZo | apply qQr | apply qZk | refine qQ1 ?_ g0_ | refine qQ1 ?_ g1_) | exact h_)) : Aside0 (w.heap.size <= gb) := ⟨by rw [hg]; exact qQn (f h.out g0.out g1.out)⟩
theorem a2_ {Q G0 G1 : Prop} {w W : World} (h : Aside0 Q) (g0 : Aside0 G0) (g1 : Aside0 G1) (f : Q -> G0 -> G1 -> Below w.heap.size w W := by intro h_ g0_ g1_; repeat (first | (with_reducible first | exact h_ | apply qZo | apply qQr | apply qZk | refine qQ1 ?_ g0_ | refine qQ1 ?_ g1_) | exact h_)) : Aside0 (Below w.heap.size w W) := ⟨f h.out g0.out g1.out⟩
theorem s3 {Q G0 G1 G2 : Prop} {w W w2 : World} (h : Aside0 Q) (g0 : Aside0 G0) (g1 : Aside0 G1) (g2 : Aside0 G2) (hb : Below W.heap.size W w2) (f : Q -> G0 -> G1 -> G2 -> Below w.heap.size w W := by intro h_ g0_ g1_ g2_; repeat (first | (with_reducible first | exact h_ | apply qZo | apply qQr | apply qZk | refine qQ1 ?_ g0_ | refine qQ1 ?_ g1_ | refine qQ1 ?_ g2_) | exact h_)) : Aside0 (Below w.heap.size w w2) := ⟨qQo (f h.out g0.out g1.out g2.out) hb⟩
theorem e3 {Q G0 G1 G2 : Prop} {w W : World} (h : Aside0 Q) (g0 : Aside0 G0) (g1 : Aside0 G1) (g2 : Aside0 G2) {gb : Nat} (hg : gb = W.heap.size) (f : Q -> G0 -> G1 -> G2 -> Below w.heap.size w W := by intro h_ g0_ g1_ g2_; repeat (first | (with_reducible first | exact h_ | apply qZo | apply qQr | apply qZk | refine qQ1 ?_ g0_ | refine qQ1 ?_ g1_ | refine qQ1 ?_ g2_) | exact h_)) : Aside0 (w.heap.size <= gb) := ⟨by rw [hg]; exact qQn (f h.out g0.out g1.out g2.out)⟩
theorem a3_ {Q G0 G1 G2 : Prop} {w W : World} (h : Aside0 Q) (g0 : Aside0 G0) (g1 : Aside0 G1) (g2 : Aside0 G2) (f : Q -> G0 -> G1 -> G2 -> Below w.heap.size w W := by intro h_ g0_ g1_ g2_; repeat (first | (with_reducible first | exact h_ | apply qZo | apply qQr | apply qZk | refine qQ1 ?_ g0_ | refine qQ1 ?_ g1_ | refine qQ1 ?_ g2_) | exact h_)) : Aside0 (Below w.heap.size w W) := ⟨f h.out g0.out g1.out g2.out⟩
theorem s4 {Q G0 G1 G2 G3 : Prop} {w W w2 : World} (h : Aside0 Q) (g0 : Aside0 G0) (g1 : Aside0 G1) (g2 : Aside0 G2) (g3 : Aside0 G3) (hb : Below W.heap.size W w2) (f : Q -> G0 -> G1 -> G2 -> G3 -> Below w.heap.size w W := by intro h_ g0_ g1_ g2_ g3_; repeat (first | (with_reducible first | exact h_ | apply qZo | apply qQr | apply qZk | refine qQ1 ?_ g0_ | refine qQ1 ?_ g1_ | refine qQ1 ?_ g2_ | refine qQ1 ?_ g3_) | exact h_)) : Aside0 (Below w.heap.size w w2) := ⟨qQo (f h.out g0.out g1.out g2.out g3.out) hb⟩
theorem e4 {Q G0 G1 G2 G3 : Prop} {w W : World} (h : Aside0 Q) (g0 : Aside0 G0) (g1 : Aside0 G1) (g2 : Aside0 G2) (g3 : Aside0 G3) {gb : Nat} (hg : gb = W.heap.size) (f : Q -> G0 -> G1 -> G2 -> G3 -> Below w.heap.size w W := by intro h_ g0_ g1_ g2_ g3_; repeat (first | (with_reducible first | exact h_ | apply qZo | apply qQr | apply qZk | refine qQ1 ?_ g0_ | refine qQ1 ?_ g1_ | refine qQ1 ?_ g2_ | refine qQ1 ?_ g3_) | exact h_)) : Aside0 (w.heap.size <= gb) := ⟨by rw [hg]; exact qQn (f h.out g0.out g1.out g2.out g3.out)⟩
theorem a4_ {Q G0 G1 G2 G3 : Prop} {w W : World} (h : Aside0 Q) (g0 : Aside0 G0) (g1 : Aside0 G1) (g2 : Aside0 G2) (g3 : Aside0 G3) (f : Q -> G0 -> G1 -> G2 -> G3 -> Below w.heap.size w W := by intro h_ g0_ g1_ g2_ g3_; repeat (first | (with_reducible first | exact h_ | apply qZo | apply qQr | apply qZk | refine qQ1 ?_ g0_ | refine qQ1 ?_ g1_ | refine qQ1 ?_ g2_ | refine qQ1 ?_ g3_) | exact h_)) : Aside0 (Below w.heap.size w W) := ⟨f h.out g0.out g1.out g2.out g3.out⟩
theorem s5 {Q G0 G1 G2 G3 G4 : Prop} {w W w2 : World} (h : Aside0 Q) (g0 : Aside0 G0) (g1 : Aside0 G1) (g2 : Aside0 G2) (g3 : Aside0 G3) (g4 : Aside0 G4) (hb : Below W.heap.size W w2) (f : Q -> G0 -> G1 -> G2 -> G3 -> G4 -> Below w.heap.size w W := by intro h_ g0_ g1_ g2_ g3_ g4_; repeat (first | (with_reducible first | exact h_ | apply qZo | apply qQr | apply qZk | refine qQ1 ?_ g0_ | refine qQ1 ?_ g1_ | refine qQ1 ?_ g2_ | refine qQ1 ?_ g3_ | refine qQ1 ?_ g4_) | exact h_)) : Aside0 (Below w.heap.size w w2) := ⟨qQo (f h.out g0.out g1.out g2.out g3.out g4.out) hb⟩
theorem e5 {Q G0 G1 G2 G3 G4 : Prop} {w W : World} (h : Aside0 Q) (g0 : Aside0 G0) (g1 : Aside0 G1) (g2 : Aside0 G2) (g3 : Aside0 G3) (g4 : Aside0 G4) {gb : Nat} (hg : gb = W.heap.size) (f : Q -> G0 -> G1 -> G2 -> G3 -> G4 -> Below w.heap.size w W := by intro h_ g0_ g1_ g2_ g3_ g4_; repeat (first | (with_reducible first | exact h_ | apply qZo | apply qQr | apply qZk | refine qQ1 ?_ g0_ | refine qQ1 ?_ g1_ | refine qQ1 ?_ g2_ | refine qQ1 ?_ g3_ | refine qQ1 ?_ g4_) | exact h_)) : Aside0 (w.heap.size <= gb) := ⟨by rw [hg]; exact qQn (f h.out g0.out g1.out g2.out g3.out g4.out)⟩
theorem a5_ {Q G0 G1 G2 G3 G4 : Prop} {w W : World} (h : Aside0 Q) (g0 : Aside0 G0) (g1 : Aside0 G1) (g2 : Aside0 G2) (g3 : Aside0 G3) (g4 : Aside0 G4) (f : Q -> G0 -> G1 -> G2 -> G3 -> G4 -> Below w.heap.size w W := by intro h_ g0_ g1_ g2_ g3_ g4_; repeat (first | (with_reducible first | exact h_ | apply qZo | apply qQr | apply qZk | refine qQ1 ?_ g0_ | refine qQ1 ?_ g1_ | refine qQ1 ?_ g2_ | refine qQ1 ?_ g3_ | refine qQ1 ?_ g4_) | exact h_)) : Aside0 (Below w.heap.size w W) := ⟨f h.out g0.out g1.out g2.out g3.out g4.out⟩
section
variable {P : Program} {ops : Array Oper} {rest : List Oper} {o : Oper} {a : Act} {Q : Exit -> Act -> World -> Prop} {W : World}
theorem gf (f : FuncId) {as_ : Array Operand} {ts : Array TypeId} (h : wpList P ops Q (o :: rest) a W) (_ho : o.op = .call { callee := .value (.func f), args := as_, argTypes := ts } := by exact rfl) : wpList P ops Q (o :: rest) a W := h
theorem gd (N : Tmp) (h : wpList P ops Q (o :: rest) a W) (_hN : o.dst = some N := by exact rfl) : wpList P ops Q (o :: rest) a W := h
theorem gC {f : FuncId} {fn : Func} {as_ : Array Operand} {ts : Array TypeId} {args : Array Value} {R : Ending -> World -> Prop} (N : Option Tmp) (hf : P.funcs[f]? = some fn) (hc : Calls P f args W R) (h : ∀ e w', R e w' -> ∃ v, e = .returned v /\ wpList P ops Q rest (a.put N v) w') (hop : o.op = .call { callee := .value (.func f), args := as_, argTypes := ts } := by exact rfl) (hd : o.dst = N := by exact rfl) (hg : o.guard = none := by exact rfl) (hname : (fn.name == "runtime.NumGoroutine") = false := by kernel_rfl) (hb : fn.body.isSome = true := by exact rfl) (hargs : as_.map a.eval = args := by exact ml) : wpList P ops Q (o :: rest) a W := goesL_ N hd hg hf hname hb args hop hargs (hc.mono h)
theorem bE (N : Tmp) (cs : Array Value) (t : TypeId) (h : ∀ g, g = W.heap.size -> ∀ w1, w1.heap[g]? = some (.cells cs t (0, 0)) -> Below W.heap.size W w1 -> wpList P ops Q rest (a.put o.dst (.pointer (some ⟨g, 0, none⟩))) w1) (hgd : o.guard = none := by exact rfl) (hd : o.dst = some N := by exact rfl)
  (hrun : (execOp a.eval o).run P W = .ok (.value (.pointer (some ⟨W.heap.size, 0, none⟩))) (W.alloc (.cells cs t (0, 0))) := by first | (go_simp; done) | (go_simp; rfl)) : wpList P ops Q (o :: rest) a W := zQn hgd hd hrun h
end
theorem h13 {w w1 : World} {p0 p1 p2 p3 p4 p5 p6 p7 p8 p9 hH hI hJ : Addr} {v0 v1 v2 v3 v4 v5 v6 v7 v8 v9 cL cO cT : Value} (h : Aside0 (Below w.heap.size w w1)) (x : w.cell? p0 = some v0 /\ w.cell? p1 = some v1 /\ w.cell? p2 = some v2 /\ w.cell? p3 = some v3 /\ w.cell? p4 = some v4 /\ w.cell? p5 = some v5 /\ w.cell? p6 = some v6 /\ w.cell? p7 = some v7 /\ w.cell? p8 = some v8 /\ w.cell? p9 = some v9 /\ w.cell? hH = some cL /\ w.cell? hI = some cO /\ w.cell? hJ = some cT) : w1.cell? p0 = some v0 /\ w1.cell? p1 = some v1 /\ w1.cell? p2 = some v2 /\ w1.cell? p3 = some v3 /\ w1.cell? p4 = some v4 /\ w1.cell? p5 = some v5 /\ w1.cell? p6 = some v6 /\ w1.cell? p7 = some v7 /\ w1.cell? p8 = some v8 /\ w1.cell? p9 = some v9 /\ w1.cell? hH = some cL /\ w1.cell? hI = some cO /\ w1.cell? hJ = some cT := ⟨hxb h.out x.1, hxb h.out x.2.1, hxb h.out x.2.2.1, hxb h.out x.2.2.2.1, hxb h.out x.2.2.2.2.1, hxb h.out x.2.2.2.2.2.1, hxb h.out x.2.2.2.2.2.2.1, hxb h.out x.2.2.2.2.2.2.2.1, hxb h.out x.2.2.2.2.2.2.2.2.1, hxb h.out x.2.2.2.2.2.2.2.2.2.1, hxb h.out x.2.2.2.2.2.2.2.2.2.2.1, hxb h.out x.2.2.2.2.2.2.2.2.2.2.2.1, hxb h.out x.2.2.2.2.2.2.2.2.2.2.2.2⟩
theorem ap13 {c0 c1 c2 c3 c4 c5 c6 c7 c8 c9 cM eA eB R : Prop} (x : c0 /\ c1 /\ c2 /\ c3 /\ c4 /\ c5 /\ c6 /\ c7 /\ c8 /\ c9 /\ cM /\ eA /\ eB) (r : R) : c0 /\ c1 /\ c2 /\ c3 /\ c4 /\ c5 /\ c6 /\ c7 /\ c8 /\ c9 /\ cM /\ eA /\ eB /\ R := ⟨x.1, x.2.1, x.2.2.1, x.2.2.2.1, x.2.2.2.2.1, x.2.2.2.2.2.1, x.2.2.2.2.2.2.1, x.2.2.2.2.2.2.2.1, x.2.2.2.2.2.2.2.2.1, x.2.2.2.2.2.2.2.2.2.1, x.2.2.2.2.2.2.2.2.2.2.1, x.2.2.2.2.2.2.2.2.2.2.2.1, x.2.2.2.2.2.2.2.2.2.2.2.2, r⟩
theorem at48 {w : World} {ad : Addr} {n : Nat} {xs : List S48} (h : Kd.C k48 w (some ad) n xs) (i : Int) (h0 : 0 <= i) (h1 : i < n) : w.cell? (ad.add (i.toNat * 13)) = some (.int .i64 (qQb xs i).f0) /\ w.cell? ⟨(ad.add (i.toNat * 13)).block, (ad.add (i.toNat * 13)).off + 1, none⟩ = some (.int .i64 (qQb xs i).f1) /\ w.cell? ⟨(ad.add (i.toNat * 13)).block, (ad.add (i.toNat * 13)).off + 2, none⟩ = some (.int .i64 (qQb xs i).f2) /\ w.cell? ⟨(ad.add (i.toNat * 13)).block, (ad.add (i.toNat * 13)).off + 3, none⟩ = some (.int .i64 (qQb xs i).f3) /\ w.cell? ⟨(ad.add (i.toNat * 13)).block, (ad.add (i.toNat * 13)).off + 4, none⟩ = some (.int .i64 (qQb xs i).f4) /\ w.cell? ⟨(ad.add (i.toNat * 13)).block, (ad.add (i.toNat * 13)).off + 5, none⟩ = some (.int .i64 (qQb xs i).f5) /\ w.cell? ⟨(ad.add (i.toNat * 13)).block, (ad.add (i.toNat * 13)).off + 6, none⟩ = some (.bool (qQb xs i).f6) /\ w.cell? ⟨(ad.add (i.toNat * 13)).block, (ad.add (i.toNat * 13)).off + 7, none⟩ = some (.int .i64 (qQb xs i).f7) /\ w.cell? ⟨(ad.add (i.toNat * 13)).block, (ad.add (i.toNat * 13)).off + 8, none⟩ = some (.int .i64 (qQb xs i).f8) /\ w.cell? ⟨(ad.add (i.toNat * 13)).block, (ad.add (i.toNat * 13)).off + 9, none⟩ = some (.int .i64 (qQb xs i).f9) /\ w.cell? ⟨(ad.add (i.toNat * 13)).block, (ad.add (i.toNat * 13)).off + 10, none⟩ = some (.int .i64 (qQb xs i).f10) /\ w.cell? ⟨(ad.add (i.toNat * 13)).block, (ad.add (i.toNat * 13)).off + 11, none⟩ = some (.int .i64 (qQb xs i).f11) /\ w.cell? ⟨(ad.add (i.toNat * 13)).block, (ad.add (i.toNat * 13)).off + 12, none⟩ = some (.int .i64 (qQb xs i).f12) := by
  obtain ⟨ad_, e_, h_⟩ := qXr h i h0 h1
  cases e_
  exact h_
theorem cfS {W : World} {a : Addr} {g : Nat} {v : Value} (x : S48) (hn : a.block ≠ g) (h : W.cell? a = some v) : (((((((((((((W.setCell ⟨g, 0, none⟩ (.int .i64 x.f0)).setCell ⟨g, 1, none⟩ (.int .i64 x.f1)).setCell ⟨g, 2, none⟩ (.int .i64 x.f2)).setCell ⟨g, 3, none⟩ (.int .i64 x.f3)).setCell ⟨g, 4, none⟩ (.int .i64 x.f4)).setCell ⟨g, 5, none⟩ (.int .i64 x.f5)).setCell ⟨g, 6, none⟩ (.bool x.f6)).setCell ⟨g, 7, none⟩ (.int .i64 x.f7)).setCell ⟨g, 8, none⟩ (.int .i64 x.f8)).setCell ⟨g, 9, none⟩ (.int .i64 x.f9)).setCell ⟨g, 10, none⟩ (.int .i64 x.f10)).setCell ⟨g, 11, none⟩ (.int .i64 x.f11)).setCell ⟨g, 12, none⟩ (.int .i64 x.f12)).cell? a = some v := by
  iterate 13 refine (cell_far (p := ⟨g, _, none⟩) hn _).trans ?_
  exact h
theorem hcons {w w1 : World} (hb : Below w.heap.size w w1) {p : Addr} {v : Value} {R R' : Prop} (k : R -> R') (h : w.cell? p = some v /\ R) : w1.cell? p = some v /\ R' := ⟨hxb hb h.1, k h.2⟩
theorem hxs {P Q : Prop} {w w1 : World} (hb : Below w.heap.size w w1) (h : Q) (f : Below w.heap.size w w1 -> Q -> P := by intro hb_; repeat (first | exact hxb hb_ | refine hcons hb_ ?_)) : P := f hb h
theorem bcs {P Q : Prop} (h : Aside0 Q) (f : Q -> P := by intro h_; repeat (first | exact (qQa h_ _).trans rfl | refine ⟨(qQa h_ _).trans rfl, ?_⟩)) : P := f h.out
theorem bd {α β : Type} {x : Option α} {f : α -> Option β} {r : β} (h : x.bind f = some r) : ∃ a, Aside0 (x = some a) /\ f a = some r := by
  obtain ⟨a, h1, h2⟩ := Option.bind_eq_some_iff.mp h
  exact ⟨a, ⟨h1⟩, h2⟩
theorem bw {P Q : Prop} (h : Q) (f : Q -> P := by intro h_; (with_reducible repeat (first | refine qZ4 ?_ _ | refine qXf ?_ | refine qYq ?_ _)); exact h_) : P := f h
theorem rw_ {P Q : Prop} (h : Q) (f : Q -> P := by intro h_; (with_reducible repeat (first | apply Kd.qKr | apply Kd.qV8 | apply Kd.qVj)); exact h_) : P := f h
theorem hyq {P Q R : Prop} (H : Q) (e : R) (f : Q -> R -> P := by intro H e; first | (rw [e]; with_reducible exact H) | (have H1_ := (Option.bind_some _ _).symm.trans H; rw [e]; with_reducible exact H1_) | (have H1_ := (Option.bind_some _ _).symm.trans H; with_reducible exact H1_) | with_reducible exact H | (rw [e]; exact H) | exact H) : P := f H e
end Go.Proofs.YtlhcohipnieidaaGreat.P
namespace Go.Proofs.YtlhcohipnieidaaGreat.P
open Go.RowKit W.PrintWords W.PrintLast W.PrintMore
attribute [local go_sem] qX8 qWa qWu qWv qXt qXu qX9 qWb
set_option linter.unusedVariables false
set_option linter.unusedSimpArgs false
mutual
def qQ5.j0 : Nat -> Bool -> Int -> List (S48) -> Int -> Int -> Int -> Int -> List (S54) -> Int -> Int -> Int -> Int -> Int -> Int -> Option (Bool)
 | 0, _, _, _, _, _, _, _, _, _, _, _, _, _, _ => none
 | k + 1, iK, bZ, b3, b4, b5, b6, b7, bT, b8, b9, cA, cB, cC, cD => if iK = true then (some true) else (qQ5.l0 k 0 bZ b3 b4 b5 b6 b7 bT b8 b9 cA cB cC cD)
def qQ5.l0 : Nat -> Int -> Int -> List (S48) -> Int -> Int -> Int -> Int -> List (S54) -> Int -> Int -> Int -> Int -> Int -> Int -> Option (Bool)
 | 0, _, _, _, _, _, _, _, _, _, _, _, _, _, _ => none
 | k + 1, x3, bZ, b3, b4, b5, b6, b7, bT, b8, b9, cA, cB, cC, cD => if x3 < (bT.length : Int) then (if 0 <= x3 then (if (((qQu bT x3).f5).length : Int) > 100 then (some true) else (qQ5.l0 k (wrap64 (x3 + 1)) bZ b3 b4 b5 b6 b7 bT b8 b9 cA cB cC cD)) else (none)) else (some false)
end
def qQ5.f (k : Nat) (aV : Int) (bD : List (S48)) (aX a8 aW a6 : Int) (bC : List (S54)) (aY aZ a7 aC aD aE : Int) : Option (Bool) := if (bD.length : Int) > 100 then (qQ5.j0 k true aV bD aX a8 aW a6 bC aY aZ a7 aC aD aE) else (qQ5.j0 k (decide ((bC.length : Int) > 400)) aV bD aX a8 aW a6 bC aY aZ a7 aC aD aE)
set_option maxHeartbeats 8000000 in
set_option maxRecDepth 100000 in
theorem qQ5.calls (k : Nat) (aV : Int) (dE : Option Addr) (dI : Nat) (bD : List (S48)) (aX a8 aW a6 : Int) (dF : Option Addr) (dJ : Nat) (bC : List (S54)) (aY aZ a7 aC aD aE : Int) (r : Bool) (w : World) (d0 : Kd.C k48 w dE bD.length bD) (dY : bD.length <= dI) (d3 : Kd.C k54 w dF bC.length bC) (dZ : bC.length <= dJ) (h : qQ5.f k aV bD aX a8 aW a6 bC aY aZ a7 aC aD aE = some r) :
  Calls Tryz.prog 5 #[.agg #[.int .i64 aV, .slice dE bD.length dI, .int .i64 aX, .int .i64 a8, .int .i64 aW, .int .i64 a6, .slice dF bC.length dJ, .int .i64 aY, .int .i64 aZ, .int .i64 a7, .int .i64 aC, .int .i64 aD, .int .i64 aE]] w fun e w' => e = .returned (.bool r) /\ Below w.heap.size w w' := by
 have hY := Tryz.underlying28
 have hE := am d0
 have g8 := am dY
 clear d0 dY
 have dM := am d3
 have g9 := am dZ
 clear d3 dZ
 have HB := am (Below.refl w.heap.size w)
 have H := h
 unfold qQ5.f at H
 clear h
 have d6 := am H
 clear H
 go_enter Tryz.func5, Tryz.ntmps5
 go_upto_region 1 with (first | ((with_reducible refine gd 1 ?_); (try (refine qYw (by rfl) ?_; dsimp only)); refine bE 1 _ 28 ?_; intro dX hg w3 hbox hb; have bF := am hbox; have g6 := e0 HB hg; have bU := e0 HB hg; replace HB := s0 HB hb; clear hb hbox hg))
 (try simp only [Act.put, List.setIfInBounds_toArray, List.set_cons_zero, List.set_cons_succ])
 go_cut [13] (fun iH wc => ∃ (kq : Nat) (cP : Bool), iH = .bool cP /\ Aside0 (qQ5.j0 kq cP aV bD aX a8 aW a6 bC aY aZ a7 aC aD aE = some r) /\ Aside0 (kq <= k) /\ Aside0 (wc.heap[dX]? = some (.cells #[.int .i64 aV, (.slice dE bD.length dI), .int .i64 aX, .int .i64 a8, .int .i64 aW, .int .i64 a6, (.slice dF bC.length dJ), .int .i64 aY, .int .i64 aZ, .int .i64 a7, .int .i64 aC, .int .i64 aD, .int .i64 aE] 28 (0, 0))) /\ Aside0 (Below w.heap.size w wc))
 case first =>
  have H := d6.out
  clear d6
  by_cases c4 : (bD.length : Int) > 100
  ·rw [if_pos c4] at H
   have bI : decide (100 < (bD.length : Int)) = true := decide_eq_true c4
   have eK : decide (100 < bD.length) = true := decide_eq_true (by omega)
   clear c4
   (first | rw [bI] | (simp only [i64_w, i32_w]; rw [bI]) | skip)
   have H' := am H
   clear H
   have eU := lc13 bF.out
   go_wp2
   go_meet
   case rel => exact ⟨_, (true), fr, H', o0, bA bF, a1_ HB bU⟩
  rw [if_neg c4] at H
  have bI : decide (100 < (bD.length : Int)) = false := decide_eq_false c4
  have eK : decide (100 < bD.length) = false := decide_eq_false (by omega)
  clear c4
  (first | rw [bI] | (simp only [i64_w, i32_w]; rw [bI]) | skip)
  have H' := am H
  clear H
  have gP := lc13 bF.out
  go_wp2
  go_meet
  case rel => exact ⟨_, (decide ((bC.length : Int) > 400)), fr, H', o0, bA bF, a1_ HB bU⟩
 case rest =>
  clear d6
  try clear c4
  try clear bI eK
  try clear eU
  try clear gP
  obtain ⟨kq, cP, rfl, HA, cQ, bF, HB⟩ := hcut
  rcases kq with _ | fQ
  ·exact absurd HA.out (by simp [qQ5.j0])
  have H := HA.out
  clear HA
  simp only [qQ5.j0] at H
  by_cases c7 : cP = true
  ·subst c7
   rw [if_pos rfl] at H
   obtain rfl := Option.some.inj H
   go_wp2
   go_ret
   exact ⟨er, by exact h1q HB.out bU.out⟩
  replace c7 := Bool.eq_false_iff.mpr c7
  subst c7
  rw [if_neg (show ¬ (false = true) by decide)] at H
  have H' := am H
  clear H
  go_wp2
  go_loopg [3] fQ (fun kq v3 w' => ∃ (bJ : Int), v3 = .int .i64 bJ /\ Aside0 (qQ5.l0 kq bJ aV bD aX a8 aW a6 bC aY aZ a7 aC aD aE = some r) /\ Aside0 (kq <= fQ) /\ Aside0 (w'.heap[dX]? = some (.cells #[.int .i64 aV, (.slice dE bD.length dI), .int .i64 aX, .int .i64 a8, .int .i64 aW, .int .i64 a6, (.slice dF bC.length dJ), .int .i64 aY, .int .i64 aZ, .int .i64 a7, .int .i64 aC, .int .i64 aD, .int .i64 aE] 28 (0, 0))) /\ Aside0 (Below w.heap.size w w'))
  case atStart => exact ⟨(0), fr, H', ⟨Nat.le_refl _⟩, bA bF, a1_ HB bU⟩
  case round =>
   clear H'
   try clear c4
   try clear bI eK
   try clear c7
   try clear eU
   try clear gP
   obtain ⟨bJ, rfl, HA, hC, bF, HB⟩ := hrel
   rcases gk with _ | k2
   ·exact absurd HA.out (by simp [qQ5.l0])
   have H := HA.out
   clear HA
   simp only [qQ5.l0] at H
   by_cases c8 : bJ < (bC.length : Int)
   case neg =>
    rw [if_neg c8] at H
    have fT := decide_eq_false c8
    clear c8
    obtain rfl := Option.some.inj H
    have h6 := lc13 bF.out
    go_wp2
    go_ret
    exact ⟨er, by exact h1q HB.out bU.out⟩
   rw [if_pos c8] at H
   have fT := decide_eq_true c8
   clear c8
   by_cases c9 : 0 <= bJ
   case neg =>
    rw [if_neg c9] at H
    exact absurd H (by simp)
   rw [if_pos c9] at H
   have hT := decide_eq_true c9
   clear c9
   by_cases cM : (((qQu bC bJ).f5).length : Int) > 100
   ·rw [if_pos cM] at H
    have eX : decide (100 < (((qQu bC bJ).f5).length : Int)) = true := decide_eq_true cM
    have eY : decide (100 < ((qQu bC bJ).f5).length) = true := decide_eq_true (by omega)
    clear cM
    obtain rfl := Option.some.inj H
    have hZ := lc13 bF.out
    have cJ : 0 <= (bJ : Int) := yd
    have cK : bJ < (bC.length : Int) := yd
    obtain ⟨eW, d4, d9, eL, bN, bO, bP, bQ, bR, bS, bM, bL⟩ := zQm dM.out bJ cJ cK
    cases eL
    replace bN := hxb HB.out bN
    replace bO := hxb HB.out bO
    replace bP := hxb HB.out bP
    replace bQ := hxb HB.out bQ
    replace bR := hxb HB.out bR
    replace bS := hxb HB.out bS
    have dH := am bL
    have dG := am bM
    clear bL bM
    replace cJ := eq_true cJ
    replace cK := eq_true cK
    go_wp2
    go_ret
    exact ⟨er, by exact h1q HB.out bU.out⟩
   rw [if_neg cM] at H
   have eX : decide (100 < (((qQu bC bJ).f5).length : Int)) = false := decide_eq_false cM
   have eY : decide (100 < ((qQu bC bJ).f5).length) = false := decide_eq_false (by omega)
   clear cM
   have H' := am H
   clear H
   have h5 := lc13 bF.out
   have cJ : 0 <= (bJ : Int) := yd
   have cK : bJ < (bC.length : Int) := yd
   obtain ⟨eW, d4, d9, eL, bN, bO, bP, bQ, bR, bS, bM, bL⟩ := zQm dM.out bJ cJ cK
   cases eL
   replace bN := hxb HB.out bN
   replace bO := hxb HB.out bO
   replace bP := hxb HB.out bP
   replace bQ := hxb HB.out bQ
   replace bR := hxb HB.out bR
   replace bS := hxb HB.out bS
   have dH := am bL
   have dG := am bM
   clear bL bM
   replace cJ := eq_true cJ
   replace cK := eq_true cK
   go_wp2
   go_roundg k2
   case measure => have := cQ.out; have := hC.out; omega
   case rel => exact ⟨(wrap64 (bJ + 1)), fr, H', o2 cQ hC, bA bF, a1_ HB bU⟩
end Go.Proofs.YtlhcohipnieidaaGreat.P
namespace Go.Proofs.YtlhcohipnieidaaGreat.P
open Go.RowKit W.PrintWords W.PrintLast W.PrintMore
set_option linter.unusedVariables false
set_option linter.unusedSimpArgs false
theorem qY6 {w : World} {g : Nat} {t : TypeId} {u0 u1 u2 u3 u4 u5 u6 u7 u8 u9 u10 u11 u12 : Value} (hb : w.heap[g]? = some (.cells #[u0, u1, u2, u3, u4, u5, u6, u7, u8, u9, u10, u11, u12] t (0, 0))) {v0 v1 v2 v3 v4 v5 v6 v7 v8 v9 cL cO cT : Value} : ((((((((((((((w).setCell ⟨g, 0, none⟩ v0).setCell ⟨g, 1, none⟩ v1).setCell ⟨g, 2, none⟩ v2).setCell ⟨g, 3, none⟩ v3).setCell ⟨g, 4, none⟩ v4).setCell ⟨g, 5, none⟩ v5).setCell ⟨g, 6, none⟩ v6).setCell ⟨g, 7, none⟩ v7).setCell ⟨g, 8, none⟩ v8).setCell ⟨g, 9, none⟩ v9).setCell ⟨g, 10, none⟩ cL).setCell ⟨g, 11, none⟩ cO).setCell ⟨g, 12, none⟩ cT).heap[g]? = some (.cells #[v0, v1, v2, v3, v4, v5, v6, v7, v8, v9, cL, cO, cT] t (0, 0)) := by
 refine qQ0 (cs := #[v0, v1, v2, v3, v4, v5, v6, v7, v8, v9, cL, cO, u12]) ?_ 12 _ rfl
 refine qQ0 (cs := #[v0, v1, v2, v3, v4, v5, v6, v7, v8, v9, cL, u11, u12]) ?_ 11 _ rfl
 refine qQ0 (cs := #[v0, v1, v2, v3, v4, v5, v6, v7, v8, v9, u10, u11, u12]) ?_ 10 _ rfl
 refine qQ0 (cs := #[v0, v1, v2, v3, v4, v5, v6, v7, v8, u9, u10, u11, u12]) ?_ 9 _ rfl
 refine qQ0 (cs := #[v0, v1, v2, v3, v4, v5, v6, v7, u8, u9, u10, u11, u12]) ?_ 8 _ rfl
 refine qQ0 (cs := #[v0, v1, v2, v3, v4, v5, v6, u7, u8, u9, u10, u11, u12]) ?_ 7 _ rfl
 refine qQ0 (cs := #[v0, v1, v2, v3, v4, v5, u6, u7, u8, u9, u10, u11, u12]) ?_ 6 _ rfl
 refine qQ0 (cs := #[v0, v1, v2, v3, v4, u5, u6, u7, u8, u9, u10, u11, u12]) ?_ 5 _ rfl
 refine qQ0 (cs := #[v0, v1, v2, v3, u4, u5, u6, u7, u8, u9, u10, u11, u12]) ?_ 4 _ rfl
 refine qQ0 (cs := #[v0, v1, v2, u3, u4, u5, u6, u7, u8, u9, u10, u11, u12]) ?_ 3 _ rfl
 refine qQ0 (cs := #[v0, v1, u2, u3, u4, u5, u6, u7, u8, u9, u10, u11, u12]) ?_ 2 _ rfl
 refine qQ0 (cs := #[v0, u1, u2, u3, u4, u5, u6, u7, u8, u9, u10, u11, u12]) ?_ 1 _ rfl
 refine qQ0 (cs := #[u0, u1, u2, u3, u4, u5, u6, u7, u8, u9, u10, u11, u12]) ?_ 0 _ rfl
 exact hb
theorem qYt {α : Type} {d : Kd α} {e : Nat} {w : World} {base : Nat} {ok : Nat -> Prop} {v : Value} {xs : List α} {g : Nat} (h : d.R e w base ok v xs) (hok : ∀ k, ok k -> k ≠ g) {v0 v1 v2 v3 v4 v5 v6 v7 v8 v9 cL cO cT : Value} : d.R e ((((((((((((((w).setCell ⟨g, 0, none⟩ v0).setCell ⟨g, 1, none⟩ v1).setCell ⟨g, 2, none⟩ v2).setCell ⟨g, 3, none⟩ v3).setCell ⟨g, 4, none⟩ v4).setCell ⟨g, 5, none⟩ v5).setCell ⟨g, 6, none⟩ v6).setCell ⟨g, 7, none⟩ v7).setCell ⟨g, 8, none⟩ v8).setCell ⟨g, 9, none⟩ v9).setCell ⟨g, 10, none⟩ cL).setCell ⟨g, 11, none⟩ cO).setCell ⟨g, 12, none⟩ cT) base ok v xs := by
 iterate 13 refine Kd.R_far ?_ hok _
 exact h
end Go.Proofs.YtlhcohipnieidaaGreat.P
namespace Go.Proofs.YtlhcohipnieidaaGreat.P
open Go.RowKit W.PrintWords W.PrintLast W.PrintMore
attribute [local go_sem] qX8 qWa qWu qWv qXt qXu qX9 qWb
set_option linter.unusedVariables false
set_option linter.unusedSimpArgs false
def qZz.f (a0 : Int) : Option (Bool) := if a0 ≥ 0 then (some (decide (a0 <= 87658))) else (some false)
set_option maxHeartbeats 8000000 in
set_option maxRecDepth 100000 in
theorem qZz.calls (a0 : Int) (r : Bool) (w : World) (h : qZz.f a0 = some r) :
  Calls Tryz.prog 23 #[.int .i64 a0] w fun e w' => e = .returned (.bool r) /\ Drawn0 w w' := by
 have H := h
 unfold qZz.f at H
 clear h
 by_cases c2 : a0 ≥ 0
 ·rw [if_pos c2] at H
  have cI : decide (0 <= a0) = true := decide_eq_true c2
  clear c2
  obtain rfl := Option.some.inj H
  go_enter Tryz.func23, Tryz.ntmps23
  go_wp2
  go_ret
  exact ⟨fr, dr⟩
 rw [if_neg c2] at H
 have cI : decide (0 <= a0) = false := decide_eq_false c2
 clear c2
 obtain rfl := Option.some.inj H
 go_enter Tryz.func23, Tryz.ntmps23
 go_wp2
 go_ret
 exact ⟨fr, dr⟩
def qQ3.f (a0 : Int) : Option (Bool) := if a0 ≥ (-10000000000000) then (some (decide (a0 <= 10000000000000))) else (some false)
set_option maxHeartbeats 8000000 in
set_option maxRecDepth 100000 in
theorem qQ3.calls (a0 : Int) (r : Bool) (w : World) (h : qQ3.f a0 = some r) :
  Calls Tryz.prog 74 #[.int .i64 a0] w fun e w' => e = .returned (.bool r) /\ Drawn0 w w' := by
 have H := h
 unfold qQ3.f at H
 clear h
 by_cases c2 : a0 ≥ (-10000000000000)
 ·rw [if_pos c2] at H
  have cI : decide ((-10000000000000) <= a0) = true := decide_eq_true c2
  clear c2
  obtain rfl := Option.some.inj H
  go_enter Tryz.func74, Tryz.ntmps74
  go_wp2
  go_ret
  exact ⟨fr, dr⟩
 rw [if_neg c2] at H
 have cI : decide ((-10000000000000) <= a0) = false := decide_eq_false c2
 clear c2
 obtain rfl := Option.some.inj H
 go_enter Tryz.func74, Tryz.ntmps74
 go_wp2
 go_ret
 exact ⟨fr, dr⟩
def qYp.l0 : Nat -> List Int -> Int -> Int -> Option (Bool)
 | 0, _, _, _ => none
 | k + 1, x5, x6, x7 => if x7 < x6 then (if 0 <= x7 then (if x7 < (x5.length : Int) then (if (rd x5 x7) < 0 then (some false) else ((qQ3.f (rd x5 x7)).bind fun eP => (if eP = true then (qYp.l0 k x5 x6 (wrap64 (x7 + 1))) else (some false)))) else (none)) else (none)) else (some true)
def qYp.f (k : Nat) (l0 : List Int) : Option (Bool) := qYp.l0 k l0 (l0.length : Int) 0
set_option maxHeartbeats 8000000 in
set_option maxRecDepth 100000 in
theorem qYp.calls (k : Nat) (A0 : Option Addr) (c0 : Nat) (l0 : List Int) (r : Bool) (w : World) (hr0 : Kd.C (Kd.int .i64) w A0 l0.length l0) (hc0 : l0.length <= c0) (h : qYp.f k l0 = some r) :
  Calls Tryz.prog 47 #[.slice A0 l0.length c0] w fun e w' => e = .returned (.bool r) /\ Drawn0 w w' := by
 have d8 := am hr0
 have hP := am hc0
 clear hr0 hc0
 have H := h
 unfold qYp.f at H
 clear h
 have H' := am H
 clear H
 go_enter Tryz.func47, Tryz.ntmps47
 go_wp2
 go_loopg [7] k (fun kq v7 w' => ∃ (bK : Int), v7 = .int .i64 bK /\ Aside0 (qYp.l0 kq l0 (l0.length : Int) bK = some r) /\ Aside0 (kq <= k) /\ Drawn0 w w')
 case atStart => exact ⟨(0), fr, H', ⟨Nat.le_refl _⟩, dr⟩
 case round =>
  clear H'
  obtain ⟨bK, rfl, HA, hA, ⟨m1, rfl⟩⟩ := hrel
  rcases gk with _ | k1
  ·exact absurd HA.out (by simp [qYp.l0])
  have H := HA.out
  clear HA
  simp only [qYp.l0] at H
  by_cases c2 : bK < (l0.length : Int)
  case neg =>
   rw [if_neg c2] at H
   have cI := decide_eq_false c2
   clear c2
   obtain rfl := Option.some.inj H
   go_wp2
   go_ret
   exact ⟨fr, dr⟩
  rw [if_pos c2] at H
  have cI := decide_eq_true c2
  clear c2
  by_cases c3 : 0 <= bK
  case neg =>
   rw [if_neg c3] at H
   exact absurd H (by simp)
  rw [if_pos c3] at H
  have hR := decide_eq_true c3
  clear c3
  by_cases c4 : bK < (l0.length : Int)
  case neg =>
   rw [if_neg c4] at H
   exact absurd H (by simp)
  rw [if_pos c4] at H
  have bI := decide_eq_true c4
  clear c4
  by_cases c5 : (rd l0 bK) < 0
  ·rw [if_pos c5] at H
   have fS := decide_eq_true c5
   clear c5
   obtain rfl := Option.some.inj H
   have bW : 0 <= (bK : Int) := yd
   have bX : bK < (l0.length : Int) := yd
   obtain ⟨dP, cZ, cN⟩ := Kd.qZ7 d8.out bK bW bX
   cases cZ
   replace bW := eq_true bW
   replace bX := eq_true bX
   go_wp2
   go_ret
   exact ⟨fr, dr⟩
  rw [if_neg c5] at H
  have fS := decide_eq_false c5
  clear c5
  obtain ⟨eP, A6, H⟩ := bd H
  by_cases c7 : eP = true
  case neg =>
   replace c7 := Bool.eq_false_iff.mpr c7
   subst c7
   rw [if_neg (show ¬ (false = true) by decide)] at H
   obtain rfl := Option.some.inj H
   have bW : 0 <= (bK : Int) := yd
   have bX : bK < (l0.length : Int) := yd
   obtain ⟨dP, cZ, cN⟩ := Kd.qZ7 d8.out bK bW bX
   cases cZ
   replace bW := eq_true bW
   replace bX := eq_true bX
   go_wp2_with (first | (go_at_call 74; (with_reducible refine (qQ3.calls _ false _ A6.out).mono ?_); rintro e w' ⟨rfl, ⟨nd, rfl⟩⟩))
   go_ret
   exact ⟨fr, dr⟩
  subst c7
  rw [if_pos rfl] at H
  have H' := am H
  clear H
  have bW : 0 <= (bK : Int) := yd
  have bX : bK < (l0.length : Int) := yd
  obtain ⟨dP, cZ, cN⟩ := Kd.qZ7 d8.out bK bW bX
  cases cZ
  replace bW := eq_true bW
  replace bX := eq_true bX
  go_wp2_with (first | (go_at_call 74; (with_reducible refine (qQ3.calls _ true _ A6.out).mono ?_); rintro e w' ⟨rfl, ⟨nd, rfl⟩⟩))
  go_roundg k1
  case measure => have := hA.out; omega
  case rel => exact ⟨(wrap64 (bK + 1)), fr, H', o1 hA, dr⟩
mutual
def qQt.j0 : Nat -> Bool -> Int -> Int -> Int -> Int -> Int -> Int -> Bool -> Int -> Int -> Int -> Int -> Int -> Int -> Option (Bool)
 | 0, _, _, _, _, _, _, _, _, _, _, _, _, _, _ => none
 | k + 1, x3, a2, aQ, aG, aJ, aT, aK, a3, aM, aH, aN, a4, a5, aU => if x3 = true then (some false) else (if aG < 0 then (qQt.j1 k true a2 aQ aG aJ aT aK a3 aM aH aN a4 a5 aU) else (if aG > 1000000000000000000 then (qQt.j1 k true a2 aQ aG aJ aT aK a3 aM aH aN a4 a5 aU) else (if aJ < 0 then (qQt.j1 k true a2 aQ aG aJ aT aK a3 aM aH aN a4 a5 aU) else (qQt.j1 k (decide (aJ > 1000000000000000000)) a2 aQ aG aJ aT aK a3 aM aH aN a4 a5 aU))))
def qQt.j1 : Nat -> Bool -> Int -> Int -> Int -> Int -> Int -> Int -> Bool -> Int -> Int -> Int -> Int -> Int -> Int -> Option (Bool)
 | 0, _, _, _, _, _, _, _, _, _, _, _, _, _, _ => none
 | k + 1, iL, a2, aQ, aG, aJ, aT, aK, a3, aM, aH, aN, a4, a5, aU => if iL = true then (some false) else (if aK < 0 then (qQt.j2 k true a2 aQ aG aJ aT aK a3 aM aH aN a4 a5 aU) else (if aK > 1000000 then (qQt.j2 k true a2 aQ aG aJ aT aK a3 aM aH aN a4 a5 aU) else (if aM < 1 then (qQt.j2 k true a2 aQ aG aJ aT aK a3 aM aH aN a4 a5 aU) else (if aM > 5 then (qQt.j2 k true a2 aQ aG aJ aT aK a3 aM aH aN a4 a5 aU) else (if aH < 0 then (qQt.j2 k true a2 aQ aG aJ aT aK a3 aM aH aN a4 a5 aU) else (qQt.j2 k (decide (aH > 4)) a2 aQ aG aJ aT aK a3 aM aH aN a4 a5 aU))))))
def qQt.j2 : Nat -> Bool -> Int -> Int -> Int -> Int -> Int -> Int -> Bool -> Int -> Int -> Int -> Int -> Int -> Int -> Option (Bool)
 | 0, _, _, _, _, _, _, _, _, _, _, _, _, _, _ => none
 | k + 1, iM, a2, aQ, aG, aJ, aT, aK, a3, aM, aH, aN, a4, a5, aU => if iM = true then (some false) else (if aN < (-1) then (some false) else (if aN > 87658 then (some false) else (if aU < 0 then (some false) else (if aH = 0 then (some true) else (if aQ = 0 then (if aG = 0 then (some (aT == 0)) else (some false)) else (some false))))))
end
def qQt.f (k : Nat) (aV a9 aX a8 aW a6 : Int) (bH : Bool) (aY aZ a7 aC aD aE : Int) : Option (Bool) := if aV < 1 then (qQt.j0 k true aV a9 aX a8 aW a6 bH aY aZ a7 aC aD aE) else (if aV > 1000 then (qQt.j0 k true aV a9 aX a8 aW a6 bH aY aZ a7 aC aD aE) else ((qYp.f k (([a9, aW, aC, aD] : List Int))).bind fun cS => (qQt.j0 k (!cS) aV a9 aX a8 aW a6 bH aY aZ a7 aC aD aE)))
set_option maxHeartbeats 8000000 in
set_option maxRecDepth 100000 in
theorem qQt.calls (k : Nat) (aV a9 aX a8 aW a6 : Int) (bH : Bool) (aY aZ a7 aC aD aE : Int) (r : Bool) (w : World) (h : qQt.f k aV a9 aX a8 aW a6 bH aY aZ a7 aC aD aE = some r) :
  Calls Tryz.prog 26 #[.agg #[.int .i64 aV, .int .i64 a9, .int .i64 aX, .int .i64 a8, .int .i64 aW, .int .i64 a6, .bool bH, .int .i64 aY, .int .i64 aZ, .int .i64 a7, .int .i64 aC, .int .i64 aD, .int .i64 aE]] w fun e w' => e = .returned (.bool r) /\ Below w.heap.size w w' := by
 have fX := Tryz.underlying48
 have HB := am (Below.refl w.heap.size w)
 have H := h
 unfold qQt.f at H
 clear h
 have d6 := am H
 clear H
 go_enter Tryz.func26, Tryz.ntmps26
 go_upto_region 1 with (first | ((with_reducible refine gd 1 ?_); (try (refine qYw (by rfl) ?_; dsimp only)); refine bE 1 _ 48 ?_; intro dA hg w3 hbox hb; have aA := am hbox; have g7 := e0 HB hg; have aI := e0 HB hg; replace HB := s0 HB hb; clear hb hbox hg))
 (try simp only [Act.put, List.setIfInBounds_toArray, List.set_cons_zero, List.set_cons_succ])
 go_cut [3] (fun v3 wc => ∃ (kq : Nat) (dL : Bool), v3 = .bool dL /\ Aside0 (qQt.j0 kq dL aV a9 aX a8 aW a6 bH aY aZ a7 aC aD aE = some r) /\ Aside0 (kq <= k) /\ Aside0 (wc.heap[dA]? = some (.cells #[.int .i64 aV, .int .i64 a9, .int .i64 aX, .int .i64 a8, .int .i64 aW, .int .i64 a6, .bool bH, .int .i64 aY, .int .i64 aZ, .int .i64 a7, .int .i64 aC, .int .i64 aD, .int .i64 aE] 48 (0, 0))) /\ Aside0 (Below w.heap.size w wc))
 case first =>
  have H := d6.out
  clear d6
  by_cases c4 : aV < 1
  ·rw [if_pos c4] at H
   have bI := decide_eq_true c4
   clear c4
   (first | rw [bI] | (simp only [i64_w, i32_w]; rw [bI]) | skip)
   have H' := am H
   clear H
   have eU := lc13 aA.out
   go_wp2
   go_meet
   case rel => exact ⟨_, (true), fr, H', o0, bA aA, a1_ HB aI⟩
  rw [if_neg c4] at H
  have bI := decide_eq_false c4
  clear c4
  (first | rw [bI] | (simp only [i64_w, i32_w]; rw [bI]) | skip)
  by_cases c6 : aV > 1000
  ·rw [if_pos c6] at H
   have dK : decide (1000 < aV) = true := decide_eq_true c6
   clear c6
   have H' := am H
   clear H
   have gQ := lc13 aA.out
   go_wp2
   go_meet
   case rel => exact ⟨_, (true), fr, H', o0, bA aA, a1_ HB aI⟩
  rw [if_neg c6] at H
  have dK : decide (1000 < aV) = false := decide_eq_false c6
  clear c6
  obtain ⟨gY, dC⟩ : ∃ y_ : List Int, y_ = (([a9, aW, aC, aD] : List Int)) := ⟨_, rfl⟩
  replace H : ((qYp.f k gY).bind fun cS => (qQt.j0 k (!cS) aV a9 aX a8 aW a6 bH aY aZ a7 aC aD aE)) = some r := by exact hyq H dC
  have dN := am dC
  clear dC
  obtain ⟨cS, A8, H⟩ := bd H
  have H' := am H
  clear H
  have gR := lc13 aA.out
  go_wp2_with (first | ((with_reducible refine gd 21 ?_); (try (refine qYw (by rfl) ?_; dsimp only)); refine Kd.R_lit (Kd.int .i64) _ 2 ?hg (N := 21) ?hd (xs := ([a9, aW, aC, aD] : List Int)) (inner := [.int .i64 a9, .int .i64 aW, .int .i64 aC, .int .i64 aD]) (ok := fun _ => True) (okp := fun _ => True) ?hr ?hp (fun _ hk => hk) trivial (Below.refl _ _) (Nat.le_refl _) (by simp) ?_; (case hd => rfl); (case hg => rfl); (case hr => first | (go_simp; done) | (go_simp; rfl)); (case hp => exact (Reps.one (show Kd.M (Kd.int .i64) _ _ _ a9 [.int .i64 a9] from rfl) (Reps.one (show Kd.M (Kd.int .i64) _ _ _ aW [.int .i64 aW] from rfl) (Reps.one (show Kd.M (Kd.int .i64) _ _ _ aC [.int .i64 aC] from rfl) (Reps.one (show Kd.M (Kd.int .i64) _ _ _ aD [.int .i64 aD] from rfl) (Reps.none _ _)))))); intro iF iQ dB hb hg_ hnew_; clear hg_ hnew_; (first | rw [<- dN.out] at dB | (simp only [Int.reduceToNat] at dB; rw [<- dN.out] at dB)); have cW := am (Kd.qZ1 dB (qQn (by exact h1q HB.out aI.out))); replace aA := bB aA hb; replace HB := s1 HB aI hb; clear hb dB; obtain ⟨hM, hU, fU⟩ := Kd.qZq cW.out; subst fU) | (go_at_call 47; (with_reducible refine (qYp.calls _ _ _ _ cS _ ?side1 ?side2 A8.out).mono ?_); (case side1 => exact cq ((Kd.qQq cW.out).2.2)); (case side2 => exact (Kd.qQq cW.out).2.1); rintro e w' ⟨rfl, ⟨nd, rfl⟩⟩))
  go_meet
  case rel => exact ⟨_, (!cS), fr, H', o0, bA aA, a1_ HB aI⟩
 case rest =>
  clear d6
  try clear c4
  try clear bI
  try clear c6
  try clear dK
  try clear eU
  try clear gQ
  try clear gR
  obtain ⟨kq, dL, rfl, HA, cQ, aA, HB⟩ := hcut
  rcases kq with _ | fQ
  ·exact absurd HA.out (by simp [qQt.j0])
  have H := HA.out
  clear HA
  simp only [qQt.j0] at H
  by_cases eQ : dL = true
  ·subst eQ
   rw [if_pos rfl] at H
   obtain rfl := Option.some.inj H
   go_wp2
   go_ret
   exact ⟨er, by exact h1q HB.out aI.out⟩
  replace eQ := Bool.eq_false_iff.mpr eQ
  subst eQ
  rw [if_neg (show ¬ (false = true) by decide)] at H
  have d5 := am H
  clear H
  go_upto_region 3 with (fail)
  go_cut [25] (fun iI wc => ∃ (kq : Nat) (cE : Bool), iI = .bool cE /\ Aside0 (qQt.j1 kq cE aV a9 aX a8 aW a6 bH aY aZ a7 aC aD aE = some r) /\ Aside0 (kq <= fQ) /\ Aside0 (wc.heap[dA]? = some (.cells #[.int .i64 aV, .int .i64 a9, .int .i64 aX, .int .i64 a8, .int .i64 aW, .int .i64 a6, .bool bH, .int .i64 aY, .int .i64 aZ, .int .i64 a7, .int .i64 aC, .int .i64 aD, .int .i64 aE] 48 (0, 0))) /\ Aside0 (Below w.heap.size w wc))
  case first =>
   have H := d5.out
   clear d5
   by_cases dQ : aX < 0
   ·rw [if_pos dQ] at H
    have bV := decide_eq_true dQ
    clear dQ
    (first | rw [bV] | (simp only [i64_w, i32_w]; rw [bV]) | skip)
    have H' := am H
    clear H
    have fH := lc13 aA.out
    go_wp2
    go_meet
    case rel => exact ⟨_, (true), fr, H', o1 cQ, bA aA, a1_ HB aI⟩
   rw [if_neg dQ] at H
   have bV := decide_eq_false dQ
   clear dQ
   (first | rw [bV] | (simp only [i64_w, i32_w]; rw [bV]) | skip)
   by_cases dR : aX > 1000000000000000000
   ·rw [if_pos dR] at H
    have cX : decide (1000000000000000000 < aX) = true := decide_eq_true dR
    clear dR
    have H' := am H
    clear H
    have fI := lc13 aA.out
    go_wp2
    go_meet
    case rel => exact ⟨_, (true), fr, H', o1 cQ, bA aA, a1_ HB aI⟩
   rw [if_neg dR] at H
   have cX : decide (1000000000000000000 < aX) = false := decide_eq_false dR
   clear dR
   by_cases dS : a8 < 0
   ·rw [if_pos dS] at H
    have cY := decide_eq_true dS
    clear dS
    have H' := am H
    clear H
    have fJ := lc13 aA.out
    go_wp2
    go_meet
    case rel => exact ⟨_, (true), fr, H', o1 cQ, bA aA, a1_ HB aI⟩
   rw [if_neg dS] at H
   have cY := decide_eq_false dS
   clear dS
   have H' := am H
   clear H
   have fK := lc13 aA.out
   go_wp2
   go_meet
   case rel => exact ⟨_, (decide (a8 > 1000000000000000000)), fr, H', o1 cQ, bA aA, a1_ HB aI⟩
  case rest =>
   clear d5
   try clear c4
   try clear bI
   try clear c6
   try clear dK
   try clear eQ
   try clear dQ
   try clear bV
   try clear dR
   try clear cX
   try clear dS
   try clear cY
   try clear fH
   try clear fI
   try clear fJ
   try clear fK
   try clear eU
   try clear gQ
   try clear gR
   obtain ⟨kq, cE, rfl, HA, cR, aA, HB⟩ := hcut
   rcases kq with _ | gS
   ·exact absurd HA.out (by simp [qQt.j1])
   have H := HA.out
   clear HA
   simp only [qQt.j1] at H
   by_cases eZ : cE = true
   ·subst eZ
    rw [if_pos rfl] at H
    obtain rfl := Option.some.inj H
    go_wp2
    go_ret
    exact ⟨er, by exact h1q HB.out aI.out⟩
   replace eZ := Bool.eq_false_iff.mpr eZ
   subst eZ
   rw [if_neg (show ¬ (false = true) by decide)] at H
   have d7 := am H
   clear H
   go_upto_region 5 with (fail)
   go_cut [44] (fun iJ wc => ∃ (kq : Nat) (cF : Bool), iJ = .bool cF /\ Aside0 (qQt.j2 kq cF aV a9 aX a8 aW a6 bH aY aZ a7 aC aD aE = some r) /\ Aside0 (kq <= gS) /\ Aside0 (wc.heap[dA]? = some (.cells #[.int .i64 aV, .int .i64 a9, .int .i64 aX, .int .i64 a8, .int .i64 aW, .int .i64 a6, .bool bH, .int .i64 aY, .int .i64 aZ, .int .i64 a7, .int .i64 aC, .int .i64 aD, .int .i64 aE] 48 (0, 0))) /\ Aside0 (Below w.heap.size w wc))
   case first =>
    have H := d7.out
    clear d7
    by_cases eC : a6 < 0
    ·rw [if_pos eC] at H
     have bY := decide_eq_true eC
     clear eC
     (first | rw [bY] | (simp only [i64_w, i32_w]; rw [bY]) | skip)
     have H' := am H
     clear H
     have gJ := lc13 aA.out
     go_wp2
     go_meet
     case rel => exact ⟨_, (true), fr, H', o2 cQ cR, bA aA, a1_ HB aI⟩
    rw [if_neg eC] at H
    have bY := decide_eq_false eC
    clear eC
    (first | rw [bY] | (simp only [i64_w, i32_w]; rw [bY]) | skip)
    by_cases eD : a6 > 1000000
    ·rw [if_pos eD] at H
     have dT : decide (1000000 < a6) = true := decide_eq_true eD
     clear eD
     have H' := am H
     clear H
     have gK := lc13 aA.out
     go_wp2
     go_meet
     case rel => exact ⟨_, (true), fr, H', o2 cQ cR, bA aA, a1_ HB aI⟩
    rw [if_neg eD] at H
    have dT : decide (1000000 < a6) = false := decide_eq_false eD
    clear eD
    by_cases eE : aY < 1
    ·rw [if_pos eE] at H
     have dU := decide_eq_true eE
     clear eE
     have H' := am H
     clear H
     have gL := lc13 aA.out
     go_wp2
     go_meet
     case rel => exact ⟨_, (true), fr, H', o2 cQ cR, bA aA, a1_ HB aI⟩
    rw [if_neg eE] at H
    have dU := decide_eq_false eE
    clear eE
    by_cases eF : aY > 5
    ·rw [if_pos eF] at H
     have dV : decide (5 < aY) = true := decide_eq_true eF
     clear eF
     have H' := am H
     clear H
     have gM := lc13 aA.out
     go_wp2
     go_meet
     case rel => exact ⟨_, (true), fr, H', o2 cQ cR, bA aA, a1_ HB aI⟩
    rw [if_neg eF] at H
    have dV : decide (5 < aY) = false := decide_eq_false eF
    clear eF
    by_cases eG : aZ < 0
    ·rw [if_pos eG] at H
     have dW := decide_eq_true eG
     clear eG
     have H' := am H
     clear H
     have gN := lc13 aA.out
     go_wp2
     go_meet
     case rel => exact ⟨_, (true), fr, H', o2 cQ cR, bA aA, a1_ HB aI⟩
    rw [if_neg eG] at H
    have dW := decide_eq_false eG
    clear eG
    have H' := am H
    clear H
    have gO := lc13 aA.out
    go_wp2
    go_meet
    case rel => exact ⟨_, (decide (aZ > 4)), fr, H', o2 cQ cR, bA aA, a1_ HB aI⟩
   case rest =>
    clear d7
    try clear c4
    try clear bI
    try clear c6
    try clear dK
    try clear eQ
    try clear dQ
    try clear bV
    try clear dR
    try clear cX
    try clear dS
    try clear cY
    try clear eZ
    try clear eC
    try clear bY
    try clear eD
    try clear dT
    try clear eE
    try clear dU
    try clear eF
    try clear dV
    try clear eG
    try clear dW
    try clear fH
    try clear fI
    try clear fJ
    try clear fK
    try clear gJ
    try clear gK
    try clear gL
    try clear gM
    try clear gN
    try clear gO
    try clear eU
    try clear gQ
    try clear gR
    obtain ⟨kq, cF, rfl, HA, hQ, aA, HB⟩ := hcut
    rcases kq with _ | iE
    ·exact absurd HA.out (by simp [qQt.j2])
    have H := HA.out
    clear HA
    simp only [qQt.j2] at H
    by_cases fP : cF = true
    ·subst fP
     rw [if_pos rfl] at H
     obtain rfl := Option.some.inj H
     go_wp2
     go_ret
     exact ⟨er, by exact h1q HB.out aI.out⟩
    replace fP := Bool.eq_false_iff.mpr fP
    subst fP
    rw [if_neg (show ¬ (false = true) by decide)] at H
    by_cases eR : a7 < (-1)
    ·rw [if_pos eR] at H
     have e6 := decide_eq_true eR
     clear eR
     obtain rfl := Option.some.inj H
     have h7 := lc13 aA.out
     go_wp2
     go_ret
     exact ⟨er, by exact h1q HB.out aI.out⟩
    rw [if_neg eR] at H
    have e6 := decide_eq_false eR
    clear eR
    by_cases eS : a7 > 87658
    ·rw [if_pos eS] at H
     have e7 : decide (87658 < a7) = true := decide_eq_true eS
     clear eS
     obtain rfl := Option.some.inj H
     have h8 := lc13 aA.out
     go_wp2
     go_ret
     exact ⟨er, by exact h1q HB.out aI.out⟩
    rw [if_neg eS] at H
    have e7 : decide (87658 < a7) = false := decide_eq_false eS
    clear eS
    by_cases eT : aE < 0
    ·rw [if_pos eT] at H
     have e8 := decide_eq_true eT
     clear eT
     obtain rfl := Option.some.inj H
     have h9 := lc13 aA.out
     go_wp2
     go_ret
     exact ⟨er, by exact h1q HB.out aI.out⟩
    rw [if_neg eT] at H
    have e8 := decide_eq_false eT
    clear eT
    by_cases eH : aZ = 0
    ·rw [if_pos eH] at H
     have e9 := beq_iff_eq.mpr eH
     have fA := bne_eq_false_iff_eq.mpr eH
     clear eH
     obtain rfl := Option.some.inj H
     have iA := lc13 aA.out
     go_wp2
     go_ret
     exact ⟨er, by exact h1q HB.out aI.out⟩
    rw [if_neg eH] at H
    have e9 := beq_eq_false_iff_ne.mpr eH
    have fA := bne_iff_ne.mpr eH
    by_cases eI : a9 = 0
    case neg =>
     rw [if_neg eI] at H
     have fB := beq_eq_false_iff_ne.mpr eI
     have fC := bne_iff_ne.mpr eI
     obtain rfl := Option.some.inj H
     have iD := lc13 aA.out
     go_wp2
     go_ret
     exact ⟨er, by exact h1q HB.out aI.out⟩
    rw [if_pos eI] at H
    have fB := beq_iff_eq.mpr eI
    have fC := bne_eq_false_iff_eq.mpr eI
    clear eI
    by_cases eJ : aX = 0
    case neg =>
     rw [if_neg eJ] at H
     have fD := beq_eq_false_iff_ne.mpr eJ
     have fE := bne_iff_ne.mpr eJ
     obtain rfl := Option.some.inj H
     have iC := lc13 aA.out
     go_wp2
     go_ret
     exact ⟨er, by exact h1q HB.out aI.out⟩
    rw [if_pos eJ] at H
    have fD := beq_iff_eq.mpr eJ
    have fE := bne_eq_false_iff_eq.mpr eJ
    clear eJ
    obtain rfl := Option.some.inj H
    have iB := lc13 aA.out
    go_wp2
    go_ret
    exact ⟨er, by exact h1q HB.out aI.out⟩
def qXb.go (k : Nat) : List S48 -> Nat -> Option Int
 | [], _ => some (-1)
 | x :: l, j => (qQt.f k x.f0 x.f1 x.f2 x.f3 x.f4 x.f5 x.f6 x.f7 x.f8 x.f9 x.f10 x.f11 x.f12).bind fun g => if g = true then qXb.go k l (j + 1) else some (j : Int)
def qXb.f (k : Nat) (l0 : List S48) : Option Bool := if l0.length <= 100000 then (qXb.go k l0 0).bind fun i => some (decide (0 <= i)) else none
set_option maxHeartbeats 8000000 in
set_option maxRecDepth 100000 in
theorem qXb.in_ (k : Nat) (x : S48) (g : Bool) (w : World) (hg : qQt.f k x.f0 x.f1 x.f2 x.f3 x.f4 x.f5 x.f6 x.f7 x.f8 x.f9 x.f10 x.f11 x.f12 = some g) :
  Calls Tryz.prog 25 #[.agg #[.int .i64 x.f0, .int .i64 x.f1, .int .i64 x.f2, .int .i64 x.f3, .int .i64 x.f4, .int .i64 x.f5, .bool x.f6, .int .i64 x.f7, .int .i64 x.f8, .int .i64 x.f9, .int .i64 x.f10, .int .i64 x.f11, .int .i64 x.f12]] w fun e w' => e = .returned (.bool (!g)) /\ Below w.heap.size w w' := by
 have fW := Tryz.underlying48
 obtain ⟨x0, x1, x2, x3, x4, x5, x6, x7, x8, x9, gV, gW, gX⟩ := x
 dsimp only at hg ⊢
 have HG := am hg
 clear hg
 have HB := am (Below.refl w.heap.size w)
 go_enter Tryz.func25, Tryz.ntmps25
 go_wp2_with (first | ((with_reducible refine gd 1 ?_); refine bE 1 _ 48 ?_; intro gb hgq w6 hbox hb1; obtain ⟨hc0, hc1, hc2, hc3, hc4, hc5, hc6, hc7, hc8, hc9, hc10, hc11, hc12⟩ := lc13c hbox; have n_ := am (qQo (by exact h0q HB.out) hb1); clear HB; have HB := n_; clear n_ hb1; clear hbox hgq) | (go_at_call 26; (with_reducible refine (qQt.calls k x0 x1 x2 x3 x4 x5 x6 x7 x8 x9 gV gW gX g _ HG.out).mono ?_); rintro e w7 ⟨rfl, hb1⟩; have n_ := am (qQo (by exact h0q HB.out) hb1); clear HB; have HB := n_; clear n_ hb1))
 go_ret
 exact ⟨by first | rfl | (simp; done), (by exact h0q HB.out)⟩
set_option maxHeartbeats 8000000 in
set_option maxRecDepth 100000 in
theorem qXb.index (k : Nat) (A0 : Option Addr) (c0 : Nat) (l0 : List S48) (r : Int) (w : World) (hr0 : Kd.C k48 w A0 l0.length l0) (hlen : l0.length <= 100000) (h : qXb.go k l0 0 = some r) :
  Calls Tryz.prog 46 #[.slice A0 l0.length c0, .func (.func 25) #[] #[]] w fun e w' => e = .returned (.int .i64 r) /\ Below w.heap.size w w' := by
 have fW := Tryz.underlying48
 have d8 := am hr0
 have HR := am h
 clear hr0 h
 have HB := am (Below.refl w.heap.size w)
 go_enter Tryz.func46, Tryz.ntmps46
 go_wp2
 go_loopw [5, 8] (fun v5 v8 wr => ∃ (j : Nat), j <= l0.length /\ v8 = .int .i64 j /\ Aside0 (qXb.go k (l0.drop j) j = some r) /\ Aside0 (Below w.heap.size w wr)) (fun _ v8 _ => l0.length - (intOf v8).toNat)
 case atStart => exact ⟨0, Nat.zero_le _, rfl, ⟨by rw [List.drop_zero]; exact HR.out⟩, ⟨(by exact h0q HB.out)⟩⟩
 case round =>
  clear HB
  obtain ⟨j, hj, rfl, HS, HB⟩ := hrel
  by_cases hlt : j < l0.length
  ·have hd : l0.drop j = qQb l0 j :: l0.drop (j + 1) := by
    rw [List.drop_eq_getElem_cons hlt]; congr 1; unfold qQb; simp [List.getD_eq_getElem?_getD, hlt]
   have h0 := HS.out
   rw [hd, qXb.go] at h0
   obtain ⟨g, hg, h0⟩ := Option.bind_eq_some_iff.mp h0
   have hcall := qXb.in_ k (qQb l0 j) g
   obtain ⟨ad, ea, fY, fZ, gA, gB, gD, gE, gF, gG, gH, gI, eM, eN, eO⟩ := qXr (Kd.qZp d8.out HB.out) j (by omega) (by omega)
   cases ea
   simp only [Int.toNat_natCast] at fY fZ gA gB gD gE gF gG gH gI eM eN eO
   have hltz : (j : Int) < (l0.length : Int) := by omega
   have hltn : (0 : Int) <= (j : Int) := by omega
   obtain ⟨x, hxx⟩ : ∃ x, x = qQb l0 j := ⟨_, rfl⟩
   rw [<- hxx] at hg fY fZ gA gB gD gE gF gG gH gI eM eN eO hcall
   obtain ⟨x0, x1, x2, x3, x4, x5, x6, x7, x8, x9, gV, gW, gX⟩ := x
   dsimp only at hg fY fZ gA gB gD gE gF gG gH gI eM eN eO hcall
   have HC : Aside0 (∀ w1, Calls Tryz.prog 25 #[.agg #[.int .i64 x0, .int .i64 x1, .int .i64 x2, .int .i64 x3, .int .i64 x4, .int .i64 x5, .bool x6, .int .i64 x7, .int .i64 x8, .int .i64 x9, .int .i64 gV, .int .i64 gW, .int .i64 gX]] w1 fun e w' => e = .returned (.bool (!g)) /\ Below w1.heap.size w1 w') := ⟨fun w1 => hcall w1 hg⟩
   clear hxx hd HS hcall hg
   cases g with
   | false =>
    rw [if_neg (by simp)] at h0
    obtain rfl := (Option.some.inj h0).symm
    clear h0
    go_wp2_with (go_at_call 25; refine (HC.out _).mono ?_; rintro e w1 ⟨rfl, hb1⟩; have n_ := am (qQo (by exact h0q HB.out) hb1); clear HB; have HB := n_; clear n_ hb1)
    go_ret
    exact ⟨by first | rfl | (simp; done), HB.out⟩
   | true =>
    rw [if_pos rfl] at h0
    have HN := am h0
    clear h0
    go_wp2_with (go_at_call 25; refine (HC.out _).mono ?_; rintro e w1 ⟨rfl, hb1⟩; have n_ := am (qQo (by exact h0q HB.out) hb1); clear HB; have HB := n_; clear n_ hb1)
    go_roundw
    case measure => simp [intOf]; omega
    case rel => exact ⟨j + 1, by omega, by go_num, HN, HB⟩
  ·have h0 := HS.out
   rw [List.drop_of_length_le (by omega), qXb.go] at h0
   obtain rfl := (Option.some.inj h0).symm
   have hltz : ¬ (j : Int) < (l0.length : Int) := by omega
   go_wp2
   go_ret
   exact ⟨by first | rfl | (simp; done), HB.out⟩
set_option maxHeartbeats 8000000 in
set_option maxRecDepth 100000 in
theorem qXb.calls (k : Nat) (A0 : Option Addr) (c0 : Nat) (l0 : List S48) (r : Bool) (w : World) (hr0 : Kd.C k48 w A0 l0.length l0) (hc0 : l0.length <= c0) (h : qXb.f k l0 = some r) :
  Calls Tryz.prog 24 #[.slice A0 l0.length c0, .func (.func 25) #[] #[]] w fun e w' => e = .returned (.bool r) /\ Below w.heap.size w w' := by
 by_cases hlen : l0.length <= 100000
 case neg => rw [qXb.f, if_neg hlen] at h; cases h
 rw [qXb.f, if_pos hlen] at h
 obtain ⟨i, hi, h⟩ := Option.bind_eq_some_iff.mp h
 have h := Option.some.inj h
 have HI : Aside0 (∀ w1, Below w.heap.size w w1 -> Calls Tryz.prog 46 #[.slice A0 l0.length c0, .func (.func 25) #[] #[]] w1 fun e w' => e = .returned (.int .i64 i) /\ Below w1.heap.size w1 w') := ⟨fun w1 hw => qXb.index k A0 c0 l0 i w1 (Kd.qZp hr0 hw) hlen hi⟩
 have HB := am (Below.refl w.heap.size w)
 obtain ⟨n, hn⟩ : ∃ n, l0.length = n := ⟨_, rfl⟩
 rw [hn] at HI ⊢
 clear hr0 hc0 hi hlen hn
 subst h
 go_enter Tryz.func24, Tryz.ntmps24
 go_wp2_with (go_at_call 46; refine (HI.out _ (by exact h0q HB.out)).mono ?_; rintro e w2 ⟨rfl, hb1⟩; have n_ := am (qQo (by exact h0q HB.out) hb1); clear HB; have HB := n_; clear n_ hb1)
 go_ret
 exact ⟨by first | rfl | (simp; done), HB.out⟩
def qYm.f (aV a9 aX a8 aW a6 : Int) (bH : Bool) (aY aZ a7 aC aD aE : Int) : Option (Bool) := if aZ = 0 then (some (aY == 5)) else (some false)
set_option maxHeartbeats 8000000 in
set_option maxRecDepth 100000 in
theorem qYm.calls (aV a9 aX a8 aW a6 : Int) (bH : Bool) (aY aZ a7 aC aD aE : Int) (r : Bool) (w : World) (h : qYm.f aV a9 aX a8 aW a6 bH aY aZ a7 aC aD aE = some r) :
  Calls Tryz.prog 27 #[.agg #[.int .i64 aV, .int .i64 a9, .int .i64 aX, .int .i64 a8, .int .i64 aW, .int .i64 a6, .bool bH, .int .i64 aY, .int .i64 aZ, .int .i64 a7, .int .i64 aC, .int .i64 aD, .int .i64 aE]] w fun e w' => e = .returned (.bool r) /\ Below w.heap.size w w' := by
 have fX := Tryz.underlying48
 have HB := am (Below.refl w.heap.size w)
 have H := h
 unfold qYm.f at H
 clear h
 by_cases c2 : aZ = 0
 case neg =>
  rw [if_neg c2] at H
  have cI := beq_eq_false_iff_ne.mpr c2
  have fR := bne_iff_ne.mpr c2
  obtain rfl := Option.some.inj H
  go_enter Tryz.func27, Tryz.ntmps27
  go_wp2_with (first | ((with_reducible refine gd 1 ?_); refine bE 1 _ 48 ?_; intro fF hg w5 hbox hb; have cU := am hbox; have eV := e0 HB hg; have cV := e0 HB hg; replace HB := s0 HB hb; clear hb hbox hg; have gP := lc13 cU.out))
  go_ret
  exact ⟨er, by exact h1q HB.out cV.out⟩
 rw [if_pos c2] at H
 have cI := beq_iff_eq.mpr c2
 have fR := bne_eq_false_iff_eq.mpr c2
 clear c2
 obtain rfl := Option.some.inj H
 go_enter Tryz.func27, Tryz.ntmps27
 go_wp2_with (first | ((with_reducible refine gd 1 ?_); refine bE 1 _ 48 ?_; intro fF hg w3 hbox hb; have cU := am hbox; have eV := e0 HB hg; have cV := e0 HB hg; replace HB := s0 HB hb; clear hb hbox hg; have iP := lc13 cU.out))
 go_ret
 exact ⟨er, by exact h1q HB.out cV.out⟩
-- NOT PRINTED: function 106 (loan_does_1)
-- NOT PRINTED: function 107 (loan_stop)
-- NOT PRINTED: function 85 (qQi)
-- NOT PRINTED: function 97 (money_Sum_1)
-- NOT PRINTED: function 98 (money_add)
def isMoney (a : Int) : Bool := decide (-10000000000000 <= a /\ a <= 10000000000000)
theorem qQ3.some_ (a : Int) : qQ3.f a = some (isMoney a) := by
 unfold qQ3.f isMoney
 by_cases h : a ≥ -10000000000000
 ·rw [if_pos h]; simp [h]
 ·rw [if_neg h]; simp; omega
def qZ3.go : List Int -> Int -> Int × Int
 | [], s => (s, 0)
 | a :: l, s => if isMoney s && (isMoney a && isMoney (s + a)) then qZ3.go l (s + a) else (0, 14)
def qZ3.f (l0 : List Int) : Option (Int × Int) := if l0.length <= 140737488351232 then some (qZ3.go l0 0) else none
set_option maxHeartbeats 8000000 in
set_option maxRecDepth 100000 in
theorem qZ3.add_ok (a b : Int) (w : World) (h1 : isMoney a = true) (h2 : isMoney b = true) (h3 : isMoney (a + b) = true) :
  Calls Tryz.prog 98 #[.int .i64 a, .int .i64 b] w fun e w' => e = .returned (.int .i64 (a + b)) /\ Drawn0 w w' := by
 have bd1 : -10000000000000 <= a /\ a <= 10000000000000 := by simpa [isMoney] using h1
 have bd2 : -10000000000000 <= b /\ b <= 10000000000000 := by simpa [isMoney] using h2
 have g1 := am ((qQ3.some_ a).trans (by rw [h1])); have g2 := am ((qQ3.some_ b).trans (by rw [h2])); have g3 := am ((qQ3.some_ (a + b)).trans (by rw [h3]))
 clear h1 h2 h3
 obtain ⟨q1, q2⟩ := bd1
 obtain ⟨q3, q4⟩ := bd2
 go_enter Tryz.func98, Tryz.ntmps98
 go_wp2_with fail
 refine (qQ3.calls a true _ g1.out).mono ?_
 rintro e w' ⟨rfl, ⟨nd, rfl⟩⟩
 go_wp2_with fail
 refine (qQ3.calls b true _ g2.out).mono ?_
 rintro e w' ⟨rfl, ⟨nd, rfl⟩⟩
 go_wp2_with fail
 refine (qQ3.calls (a + b) true _ g3.out).mono ?_
 rintro e w' ⟨rfl, ⟨nd, rfl⟩⟩
 go_wp2
 go_ret
 exact ⟨rfl, dr⟩
set_option maxHeartbeats 8000000 in
set_option maxRecDepth 100000 in
theorem qZ3.zJc (a b : Int) (w : World) (h : (isMoney a && (isMoney b && isMoney (a + b))) = false) :
  Calls Tryz.prog 98 #[.int .i64 a, .int .i64 b] w fun e w' => e = .panicked [{ v := .iface 135 (.agg #[]), recovered := false }] /\ Drawn0 w w' := by
 cases h1 : isMoney a with
 | false =>
  have g1 := am ((qQ3.some_ a).trans (by rw [h1]))
  clear h h1
  go_enter Tryz.func98, Tryz.ntmps98
  go_wp2_with fail
  refine (qQ3.calls a false _ g1.out).mono ?_
  rintro e w' ⟨rfl, ⟨nd, rfl⟩⟩
  go_wp2
  exact ⟨rfl, rfl, dr⟩
 | true =>
  have g1 := am ((qQ3.some_ a).trans (by rw [h1]))
  have bd1 : -10000000000000 <= a /\ a <= 10000000000000 := by simpa [isMoney] using h1
  rw [h1, Bool.true_and] at h
  clear h1
  obtain ⟨q1, q2⟩ := bd1
  cases h2 : isMoney b with
  | false =>
   have g2 := am ((qQ3.some_ b).trans (by rw [h2]))
   clear h h2
   go_enter Tryz.func98, Tryz.ntmps98
   go_wp2_with fail
   refine (qQ3.calls a true _ g1.out).mono ?_
   rintro e w' ⟨rfl, ⟨nd, rfl⟩⟩
   go_wp2_with fail
   refine (qQ3.calls b false _ g2.out).mono ?_
   rintro e w' ⟨rfl, ⟨nd, rfl⟩⟩
   go_wp2
   exact ⟨rfl, rfl, dr⟩
  | true =>
   have g2 := am ((qQ3.some_ b).trans (by rw [h2]))
   have bd2 : -10000000000000 <= b /\ b <= 10000000000000 := by simpa [isMoney] using h2
   rw [h2, Bool.true_and] at h
   have g3 := am ((qQ3.some_ (a + b)).trans (by rw [h]))
   clear h h2
   obtain ⟨q3, q4⟩ := bd2
   go_enter Tryz.func98, Tryz.ntmps98
   go_wp2_with fail
   refine (qQ3.calls a true _ g1.out).mono ?_
   rintro e w' ⟨rfl, ⟨nd, rfl⟩⟩
   go_wp2_with fail
   refine (qQ3.calls b true _ g2.out).mono ?_
   rintro e w' ⟨rfl, ⟨nd, rfl⟩⟩
   go_wp2_with fail
   refine (qQ3.calls (a + b) false _ g3.out).mono ?_
   rintro e w' ⟨rfl, ⟨nd, rfl⟩⟩
   go_wp2
   exact ⟨rfl, rfl, dr⟩
set_option maxHeartbeats 8000000 in
set_option maxRecDepth 100000 in
theorem qZ3.idle (p q : Addr) (w : World) :
  CallsD Tryz.prog 97 #[.pointer (some p), .pointer (some q)] .returning w fun e u' w' => e = .returned (.tuple #[]) /\ u' = .returning /\ w' = w := by
 refine callsD_of_wpS Tryz.func97 rfl fun c₀ cs hu => ?_
 apply wpS_seq
 apply wpS_region
 simp [wpOpsS, go_sem, recoverD, hu, Tryz.ntmps97, Exit.thenS]
 refine wpS_of_wp ?_
 go_wp2
 cases c₀
 simp_all [bodyPostS, results, Tryz.results97]
set_option maxHeartbeats 8000000 in
set_option maxRecDepth 100000 in
theorem qZ3.caught (g : Nat) (x y : Int) (w : World) (h1 : w.heap[g]? = some (.cells #[.int .i64 x] 2 (0, 0))) (h2 : w.heap[g + 1]? = some (.cells #[.int .i64 y] 33 (0, 0))) :
  CallsD Tryz.prog 97 #[.pointer (some ⟨g, 0, none⟩), .pointer (some ⟨g + 1, 0, none⟩)] (.panicking [{ v := .iface 135 (.agg #[]), recovered := false }]) w fun e u' w' =>
   e = .returned (.tuple #[]) /\ u' = .panicking [{ v := .iface 135 (.agg #[]), recovered := true }] /\
   w'.heap[g]? = some (.cells #[.int .i64 0] 2 (0, 0)) /\ w'.heap[g + 1]? = some (.cells #[.int .i64 14] 33 (0, 0)) /\ ∀ W, Below g W w -> Below g W w' := by
 have hl := qXq h2
 have c1 : w.cell? ⟨g, 0, none⟩ = some (.int .i64 x) := (qQa h1 0).trans rfl
 have c2 : w.cell? ⟨g + 1, 0, none⟩ = some (.int .i64 y) := (qQa h2 0).trans rfl
 have f1 := qQd h1 0
 have f2 := qQd h2 0
 have k1 := qYq h1 (Obj.cells #[] 135)
 have k2 := qZ8 (qYq h2 (Obj.cells #[] 135)) (p := ⟨g, 0, none⟩) (by simp) (.int .i64 0)
 have d1 : (w.alloc (Obj.cells #[] 135)).cell? ⟨g, 0, none⟩ = some (.int .i64 x) := (qQa k1 0).trans rfl
 have d2 : ((w.alloc (Obj.cells #[] 135)).setCell ⟨g, 0, none⟩ (.int .i64 0)).cell? ⟨g + 1, 0, none⟩ = some (.int .i64 y) := (qQa k2 0).trans rfl
 have e1 := qQd k1 0
 have e2 := qQd k2 0
 have K1 := am k1; have K2 := am k2
 clear h1 h2 k1 k2 c1 c2 f1 f2
 have hta : ∀ (v : Value) (W : World), (Instr.typeAssert (.iface 135 v) 20 135 true).run Tryz.prog W = .ok (.tuple #[v, .bool true]) W := fun v W => by rfl
 refine callsD_of_wpS Tryz.func97 rfl fun c₀ cs hu => ?_
 apply wpS_seq
 apply wpS_region
 simp [wpOpsS, go_sem, recoverD, hu, Tryz.ntmps97, Exit.thenS]
 refine wpS_of_wp ?_
 go_wp2
 cases c₀
 simp only at hu
 subst hu
 refine ⟨rfl, _, rfl, _, results_none rfl _ _ _, rfl, rfl, qZ8 (qQ0 K1.out 0 _ rfl) (by simp) _, qQ0 K2.out 0 _ rfl, fun W hb => ?_⟩
 exact ((hb.alloc (by omega) _).setCell (Nat.le_refl _) _).setCell (by simp) _
set_option maxHeartbeats 8000000 in
set_option maxRecDepth 100000 in
theorem qZ3.calls (A0 : Option Addr) (c0 : Nat) (l0 : List Int) (r1 r2 : Int) (w : World) (hr0 : Kd.C (Kd.int .i64) w A0 l0.length l0) (hc0 : l0.length <= c0) (h : qZ3.f l0 = some (r1, r2)) :
  Calls Tryz.prog 80 #[.slice A0 l0.length c0] w fun e w' => e = .returned (.tuple #[.int .i64 r1, .int .i64 r2]) /\ Below w.heap.size w w' := by
 have d8 := am hr0
 have hP := am hc0
 have hlen : l0.length <= 140737488351232 := by
  by_cases c : l0.length <= 140737488351232
  ·exact c
  ·rw [qZ3.f, if_neg c] at h; cases h
 rw [qZ3.f, if_pos hlen] at h
 have HG := am (Option.some.inj h)
 clear hr0 hc0 h
 have hmf : ∀ (fn : Fn) (first cap : Array Value) (w : World), (Instr.makeFunc fn first cap).run Tryz.prog w = .ok (.func fn first cap) w := fun _ _ _ _ => rfl
 go_enter_defers Tryz.func80, Tryz.ntmps80
 go_wp2
 go_loopw [5, 9] (fun v5 v9 wr => ∃ (j : Nat) (s : Int), j <= l0.length /\ v9 = .int .i64 j /\ Aside0 (qZ3.go (l0.drop j) s = (r1, r2)) /\ Aside0 (wr.heap[w.heap.size]? = some (.cells #[.int .i64 s] 2 (0, 0))) /\ Aside0 (wr.heap[w.heap.size + 1]? = some (.cells #[.int .i64 0] 33 (0, 0))) /\ Aside0 (Below w.heap.size w wr)) (fun _ v9 _ => l0.length - (intOf v9).toNat)
 case atStart =>
  have k0 := qXs w (Obj.cells #[.int .i64 0] 2)
  exact ⟨0, 0, Nat.zero_le _, rfl, by rw [List.drop_zero]; exact HG, ⟨qYq k0 _⟩, ⟨by have := qXs (w.alloc (Obj.cells #[.int .i64 0] 2)) (Obj.cells #[.int .i64 0] 33); simpa using this⟩, ⟨((Below.refl _ _).alloc (Nat.le_refl _) _).alloc (by simp) _⟩⟩
 case round =>
  obtain ⟨j, s, hj, rfl, HS, B1, B2, HB⟩ := hrel
  have lt1 := qXq B1.out
  have lt2 := qXq B2.out
  by_cases hlt : j < l0.length
  ·have hd : l0.drop j = rd l0 j :: l0.drop (j + 1) := by
    rw [List.drop_eq_getElem_cons hlt]; congr 1; unfold rd; simp [List.getD_eq_getElem?_getD, hlt]
   have h0 := HS.out
   rw [hd, qZ3.go] at h0
   obtain ⟨ad, ea, hx⟩ := Kd.qZ7 (Kd.qZp d8.out HB.out) j (by omega) (by omega)
   cases ea
   simp only [Int.toNat_natCast] at hx
   have hc1 : wr.cell? ⟨w.heap.size, 0, none⟩ = some (.int .i64 s) := (qQa B1.out 0).trans rfl
   have hf1 := qQd B1.out 0
   by_cases hg : (isMoney s && (isMoney (rd l0 j) && isMoney (s + rd l0 j))) = true
   ·rw [if_pos hg] at h0
    have HN := am h0
    have H1 := am hg
    clear h0 hg HS hd
    go_wp2_with fail
    have hg := H1.out
    simp only [Bool.and_eq_true] at hg
    refine (qZ3.add_ok s (rd l0 j) _ hg.1 hg.2.1 hg.2.2).mono ?_
    clear hg
    rintro e w' ⟨rfl, ⟨nd, rfl⟩⟩
    go_wp2
    go_roundw
    case measure => simp [intOf]; omega
    case rel => exact ⟨j + 1, s + rd l0 j, by omega, by go_num, HN, ⟨qQ0 (qZ4 B1.out _) 0 _ rfl⟩, ⟨qZ8 (qZ4 B2.out _) (by simp) _⟩, ⟨(qQr HB.out _).setCell (Nat.le_refl _) _⟩⟩
   ·rw [if_neg hg] at h0
    have HN := am h0
    have H1 := am (Bool.eq_false_iff.2 hg)
    clear h0 hg HS hd
    go_wp2_with fail
    refine (qZ3.zJc s (rd l0 j) _ H1.out).mono ?_
    rintro e w' ⟨rfl, ⟨nd, rfl⟩⟩
    go_wp2
    refine leaves_cons (f := 97) (args := #[.pointer (some ⟨w.heap.size, 0, none⟩), .pointer (some ⟨w.heap.size + 1, 0, none⟩)]) (by simp) (by simp [go_sem]) ?_
    refine (qZ3.caught w.heap.size s 0 _ (qZ4 B1.out _) (qZ4 B2.out _)).mono ?_
    rintro e u' w'' ⟨rfl, rfl, b1, b2, hb⟩
    have g1 : w''.cell? ⟨w.heap.size, 0, none⟩ = some (.int .i64 0) := (qQa b1 0).trans rfl
    have g2 : w''.cell? ⟨w.heap.size + 1, 0, none⟩ = some (.int .i64 14) := (qQa b2 0).trans rfl
    have hn := HN.out
    simp only [Prod.mk.injEq] at hn
    obtain ⟨rfl, rfl⟩ := hn
    simp [Leaves, settle, results, Tryz.results80, go_sem, g1, g2]
    exact hb w (qQr HB.out _)
  ·have h0 := HS.out
   rw [List.drop_of_length_le (by omega), qZ3.go] at h0
   simp only [Prod.mk.injEq] at h0
   obtain ⟨rfl, rfl⟩ := h0
   have hc1 : wr.cell? ⟨w.heap.size, 0, none⟩ = some (.int .i64 s) := (qQa B1.out 0).trans rfl
   have hf1 := qQd B1.out 0
   have k2 := qZ8 B2.out (p := ⟨w.heap.size, 0, none⟩) (by simp) (.int .i64 s)
   have hc2 : (wr.setCell ⟨w.heap.size, 0, none⟩ (.int .i64 s)).cell? ⟨w.heap.size + 1, 0, none⟩ = some (.int .i64 0) := (qQa k2 0).trans rfl
   have hf2 := qQd k2 0
   have K2 := am k2
   clear k2
   go_wp2
   refine leaves_cons (f := 97) (args := #[.pointer (some ⟨w.heap.size, 0, none⟩), .pointer (some ⟨w.heap.size + 1, 0, none⟩)]) (by simp) (by simp [go_sem]) ?_
   refine (qZ3.idle _ _ _).mono ?_
   rintro e u' w'' ⟨rfl, rfl, rfl⟩
   have k1 := qZ8 (qQ0 (cs' := #[.int .i64 s]) B1.out 0 (.int .i64 s) rfl) (p := ⟨w.heap.size + 1, 0, none⟩) (by simp) (.int .i64 0)
   have k3 := qQ0 (cs' := #[.int .i64 0]) K2.out 0 (.int .i64 0) rfl
   have g1 := (qQa k1 0).trans rfl
   have g2 := (qQa k3 0).trans rfl
   simp [Leaves, settle, results, Tryz.results80, go_sem, g1, g2]
   exact (HB.out.setCell (Nat.le_refl _) _).setCell (by simp) _
def qZ9.f (a0 a1 : Int) : Option (Int × Int) := (qZ3.f (([a0, a1] : List Int))).bind fun cH => (some (cH.1, cH.2))
set_option maxHeartbeats 8000000 in
set_option maxRecDepth 100000 in
theorem qZ9.calls (a0 a1 r1 r2 : Int) (w : World) (h : qZ9.f a0 a1 = some (r1, r2)) :
  Calls Tryz.prog 110 #[.int .i64 a0, .int .i64 a1] w fun e w' => e = .returned (.tuple #[.int .i64 r1, .int .i64 r2]) /\ Below w.heap.size w w' := by
 have HB := am (Below.refl w.heap.size w)
 have H := h
 unfold qZ9.f at H
 clear h
 obtain ⟨gZ, dD⟩ : ∃ y_ : List Int, y_ = (([a0, a1] : List Int)) := ⟨_, rfl⟩
 replace H : ((qZ3.f gZ).bind fun cH => (some (cH.1, cH.2))) = some (r1, r2) := by exact hyq H dD
 have dO := am dD
 clear dD
 obtain ⟨⟨gT, gU⟩, A3, H⟩ := bd H
 simp only [Option.some.injEq, Prod.mk.injEq] at H
 obtain ⟨rfl, rfl⟩ := H
 go_enter Tryz.func110, Tryz.ntmps110
 go_wp2_with (first | ((with_reducible refine gd 8 ?_); refine Kd.R_lit (Kd.int .i64) _ 2 ?hg (N := 8) ?hd (xs := ([a0, a1] : List Int)) (inner := [.int .i64 a0, .int .i64 a1]) (ok := fun _ => True) (okp := fun _ => True) ?hr ?hp (fun _ hk => hk) trivial (Below.refl _ _) (Nat.le_refl _) (by simp) ?_; (case hd => rfl); (case hg => rfl); (case hr => first | (go_simp; done) | (go_simp; rfl)); (case hp => exact (Reps.one (show Kd.M (Kd.int .i64) _ _ _ a0 [.int .i64 a0] from rfl) (Reps.one (show Kd.M (Kd.int .i64) _ _ _ a1 [.int .i64 a1] from rfl) (Reps.none _ _)))); intro iG w4 fG hb hg_ hnew_; clear hg_ hnew_; (first | rw [<- dO.out] at fG | (simp only [Int.reduceToNat] at fG; rw [<- dO.out] at fG)); have cG := am (Kd.qZ1 fG (qQn (by exact h0q HB.out))); replace HB := s0 HB hb; clear hb fG; obtain ⟨iN, iO, hX⟩ := Kd.qZq cG.out; subst hX) | ((with_reducible refine gf 80 ?_); refine gC (some 9) Tryz.func80 (qZ3.calls _ _ _ gT gU _ ?side1 ?side2 A3.out) ?_; (case side1 => exact cq ((Kd.qQq cG.out).2.2)); (case side2 => exact (Kd.qQq cG.out).2.1); rintro e w7 ⟨rfl, hb⟩; refine ⟨_, rfl, ?_⟩; replace cG := Rb cG hb; replace HB := s0 HB hb; (try clear hb); (try clear hb2); (try clear hk); (try clear hi)))
 go_ret2
 exact ⟨er, by exact h0q HB.out⟩
-- NOT PRINTED: function 108 (loan_sum)
def qY7.f (a0 : Int) : Option (Int) := if a0 <= 9223372036854775807 then some (if a0 < 0 then 0 else a0 / 1000000) else none
set_option maxHeartbeats 8000000 in
set_option maxRecDepth 100000 in
theorem qY7.calls (a0 r : Int) (w : World) (h : qY7.f a0 = some r) :
  Calls Tryz.prog 109 #[.int .i64 a0] w fun e w' => e = .returned (.int .i64 r) /\ Drawn0 w w' := by
 have hb : a0 <= 9223372036854775807 := by
  by_cases c : a0 <= 9223372036854775807
  ·exact c
  ·rw [qY7.f, if_neg c] at h; cases h
 rw [qY7.f, if_pos hb] at h
 obtain rfl := Option.some.inj h
 clear h
 by_cases c : a0 < 0
 ·have c1 : decide (a0 < 0) = true := decide_eq_true c
  rw [if_pos c]
  go_enter Tryz.func109, Tryz.ntmps109
  go_wp2
  go_ret
  refine ⟨?_, Drawn0.refl _⟩
  simp [c]
 ·have c1 : decide (a0 < 0) = false := decide_eq_false c
  rw [if_neg c]
  go_enter Tryz.func109, Tryz.ntmps109
  go_wp2
  go_ret
  refine ⟨?_, Drawn0.refl _⟩
  simp [c]
-- NOT PRINTED: function 87 (loan_owes)
-- NOT PRINTED: function 86 (loan_Owes_1)
-- NOT PRINTED: function 51 (qY3)
set_option maxHeartbeats 8000000 in
set_option maxRecDepth 100000 in
theorem qQi.zYc (x : Int) (b : Bool) (w : World) (h : x = 0 \/ b = false) :
  Calls Tryz.prog 107 #[.int .i64 x, .bool b] w fun e w' => e = .returned (.tuple #[]) /\ Drawn0 w w' := by
 rcases h with rfl | rfl
 ·go_enter Tryz.func107, Tryz.ntmps107
  go_wp2
  go_end0
  exact ⟨by first | rfl | (simp; done), dr⟩
 ·by_cases c : x = 0
  ·subst c
   go_enter Tryz.func107, Tryz.ntmps107
   go_wp2
   go_end0
   exact ⟨by first | rfl | (simp; done), dr⟩
  ·have c1 : (x != 0) = true := bne_iff_ne.mpr c
   go_enter Tryz.func107, Tryz.ntmps107
   go_wp2
   go_end0
   exact ⟨by first | rfl | (simp; done), dr⟩
set_option maxHeartbeats 8000000 in
set_option maxRecDepth 100000 in
theorem qQi.zYu (x : Int) (w : World) (h : x ≠ 0) :
  Calls Tryz.prog 107 #[.int .i64 x, .bool true] w fun e w' => e = .panicked [{ v := .iface 33 (.int .i64 x), recovered := false }] /\ Drawn0 w w' := by
 have c1 : (x == 0) = false := beq_eq_false_iff_ne.mpr h
 have c2 : (x != 0) = true := bne_iff_ne.mpr h
 go_enter Tryz.func107, Tryz.ntmps107
 go_wp2
 exact ⟨rfl, rfl, dr⟩
def loanC (id pr it su fe ppm : Int) (sd : Bool) (st cl en le fa ct : Int) : Array Value := #[.int .i64 id, .int .i64 pr, .int .i64 it, .int .i64 su, .int .i64 fe, .int .i64 ppm, .bool sd, .int .i64 st, .int .i64 cl, .int .i64 en, .int .i64 le, .int .i64 fa, .int .i64 ct]
theorem qQi.one (id pr it su fe ppm : Int) (sd : Bool) (st cl en le fa ct : Int) : (loanC id pr it su fe ppm sd st cl en le fa ct).all (fun x => x.oneCell') = true := by simp [loanC, Value.oneCell']
structure qQi.Near (a b : Nat) (w w' : World) : Prop where
 os : w'.os = w.os
 tape : w'.tape = w.tape
 output : w'.output = w.output
 size : w.heap.size <= w'.heap.size
 block : ∀ k, k < w.heap.size -> k ≠ a -> k ≠ b -> w'.heap[k]? = w.heap[k]?
theorem qQi.Near.of_below {a b : Nat} {w w' : World} (h : Below w.heap.size w w') : qQi.Near a b w w' := ⟨h.os, h.tape, h.output, h.size, fun k hk _ _ => h.block k hk⟩
section
variable {P : Program} {ops : Array Oper} {rest : List Oper} {o : Oper} {a : Act} {W : World} {Q : Exit -> Act -> World -> Prop}
theorem qQi.gate (ty : TypeId) (x y : Operand) (ho : o.op = .store ty x y) (h : wpList P ops Q (o :: rest) a W) : wpList P ops Q (o :: rest) a W := h
def qQi.Mark (p : Prop) : Prop := p
theorem qQi.MARK {p : Prop} (h : qQi.Mark p) : p := h
theorem qQi.st (hgd : o.guard = none) (ty : TypeId) (x y : Operand) (ho : o.op = .store ty x y) (hd : o.dst = none) (g : Nat) (cells : Array Value) (hx : a.eval x = .pointer (some ⟨g, 0, none⟩)) (hy : a.eval y = .agg cells)
  (t : TypeId) (old : Array Value) (hg : W.heap[g]? = some (.cells old t (0, 0))) (hi : (P.info? ty).map (·.size) = some cells.size) (hold : old.size = cells.size) (h1 : cells.all (·.oneCell') = true)
  (h : wpList P ops Q rest a (W.setRow g cells)) : wpList P ops Q (o :: rest) a W :=
 wpList_plain hgd fun K hK => wp_store_row ty x y ho g cells hx hy t old hg hi hold h1 (by rw [hd]; exact hK _ _ h)
end
theorem qQi.kept {w w' : World} {i : Nat} {o : Obj} (hb : Below w.heap.size w w') (h : w.heap[i]? = some o) : w'.heap[i]? = some o := (hb.block i (qXq h)).trans h
set_option maxHeartbeats 8000000 in
set_option maxRecDepth 100000 in
theorem qQi.idle (p q : Addr) (w : World) :
  CallsD Tryz.prog 106 #[.pointer (some p), .pointer (some q)] .returning w fun e u' w' => e = .returned (.tuple #[]) /\ u' = .returning /\ w' = w := by
 refine callsD_of_wpS Tryz.func106 rfl fun c₀ cs hu => ?_
 apply wpS_seq
 apply wpS_region
 simp [wpOpsS, go_sem, recoverD, hu, Tryz.ntmps106, Exit.thenS]
 refine wpS_of_wp ?_
 go_wp2
 cases c₀
 simp_all [bodyPostS, results, Tryz.results106]
set_option maxHeartbeats 8000000 in
set_option maxRecDepth 100000 in
theorem qQi.caught (g : Nat) (x : Int) (cs₁ : Array Value) (y : Int) (w : World) (hcs : cs₁.size = 13) (h1 : w.heap[g]? = some (.cells cs₁ 48 (0, 0))) (h2 : w.heap[g + 1]? = some (.cells #[.int .i64 y] 33 (0, 0))) :
  CallsD Tryz.prog 106 #[.pointer (some ⟨g, 0, none⟩), .pointer (some ⟨g + 1, 0, none⟩)] (.panicking [{ v := .iface 33 (.int .i64 x), recovered := false }]) w fun e u' w' =>
   e = .returned (.tuple #[]) /\ u' = .panicking [{ v := .iface 33 (.int .i64 x), recovered := true }] /\
   w'.heap[g]? = some (.cells (loanC 0 0 0 0 0 0 false 0 0 0 0 0 0) 48 (0, 0)) /\ w'.heap[g + 1]? = some (.cells #[.int .i64 x] 33 (0, 0)) /\ ∀ B W, B <= g -> Below B W w -> Below B W w' := by
 have hl := qXq h2
 have hta : ∀ (v : Value) (W : World), (Instr.typeAssert (.iface 33 v) 20 33 true).run Tryz.prog W = .ok (.tuple #[v, .bool true]) W := fun v W => by rfl
 refine callsD_of_wpS Tryz.func106 rfl fun c₀ cs hu => ?_
 apply wpS_seq
 apply wpS_region
 simp [wpOpsS, go_sem, recoverD, hu, Tryz.ntmps106, Exit.thenS]
 refine wpS_of_wp ?_
 have h1' := am h1
 have h2' := am h2
 clear h1 h2
 have k2 : (w.setRow g (loanC 0 0 0 0 0 0 false 0 0 0 0 0 0)).heap[g + 1]? = some (.cells #[.int .i64 y] 33 (0, 0)) := (setRow_other w g (g + 1) _ (by omega)).trans h2'.out
 have d2 : (w.setRow g (loanC 0 0 0 0 0 0 false 0 0 0 0 0 0)).cell? ⟨g + 1, 0, none⟩ = some (.int .i64 y) := (qQa k2 0).trans rfl
 have e2 := qQd k2 0
 have K2 := am k2
 clear k2
 go_wp2_with ((with_reducible refine qQi.gate 48 (.tmp 0) (.tmp 11) rfl ?_); refine qQi.MARK ?_)
 unfold qQi.Mark
 (refine qQi.st rfl 48 (.tmp 0) (.tmp 11) rfl rfl g (loanC 0 0 0 0 0 0 false 0 0 0 0 0 0) ?hx ?hy 48 cs₁ h1'.out (by kernel_rfl) hcs (qQi.one _ _ _ _ _ _ _ _ _ _ _ _ _) ?_); (case hx => simp [go_sem]); (case hy => simp [go_sem, loanC])
 go_wp2
 cases c₀
 simp only at hu
 subst hu
 refine ⟨rfl, _, rfl, _, results_none rfl _ _ _, rfl, rfl, qZ8 (setRow_heap w g _ _ 48 (0, 0) h1'.out) (by simp) _, qQ0 K2.out 0 _ rfl, fun B W hB hb => ?_⟩
 exact (below_setRow hb hB _).setCell (by simp; omega) _
section
variable {P : Program} {ops : Array Oper} {Q : Exit -> Act -> World -> Prop} {md : Region.Mode} {S : World -> Prop} {fuel : Nat} {listed : Array Bool} {a : Act} {w : World}
end
theorem qQi.Near.fin {c : Nat} {w Wc w2 W3 : World} (h1 : Below w.heap.size w Wc) (h2 : qQi.Near w.heap.size c Wc w2) (h3 : Below w.heap.size w2 W3) : qQi.Near c c w W3 :=
 ⟨h3.os.trans (h2.os.trans h1.os), h3.tape.trans (h2.tape.trans h1.tape), h3.output.trans (h2.output.trans h1.output), Nat.le_trans h1.size (Nat.le_trans h2.size h3.size),
  fun k hk hc _ => (h3.block k hk).trans ((h2.block k (Nat.lt_of_lt_of_le hk h1.size) (Nat.ne_of_lt hk) hc).trans (h1.block k hk))⟩
set_option maxHeartbeats 8000000 in
set_option maxRecDepth 100000 in
theorem qQi.zV9 (k : Nat) (id pr it su fe ppm : Int) (sd : Bool) (st cl en le fa ct : Int) (F : Value) (w : World) (h : qQt.f k id pr it su fe ppm sd st cl en le fa ct = some false) :
  Calls Tryz.prog 85 #[.agg (loanC id pr it su fe ppm sd st cl en le fa ct), F] w fun e w' => e = .returned (.tuple #[.agg (loanC 0 0 0 0 0 0 false 0 0 0 0 0 0), .int .i64 1]) /\ Below w.heap.size w w' := by
 have H := am h
 clear h
 have hmf : ∀ (fn : Fn) (first cap : Array Value) (w : World), (Instr.makeFunc fn first cap).run Tryz.prog w = .ok (.func fn first cap) w := fun _ _ _ _ => rfl
 unfold loanC
 go_enter_defers Tryz.func85, Tryz.ntmps85
 go_upto_region 1 with (fail)
 obtain ⟨W, hW⟩ : ∃ W, W = ((w.alloc (Obj.cells #[.int .i64 id, .int .i64 pr, .int .i64 it, .int .i64 su, .int .i64 fe, .int .i64 ppm, .bool sd, .int .i64 st, .int .i64 cl, .int .i64 en, .int .i64 le, .int .i64 fa, .int .i64 ct] 48)).alloc (Obj.cells #[.int .i64 0, .int .i64 0, .int .i64 0, .int .i64 0, .int .i64 0, .int .i64 0, .bool false, .int .i64 0, .int .i64 0, .int .i64 0, .int .i64 0, .int .i64 0, .int .i64 0] 48)).alloc (Obj.cells #[.int .i64 0] 33) := ⟨_, rfl⟩
 have B0 : Aside0 (W.heap[w.heap.size]? = some (.cells (loanC id pr it su fe ppm sd st cl en le fa ct) 48 (0, 0))) := ⟨by rw [hW]; exact qYq (qYq (qXs w _) _) _⟩
 have B1 : Aside0 (W.heap[w.heap.size + 1]? = some (.cells (loanC 0 0 0 0 0 0 false 0 0 0 0 0 0) 48 (0, 0))) := ⟨by
  have := qYq (qXs (w.alloc (Obj.cells #[.int .i64 id, .int .i64 pr, .int .i64 it, .int .i64 su, .int .i64 fe, .int .i64 ppm, .bool sd, .int .i64 st, .int .i64 cl, .int .i64 en, .int .i64 le, .int .i64 fa, .int .i64 ct] 48)) (Obj.cells #[.int .i64 0, .int .i64 0, .int .i64 0, .int .i64 0, .int .i64 0, .int .i64 0, .bool false, .int .i64 0, .int .i64 0, .int .i64 0, .int .i64 0, .int .i64 0, .int .i64 0] 48)) (Obj.cells #[.int .i64 0] 33)
  rw [hW]; simpa [loanC] using this⟩
 have B2 : Aside0 (W.heap[w.heap.size + 2]? = some (.cells #[.int .i64 0] 33 (0, 0))) := ⟨by
  have := qXs ((w.alloc (Obj.cells #[.int .i64 id, .int .i64 pr, .int .i64 it, .int .i64 su, .int .i64 fe, .int .i64 ppm, .bool sd, .int .i64 st, .int .i64 cl, .int .i64 en, .int .i64 le, .int .i64 fa, .int .i64 ct] 48)).alloc (Obj.cells #[.int .i64 0, .int .i64 0, .int .i64 0, .int .i64 0, .int .i64 0, .int .i64 0, .bool false, .int .i64 0, .int .i64 0, .int .i64 0, .int .i64 0, .int .i64 0, .int .i64 0] 48)) (Obj.cells #[.int .i64 0] 33)
  rw [hW]; simpa using this⟩
 have HB : Aside0 (Below w.heap.size w W) := ⟨by rw [hW]; exact (((Below.refl _ _).alloc (Nat.le_refl _) _).alloc (by simp) _).alloc (by simp; omega) _⟩
 rw [<- hW]
 clear hW
 rw [show w.heap.size + 1 + 1 = w.heap.size + 2 from rfl]
 have c0 : W.cell? ⟨w.heap.size, 0, none⟩ = some (.int .i64 id) := (qQa B0.out 0).trans rfl
 have c1 : W.cell? ⟨w.heap.size, 1, none⟩ = some (.int .i64 pr) := (qQa B0.out 1).trans rfl
 have c2 : W.cell? ⟨w.heap.size, 2, none⟩ = some (.int .i64 it) := (qQa B0.out 2).trans rfl
 have c3 : W.cell? ⟨w.heap.size, 3, none⟩ = some (.int .i64 su) := (qQa B0.out 3).trans rfl
 have c4 : W.cell? ⟨w.heap.size, 4, none⟩ = some (.int .i64 fe) := (qQa B0.out 4).trans rfl
 have c5 : W.cell? ⟨w.heap.size, 5, none⟩ = some (.int .i64 ppm) := (qQa B0.out 5).trans rfl
 have c6 : W.cell? ⟨w.heap.size, 6, none⟩ = some (.bool sd) := (qQa B0.out 6).trans rfl
 have c7 : W.cell? ⟨w.heap.size, 7, none⟩ = some (.int .i64 st) := (qQa B0.out 7).trans rfl
 have c8 : W.cell? ⟨w.heap.size, 8, none⟩ = some (.int .i64 cl) := (qQa B0.out 8).trans rfl
 have c9 : W.cell? ⟨w.heap.size, 9, none⟩ = some (.int .i64 en) := (qQa B0.out 9).trans rfl
 have cM : W.cell? ⟨w.heap.size, 10, none⟩ = some (.int .i64 le) := (qQa B0.out 10).trans rfl
 have eA : W.cell? ⟨w.heap.size, 11, none⟩ = some (.int .i64 fa) := (qQa B0.out 11).trans rfl
 have eB : W.cell? ⟨w.heap.size, 12, none⟩ = some (.int .i64 ct) := (qQa B0.out 12).trans rfl
 go_wp2_with (first | (go_at_call 26; (with_reducible refine (qQt.calls k id pr it su fe ppm sd st cl en le fa ct false _ H.out).mono ?_); rintro e w1 ⟨rfl, hb⟩) | (go_at_call 107; (with_reducible refine (qQi.zYu 1 _ (by decide)).mono ?_); rintro e w' ⟨rfl, ⟨nd, rfl⟩⟩))
 have K0 := am (qZ4 (qQi.kept hb B1.out) nd)
 have K1 := am (qZ4 (qQi.kept hb B2.out) nd)
 have HC : Below w.heap.size w (w1.drewN nd) := qQr (qQo HB.out hb) nd
 refine leaves_cons (f := 106) (args := #[.pointer (some ⟨w.heap.size + 1, 0, none⟩), .pointer (some ⟨w.heap.size + 2, 0, none⟩)]) (by simp) (by simp [go_sem]) ?_
 refine (qQi.caught (w.heap.size + 1) 1 _ 0 _ rfl K0.out K1.out).mono ?_
 rintro e u' w'' ⟨rfl, rfl, b1, b2, hB⟩
 have z0 : w''.cell? ⟨w.heap.size + 1, 0, none⟩ = some (.int .i64 0) := (qQa b1 0).trans rfl
 have z1 : w''.cell? ⟨w.heap.size + 1, 1, none⟩ = some (.int .i64 0) := (qQa b1 1).trans rfl
 have z2 : w''.cell? ⟨w.heap.size + 1, 2, none⟩ = some (.int .i64 0) := (qQa b1 2).trans rfl
 have z3 : w''.cell? ⟨w.heap.size + 1, 3, none⟩ = some (.int .i64 0) := (qQa b1 3).trans rfl
 have z4 : w''.cell? ⟨w.heap.size + 1, 4, none⟩ = some (.int .i64 0) := (qQa b1 4).trans rfl
 have z5 : w''.cell? ⟨w.heap.size + 1, 5, none⟩ = some (.int .i64 0) := (qQa b1 5).trans rfl
 have z6 : w''.cell? ⟨w.heap.size + 1, 6, none⟩ = some (.bool false) := (qQa b1 6).trans rfl
 have z7 : w''.cell? ⟨w.heap.size + 1, 7, none⟩ = some (.int .i64 0) := (qQa b1 7).trans rfl
 have z8 : w''.cell? ⟨w.heap.size + 1, 8, none⟩ = some (.int .i64 0) := (qQa b1 8).trans rfl
 have z9 : w''.cell? ⟨w.heap.size + 1, 9, none⟩ = some (.int .i64 0) := (qQa b1 9).trans rfl
 have z10 : w''.cell? ⟨w.heap.size + 1, 10, none⟩ = some (.int .i64 0) := (qQa b1 10).trans rfl
 have z11 : w''.cell? ⟨w.heap.size + 1, 11, none⟩ = some (.int .i64 0) := (qQa b1 11).trans rfl
 have z12 : w''.cell? ⟨w.heap.size + 1, 12, none⟩ = some (.int .i64 0) := (qQa b1 12).trans rfl
 have g1 : w''.cell? ⟨w.heap.size + 2, 0, none⟩ = some (.int .i64 1) := (qQa b2 0).trans rfl
 simp [Leaves, settle, results, Tryz.results85, go_sem, z0, z1, z2, z3, z4, z5, z6, z7, z8, z9, z10, z11, z12, g1, loanC]
 exact hB _ w (by omega) HC
set_option maxHeartbeats 8000000 in
set_option maxRecDepth 100000 in
theorem qQi.zJi (k : Nat) (id pr it su fe ppm : Int) (sd : Bool) (st cl en le fa ct : Int) (f : Nat) (caps : Array Value) (id' pr' it' su' fe' ppm' : Int) (sd' : Bool) (st' cl' en' le' fa' ct' : Int) (c : Nat) (o : Obj) (w : World)
  (hc : c <= w.heap.size) (hf : ∀ args W, (callFunc f args).run Tryz.prog W = .ok (.enter f args) W)
  (h : qQt.f k id pr it su fe ppm sd st cl en le fa ct = some true)
  (hK : ∀ W, W.heap[w.heap.size]? = some (.cells (loanC id pr it su fe ppm sd st cl en le fa ct) 48 (0, 0)) -> w.heap.size + 3 <= W.heap.size -> Below w.heap.size w W ->
   Calls Tryz.prog f (#[.pointer (some ⟨w.heap.size, 0, none⟩)] ++ caps) W fun e W' => e = .returned (.tuple #[]) /\ W'.heap[w.heap.size]? = some (.cells (loanC id' pr' it' su' fe' ppm' sd' st' cl' en' le' fa' ct') 48 (0, 0)) /\ qQi.Near w.heap.size c W W' /\ (c < w.heap.size -> W'.heap[c]? = some o)) :
  Calls Tryz.prog 85 #[.agg (loanC id pr it su fe ppm sd st cl en le fa ct), .func (.func f) #[] caps] w fun e w' => e = .returned (.tuple #[.agg (loanC id' pr' it' su' fe' ppm' sd' st' cl' en' le' fa' ct'), .int .i64 0]) /\ qQi.Near c c w w' /\ (c < w.heap.size -> w'.heap[c]? = some o) := by
 have H := am h
 have HK := am hK
 clear h hK
 have hmf : ∀ (fn : Fn) (first cap : Array Value) (w : World), (Instr.makeFunc fn first cap).run Tryz.prog w = .ok (.func fn first cap) w := fun _ _ _ _ => rfl
 unfold loanC
 go_enter_defers Tryz.func85, Tryz.ntmps85
 go_upto_region 1 with (fail)
 obtain ⟨W, hW⟩ : ∃ W, W = ((w.alloc (Obj.cells #[.int .i64 id, .int .i64 pr, .int .i64 it, .int .i64 su, .int .i64 fe, .int .i64 ppm, .bool sd, .int .i64 st, .int .i64 cl, .int .i64 en, .int .i64 le, .int .i64 fa, .int .i64 ct] 48)).alloc (Obj.cells #[.int .i64 0, .int .i64 0, .int .i64 0, .int .i64 0, .int .i64 0, .int .i64 0, .bool false, .int .i64 0, .int .i64 0, .int .i64 0, .int .i64 0, .int .i64 0, .int .i64 0] 48)).alloc (Obj.cells #[.int .i64 0] 33) := ⟨_, rfl⟩
 have B0 : Aside0 (W.heap[w.heap.size]? = some (.cells (loanC id pr it su fe ppm sd st cl en le fa ct) 48 (0, 0))) := ⟨by rw [hW]; exact qYq (qYq (qXs w _) _) _⟩
 have B1 : Aside0 (W.heap[w.heap.size + 1]? = some (.cells (loanC 0 0 0 0 0 0 false 0 0 0 0 0 0) 48 (0, 0))) := ⟨by
  have := qYq (qXs (w.alloc (Obj.cells #[.int .i64 id, .int .i64 pr, .int .i64 it, .int .i64 su, .int .i64 fe, .int .i64 ppm, .bool sd, .int .i64 st, .int .i64 cl, .int .i64 en, .int .i64 le, .int .i64 fa, .int .i64 ct] 48)) (Obj.cells #[.int .i64 0, .int .i64 0, .int .i64 0, .int .i64 0, .int .i64 0, .int .i64 0, .bool false, .int .i64 0, .int .i64 0, .int .i64 0, .int .i64 0, .int .i64 0, .int .i64 0] 48)) (Obj.cells #[.int .i64 0] 33)
  rw [hW]; simpa [loanC] using this⟩
 have B2 : Aside0 (W.heap[w.heap.size + 2]? = some (.cells #[.int .i64 0] 33 (0, 0))) := ⟨by
  have := qXs ((w.alloc (Obj.cells #[.int .i64 id, .int .i64 pr, .int .i64 it, .int .i64 su, .int .i64 fe, .int .i64 ppm, .bool sd, .int .i64 st, .int .i64 cl, .int .i64 en, .int .i64 le, .int .i64 fa, .int .i64 ct] 48)).alloc (Obj.cells #[.int .i64 0, .int .i64 0, .int .i64 0, .int .i64 0, .int .i64 0, .int .i64 0, .bool false, .int .i64 0, .int .i64 0, .int .i64 0, .int .i64 0, .int .i64 0, .int .i64 0] 48)) (Obj.cells #[.int .i64 0] 33)
  rw [hW]; simpa using this⟩
 have HB : Aside0 (Below w.heap.size w W) := ⟨by rw [hW]; exact (((Below.refl _ _).alloc (Nat.le_refl _) _).alloc (by simp) _).alloc (by simp; omega) _⟩
 rw [<- hW]
 clear hW
 rw [show w.heap.size + 1 + 1 = w.heap.size + 2 from rfl]
 have c0 : W.cell? ⟨w.heap.size, 0, none⟩ = some (.int .i64 id) := (qQa B0.out 0).trans rfl
 have c1 : W.cell? ⟨w.heap.size, 1, none⟩ = some (.int .i64 pr) := (qQa B0.out 1).trans rfl
 have c2 : W.cell? ⟨w.heap.size, 2, none⟩ = some (.int .i64 it) := (qQa B0.out 2).trans rfl
 have c3 : W.cell? ⟨w.heap.size, 3, none⟩ = some (.int .i64 su) := (qQa B0.out 3).trans rfl
 have c4 : W.cell? ⟨w.heap.size, 4, none⟩ = some (.int .i64 fe) := (qQa B0.out 4).trans rfl
 have c5 : W.cell? ⟨w.heap.size, 5, none⟩ = some (.int .i64 ppm) := (qQa B0.out 5).trans rfl
 have c6 : W.cell? ⟨w.heap.size, 6, none⟩ = some (.bool sd) := (qQa B0.out 6).trans rfl
 have c7 : W.cell? ⟨w.heap.size, 7, none⟩ = some (.int .i64 st) := (qQa B0.out 7).trans rfl
 have c8 : W.cell? ⟨w.heap.size, 8, none⟩ = some (.int .i64 cl) := (qQa B0.out 8).trans rfl
 have c9 : W.cell? ⟨w.heap.size, 9, none⟩ = some (.int .i64 en) := (qQa B0.out 9).trans rfl
 have cM : W.cell? ⟨w.heap.size, 10, none⟩ = some (.int .i64 le) := (qQa B0.out 10).trans rfl
 have eA : W.cell? ⟨w.heap.size, 11, none⟩ = some (.int .i64 fa) := (qQa B0.out 11).trans rfl
 have eB : W.cell? ⟨w.heap.size, 12, none⟩ = some (.int .i64 ct) := (qQa B0.out 12).trans rfl
 go_wp2_with (first | (go_at_call 26; (with_reducible refine (qQt.calls k id pr it su fe ppm sd st cl en le fa ct true _ H.out).mono ?_); rintro e w1 ⟨rfl, hb⟩) | (go_at_call 107; (with_reducible refine (qQi.zYc 1 false _ (.inr rfl)).mono ?_); rintro e w' ⟨rfl, ⟨nd, rfl⟩⟩))
 have K0 := qZ4 (qQi.kept hb B0.out) nd
 have HC : Below w.heap.size w (w1.drewN nd) := qQr (qQo HB.out hb) nd
 refine (HK.out _ K0 (by have := qXq (qZ4 (qQi.kept hb B2.out) nd); omega) HC).mono ?_
 rintro e w2 ⟨rfl, b0, hN, hO⟩
 have k1 : w2.heap[w.heap.size + 1]? = some (.cells (loanC 0 0 0 0 0 0 false 0 0 0 0 0 0) 48 (0, 0)) := (hN.block _ (qXq (qZ4 (qQi.kept hb B1.out) nd)) (by omega) (by omega)).trans (qZ4 (qQi.kept hb B1.out) nd)
 have k2 : w2.heap[w.heap.size + 2]? = some (.cells #[.int .i64 0] 33 (0, 0)) := (hN.block _ (qXq (qZ4 (qQi.kept hb B2.out) nd)) (by omega) (by omega)).trans (qZ4 (qQi.kept hb B2.out) nd)
 have y0 : w2.cell? ⟨w.heap.size, 0, none⟩ = some (.int .i64 id') := (qQa b0 0).trans rfl
 have y1 : w2.cell? ⟨w.heap.size, 1, none⟩ = some (.int .i64 pr') := (qQa b0 1).trans rfl
 have y2 : w2.cell? ⟨w.heap.size, 2, none⟩ = some (.int .i64 it') := (qQa b0 2).trans rfl
 have y3 : w2.cell? ⟨w.heap.size, 3, none⟩ = some (.int .i64 su') := (qQa b0 3).trans rfl
 have y4 : w2.cell? ⟨w.heap.size, 4, none⟩ = some (.int .i64 fe') := (qQa b0 4).trans rfl
 have y5 : w2.cell? ⟨w.heap.size, 5, none⟩ = some (.int .i64 ppm') := (qQa b0 5).trans rfl
 have y6 : w2.cell? ⟨w.heap.size, 6, none⟩ = some (.bool sd') := (qQa b0 6).trans rfl
 have y7 : w2.cell? ⟨w.heap.size, 7, none⟩ = some (.int .i64 st') := (qQa b0 7).trans rfl
 have y8 : w2.cell? ⟨w.heap.size, 8, none⟩ = some (.int .i64 cl') := (qQa b0 8).trans rfl
 have y9 : w2.cell? ⟨w.heap.size, 9, none⟩ = some (.int .i64 en') := (qQa b0 9).trans rfl
 have iR : w2.cell? ⟨w.heap.size, 10, none⟩ = some (.int .i64 le') := (qQa b0 10).trans rfl
 have iS : w2.cell? ⟨w.heap.size, 11, none⟩ = some (.int .i64 fa') := (qQa b0 11).trans rfl
 have iT : w2.cell? ⟨w.heap.size, 12, none⟩ = some (.int .i64 ct') := (qQa b0 12).trans rfl
 have q2 : (w2.setRow (w.heap.size + 1) (loanC id' pr' it' su' fe' ppm' sd' st' cl' en' le' fa' ct')).heap[w.heap.size + 2]? = some (.cells #[.int .i64 0] 33 (0, 0)) := (setRow_other _ _ _ _ (by omega)).trans k2
 have d2 : (w2.setRow (w.heap.size + 1) (loanC id' pr' it' su' fe' ppm' sd' st' cl' en' le' fa' ct')).cell? ⟨w.heap.size + 2, 0, none⟩ = some (.int .i64 0) := (qQa q2 0).trans rfl
 have e2 := qQd q2 0
 have K1 := am k1
 have K2 := am k2
 have Q2 := am q2
 have BO := am b0
 have HN := am hN
 have HO := am hO
 have HCC := am HC
 have HCl := am hc
 clear k1 k2 q2 b0 hN hO HC hb hc c0 c1 c2 c3 c4 c5 c6 c7 c8 c9 cM eA eB
 go_wp2_with ((with_reducible refine qQi.gate 48 (.tmp 4) (.tmp 13) rfl ?_); refine qQi.MARK ?_)
 unfold qQi.Mark
 refine qQi.st rfl 48 (.tmp 4) (.tmp 13) rfl rfl (w.heap.size + 1) (loanC id' pr' it' su' fe' ppm' sd' st' cl' en' le' fa' ct') ?hx ?hy 48 _ K1.out (by kernel_rfl) rfl (qQi.one _ _ _ _ _ _ _ _ _ _ _ _ _) ?_
 case hx => simp [go_sem]
 case hy => simp [go_sem, loanC]
 go_wp2
 obtain ⟨W3, hW3⟩ : ∃ W3, W3 = (w2.setRow (w.heap.size + 1) (loanC id' pr' it' su' fe' ppm' sd' st' cl' en' le' fa' ct')).setCell ⟨w.heap.size + 2, 0, none⟩ (.int .i64 0) := ⟨_, rfl⟩
 have h31 : W3.heap[w.heap.size + 1]? = some (.cells (loanC id' pr' it' su' fe' ppm' sd' st' cl' en' le' fa' ct') 48 (0, 0)) := by rw [hW3]; exact qZ8 (setRow_heap w2 _ _ _ 48 (0, 0) K1.out) (by simp) _
 have h32 : W3.heap[w.heap.size + 2]? = some (.cells #[.int .i64 0] 33 (0, 0)) := by rw [hW3]; exact qQ0 Q2.out 0 _ rfl
 have h33 : Below w.heap.size w2 W3 := by rw [hW3]; exact (below_setRow (Below.refl _ _) (by omega) _).setCell (by simp) _
 rw [<- hW3]
 clear hW3
 refine leaves_cons (f := 106) (args := #[.pointer (some ⟨w.heap.size + 1, 0, none⟩), .pointer (some ⟨w.heap.size + 2, 0, none⟩)]) (by simp) (by simp [go_sem]) ?_
 refine (qQi.idle _ _ _).mono ?_
 rintro e u' w'' ⟨rfl, rfl, rfl⟩
 have z0 : w''.cell? ⟨w.heap.size + 1, 0, none⟩ = some (.int .i64 id') := (qQa h31 0).trans rfl
 have z1 : w''.cell? ⟨w.heap.size + 1, 1, none⟩ = some (.int .i64 pr') := (qQa h31 1).trans rfl
 have z2 : w''.cell? ⟨w.heap.size + 1, 2, none⟩ = some (.int .i64 it') := (qQa h31 2).trans rfl
 have z3 : w''.cell? ⟨w.heap.size + 1, 3, none⟩ = some (.int .i64 su') := (qQa h31 3).trans rfl
 have z4 : w''.cell? ⟨w.heap.size + 1, 4, none⟩ = some (.int .i64 fe') := (qQa h31 4).trans rfl
 have z5 : w''.cell? ⟨w.heap.size + 1, 5, none⟩ = some (.int .i64 ppm') := (qQa h31 5).trans rfl
 have z6 : w''.cell? ⟨w.heap.size + 1, 6, none⟩ = some (.bool sd') := (qQa h31 6).trans rfl
 have z7 : w''.cell? ⟨w.heap.size + 1, 7, none⟩ = some (.int .i64 st') := (qQa h31 7).trans rfl
 have z8 : w''.cell? ⟨w.heap.size + 1, 8, none⟩ = some (.int .i64 cl') := (qQa h31 8).trans rfl
 have z9 : w''.cell? ⟨w.heap.size + 1, 9, none⟩ = some (.int .i64 en') := (qQa h31 9).trans rfl
 have z10 : w''.cell? ⟨w.heap.size + 1, 10, none⟩ = some (.int .i64 le') := (qQa h31 10).trans rfl
 have z11 : w''.cell? ⟨w.heap.size + 1, 11, none⟩ = some (.int .i64 fa') := (qQa h31 11).trans rfl
 have z12 : w''.cell? ⟨w.heap.size + 1, 12, none⟩ = some (.int .i64 ct') := (qQa h31 12).trans rfl
 have g1 : w''.cell? ⟨w.heap.size + 2, 0, none⟩ = some (.int .i64 0) := (qQa h32 0).trans rfl
 simp [Leaves, settle, results, Tryz.results85, go_sem, z0, z1, z2, z3, z4, z5, z6, z7, z8, z9, z10, z11, z12, g1, loanC]
 exact ⟨qQi.Near.fin HCC.out HN.out h33, fun h => (h33.block _ h).trans (HO.out h)⟩
set_option maxHeartbeats 8000000 in
set_option maxRecDepth 100000 in
theorem qQi.zYl (k : Nat) (id pr it su fe ppm : Int) (sd : Bool) (st cl en le fa ct : Int) (f : Nat) (caps : Array Value) (x : Int) (c : Nat) (o : Obj) (w : World)
  (hc : c <= w.heap.size) (hf : ∀ args W, (callFunc f args).run Tryz.prog W = .ok (.enter f args) W)
  (h : qQt.f k id pr it su fe ppm sd st cl en le fa ct = some true)
  (hK : ∀ W, W.heap[w.heap.size]? = some (.cells (loanC id pr it su fe ppm sd st cl en le fa ct) 48 (0, 0)) -> w.heap.size + 3 <= W.heap.size -> Below w.heap.size w W ->
   Calls Tryz.prog f (#[.pointer (some ⟨w.heap.size, 0, none⟩)] ++ caps) W fun e W' => e = .panicked [{ v := .iface 33 (.int .i64 x), recovered := false }] /\ qQi.Near w.heap.size c W W' /\ (c < w.heap.size -> W'.heap[c]? = some o)) :
  Calls Tryz.prog 85 #[.agg (loanC id pr it su fe ppm sd st cl en le fa ct), .func (.func f) #[] caps] w fun e w' => e = .returned (.tuple #[.agg (loanC 0 0 0 0 0 0 false 0 0 0 0 0 0), .int .i64 x]) /\ qQi.Near c c w w' /\ (c < w.heap.size -> w'.heap[c]? = some o) := by
 have H := am h
 have HK := am hK
 clear h hK
 have hmf : ∀ (fn : Fn) (first cap : Array Value) (w : World), (Instr.makeFunc fn first cap).run Tryz.prog w = .ok (.func fn first cap) w := fun _ _ _ _ => rfl
 unfold loanC
 go_enter_defers Tryz.func85, Tryz.ntmps85
 go_upto_region 1 with (fail)
 obtain ⟨W, hW⟩ : ∃ W, W = ((w.alloc (Obj.cells #[.int .i64 id, .int .i64 pr, .int .i64 it, .int .i64 su, .int .i64 fe, .int .i64 ppm, .bool sd, .int .i64 st, .int .i64 cl, .int .i64 en, .int .i64 le, .int .i64 fa, .int .i64 ct] 48)).alloc (Obj.cells #[.int .i64 0, .int .i64 0, .int .i64 0, .int .i64 0, .int .i64 0, .int .i64 0, .bool false, .int .i64 0, .int .i64 0, .int .i64 0, .int .i64 0, .int .i64 0, .int .i64 0] 48)).alloc (Obj.cells #[.int .i64 0] 33) := ⟨_, rfl⟩
 have B0 : Aside0 (W.heap[w.heap.size]? = some (.cells (loanC id pr it su fe ppm sd st cl en le fa ct) 48 (0, 0))) := ⟨by rw [hW]; exact qYq (qYq (qXs w _) _) _⟩
 have B1 : Aside0 (W.heap[w.heap.size + 1]? = some (.cells (loanC 0 0 0 0 0 0 false 0 0 0 0 0 0) 48 (0, 0))) := ⟨by
  have := qYq (qXs (w.alloc (Obj.cells #[.int .i64 id, .int .i64 pr, .int .i64 it, .int .i64 su, .int .i64 fe, .int .i64 ppm, .bool sd, .int .i64 st, .int .i64 cl, .int .i64 en, .int .i64 le, .int .i64 fa, .int .i64 ct] 48)) (Obj.cells #[.int .i64 0, .int .i64 0, .int .i64 0, .int .i64 0, .int .i64 0, .int .i64 0, .bool false, .int .i64 0, .int .i64 0, .int .i64 0, .int .i64 0, .int .i64 0, .int .i64 0] 48)) (Obj.cells #[.int .i64 0] 33)
  rw [hW]; simpa [loanC] using this⟩
 have B2 : Aside0 (W.heap[w.heap.size + 2]? = some (.cells #[.int .i64 0] 33 (0, 0))) := ⟨by
  have := qXs ((w.alloc (Obj.cells #[.int .i64 id, .int .i64 pr, .int .i64 it, .int .i64 su, .int .i64 fe, .int .i64 ppm, .bool sd, .int .i64 st, .int .i64 cl, .int .i64 en, .int .i64 le, .int .i64 fa, .int .i64 ct] 48)).alloc (Obj.cells #[.int .i64 0, .int .i64 0, .int .i64 0, .int .i64 0, .int .i64 0, .int .i64 0, .bool false, .int .i64 0, .int .i64 0, .int .i64 0, .int .i64 0, .int .i64 0, .int .i64 0] 48)) (Obj.cells #[.int .i64 0] 33)
  rw [hW]; simpa using this⟩
 have HB : Aside0 (Below w.heap.size w W) := ⟨by rw [hW]; exact (((Below.refl _ _).alloc (Nat.le_refl _) _).alloc (by simp) _).alloc (by simp; omega) _⟩
 rw [<- hW]
 clear hW
 rw [show w.heap.size + 1 + 1 = w.heap.size + 2 from rfl]
 have c0 : W.cell? ⟨w.heap.size, 0, none⟩ = some (.int .i64 id) := (qQa B0.out 0).trans rfl
 have c1 : W.cell? ⟨w.heap.size, 1, none⟩ = some (.int .i64 pr) := (qQa B0.out 1).trans rfl
 have c2 : W.cell? ⟨w.heap.size, 2, none⟩ = some (.int .i64 it) := (qQa B0.out 2).trans rfl
 have c3 : W.cell? ⟨w.heap.size, 3, none⟩ = some (.int .i64 su) := (qQa B0.out 3).trans rfl
 have c4 : W.cell? ⟨w.heap.size, 4, none⟩ = some (.int .i64 fe) := (qQa B0.out 4).trans rfl
 have c5 : W.cell? ⟨w.heap.size, 5, none⟩ = some (.int .i64 ppm) := (qQa B0.out 5).trans rfl
 have c6 : W.cell? ⟨w.heap.size, 6, none⟩ = some (.bool sd) := (qQa B0.out 6).trans rfl
 have c7 : W.cell? ⟨w.heap.size, 7, none⟩ = some (.int .i64 st) := (qQa B0.out 7).trans rfl
 have c8 : W.cell? ⟨w.heap.size, 8, none⟩ = some (.int .i64 cl) := (qQa B0.out 8).trans rfl
 have c9 : W.cell? ⟨w.heap.size, 9, none⟩ = some (.int .i64 en) := (qQa B0.out 9).trans rfl
 have cM : W.cell? ⟨w.heap.size, 10, none⟩ = some (.int .i64 le) := (qQa B0.out 10).trans rfl
 have eA : W.cell? ⟨w.heap.size, 11, none⟩ = some (.int .i64 fa) := (qQa B0.out 11).trans rfl
 have eB : W.cell? ⟨w.heap.size, 12, none⟩ = some (.int .i64 ct) := (qQa B0.out 12).trans rfl
 go_wp2_with (first | (go_at_call 26; (with_reducible refine (qQt.calls k id pr it su fe ppm sd st cl en le fa ct true _ H.out).mono ?_); rintro e w1 ⟨rfl, hb⟩) | (go_at_call 107; (with_reducible refine (qQi.zYc 1 false _ (.inr rfl)).mono ?_); rintro e w' ⟨rfl, ⟨nd, rfl⟩⟩))
 have K0 := qZ4 (qQi.kept hb B0.out) nd
 have HC : Below w.heap.size w (w1.drewN nd) := qQr (qQo HB.out hb) nd
 refine (HK.out _ K0 (by have := qXq (qZ4 (qQi.kept hb B2.out) nd); omega) HC).mono ?_
 rintro e w2 ⟨rfl, hN, hO⟩
 have k1 : w2.heap[w.heap.size + 1]? = some (.cells (loanC 0 0 0 0 0 0 false 0 0 0 0 0 0) 48 (0, 0)) := (hN.block _ (qXq (qZ4 (qQi.kept hb B1.out) nd)) (by omega) (by omega)).trans (qZ4 (qQi.kept hb B1.out) nd)
 have k2 : w2.heap[w.heap.size + 2]? = some (.cells #[.int .i64 0] 33 (0, 0)) := (hN.block _ (qXq (qZ4 (qQi.kept hb B2.out) nd)) (by omega) (by omega)).trans (qZ4 (qQi.kept hb B2.out) nd)
 refine leaves_cons (f := 106) (args := #[.pointer (some ⟨w.heap.size + 1, 0, none⟩), .pointer (some ⟨w.heap.size + 2, 0, none⟩)]) (by simp) (by simp [go_sem]) ?_
 refine (qQi.caught (w.heap.size + 1) x _ 0 _ rfl k1 k2).mono ?_
 rintro e u' w'' ⟨rfl, rfl, b1, b2, hB⟩
 have z0 : w''.cell? ⟨w.heap.size + 1, 0, none⟩ = some (.int .i64 0) := (qQa b1 0).trans rfl
 have z1 : w''.cell? ⟨w.heap.size + 1, 1, none⟩ = some (.int .i64 0) := (qQa b1 1).trans rfl
 have z2 : w''.cell? ⟨w.heap.size + 1, 2, none⟩ = some (.int .i64 0) := (qQa b1 2).trans rfl
 have z3 : w''.cell? ⟨w.heap.size + 1, 3, none⟩ = some (.int .i64 0) := (qQa b1 3).trans rfl
 have z4 : w''.cell? ⟨w.heap.size + 1, 4, none⟩ = some (.int .i64 0) := (qQa b1 4).trans rfl
 have z5 : w''.cell? ⟨w.heap.size + 1, 5, none⟩ = some (.int .i64 0) := (qQa b1 5).trans rfl
 have z6 : w''.cell? ⟨w.heap.size + 1, 6, none⟩ = some (.bool false) := (qQa b1 6).trans rfl
 have z7 : w''.cell? ⟨w.heap.size + 1, 7, none⟩ = some (.int .i64 0) := (qQa b1 7).trans rfl
 have z8 : w''.cell? ⟨w.heap.size + 1, 8, none⟩ = some (.int .i64 0) := (qQa b1 8).trans rfl
 have z9 : w''.cell? ⟨w.heap.size + 1, 9, none⟩ = some (.int .i64 0) := (qQa b1 9).trans rfl
 have z10 : w''.cell? ⟨w.heap.size + 1, 10, none⟩ = some (.int .i64 0) := (qQa b1 10).trans rfl
 have z11 : w''.cell? ⟨w.heap.size + 1, 11, none⟩ = some (.int .i64 0) := (qQa b1 11).trans rfl
 have z12 : w''.cell? ⟨w.heap.size + 1, 12, none⟩ = some (.int .i64 0) := (qQa b1 12).trans rfl
 have g1 : w''.cell? ⟨w.heap.size + 2, 0, none⟩ = some (.int .i64 x) := (qQa b2 0).trans rfl
 simp [Leaves, settle, results, Tryz.results85, go_sem, z0, z1, z2, z3, z4, z5, z6, z7, z8, z9, z10, z11, z12, g1, loanC]
 have h33 := hB w.heap.size w2 (by omega) (Below.refl _ _)
 exact ⟨qQi.Near.fin HC hN h33, fun h => (h33.block _ h).trans (hO h)⟩
set_option maxHeartbeats 8000000 in
set_option maxRecDepth 100000 in
theorem qQi.zK6 (a b c : Int) (w : World) (h : qZ9.f a b = some (c, 0)) :
  Calls Tryz.prog 108 #[.int .i64 a, .int .i64 b] w fun e w' => e = .returned (.int .i64 c) /\ Below w.heap.size w w' := by
 have H := am h
 have HB := am (Below.refl w.heap.size w)
 clear h
 go_enter Tryz.func108, Tryz.ntmps108
 go_wp2_with (first | (go_at_call 110; (with_reducible refine (qZ9.calls a b c 0 _ H.out).mono ?_); rintro e w1 ⟨rfl, hb⟩; replace HB := am (qQo HB.out hb); clear hb) | (go_at_call 107; (with_reducible refine (qQi.zYc 0 true _ (.inl rfl)).mono ?_); rintro e w' ⟨rfl, ⟨nd, rfl⟩⟩))
 go_ret
 exact ⟨by first | rfl | (simp; done), qQr HB.out _⟩
set_option maxHeartbeats 8000000 in
set_option maxRecDepth 100000 in
theorem qQi.zVf (a b c x : Int) (w : World) (h : qZ9.f a b = some (c, x)) (hx : x ≠ 0) :
  Calls Tryz.prog 108 #[.int .i64 a, .int .i64 b] w fun e w' => e = .panicked [{ v := .iface 33 (.int .i64 x), recovered := false }] /\ Below w.heap.size w w' := by
 have H := am h
 have HX := am hx
 have HB := am (Below.refl w.heap.size w)
 clear h hx
 go_enter Tryz.func108, Tryz.ntmps108
 go_wp2_with (first | (go_at_call 110; (with_reducible refine (qZ9.calls a b c x _ H.out).mono ?_); rintro e w1 ⟨rfl, hb⟩; replace HB := am (qQo HB.out hb); clear hb) | (go_at_call 107; (with_reducible refine (qQi.zYu x _ HX.out).mono ?_); rintro e w' ⟨rfl, ⟨nd, rfl⟩⟩))
 exact ⟨rfl, rfl, qQr HB.out _⟩
theorem qQi.held {b : Nat} {W w1 : World} (hb : Below W.heap.size W w1) (h : b < W.heap.size) : (∀ o, w1.cell? ⟨b, o, none⟩ = W.cell? ⟨b, o, none⟩) /\ (∀ o, w1.frozen? ⟨b, o, none⟩ = W.frozen? ⟨b, o, none⟩) /\ W.heap.size <= w1.heap.size :=
 ⟨fun o => hb.cell (p := ⟨b, o, none⟩) h, fun o => hb.frozen (p := ⟨b, o, none⟩) h, hb.size⟩
theorem qQi.next {b : Nat} {pr it fe : Int} {w W w1 : World} (hS : W.cell? ⟨b, 1, none⟩ = some (.int .i64 pr) /\ W.cell? ⟨b, 2, none⟩ = some (.int .i64 it) /\ W.cell? ⟨b, 4, none⟩ = some (.int .i64 fe) /\ W.frozen? ⟨b, 1, none⟩ = false /\ W.frozen? ⟨b, 2, none⟩ = false /\ W.frozen? ⟨b, 4, none⟩ = false /\ b < W.heap.size /\ w.heap.size <= W.heap.size /\ Below w.heap.size w W) (hb : Below W.heap.size W w1) :
  w1.cell? ⟨b, 1, none⟩ = some (.int .i64 pr) /\ w1.cell? ⟨b, 2, none⟩ = some (.int .i64 it) /\ w1.cell? ⟨b, 4, none⟩ = some (.int .i64 fe) /\ w1.frozen? ⟨b, 1, none⟩ = false /\ w1.frozen? ⟨b, 2, none⟩ = false /\ w1.frozen? ⟨b, 4, none⟩ = false /\ b < w1.heap.size /\ w.heap.size <= w1.heap.size /\ Below w.heap.size w w1 := by
 obtain ⟨c1, c2, c4, f1, f2, f4, h1, h2, h3⟩ := hS
 obtain ⟨q1, q2, q3⟩ := qQi.held hb h1
 exact ⟨(q1 _).trans c1, (q1 _).trans c2, (q1 _).trans c4, (q2 _).trans f1, (q2 _).trans f2, (q2 _).trans f4, by omega, by omega, qQo h3 hb⟩
theorem qQi.start {b : Nat} {pr it fe : Int} {w : World} (hS : w.cell? ⟨b, 1, none⟩ = some (.int .i64 pr) /\ w.cell? ⟨b, 2, none⟩ = some (.int .i64 it) /\ w.cell? ⟨b, 4, none⟩ = some (.int .i64 fe) /\ w.frozen? ⟨b, 1, none⟩ = false /\ w.frozen? ⟨b, 2, none⟩ = false /\ w.frozen? ⟨b, 4, none⟩ = false /\ b < w.heap.size /\ w.heap.size <= w.heap.size /\ Below w.heap.size w w) :
  w.drew.cell? ⟨b, 1, none⟩ = some (.int .i64 pr) /\ w.drew.cell? ⟨b, 2, none⟩ = some (.int .i64 it) /\ w.drew.cell? ⟨b, 4, none⟩ = some (.int .i64 fe) /\ w.drew.frozen? ⟨b, 1, none⟩ = false /\ w.drew.frozen? ⟨b, 2, none⟩ = false /\ w.drew.frozen? ⟨b, 4, none⟩ = false /\ b < w.drew.heap.size /\ w.heap.size <= w.drew.heap.size /\ Below w.heap.size w w.drew := qQi.next hS ((Below.refl _ _).drew)
set_option maxHeartbeats 8000000 in
set_option maxRecDepth 100000 in
theorem qQi.zJq (b : Nat) (id pr it su fe ppm : Int) (sd : Bool) (st cl en le fa ct : Int) (w : World) (h : w.heap[b]? = some (.cells (loanC id pr it su fe ppm sd st cl en le fa ct) 48 (0, 0)))
  (x y z : Int) (h1 : qZ9.f pr fe = some (x, 0)) (h2 : qY7.f it = some y) (h3 : qZ9.f x y = some (z, 0)) :
  Calls Tryz.prog 87 #[.pointer (some ⟨b, 0, none⟩)] w fun e w' => e = .returned (.int .i64 z) /\ Below w.heap.size w w' := by
 have c1 : w.cell? ⟨b, 1, none⟩ = some (.int .i64 pr) := (qQa h 1).trans rfl
 have c2 : w.cell? ⟨b, 2, none⟩ = some (.int .i64 it) := (qQa h 2).trans rfl
 have c4 : w.cell? ⟨b, 4, none⟩ = some (.int .i64 fe) := (qQa h 4).trans rfl
 have f1 := qQd h 1
 have f2 := qQd h 2
 have f4 := qQd h 4
 have H1 := am h1
 have H2 := am h2
 have H3 := am h3
 have HB := Below.refl w.heap.size w
 have hlt := qXq h
 have hle := Nat.le_refl w.heap.size
 clear h h1 h2 h3
 go_enter Tryz.func87, Tryz.ntmps87
 go_wp2_with fail
 go_region_held3 (fun W => W.cell? ⟨b, 1, none⟩ = some (.int .i64 pr) /\ W.cell? ⟨b, 2, none⟩ = some (.int .i64 it) /\ W.cell? ⟨b, 4, none⟩ = some (.int .i64 fe) /\ W.frozen? ⟨b, 1, none⟩ = false /\ W.frozen? ⟨b, 2, none⟩ = false /\ W.frozen? ⟨b, 4, none⟩ = false /\ b < W.heap.size /\ w.heap.size <= W.heap.size /\ Below w.heap.size w W) (first | assumption | ((try dsimp only) <;> (refine ⟨?_, ?_, ?_, ?_, ?_, ?_, ?_, ?_, ?_⟩ <;> first | assumption | exact Below.drew ‹_› | exact qQr ‹_› _ | (simp [*]; done) | omega)))
  (first | (go_at_call 108; refine (qQi.zK6 _ _ _ _ (by with_reducible first | exact H1.out | exact H3.out)).mono ?_; rintro e w1 ⟨rfl, hb⟩; have hn_ := qQi.next (by assumption) hb) | (go_at_call 109; refine (qY7.calls it y _ H2.out).mono ?_; rintro e w' ⟨rfl, ⟨nd, rfl⟩⟩; have hn_ := qQi.next (by assumption) (qQr (Below.refl _ _) nd)))
 obtain ⟨_, _, _, _, _, _, _, _, hB⟩ := hn_
 go_wp2
 go_ret
 exact ⟨by first | rfl | (simp; done), hB⟩
set_option maxHeartbeats 8000000 in
set_option maxRecDepth 100000 in
theorem qQi.zWq (b : Nat) (id pr it su fe ppm : Int) (sd : Bool) (st cl en le fa ct : Int) (w : World) (h : w.heap[b]? = some (.cells (loanC id pr it su fe ppm sd st cl en le fa ct) 48 (0, 0)))
  (x e : Int) (h1 : qZ9.f pr fe = some (x, e)) (he : e ≠ 0) :
  Calls Tryz.prog 87 #[.pointer (some ⟨b, 0, none⟩)] w fun r w' => r = .panicked [{ v := .iface 33 (.int .i64 e), recovered := false }] /\ Below w.heap.size w w' := by
 have c1 : w.cell? ⟨b, 1, none⟩ = some (.int .i64 pr) := (qQa h 1).trans rfl
 have c2 : w.cell? ⟨b, 2, none⟩ = some (.int .i64 it) := (qQa h 2).trans rfl
 have c4 : w.cell? ⟨b, 4, none⟩ = some (.int .i64 fe) := (qQa h 4).trans rfl
 have f1 := qQd h 1
 have f2 := qQd h 2
 have f4 := qQd h 4
 have H1 := am h1
 have HE := am he
 have HB := Below.refl w.heap.size w
 have hlt := qXq h
 have hle := Nat.le_refl w.heap.size
 clear h h1 he
 go_enter Tryz.func87, Tryz.ntmps87
 go_wp2_with fail
 have fV := qQi.start (pr := pr) (it := it) (fe := fe) (w := w) ⟨c1, c2, c4, f1, f2, f4, hlt, hle, HB⟩
 refine wp_region_held_drew (S := (fun W => W.cell? ⟨b, 1, none⟩ = some (.int .i64 pr) /\ W.cell? ⟨b, 2, none⟩ = some (.int .i64 it) /\ W.cell? ⟨b, 4, none⟩ = some (.int .i64 fe) /\ W.frozen? ⟨b, 1, none⟩ = false /\ W.frozen? ⟨b, 2, none⟩ = false /\ W.frozen? ⟨b, 4, none⟩ = false /\ b < W.heap.size /\ w.heap.size <= W.heap.size /\ Below w.heap.size w W)) (by kernel_rfl) fV (fun hHeld => ?_)
 refine wpAnyH_take (i := 0) (v := ?v1_) rfl (by kernel_rfl) (by kernel_rfl) (by kernel_rfl) (fun _ _ _ h => h) (Or.inl ⟨by rfl, ?hy1_⟩) (by assumption) ?rest1_
 case hy1_ => (intro w_ hSw_; (try dsimp only at hSw_); (first | (go_simp; done) | (go_simp; with_reducible rfl)))
 try simp only [Act.put, List.getElem_toArray, List.getElem_cons_zero, List.getElem_cons_succ, List.setIfInBounds_toArray, List.set_cons_zero, List.set_cons_succ]
 refine wpAnyH_take (i := 1) (v := ?v2_) rfl (by kernel_rfl) (by kernel_rfl) (by kernel_rfl) (fun _ _ _ h => h) (Or.inl ⟨by rfl, ?hy2_⟩) (by assumption) ?rest2_
 case hy2_ => (intro w_ hSw_; (try dsimp only at hSw_); (first | (go_simp; done) | (go_simp; with_reducible rfl)))
 try simp only [Act.put, List.getElem_toArray, List.getElem_cons_zero, List.getElem_cons_succ, List.setIfInBounds_toArray, List.set_cons_zero, List.set_cons_succ]
 refine wpAnyH_take (i := 2) (v := ?v3_) rfl (by kernel_rfl) (by kernel_rfl) (by kernel_rfl) (fun _ _ _ h => h) (Or.inl ⟨by rfl, ?hy3_⟩) (by assumption) ?rest3_
 case hy3_ => (intro w_ hSw_; (try dsimp only at hSw_); (first | (go_simp; done) | (go_simp; with_reducible rfl)))
 try simp only [Act.put, List.getElem_toArray, List.getElem_cons_zero, List.getElem_cons_succ, List.setIfInBounds_toArray, List.set_cons_zero, List.set_cons_succ]
 refine wpAnyH_take (i := 3) (v := ?v4_) rfl (by kernel_rfl) (by kernel_rfl) (by kernel_rfl) (fun _ _ _ h => h) (Or.inl ⟨by rfl, ?hy4_⟩) (by assumption) ?rest4_
 case hy4_ => (intro w_ hSw_; (try dsimp only at hSw_); (first | (go_simp; done) | (go_simp; with_reducible rfl)))
 try simp only [Act.put, List.getElem_toArray, List.getElem_cons_zero, List.getElem_cons_succ, List.setIfInBounds_toArray, List.set_cons_zero, List.set_cons_succ]
 refine wpAnyH_take (i := 4) (v := ?v5_) rfl (by kernel_rfl) (by kernel_rfl) (by kernel_rfl) (fun _ _ _ h => h) (Or.inl ⟨by rfl, ?hy5_⟩) (by assumption) ?rest5_
 case hy5_ => (intro w_ hSw_; (try dsimp only at hSw_); (first | (go_simp; done) | (go_simp; with_reducible rfl)))
 try simp only [Act.put, List.getElem_toArray, List.getElem_cons_zero, List.getElem_cons_succ, List.setIfInBounds_toArray, List.set_cons_zero, List.set_cons_succ]
 refine wpAnyH_take (i := 5) (v := ?v6_) rfl (by kernel_rfl) (by kernel_rfl) (by kernel_rfl) (fun _ _ _ h => h) (Or.inl ⟨by rfl, ?hy6_⟩) (by assumption) ?rest6_
 case hy6_ => (intro w_ hSw_; (try dsimp only at hSw_); (first | (go_simp; done) | (go_simp; with_reducible rfl)))
 try simp only [Act.put, List.getElem_toArray, List.getElem_cons_zero, List.getElem_cons_succ, List.setIfInBounds_toArray, List.set_cons_zero, List.set_cons_succ]
 refine wpAnyH_take (i := 6) (v := ?v7_) rfl (by kernel_rfl) (by kernel_rfl) (by kernel_rfl) (fun _ _ _ h => h) (Or.inl ⟨by rfl, ?hy7_⟩) (by assumption) ?rest7_
 case hy7_ => (intro w_ hSw_; (try dsimp only at hSw_); (first | (go_simp; done) | (go_simp; with_reducible rfl)))
 try simp only [Act.put, List.getElem_toArray, List.getElem_cons_zero, List.getElem_cons_succ, List.setIfInBounds_toArray, List.set_cons_zero, List.set_cons_succ]
 refine wpAnyH_take (i := 7) (v := ?v8_) rfl (by kernel_rfl) (by kernel_rfl) (by kernel_rfl) (fun _ _ _ h => h) (Or.inl ⟨by rfl, ?hy8_⟩) (by assumption) ?rest8_
 case hy8_ => (intro w_ hSw_; (try dsimp only at hSw_); (first | (go_simp; done) | (go_simp; with_reducible rfl)))
 try simp only [Act.put, List.getElem_toArray, List.getElem_cons_zero, List.getElem_cons_succ, List.setIfInBounds_toArray, List.set_cons_zero, List.set_cons_succ]
 refine wpAnyH_take (i := 9) (v := ?v9_) rfl (by kernel_rfl) (by kernel_rfl) (by kernel_rfl) (fun _ _ _ h => h) (Or.inl ⟨by rfl, ?hy9_⟩) (by assumption) ?rest9_
 case hy9_ => (intro w_ hSw_; (try dsimp only at hSw_); (first | (go_simp; done) | (go_simp; with_reducible rfl)))
 try simp only [Act.put, List.getElem_toArray, List.getElem_cons_zero, List.getElem_cons_succ, List.setIfInBounds_toArray, List.set_cons_zero, List.set_cons_succ]
 refine wpAnyH_take (i := 10) (v := ?v10_) rfl (by kernel_rfl) (by kernel_rfl) (by kernel_rfl) (fun _ _ _ h => h) (Or.inl ⟨by rfl, ?hy10_⟩) (by assumption) ?rest10_
 case hy10_ => (intro w_ hSw_; (try dsimp only at hSw_); (first | (go_simp; done) | (go_simp; with_reducible rfl)))
 try simp only [Act.put, List.getElem_toArray, List.getElem_cons_zero, List.getElem_cons_succ, List.setIfInBounds_toArray, List.set_cons_zero, List.set_cons_succ]
 refine wpAnyH_take (i := 11) (v := ?v11_) rfl (by kernel_rfl) (by kernel_rfl) (by kernel_rfl) (fun _ _ _ h => h) (Or.inl ⟨by rfl, ?hy11_⟩) (by assumption) ?rest11_
 case hy11_ => (intro w_ hSw_; (try dsimp only at hSw_); (first | (go_simp; done) | (go_simp; with_reducible rfl)))
 try simp only [Act.put, List.getElem_toArray, List.getElem_cons_zero, List.getElem_cons_succ, List.setIfInBounds_toArray, List.set_cons_zero, List.set_cons_succ]
 refine wpAnyH_take (i := 12) (v := ?v12_) rfl (by kernel_rfl) (by kernel_rfl) (by kernel_rfl) (fun _ _ _ h => h) (Or.inl ⟨by rfl, ?hy12_⟩) (by assumption) ?rest12_
 case hy12_ => (intro w_ hSw_; (try dsimp only at hSw_); (first | (go_simp; done) | (go_simp; with_reducible rfl)))
 try simp only [Act.put, List.getElem_toArray, List.getElem_cons_zero, List.getElem_cons_succ, List.setIfInBounds_toArray, List.set_cons_zero, List.set_cons_succ]
 refine wpAnyH_ready (rs := [8]) (by kernel_rfl) (by simp) ?_
 refine AllReadyH.cons rfl (fun K hK => ?_) AllReadyH.nil
 go_simp
 go_wp2_with (go_at_call 108; (refine (qQi.zVf _ _ _ _ _ H1.out HE.out).mono ?_); rintro e w1 ⟨rfl, hb⟩)
 exact ⟨rfl, rfl, (qQi.next hHeld hb).2.2.2.2.2.2.2.2⟩
set_option maxHeartbeats 8000000 in
set_option maxRecDepth 100000 in
theorem qQi.zWr (b : Nat) (id pr it su fe ppm : Int) (sd : Bool) (st cl en le fa ct : Int) (w : World) (h : w.heap[b]? = some (.cells (loanC id pr it su fe ppm sd st cl en le fa ct) 48 (0, 0)))
  (x y z e : Int) (h1 : qZ9.f pr fe = some (x, 0)) (h2 : qY7.f it = some y) (h3 : qZ9.f x y = some (z, e)) (he : e ≠ 0) :
  Calls Tryz.prog 87 #[.pointer (some ⟨b, 0, none⟩)] w fun r w' => r = .panicked [{ v := .iface 33 (.int .i64 e), recovered := false }] /\ Below w.heap.size w w' := by
 have c1 : w.cell? ⟨b, 1, none⟩ = some (.int .i64 pr) := (qQa h 1).trans rfl
 have c2 : w.cell? ⟨b, 2, none⟩ = some (.int .i64 it) := (qQa h 2).trans rfl
 have c4 : w.cell? ⟨b, 4, none⟩ = some (.int .i64 fe) := (qQa h 4).trans rfl
 have f1 := qQd h 1
 have f2 := qQd h 2
 have f4 := qQd h 4
 have H1 := am h1
 have HE := am he
 have H2 := am h2
 have H3 := am h3
 have HB := Below.refl w.heap.size w
 have hlt := qXq h
 have hle := Nat.le_refl w.heap.size
 clear h h1 h2 h3 he
 go_enter Tryz.func87, Tryz.ntmps87
 go_wp2_with fail
 have fV := qQi.start (pr := pr) (it := it) (fe := fe) (w := w) ⟨c1, c2, c4, f1, f2, f4, hlt, hle, HB⟩
 refine wp_region_held_drew (S := (fun W => W.cell? ⟨b, 1, none⟩ = some (.int .i64 pr) /\ W.cell? ⟨b, 2, none⟩ = some (.int .i64 it) /\ W.cell? ⟨b, 4, none⟩ = some (.int .i64 fe) /\ W.frozen? ⟨b, 1, none⟩ = false /\ W.frozen? ⟨b, 2, none⟩ = false /\ W.frozen? ⟨b, 4, none⟩ = false /\ b < W.heap.size /\ w.heap.size <= W.heap.size /\ Below w.heap.size w W)) (by kernel_rfl) fV (fun hHeld => ?_)
 refine wpAnyH_take (i := 0) (v := ?v13_) rfl (by kernel_rfl) (by kernel_rfl) (by kernel_rfl) (fun _ _ _ h => h) (Or.inl ⟨by rfl, ?hy13_⟩) (by assumption) ?rest13_
 case hy13_ => (intro w_ hSw_; (try dsimp only at hSw_); (first | (go_simp; done) | (go_simp; with_reducible rfl)))
 try simp only [Act.put, List.getElem_toArray, List.getElem_cons_zero, List.getElem_cons_succ, List.setIfInBounds_toArray, List.set_cons_zero, List.set_cons_succ]
 refine wpAnyH_take (i := 1) (v := ?v14_) rfl (by kernel_rfl) (by kernel_rfl) (by kernel_rfl) (fun _ _ _ h => h) (Or.inl ⟨by rfl, ?hy14_⟩) (by assumption) ?rest14_
 case hy14_ => (intro w_ hSw_; (try dsimp only at hSw_); (first | (go_simp; done) | (go_simp; with_reducible rfl)))
 try simp only [Act.put, List.getElem_toArray, List.getElem_cons_zero, List.getElem_cons_succ, List.setIfInBounds_toArray, List.set_cons_zero, List.set_cons_succ]
 refine wpAnyH_take (i := 2) (v := ?v15_) rfl (by kernel_rfl) (by kernel_rfl) (by kernel_rfl) (fun _ _ _ h => h) (Or.inl ⟨by rfl, ?hy15_⟩) (by assumption) ?rest15_
 case hy15_ => (intro w_ hSw_; (try dsimp only at hSw_); (first | (go_simp; done) | (go_simp; with_reducible rfl)))
 try simp only [Act.put, List.getElem_toArray, List.getElem_cons_zero, List.getElem_cons_succ, List.setIfInBounds_toArray, List.set_cons_zero, List.set_cons_succ]
 refine wpAnyH_take (i := 3) (v := ?v16_) rfl (by kernel_rfl) (by kernel_rfl) (by kernel_rfl) (fun _ _ _ h => h) (Or.inl ⟨by rfl, ?hy16_⟩) (by assumption) ?rest16_
 case hy16_ => (intro w_ hSw_; (try dsimp only at hSw_); (first | (go_simp; done) | (go_simp; with_reducible rfl)))
 try simp only [Act.put, List.getElem_toArray, List.getElem_cons_zero, List.getElem_cons_succ, List.setIfInBounds_toArray, List.set_cons_zero, List.set_cons_succ]
 refine wpAnyH_take (i := 4) (v := ?v17_) rfl (by kernel_rfl) (by kernel_rfl) (by kernel_rfl) (fun _ _ _ h => h) (Or.inl ⟨by rfl, ?hy17_⟩) (by assumption) ?rest17_
 case hy17_ => (intro w_ hSw_; (try dsimp only at hSw_); (first | (go_simp; done) | (go_simp; with_reducible rfl)))
 try simp only [Act.put, List.getElem_toArray, List.getElem_cons_zero, List.getElem_cons_succ, List.setIfInBounds_toArray, List.set_cons_zero, List.set_cons_succ]
 refine wpAnyH_take (i := 5) (v := ?v18_) rfl (by kernel_rfl) (by kernel_rfl) (by kernel_rfl) (fun _ _ _ h => h) (Or.inl ⟨by rfl, ?hy18_⟩) (by assumption) ?rest18_
 case hy18_ => (intro w_ hSw_; (try dsimp only at hSw_); (first | (go_simp; done) | (go_simp; with_reducible rfl)))
 try simp only [Act.put, List.getElem_toArray, List.getElem_cons_zero, List.getElem_cons_succ, List.setIfInBounds_toArray, List.set_cons_zero, List.set_cons_succ]
 refine wpAnyH_take (i := 6) (v := ?v19_) rfl (by kernel_rfl) (by kernel_rfl) (by kernel_rfl) (fun _ _ _ h => h) (Or.inl ⟨by rfl, ?hy19_⟩) (by assumption) ?rest19_
 case hy19_ => (intro w_ hSw_; (try dsimp only at hSw_); (first | (go_simp; done) | (go_simp; with_reducible rfl)))
 try simp only [Act.put, List.getElem_toArray, List.getElem_cons_zero, List.getElem_cons_succ, List.setIfInBounds_toArray, List.set_cons_zero, List.set_cons_succ]
 refine wpAnyH_take (i := 7) (v := ?v20_) rfl (by kernel_rfl) (by kernel_rfl) (by kernel_rfl) (fun _ _ _ h => h) (Or.inl ⟨by rfl, ?hy20_⟩) (by assumption) ?rest20_
 case hy20_ => (intro w_ hSw_; (try dsimp only at hSw_); (first | (go_simp; done) | (go_simp; with_reducible rfl)))
 try simp only [Act.put, List.getElem_toArray, List.getElem_cons_zero, List.getElem_cons_succ, List.setIfInBounds_toArray, List.set_cons_zero, List.set_cons_succ]
 refine wpAnyH_take (i := 9) (v := ?v21_) rfl (by kernel_rfl) (by kernel_rfl) (by kernel_rfl) (fun _ _ _ h => h) (Or.inl ⟨by rfl, ?hy21_⟩) (by assumption) ?rest21_
 case hy21_ => (intro w_ hSw_; (try dsimp only at hSw_); (first | (go_simp; done) | (go_simp; with_reducible rfl)))
 try simp only [Act.put, List.getElem_toArray, List.getElem_cons_zero, List.getElem_cons_succ, List.setIfInBounds_toArray, List.set_cons_zero, List.set_cons_succ]
 refine wpAnyH_take (i := 10) (v := ?v22_) rfl (by kernel_rfl) (by kernel_rfl) (by kernel_rfl) (fun _ _ _ h => h) (Or.inl ⟨by rfl, ?hy22_⟩) (by assumption) ?rest22_
 case hy22_ => (intro w_ hSw_; (try dsimp only at hSw_); (first | (go_simp; done) | (go_simp; with_reducible rfl)))
 try simp only [Act.put, List.getElem_toArray, List.getElem_cons_zero, List.getElem_cons_succ, List.setIfInBounds_toArray, List.set_cons_zero, List.set_cons_succ]
 refine wpAnyH_take (i := 11) (v := ?v23_) rfl (by kernel_rfl) (by kernel_rfl) (by kernel_rfl) (fun _ _ _ h => h) (Or.inl ⟨by rfl, ?hy23_⟩) (by assumption) ?rest23_
 case hy23_ => (intro w_ hSw_; (try dsimp only at hSw_); (first | (go_simp; done) | (go_simp; with_reducible rfl)))
 try simp only [Act.put, List.getElem_toArray, List.getElem_cons_zero, List.getElem_cons_succ, List.setIfInBounds_toArray, List.set_cons_zero, List.set_cons_succ]
 refine wpAnyH_take (i := 12) (v := ?v24_) rfl (by kernel_rfl) (by kernel_rfl) (by kernel_rfl) (fun _ _ _ h => h) (Or.inl ⟨by rfl, ?hy24_⟩) (by assumption) ?rest24_
 case hy24_ => (intro w_ hSw_; (try dsimp only at hSw_); (first | (go_simp; done) | (go_simp; with_reducible rfl)))
 try simp only [Act.put, List.getElem_toArray, List.getElem_cons_zero, List.getElem_cons_succ, List.setIfInBounds_toArray, List.set_cons_zero, List.set_cons_succ]
 refine wpAnyH_ready (rs := [8]) (by kernel_rfl) (by simp) ?_
 refine AllReadyH.cons rfl (fun K hK => ?_) AllReadyH.nil
 go_simp
 go_wp2_with (go_at_call 108; (refine (qQi.zK6 _ _ _ _ H1.out).mono ?_); rintro e w1 ⟨rfl, hb⟩)
 have hF := qQi.next hHeld hb
 refine hK.out _ _ hF (fun hHeld1 => ?_)
 clear hK K
 try simp only [Act.put, List.getElem_toArray, List.getElem_cons_zero, List.getElem_cons_succ, List.setIfInBounds_toArray, List.set_cons_zero, List.set_cons_succ]
 refine wpAnyH_ready (rs := [13]) (by kernel_rfl) (by simp) ?_
 refine AllReadyH.cons rfl (fun K hK => ?_) AllReadyH.nil
 go_simp
 go_wp2_with (go_at_call 109; (refine (qY7.calls _ _ _ H2.out).mono ?_); rintro e w' ⟨rfl, ⟨nd, rfl⟩⟩)
 have hG := qQi.next hF (qQr (Below.refl _ _) nd)
 refine hK.out _ _ hG (fun hHeld2 => ?_)
 clear hK K
 try simp only [Act.put, List.getElem_toArray, List.getElem_cons_zero, List.getElem_cons_succ, List.setIfInBounds_toArray, List.set_cons_zero, List.set_cons_succ]
 refine wpAnyH_ready (rs := [14]) (by kernel_rfl) (by simp) ?_
 refine AllReadyH.cons rfl (fun K hK => ?_) AllReadyH.nil
 go_simp
 go_wp2_with (go_at_call 108; (refine (qQi.zVf _ _ _ _ _ H3.out HE.out).mono ?_); rintro e w2 ⟨rfl, hb2⟩)
 exact ⟨rfl, rfl, (qQi.next hG hb2).2.2.2.2.2.2.2.2⟩
theorem qQi.Near.refl (a b : Nat) (w : World) : qQi.Near a b w w := ⟨rfl, rfl, rfl, Nat.le_refl _, fun _ _ _ _ => rfl⟩
theorem qQi.Near.trans {a b : Nat} {w w1 w2 : World} (h1 : qQi.Near a b w w1) (h2 : qQi.Near a b w1 w2) : qQi.Near a b w w2 :=
 ⟨h2.os.trans h1.os, h2.tape.trans h1.tape, h2.output.trans h1.output, Nat.le_trans h1.size h2.size, fun k hk ha hb => (h2.block k (Nat.lt_of_lt_of_le hk h1.size) ha hb).trans (h1.block k hk ha hb)⟩
theorem qQi.Near.step {a b : Nat} {w w1 w2 : World} (h1 : qQi.Near a b w w1) (h2 : Below w1.heap.size w1 w2) : qQi.Near a b w w2 := h1.trans (.of_below h2)
theorem qQi.Near.put {a b : Nat} {w w1 : World} (h1 : qQi.Near a b w w1) (p : Addr) (v : Value) (hp : p.block = a) : qQi.Near a b w (w1.setCell p v) :=
 h1.trans ⟨rfl, rfl, rfl, by simp [World.setCell], fun k _ ha _ => Below.heap_setCell _ _ _ _ (by omega)⟩
theorem qQi.Near.put2 {a b : Nat} {w w1 : World} (h1 : qQi.Near a b w w1) (p : Addr) (v : Value) (hp : p.block = b) : qQi.Near a b w (w1.setCell p v) :=
 h1.trans ⟨rfl, rfl, rfl, by simp [World.setCell], fun k _ _ hb => Below.heap_setCell _ _ _ _ (by omega)⟩
theorem qQi.Near.drewN {a b : Nat} {w w1 : World} (h1 : qQi.Near a b w w1) (n : Nat) : qQi.Near a b w (w1.drewN n) := h1.step (qQr (Below.refl _ _) n)
theorem qQi.whole {it : Int} (i0 : 0 <= it) (i1 : it <= 1000000000000000000) : qY7.f it = some (it / 1000000) := by
 unfold qY7.f; rw [if_pos (by omega), if_neg (by omega)]
set_option linter.unnecessarySimpa false
end Go.Proofs.YtlhcohipnieidaaGreat.P
namespace Go.Proofs.YtlhcohipnieidaaGreat.P
open Go.RowKit W.PrintWords W.PrintLast W.PrintMore
attribute [local go_sem] qX8 qWa qWu qWv qXt qXu qX9 qWb
set_option linter.unusedVariables false
set_option linter.unusedSimpArgs false
set_option linter.unnecessarySimpa false
theorem qQi.Near.on {w W w1 : World} {c : Nat} (h0 : Below w.heap.size w W) (h : qQi.Near c c W w1) (hc : w.heap.size <= c) : Below w.heap.size w w1 :=
 ⟨h.os.trans h0.os, h.tape.trans h0.tape, h.output.trans h0.output, Nat.le_trans h0.size h.size, fun k hk => (h.block k (Nat.lt_of_lt_of_le hk h0.size) (by omega) (by omega)).trans (h0.block k hk)⟩
set_option maxHeartbeats 8000000 in
set_option maxRecDepth 100000 in
theorem qY3.in_ok (b : Nat) (id pr it su fe ppm : Int) (sd : Bool) (st cl en le fa ct : Int) (w : World) (h : w.heap[b]? = some (.cells (loanC id pr it su fe ppm sd st cl en le fa ct) 48 (0, 0))) (c : Nat) (hc : w.heap[c]? = some (.cells #[.int .i64 0] 2 (0, 0))) (hcb : c ≠ b) (x y z : Int) (h1 : qZ9.f pr fe = some (x, 0)) (h2 : qY7.f it = some y) (h3 : qZ9.f x y = some (z, 0)) :
  Calls Tryz.prog 86 #[.pointer (some ⟨b, 0, none⟩), .pointer (some ⟨c, 0, none⟩)] w fun e w' => e = .returned (.tuple #[]) /\ w'.heap[b]? = some (.cells (loanC id pr it su fe ppm sd st cl en le fa ct) 48 (0, 0)) /\ qQi.Near b c w w' /\ w'.heap[c]? = some (.cells #[.int .i64 z] 2 (0, 0)) := by
 have B := am h
 have C := am hc
 have NE := am hcb
 have H1 := am h1
 have H2 := am h2
 have H3 := am h3
 clear h hc hcb h1 h2 h3
 go_enter Tryz.func86, Tryz.ntmps86
 go_wp2_with (go_at_call 87; (with_reducible refine (qQi.zJq b id pr it su fe ppm sd st cl en le fa ct _ B.out x y z H1.out H2.out H3.out).mono ?_); rintro e w1 ⟨rfl, hb⟩; refine qQi.MARK ?_)
 unfold qQi.Mark
 have B1 := qQi.kept hb B.out
 have C1 := qQi.kept hb C.out
 have m1 : w1.cell? ⟨c, 0, none⟩ = some (.int .i64 0) := (qQa C1 0).trans rfl
 have g1 := qQd C1 0
 have BB := am B1
 have CC := am C1
 have NN := am ((qQi.Near.refl b c w).step hb)
 clear B1 C1 hb
 go_wp2
 go_end0
 exact ⟨by first | rfl | (simp; done), qZ8 BB.out (by simpa using Ne.symm NE.out) _, NN.out.put2 _ _ rfl, qQ0 CC.out 0 _ rfl⟩
set_option maxHeartbeats 8000000 in
set_option maxRecDepth 100000 in
theorem qY3.zJl (b : Nat) (id pr it su fe ppm : Int) (sd : Bool) (st cl en le fa ct : Int) (w : World) (h : w.heap[b]? = some (.cells (loanC id pr it su fe ppm sd st cl en le fa ct) 48 (0, 0))) (c : Nat) (hc : w.heap[c]? = some (.cells #[.int .i64 0] 2 (0, 0))) (hcb : c ≠ b) (x e : Int) (h1 : qZ9.f pr fe = some (x, e)) (he : e ≠ 0) :
  Calls Tryz.prog 86 #[.pointer (some ⟨b, 0, none⟩), .pointer (some ⟨c, 0, none⟩)] w fun r w' => r = .panicked [{ v := .iface 33 (.int .i64 e), recovered := false }] /\ qQi.Near b c w w' /\ w'.heap[c]? = some (.cells #[.int .i64 0] 2 (0, 0)) := by
 have B := am h
 have C := am hc
 have NE := am hcb
 have H1 := am h1
 have HE := am he
 clear h hc hcb h1 he
 go_enter Tryz.func86, Tryz.ntmps86
 go_wp2_with (go_at_call 87; (with_reducible refine (qQi.zWq b id pr it su fe ppm sd st cl en le fa ct _ B.out x e H1.out HE.out).mono ?_); rintro e w1 ⟨rfl, hb⟩)
 exact ⟨rfl, rfl, (qQi.Near.refl b c w).step hb, qQi.kept hb C.out⟩
set_option maxHeartbeats 8000000 in
set_option maxRecDepth 100000 in
theorem qY3.zJm (b : Nat) (id pr it su fe ppm : Int) (sd : Bool) (st cl en le fa ct : Int) (w : World) (h : w.heap[b]? = some (.cells (loanC id pr it su fe ppm sd st cl en le fa ct) 48 (0, 0))) (c : Nat) (hc : w.heap[c]? = some (.cells #[.int .i64 0] 2 (0, 0))) (hcb : c ≠ b) (x y z e : Int) (h1 : qZ9.f pr fe = some (x, 0)) (h2 : qY7.f it = some y) (h3 : qZ9.f x y = some (z, e)) (he : e ≠ 0) :
  Calls Tryz.prog 86 #[.pointer (some ⟨b, 0, none⟩), .pointer (some ⟨c, 0, none⟩)] w fun r w' => r = .panicked [{ v := .iface 33 (.int .i64 e), recovered := false }] /\ qQi.Near b c w w' /\ w'.heap[c]? = some (.cells #[.int .i64 0] 2 (0, 0)) := by
 have B := am h
 have C := am hc
 have NE := am hcb
 have H1 := am h1
 have HE := am he
 have H2 := am h2
 have H3 := am h3
 clear h2 h3
 clear h hc hcb h1 he
 go_enter Tryz.func86, Tryz.ntmps86
 go_wp2_with (go_at_call 87; (with_reducible refine (qQi.zWr b id pr it su fe ppm sd st cl en le fa ct _ B.out x y z e H1.out H2.out H3.out HE.out).mono ?_); rintro e w1 ⟨rfl, hb⟩)
 exact ⟨rfl, rfl, (qQi.Near.refl b c w).step hb, qQi.kept hb C.out⟩
set_option maxHeartbeats 8000000 in
set_option maxRecDepth 100000 in
theorem qY3.by_ (id pr it su fe ppm : Int) (sd : Bool) (st cl en le fa ct r1 r2 r3 r4 r5 r6 : Int) (r7 : Bool) (r8 r9 fL fM fN fO hL z : Int) (w : World)
  (hD : ∀ W, W.heap[w.heap.size + 1]? = some (.cells #[.int .i64 0] 2 (0, 0)) -> Below w.heap.size w W -> Calls Tryz.prog 85 #[.agg (loanC id pr it su fe ppm sd st cl en le fa ct), .func (.func 86) #[] #[.pointer (some ⟨w.heap.size + 1, 0, none⟩)]] W fun e w' => e = .returned (.tuple #[.agg (loanC r1 r2 r3 r4 r5 r6 r7 r8 r9 fL fM fN fO), .int .i64 hL]) /\ qQi.Near (w.heap.size + 1) (w.heap.size + 1) W w' /\ w'.heap[w.heap.size + 1]? = some (.cells #[.int .i64 z] 2 (0, 0))) :
  Calls Tryz.prog 51 #[.agg #[.int .i64 id, .int .i64 pr, .int .i64 it, .int .i64 su, .int .i64 fe, .int .i64 ppm, .bool sd, .int .i64 st, .int .i64 cl, .int .i64 en, .int .i64 le, .int .i64 fa, .int .i64 ct]] w fun e w' => e = .returned (.tuple #[.int .i64 z, .int .i64 hL]) /\ Below w.heap.size w w' := by
 have HD := am hD
 clear hD
 have hmf : ∀ (fn : Fn) (first cap : Array Value) (w : World), (Instr.makeFunc fn first cap).run Tryz.prog w = .ok (.func fn first cap) w := fun _ _ _ _ => rfl
 have k0 := qXs (w.alloc (Obj.cells #[.int .i64 id, .int .i64 pr, .int .i64 it, .int .i64 su, .int .i64 fe, .int .i64 ppm, .bool sd, .int .i64 st, .int .i64 cl, .int .i64 en, .int .i64 le, .int .i64 fa, .int .i64 ct] 48)) (Obj.cells #[.int .i64 0] 2)
 have n0 : ((w.alloc (Obj.cells #[.int .i64 id, .int .i64 pr, .int .i64 it, .int .i64 su, .int .i64 fe, .int .i64 ppm, .bool sd, .int .i64 st, .int .i64 cl, .int .i64 en, .int .i64 le, .int .i64 fa, .int .i64 ct] 48)).alloc (Obj.cells #[.int .i64 0] 2)).cell? ⟨w.heap.size + 1, 0, none⟩ = some (.int .i64 0) := by have := (qQa k0 0).trans rfl; simpa using this
 go_enter Tryz.func51, Tryz.ntmps51
 go_upto_region 2 with (fail)
 obtain ⟨W, hW⟩ : ∃ W, W = (w.alloc (Obj.cells #[.int .i64 id, .int .i64 pr, .int .i64 it, .int .i64 su, .int .i64 fe, .int .i64 ppm, .bool sd, .int .i64 st, .int .i64 cl, .int .i64 en, .int .i64 le, .int .i64 fa, .int .i64 ct] 48)).alloc (Obj.cells #[.int .i64 0] 2) := ⟨_, rfl⟩
 have B0 : Aside0 (W.heap[w.heap.size]? = some (.cells (loanC id pr it su fe ppm sd st cl en le fa ct) 48 (0, 0))) := ⟨by
  have := qYq (qXs w (Obj.cells #[.int .i64 id, .int .i64 pr, .int .i64 it, .int .i64 su, .int .i64 fe, .int .i64 ppm, .bool sd, .int .i64 st, .int .i64 cl, .int .i64 en, .int .i64 le, .int .i64 fa, .int .i64 ct] 48)) (Obj.cells #[.int .i64 0] 2)
  rw [hW]; simpa [loanC] using this⟩
 have B1 : Aside0 (W.heap[w.heap.size + 1]? = some (.cells #[.int .i64 0] 2 (0, 0))) := ⟨by rw [hW]; simpa using k0⟩
 have HB : Aside0 (Below w.heap.size w W) := ⟨by rw [hW]; exact ((Below.refl _ _).alloc (Nat.le_refl _) _).alloc (by simp) _⟩
 rw [<- hW]
 clear hW k0 n0
 have c0 : W.cell? ⟨w.heap.size, 0, none⟩ = some (.int .i64 id) := (qQa B0.out 0).trans rfl
 have c1 : W.cell? ⟨w.heap.size, 1, none⟩ = some (.int .i64 pr) := (qQa B0.out 1).trans rfl
 have c2 : W.cell? ⟨w.heap.size, 2, none⟩ = some (.int .i64 it) := (qQa B0.out 2).trans rfl
 have c3 : W.cell? ⟨w.heap.size, 3, none⟩ = some (.int .i64 su) := (qQa B0.out 3).trans rfl
 have c4 : W.cell? ⟨w.heap.size, 4, none⟩ = some (.int .i64 fe) := (qQa B0.out 4).trans rfl
 have c5 : W.cell? ⟨w.heap.size, 5, none⟩ = some (.int .i64 ppm) := (qQa B0.out 5).trans rfl
 have c6 : W.cell? ⟨w.heap.size, 6, none⟩ = some (.bool sd) := (qQa B0.out 6).trans rfl
 have c7 : W.cell? ⟨w.heap.size, 7, none⟩ = some (.int .i64 st) := (qQa B0.out 7).trans rfl
 have c8 : W.cell? ⟨w.heap.size, 8, none⟩ = some (.int .i64 cl) := (qQa B0.out 8).trans rfl
 have c9 : W.cell? ⟨w.heap.size, 9, none⟩ = some (.int .i64 en) := (qQa B0.out 9).trans rfl
 have cM : W.cell? ⟨w.heap.size, 10, none⟩ = some (.int .i64 le) := (qQa B0.out 10).trans rfl
 have eA : W.cell? ⟨w.heap.size, 11, none⟩ = some (.int .i64 fa) := (qQa B0.out 11).trans rfl
 have eB : W.cell? ⟨w.heap.size, 12, none⟩ = some (.int .i64 ct) := (qQa B0.out 12).trans rfl
 go_wp2_with (first | (go_at_call 85; refine (HD.out _ B1.out HB.out).mono ?_; rintro e w1 ⟨rfl, hN, hn⟩) | ((with_reducible refine qQi.gate 48 (.tmp 5) (.tmp 11) rfl ?_); refine qQi.MARK ?_))
 unfold qQi.Mark
 have k1 := qXs w1 (Obj.cells #[.int .i64 0, .int .i64 0, .int .i64 0, .int .i64 0, .int .i64 0, .int .i64 0, .bool false, .int .i64 0, .int .i64 0, .int .i64 0, .int .i64 0, .int .i64 0, .int .i64 0] 48)
 have HW : Aside0 (Below w.heap.size w w1) := ⟨hN.on HB.out (by omega)⟩
 have lt := qXq hn
 have sz := HW.out.size
 refine qQi.st rfl 48 (.tmp 5) (.tmp 11) rfl rfl w1.heap.size (loanC r1 r2 r3 r4 r5 r6 r7 r8 r9 fL fM fN fO) ?hx ?hy 48 _ k1 (by kernel_rfl) rfl (qQi.one _ _ _ _ _ _ _ _ _ _ _ _ _) ?_
 case hx => simp [go_sem]
 case hy => simp [go_sem]
 have n1 : ((w1.alloc (Obj.cells #[.int .i64 0, .int .i64 0, .int .i64 0, .int .i64 0, .int .i64 0, .int .i64 0, .bool false, .int .i64 0, .int .i64 0, .int .i64 0, .int .i64 0, .int .i64 0, .int .i64 0] 48)).setRow w1.heap.size (loanC r1 r2 r3 r4 r5 r6 r7 r8 r9 fL fM fN fO)).heap[w.heap.size + 1]? = some (.cells #[.int .i64 z] 2 (0, 0)) := (setRow_other _ _ _ _ (by omega)).trans (qYq hn _)
 have HF : Aside0 (Below w.heap.size w ((w1.alloc (Obj.cells #[.int .i64 0, .int .i64 0, .int .i64 0, .int .i64 0, .int .i64 0, .int .i64 0, .bool false, .int .i64 0, .int .i64 0, .int .i64 0, .int .i64 0, .int .i64 0, .int .i64 0] 48)).setRow w1.heap.size (loanC r1 r2 r3 r4 r5 r6 r7 r8 r9 fL fM fN fO))) := ⟨below_setRow (qZo HW.out _) (by omega) _⟩
 generalize (w1.alloc (Obj.cells #[.int .i64 0, .int .i64 0, .int .i64 0, .int .i64 0, .int .i64 0, .int .i64 0, .bool false, .int .i64 0, .int .i64 0, .int .i64 0, .int .i64 0, .int .i64 0, .int .i64 0] 48)).setRow w1.heap.size (loanC r1 r2 r3 r4 r5 r6 r7 r8 r9 fL fM fN fO) = W4 at *
 have n3 : W4.cell? ⟨w.heap.size + 1, 0, none⟩ = some (.int .i64 z) := (qQa n1 0).trans rfl
 go_wp2
 go_ret2
 exact ⟨by first | rfl | (simp; done), HF.out⟩
def qY3.f (k : Nat) (id pr it su fe ppm : Int) (sd : Bool) (st cl en le fa ct : Int) : Option (Int × Int) := (qQt.f k id pr it su fe ppm sd st cl en le fa ct).bind fun g =>
 if g = true then (if 0 <= it /\ it <= 1000000000000000000 then (qZ9.f pr fe).bind fun p => (if p.2 = 0 then (qZ9.f p.1 (it / 1000000)).bind fun q => (if q.2 = 0 then some (q.1, 0) else some (0, q.2)) else some (0, p.2)) else none) else some (0, 1)
set_option maxHeartbeats 8000000 in
set_option maxRecDepth 100000 in
theorem qY3.calls (k : Nat) (id pr it su fe ppm : Int) (sd : Bool) (st cl en le fa ct r1 r2 : Int) (w : World) (h : qY3.f k id pr it su fe ppm sd st cl en le fa ct = some (r1, r2)) :
  Calls Tryz.prog 51 #[.agg #[.int .i64 id, .int .i64 pr, .int .i64 it, .int .i64 su, .int .i64 fe, .int .i64 ppm, .bool sd, .int .i64 st, .int .i64 cl, .int .i64 en, .int .i64 le, .int .i64 fa, .int .i64 ct]] w fun e w' => e = .returned (.tuple #[.int .i64 r1, .int .i64 r2]) /\ Below w.heap.size w w' := by
 have hf : ∀ args W, (callFunc 86 args).run Tryz.prog W = .ok (.enter 86 args) W := fun _ _ => by rfl
 unfold qY3.f at h
 obtain ⟨g, hg, h⟩ := Option.bind_eq_some_iff.mp h
 cases g with
 | false =>
  rw [if_neg (by simp)] at h
  simp only [Option.some.injEq, Prod.mk.injEq] at h
  obtain ⟨rfl, rfl⟩ := h
  refine qY3.by_ id pr it su fe ppm sd st cl en le fa ct 0 0 0 0 0 0 false 0 0 0 0 0 0 1 0 w (fun W hn hW => ?_)
  exact (qQi.zV9 k _ _ _ _ _ _ _ _ _ _ _ _ _ _ W hg).mono (fun e w' ⟨h1, h2⟩ => ⟨h1, .of_below h2, qQi.kept h2 hn⟩)
 | true =>
  rw [if_pos rfl] at h
  by_cases ci : 0 <= it /\ it <= 1000000000000000000
  ·rw [if_pos ci] at h
   obtain ⟨⟨x, e⟩, hp, h⟩ := Option.bind_eq_some_iff.mp h
   simp only at h
   by_cases ce : e = 0
   ·rw [if_pos ce] at h
    subst ce
    obtain ⟨⟨z, e⟩, hq, h⟩ := Option.bind_eq_some_iff.mp h
    simp only at h
    by_cases ce : e = 0
    ·rw [if_pos ce] at h
     subst ce
     simp only [Option.some.injEq, Prod.mk.injEq] at h
     obtain ⟨rfl, rfl⟩ := h
     refine qY3.by_ id pr it su fe ppm sd st cl en le fa ct id pr it su fe ppm sd st cl en le fa ct 0 z w (fun W hn hW => ?_)
     have lt := qXq hn
     refine (qQi.zJi k id pr it su fe ppm sd st cl en le fa ct 86 #[.pointer (some ⟨w.heap.size + 1, 0, none⟩)] _ _ _ _ _ _ _ _ _ _ _ _ _ (w.heap.size + 1) (.cells #[.int .i64 z] 2 (0, 0)) W (by omega) hf hg (fun V hV _ hb => ?_)).mono (fun e w' ⟨h1, h2, h3⟩ => ⟨h1, h2, h3 lt⟩)
     exact (qY3.in_ok W.heap.size id pr it su fe ppm sd st cl en le fa ct V hV (w.heap.size + 1) (qQi.kept hb hn) (by omega) _ _ _ hp (qQi.whole ci.1 ci.2) hq).mono (fun e w' ⟨h1, h2, h3, h4⟩ => ⟨h1, h2, h3, fun _ => h4⟩)
    ·rw [if_neg ce] at h
     simp only [Option.some.injEq, Prod.mk.injEq] at h
     obtain ⟨rfl, rfl⟩ := h
     refine qY3.by_ id pr it su fe ppm sd st cl en le fa ct 0 0 0 0 0 0 false 0 0 0 0 0 0 e 0 w (fun W hn hW => ?_)
     have lt := qXq hn
     refine (qQi.zYl k id pr it su fe ppm sd st cl en le fa ct 86 #[.pointer (some ⟨w.heap.size + 1, 0, none⟩)] e (w.heap.size + 1) (.cells #[.int .i64 0] 2 (0, 0)) W (by omega) hf hg (fun V hV _ hb => ?_)).mono (fun e w' ⟨h1, h2, h3⟩ => ⟨h1, h2, h3 lt⟩)
     exact (qY3.zJm W.heap.size id pr it su fe ppm sd st cl en le fa ct V hV (w.heap.size + 1) (qQi.kept hb hn) (by omega) _ _ _ _ hp (qQi.whole ci.1 ci.2) hq ce).mono (fun e w' ⟨h1, h2, h3⟩ => ⟨h1, h2, fun _ => h3⟩)
   ·rw [if_neg ce] at h
    simp only [Option.some.injEq, Prod.mk.injEq] at h
    obtain ⟨rfl, rfl⟩ := h
    refine qY3.by_ id pr it su fe ppm sd st cl en le fa ct 0 0 0 0 0 0 false 0 0 0 0 0 0 e 0 w (fun W hn hW => ?_)
    have lt := qXq hn
    refine (qQi.zYl k id pr it su fe ppm sd st cl en le fa ct 86 #[.pointer (some ⟨w.heap.size + 1, 0, none⟩)] e (w.heap.size + 1) (.cells #[.int .i64 0] 2 (0, 0)) W (by omega) hf hg (fun V hV _ hb => ?_)).mono (fun e w' ⟨h1, h2, h3⟩ => ⟨h1, h2, h3 lt⟩)
    exact (qY3.zJl W.heap.size id pr it su fe ppm sd st cl en le fa ct V hV (w.heap.size + 1) (qQi.kept hb hn) (by omega) _ _ hp ce).mono (fun e w' ⟨h1, h2, h3⟩ => ⟨h1, h2, fun _ => h3⟩)
  ·rw [if_neg ci] at h; cases h
end Go.Proofs.YtlhcohipnieidaaGreat.P
