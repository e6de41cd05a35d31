/- Several texts as one (written by a program): what the walks and the plain laws come to, one behind the other. -/
import Derived.Test.YtlhcohipnieidaaGreatProg
import Derived.Below
import Derived.Deep.Draws
import Derived.Deep.AppendLies
import Derived.Maps.AppendAt
import Derived.OwnWalk
import Derived.Laws.BytesArg
import Derived.Laws.MakeOwn
import Derived.Laws.OwnMore
import Derived.Deep.OwnRows
import Derived.Tactics
import Derived.Lib.ConvBytes
import Derived.Laws.Slices
import Derived.WalkKit
import Derived.KernelRfl
import Derived.RowKit3
import Derived.Deep.LoopGhost
import Derived.Deep.QuietTactic
import Derived.BigQuiet
import Derived.WideLaws
import Derived.Deep.DeepCutAuto
import Derived.Deep.CutBlock
import Derived.Deep.RegionHeld3
import Derived.Laws.Rows
import Derived.Lib.AppendStr
import Derived.ArgAppend
import Derived.Laws.IdiomCopy
import Derived.OrdersHeld
import Derived.Laws.BitsLemmas
import Derived.RowKit
import Derived.Defers
import Derived.Recover
import Derived.WalkLawsBesides
import Derived.WalkMore
import Derived.Test.YtlhcohipnieidaaGreatWWords
import Derived.Test.YtlhcohipnieidaaGreatWAll
import Derived.Laws.CopyOwn
import Derived.Deep.RegionHeld2
import Derived.Test.YtlhcohipnieidaaGreatShelf
namespace Go.Proofs.YtlhcohipnieidaaGreat.P
open Go.RowKit W.PrintWords W.PrintLast W.PrintMore
attribute [local go_sem] qXg qXd qXq qXr qY2 qY1 qXe qXf
set_option linter.unusedVariables false
set_option linter.unusedSimpArgs false
def errW : Option Int → Value
 | none => .nilIface
 | some c => .iface 0 (.int .i64 c)
theorem qQq : errW none = .nilIface := rfl
theorem qQr (c : Int) : errW (some c) = .iface 0 (.int .i64 c) := rfl
theorem info2 : (Tryz.prog.info? 2).map (fun i => (i.zero, i.size, i.bytes)) = some (some (.int .i64 0), 1, 8) := by kernel_rfl
theorem info3 : (Tryz.prog.info? 3).map (fun i => (i.zero, i.size, i.bytes)) = some (some (.int .i64 0), 1, 8) := by kernel_rfl
theorem info48 : (Tryz.prog.info? 48).map (fun i => (i.zero, i.size, i.bytes)) = some (some (.agg #[(.int .i64 0), (.int .i64 0), (.int .i64 0), (.int .i64 0), (.int .i64 0), (.int .i64 0), (.bool false), (.int .i64 0), (.int .i64 0), (.int .i64 0), (.int .i64 0), (.int .i64 0), (.int .i64 0)]), 13, 104) := by kernel_rfl
theorem info102 : (Tryz.prog.info? 102).map (fun i => (i.zero, i.size, i.bytes)) = some (some (.int .u64 0), 1, 8) := by kernel_rfl
-- the values' own types
structure S54 where
 f0 : Int
 f1 : Int
 f2 : Int
 f3 : Int
 f4 : Int
 f5 : (List Int)
def z54 : S54 := ⟨(0 : Int), (0 : Int), (0 : Int), (0 : Int), (0 : Int), ([] : List Int)⟩
def k54 : Kd S54 := Kd.iso (Kd.pair (Kd.int .i64) (Kd.pair (Kd.int .i64) (Kd.pair (Kd.int .i64) (Kd.pair (Kd.int .i64) (Kd.pair (Kd.int .i64) (Kd.slice 3 (Kd.int .i64))))))) (fun x : S54 => (x.f0, x.f1, x.f2, x.f3, x.f4, x.f5))
theorem zX1 {w : World} {x : S54} {cs : List Value} (h : k54.K w x cs) : ∃ A5 c5, cs = [.int .i64 x.f0, .int .i64 x.f1, .int .i64 x.f2, .int .i64 x.f3, .int .i64 x.f4, .slice A5 x.f5.length c5] ∧ x.f5.length ≤ c5 ∧ (Kd.int .i64).C w A5 x.f5.length x.f5 := by
 obtain ⟨_, _, rfl, rfl, ⟨_, _, rfl, rfl, ⟨_, _, rfl, rfl, ⟨_, _, rfl, rfl, ⟨_, _, rfl, rfl, ⟨A5, c5, rfl, l5, g5⟩⟩⟩⟩⟩⟩ := h
 exact ⟨A5, c5, rfl, l5, g5⟩
theorem k54_mk (w : World) (x : S54) {A5 : Option Addr} {c5 : Nat} (l5 : x.f5.length ≤ c5) (g5 : (Kd.int .i64).C w A5 x.f5.length x.f5) : k54.K w x [.int .i64 x.f0, .int .i64 x.f1, .int .i64 x.f2, .int .i64 x.f3, .int .i64 x.f4, .slice A5 x.f5.length c5] := ⟨[.int .i64 x.f0], [.int .i64 x.f1, .int .i64 x.f2, .int .i64 x.f3, .int .i64 x.f4, .slice A5 x.f5.length c5], rfl, rfl, ⟨[.int .i64 x.f1], [.int .i64 x.f2, .int .i64 x.f3, .int .i64 x.f4, .slice A5 x.f5.length c5], rfl, rfl, ⟨[.int .i64 x.f2], [.int .i64 x.f3, .int .i64 x.f4, .slice A5 x.f5.length c5], rfl, rfl, ⟨[.int .i64 x.f3], [.int .i64 x.f4, .slice A5 x.f5.length c5], rfl, rfl, ⟨[.int .i64 x.f4], [.slice A5 x.f5.length c5], rfl, rfl, ⟨A5, c5, rfl, l5, g5⟩⟩⟩⟩⟩⟩
def qXp (xs : List S54) (i : Int) : S54 := xs.getD i.toNat z54
theorem zWx {w : World} {A : Option Addr} {n : Nat} {xs : List S54} (h : Kd.C k54 w A n xs) (i : Int) (h0 : 0 ≤ i) (h1 : i < n) : ∃ ad A5 c5, A = some ad ∧ w.cell? (ad.add (i.toNat * 6)) = some (.int .i64 (qXp xs i).f0) ∧ w.cell? ⟨(ad.add (i.toNat * 6)).block, (ad.add (i.toNat * 6)).off + 1, none⟩ = some (.int .i64 (qXp xs i).f1) ∧ w.cell? ⟨(ad.add (i.toNat * 6)).block, (ad.add (i.toNat * 6)).off + 2, none⟩ = some (.int .i64 (qXp xs i).f2) ∧ w.cell? ⟨(ad.add (i.toNat * 6)).block, (ad.add (i.toNat * 6)).off + 3, none⟩ = some (.int .i64 (qXp xs i).f3) ∧ w.cell? ⟨(ad.add (i.toNat * 6)).block, (ad.add (i.toNat * 6)).off + 4, none⟩ = some (.int .i64 (qXp xs i).f4) ∧ w.cell? ⟨(ad.add (i.toNat * 6)).block, (ad.add (i.toNat * 6)).off + 5, none⟩ = some (.slice A5 (qXp xs i).f5.length c5) ∧ (qXp xs i).f5.length ≤ c5 ∧ (Kd.int .i64).C w A5 (qXp xs i).f5.length (qXp xs i).f5 := by
 obtain ⟨ad, c, e, _, hK, hc0⟩ := Kd.C_get h z54 i h0 h1
 have hc : ∀ j u, c[j]? = some u → w.cell? (ad.add (i.toNat * 6 + j)) = some u := hc0
 obtain ⟨A5, c5, rfl, l5, g5⟩ := zX1 hK
 exact ⟨ad, A5, c5, e, hc 0 _ rfl, by rw [← qYu _ _ 1 (by omega)]; exact hc 1 _ rfl, by rw [← qYu _ _ 2 (by omega)]; exact hc 2 _ rfl, by rw [← qYu _ _ 3 (by omega)]; exact hc 3 _ rfl, by rw [← qYu _ _ 4 (by omega)]; exact hc 4 _ rfl, by rw [← qYu _ _ 5 (by omega)]; exact hc 5 _ rfl, l5, g5⟩
structure S48 where
 f0 : Int
 f1 : Int
 f2 : Int
 f3 : Int
 f4 : Int
 f5 : Int
 f6 : Bool
 f7 : Int
 f8 : Int
 f9 : Int
 f10 : Int
 f11 : Int
 f12 : Int
def z48 : S48 := ⟨(0 : Int), (0 : Int), (0 : Int), (0 : Int), (0 : Int), (0 : Int), false, (0 : Int), (0 : Int), (0 : Int), (0 : Int), (0 : Int), (0 : Int)⟩
def k48 : Kd S48 := Kd.iso (Kd.pair (Kd.int .i64) (Kd.pair (Kd.int .i64) (Kd.pair (Kd.int .i64) (Kd.pair (Kd.int .i64) (Kd.pair (Kd.int .i64) (Kd.pair (Kd.int .i64) (Kd.pair Kd.bool (Kd.pair (Kd.int .i64) (Kd.pair (Kd.int .i64) (Kd.pair (Kd.int .i64) (Kd.pair (Kd.int .i64) (Kd.pair (Kd.int .i64) (Kd.int .i64))))))))))))) (fun x : S48 => (x.f0, x.f1, x.f2, x.f3, x.f4, x.f5, x.f6, x.f7, x.f8, x.f9, x.f10, x.f11, x.f12))
theorem zWh {w : World} {x : S48} {cs : List Value} (h : k48.K w x cs) : cs = [.int .i64 x.f0, .int .i64 x.f1, .int .i64 x.f2, .int .i64 x.f3, .int .i64 x.f4, .int .i64 x.f5, .bool x.f6, .int .i64 x.f7, .int .i64 x.f8, .int .i64 x.f9, .int .i64 x.f10, .int .i64 x.f11, .int .i64 x.f12] := by
 obtain ⟨_, _, rfl, rfl, ⟨_, _, rfl, rfl, ⟨_, _, rfl, rfl, ⟨_, _, rfl, rfl, ⟨_, _, rfl, rfl, ⟨_, _, rfl, rfl, ⟨_, _, rfl, rfl, ⟨_, _, rfl, rfl, ⟨_, _, rfl, rfl, ⟨_, _, rfl, rfl, ⟨_, _, rfl, rfl, ⟨_, _, rfl, rfl, rfl⟩⟩⟩⟩⟩⟩⟩⟩⟩⟩⟩⟩ := h
 exact rfl
theorem k48_mk (w : World) (x : S48)  : k48.K w x [.int .i64 x.f0, .int .i64 x.f1, .int .i64 x.f2, .int .i64 x.f3, .int .i64 x.f4, .int .i64 x.f5, .bool x.f6, .int .i64 x.f7, .int .i64 x.f8, .int .i64 x.f9, .int .i64 x.f10, .int .i64 x.f11, .int .i64 x.f12] := ⟨[.int .i64 x.f0], [.int .i64 x.f1, .int .i64 x.f2, .int .i64 x.f3, .int .i64 x.f4, .int .i64 x.f5, .bool x.f6, .int .i64 x.f7, .int .i64 x.f8, .int .i64 x.f9, .int .i64 x.f10, .int .i64 x.f11, .int .i64 x.f12], rfl, rfl, ⟨[.int .i64 x.f1], [.int .i64 x.f2, .int .i64 x.f3, .int .i64 x.f4, .int .i64 x.f5, .bool x.f6, .int .i64 x.f7, .int .i64 x.f8, .int .i64 x.f9, .int .i64 x.f10, .int .i64 x.f11, .int .i64 x.f12], rfl, rfl, ⟨[.int .i64 x.f2], [.int .i64 x.f3, .int .i64 x.f4, .int .i64 x.f5, .bool x.f6, .int .i64 x.f7, .int .i64 x.f8, .int .i64 x.f9, .int .i64 x.f10, .int .i64 x.f11, .int .i64 x.f12], rfl, rfl, ⟨[.int .i64 x.f3], [.int .i64 x.f4, .int .i64 x.f5, .bool x.f6, .int .i64 x.f7, .int .i64 x.f8, .int .i64 x.f9, .int .i64 x.f10, .int .i64 x.f11, .int .i64 x.f12], rfl, rfl, ⟨[.int .i64 x.f4], [.int .i64 x.f5, .bool x.f6, .int .i64 x.f7, .int .i64 x.f8, .int .i64 x.f9, .int .i64 x.f10, .int .i64 x.f11, .int .i64 x.f12], rfl, rfl, ⟨[.int .i64 x.f5], [.bool x.f6, .int .i64 x.f7, .int .i64 x.f8, .int .i64 x.f9, .int .i64 x.f10, .int .i64 x.f11, .int .i64 x.f12], rfl, rfl, ⟨[.bool x.f6], [.int .i64 x.f7, .int .i64 x.f8, .int .i64 x.f9, .int .i64 x.f10, .int .i64 x.f11, .int .i64 x.f12], rfl, rfl, ⟨[.int .i64 x.f7], [.int .i64 x.f8, .int .i64 x.f9, .int .i64 x.f10, .int .i64 x.f11, .int .i64 x.f12], rfl, rfl, ⟨[.int .i64 x.f8], [.int .i64 x.f9, .int .i64 x.f10, .int .i64 x.f11, .int .i64 x.f12], rfl, rfl, ⟨[.int .i64 x.f9], [.int .i64 x.f10, .int .i64 x.f11, .int .i64 x.f12], rfl, rfl, ⟨[.int .i64 x.f10], [.int .i64 x.f11, .int .i64 x.f12], rfl, rfl, ⟨[.int .i64 x.f11], [.int .i64 x.f12], rfl, rfl, rfl⟩⟩⟩⟩⟩⟩⟩⟩⟩⟩⟩⟩
theorem zYj (w : World) (base : Nat) (ok : Nat → Prop) (x : S48)  : k48.M w base ok x [.int .i64 x.f0, .int .i64 x.f1, .int .i64 x.f2, .int .i64 x.f3, .int .i64 x.f4, .int .i64 x.f5, .bool x.f6, .int .i64 x.f7, .int .i64 x.f8, .int .i64 x.f9, .int .i64 x.f10, .int .i64 x.f11, .int .i64 x.f12] := ⟨[.int .i64 x.f0], [.int .i64 x.f1, .int .i64 x.f2, .int .i64 x.f3, .int .i64 x.f4, .int .i64 x.f5, .bool x.f6, .int .i64 x.f7, .int .i64 x.f8, .int .i64 x.f9, .int .i64 x.f10, .int .i64 x.f11, .int .i64 x.f12], rfl, rfl, ⟨[.int .i64 x.f1], [.int .i64 x.f2, .int .i64 x.f3, .int .i64 x.f4, .int .i64 x.f5, .bool x.f6, .int .i64 x.f7, .int .i64 x.f8, .int .i64 x.f9, .int .i64 x.f10, .int .i64 x.f11, .int .i64 x.f12], rfl, rfl, ⟨[.int .i64 x.f2], [.int .i64 x.f3, .int .i64 x.f4, .int .i64 x.f5, .bool x.f6, .int .i64 x.f7, .int .i64 x.f8, .int .i64 x.f9, .int .i64 x.f10, .int .i64 x.f11, .int .i64 x.f12], rfl, rfl, ⟨[.int .i64 x.f3], [.int .i64 x.f4, .int .i64 x.f5, .bool x.f6, .int .i64 x.f7, .int .i64 x.f8, .int .i64 x.f9, .int .i64 x.f10, .int .i64 x.f11, .int .i64 x.f12], rfl, rfl, ⟨[.int .i64 x.f4], [.int .i64 x.f5, .bool x.f6, .int .i64 x.f7, .int .i64 x.f8, .int .i64 x.f9, .int .i64 x.f10, .int .i64 x.f11, .int .i64 x.f12], rfl, rfl, ⟨[.int .i64 x.f5], [.bool x.f6, .int .i64 x.f7, .int .i64 x.f8, .int .i64 x.f9, .int .i64 x.f10, .int .i64 x.f11, .int .i64 x.f12], rfl, rfl, ⟨[.bool x.f6], [.int .i64 x.f7, .int .i64 x.f8, .int .i64 x.f9, .int .i64 x.f10, .int .i64 x.f11, .int .i64 x.f12], rfl, rfl, ⟨[.int .i64 x.f7], [.int .i64 x.f8, .int .i64 x.f9, .int .i64 x.f10, .int .i64 x.f11, .int .i64 x.f12], rfl, rfl, ⟨[.int .i64 x.f8], [.int .i64 x.f9, .int .i64 x.f10, .int .i64 x.f11, .int .i64 x.f12], rfl, rfl, ⟨[.int .i64 x.f9], [.int .i64 x.f10, .int .i64 x.f11, .int .i64 x.f12], rfl, rfl, ⟨[.int .i64 x.f10], [.int .i64 x.f11, .int .i64 x.f12], rfl, rfl, ⟨[.int .i64 x.f11], [.int .i64 x.f12], rfl, rfl, rfl⟩⟩⟩⟩⟩⟩⟩⟩⟩⟩⟩⟩
def qQa (xs : List S48) (i : Int) : S48 := xs.getD i.toNat z48
theorem qY8 {w : World} {A : Option Addr} {n : Nat} {xs : List S48} (h : Kd.C k48 w A n xs) (i : Int) (h0 : 0 ≤ i) (h1 : i < n) : ∃ ad , A = some ad ∧ w.cell? (ad.add (i.toNat * 13)) = some (.int .i64 (qQa xs i).f0) ∧ w.cell? ⟨(ad.add (i.toNat * 13)).block, (ad.add (i.toNat * 13)).off + 1, none⟩ = some (.int .i64 (qQa xs i).f1) ∧ w.cell? ⟨(ad.add (i.toNat * 13)).block, (ad.add (i.toNat * 13)).off + 2, none⟩ = some (.int .i64 (qQa xs i).f2) ∧ w.cell? ⟨(ad.add (i.toNat * 13)).block, (ad.add (i.toNat * 13)).off + 3, none⟩ = some (.int .i64 (qQa xs i).f3) ∧ w.cell? ⟨(ad.add (i.toNat * 13)).block, (ad.add (i.toNat * 13)).off + 4, none⟩ = some (.int .i64 (qQa xs i).f4) ∧ w.cell? ⟨(ad.add (i.toNat * 13)).block, (ad.add (i.toNat * 13)).off + 5, none⟩ = some (.int .i64 (qQa xs i).f5) ∧ w.cell? ⟨(ad.add (i.toNat * 13)).block, (ad.add (i.toNat * 13)).off + 6, none⟩ = some (.bool (qQa xs i).f6) ∧ w.cell? ⟨(ad.add (i.toNat * 13)).block, (ad.add (i.toNat * 13)).off + 7, none⟩ = some (.int .i64 (qQa xs i).f7) ∧ w.cell? ⟨(ad.add (i.toNat * 13)).block, (ad.add (i.toNat * 13)).off + 8, none⟩ = some (.int .i64 (qQa xs i).f8) ∧ w.cell? ⟨(ad.add (i.toNat * 13)).block, (ad.add (i.toNat * 13)).off + 9, none⟩ = some (.int .i64 (qQa xs i).f9) ∧ w.cell? ⟨(ad.add (i.toNat * 13)).block, (ad.add (i.toNat * 13)).off + 10, none⟩ = some (.int .i64 (qQa xs i).f10) ∧ w.cell? ⟨(ad.add (i.toNat * 13)).block, (ad.add (i.toNat * 13)).off + 11, none⟩ = some (.int .i64 (qQa xs i).f11) ∧ w.cell? ⟨(ad.add (i.toNat * 13)).block, (ad.add (i.toNat * 13)).off + 12, none⟩ = some (.int .i64 (qQa xs i).f12) := by
 obtain ⟨ad, c, e, _, hK, hc0⟩ := Kd.C_get h z48 i h0 h1
 have hc : ∀ j u, c[j]? = some u → w.cell? (ad.add (i.toNat * 13 + j)) = some u := hc0
 obtain rfl := zWh hK
 exact ⟨ad, e, hc 0 _ rfl, by rw [← qYu _ _ 1 (by omega)]; exact hc 1 _ rfl, by rw [← qYu _ _ 2 (by omega)]; exact hc 2 _ rfl, by rw [← qYu _ _ 3 (by omega)]; exact hc 3 _ rfl, by rw [← qYu _ _ 4 (by omega)]; exact hc 4 _ rfl, by rw [← qYu _ _ 5 (by omega)]; exact hc 5 _ rfl, by rw [← qYu _ _ 6 (by omega)]; exact hc 6 _ rfl, by rw [← qYu _ _ 7 (by omega)]; exact hc 7 _ rfl, by rw [← qYu _ _ 8 (by omega)]; exact hc 8 _ rfl, by rw [← qYu _ _ 9 (by omega)]; exact hc 9 _ rfl, by rw [← qYu _ _ 10 (by omega)]; exact hc 10 _ rfl, by rw [← qYu _ _ 11 (by omega)]; exact hc 11 _ rfl, by rw [← qYu _ _ 12 (by omega)]; exact hc 12 _ rfl⟩
class Up (w w' : World) : Prop where
 up : ∀ {g : Nat} {o : Obj}, w.heap[g]? = some o → w'.heap[g]? = some o
instance (w : World) : Up w w := ⟨fun h => h⟩
instance (w w' : World) (n : Nat) [Up w w'] : Up w (w'.drewN n) := ⟨fun h => qQj (Up.up h) n⟩
instance (w w' : World) [Up w w'] : Up w w'.drew := ⟨fun h => qQv (Up.up h)⟩
instance (w w' : World) (o : Obj) [Up w w'] : Up w (w'.alloc o) := ⟨fun h => qQm (Up.up h) o⟩
theorem lc13 {w : World} {g : Nat} {t : TypeId} {v0 v1 v2 v3 v4 v5 v6 v7 v8 v9 v10 v11 v12 : Value} (h : w.heap[g]? = some (.cells #[v0, v1, v2, v3, v4, v5, v6, v7, v8, v9, v10, v11, v12] t (0, 0))) :
  w.cell? ⟨g, 0, none⟩ = some v0 ∧ w.cell? ⟨g, 1, none⟩ = some v1 ∧ w.cell? ⟨g, 2, none⟩ = some v2 ∧ w.cell? ⟨g, 3, none⟩ = some v3 ∧ w.cell? ⟨g, 4, none⟩ = some v4 ∧ w.cell? ⟨g, 5, none⟩ = some v5 ∧ w.cell? ⟨g, 6, none⟩ = some v6 ∧ w.cell? ⟨g, 7, none⟩ = some v7 ∧ w.cell? ⟨g, 8, none⟩ = some v8 ∧ w.cell? ⟨g, 9, none⟩ = some v9 ∧ w.cell? ⟨g, 10, none⟩ = some v10 ∧ w.cell? ⟨g, 11, none⟩ = some v11 ∧ w.cell? ⟨g, 12, none⟩ = some v12 ∧ w.frozen? ⟨g, 0, none⟩ = false ∧ w.frozen? ⟨g, 1, none⟩ = false ∧ w.frozen? ⟨g, 2, none⟩ = false ∧ w.frozen? ⟨g, 3, none⟩ = false ∧ w.frozen? ⟨g, 4, none⟩ = false ∧ w.frozen? ⟨g, 5, none⟩ = false ∧ w.frozen? ⟨g, 6, none⟩ = false ∧ w.frozen? ⟨g, 7, none⟩ = false ∧ w.frozen? ⟨g, 8, none⟩ = false ∧ w.frozen? ⟨g, 9, none⟩ = false ∧ w.frozen? ⟨g, 10, none⟩ = false ∧ w.frozen? ⟨g, 11, none⟩ = false ∧ w.frozen? ⟨g, 12, none⟩ = false :=
 ⟨(qQc h 0).trans rfl, (qQc h 1).trans rfl, (qQc h 2).trans rfl, (qQc h 3).trans rfl, (qQc h 4).trans rfl, (qQc h 5).trans rfl, (qQc h 6).trans rfl, (qQc h 7).trans rfl, (qQc h 8).trans rfl, (qQc h 9).trans rfl, (qQc h 10).trans rfl, (qQc h 11).trans rfl, (qQc h 12).trans rfl, qQi h 0, qQi h 1, qQi h 2, qQi h 3, qQi h 4, qQi h 5, qQi h 6, qQi h 7, qQi h 8, qQi h 9, qQi h 10, qQi h 11, qQi h 12⟩
theorem lc13c {w : World} {g : Nat} {t : TypeId} {v0 v1 v2 v3 v4 v5 v6 v7 v8 v9 v10 v11 v12 : Value} (h : w.heap[g]? = some (.cells #[v0, v1, v2, v3, v4, v5, v6, v7, v8, v9, v10, v11, v12] t (0, 0))) :
  w.cell? ⟨g, 0, none⟩ = some v0 ∧ w.cell? ⟨g, 1, none⟩ = some v1 ∧ w.cell? ⟨g, 2, none⟩ = some v2 ∧ w.cell? ⟨g, 3, none⟩ = some v3 ∧ w.cell? ⟨g, 4, none⟩ = some v4 ∧ w.cell? ⟨g, 5, none⟩ = some v5 ∧ w.cell? ⟨g, 6, none⟩ = some v6 ∧ w.cell? ⟨g, 7, none⟩ = some v7 ∧ w.cell? ⟨g, 8, none⟩ = some v8 ∧ w.cell? ⟨g, 9, none⟩ = some v9 ∧ w.cell? ⟨g, 10, none⟩ = some v10 ∧ w.cell? ⟨g, 11, none⟩ = some v11 ∧ w.cell? ⟨g, 12, none⟩ = some v12 :=
 ⟨(qQc h 0).trans rfl, (qQc h 1).trans rfl, (qQc h 2).trans rfl, (qQc h 3).trans rfl, (qQc h 4).trans rfl, (qQc h 5).trans rfl, (qQc h 6).trans rfl, (qQc h 7).trans rfl, (qQc h 8).trans rfl, (qQc h 9).trans rfl, (qQc h 10).trans rfl, (qQc h 11).trans rfl, (qQc h 12).trans rfl⟩
end Go.Proofs.YtlhcohipnieidaaGreat.P
namespace Go.Proofs.YtlhcohipnieidaaGreat.P
open Go.RowKit W.PrintWords W.PrintLast W.PrintMore
theorem rq {P Q : Prop} (h : Q) (f : Q → P := by intro h_; (with_reducible repeat (first | apply Kd.qZz | apply Kd.qZ0 | apply Kd.qYi)); exact h_) : P := f h
theorem bb {P Q : Prop} (h : Q) (f : Q → P := by intro h_; (with_reducible repeat (first | refine qQj ?_ _ | refine qQv ?_ | refine qQm ?_ _)); exact h_) : P := f h
theorem h0q {P Q : Prop} (h : Q) (f : Q → P := by intro h_; repeat (first | (with_reducible first | exact h_ | apply qYp | apply qZo | apply qXb) | exact h_)) : P := f h
theorem h1q {P Q G0 : Prop} (h : Q) (g0 : G0) (f : Q → G0 → P := by intro h_ g0_; repeat (first | (with_reducible first | exact h_ | apply qYp | apply qZo | apply qXb | refine qYm ?_ g0_) | exact h_)) : P := f h g0
theorem h2q {P Q G0 G1 : Prop} (h : Q) (g0 : G0) (g1 : G1) (f : Q → G0 → G1 → P := by intro h_ g0_ g1_; repeat (first | (with_reducible first | exact h_ | apply qYp | apply qZo | apply qXb | refine qYm ?_ g0_ | refine qYm ?_ g1_) | exact h_)) : P := f h g0 g1
theorem h3q {P Q G0 G1 G2 : Prop} (h : Q) (g0 : G0) (g1 : G1) (g2 : G2) (f : Q → G0 → G1 → G2 → P := by intro h_ g0_ g1_ g2_; repeat (first | (with_reducible first | exact h_ | apply qYp | apply qZo | apply qXb | refine qYm ?_ g0_ | refine qYm ?_ g1_ | refine qYm ?_ g2_) | exact h_)) : P := f h g0 g1 g2
theorem h4q {P Q G0 G1 G2 G3 : Prop} (h : Q) (g0 : G0) (g1 : G1) (g2 : G2) (g3 : G3) (f : Q → G0 → G1 → G2 → G3 → P := by intro h_ g0_ g1_ g2_ g3_; repeat (first | (with_reducible first | exact h_ | apply qYp | apply qZo | apply qXb | refine qYm ?_ g0_ | refine qYm ?_ g1_ | refine qYm ?_ g2_ | refine qYm ?_ g3_) | exact h_)) : P := f h g0 g1 g2 g3
theorem h5q {P Q G0 G1 G2 G3 G4 : Prop} (h : Q) (g0 : G0) (g1 : G1) (g2 : G2) (g3 : G3) (g4 : G4) (f : Q → G0 → G1 → G2 → G3 → G4 → P := by intro h_ g0_ g1_ g2_ g3_ g4_; repeat (first | (with_reducible first | exact h_ | apply qYp | apply qZo | apply qXb | refine qYm ?_ g0_ | refine qYm ?_ g1_ | refine qYm ?_ g2_ | refine qYm ?_ g3_ | refine qYm ?_ g4_) | exact h_)) : P := f h g0 g1 g2 g3 g4
theorem hxb {w w' : World} {p : Addr} {v : Value} (h : Below w.heap.size w w') (hx : w.cell? p = some v) : w'.cell? p = some v := (h.cell (World.block_lt_of_cell? w _ hx)).trans hx
theorem am {p : Prop} (h : p) : Aside0 p := ⟨h⟩
theorem lc4_ {w : World} {g : Nat} {t : TypeId} {v0 v1 v2 v3 : Value} (hb : w.heap[g]? = some (.cells #[v0, v1, v2, v3] t (0, 0))) : w.cell? ⟨g, 0, none⟩ = some v0 ∧ w.cell? ⟨g, 1, none⟩ = some v1 ∧ w.cell? ⟨g, 2, none⟩ = some v2 ∧ w.cell? ⟨g, 3, none⟩ = some v3 ∧ w.frozen? ⟨g, 0, none⟩ = false ∧ w.frozen? ⟨g, 1, none⟩ = false ∧ w.frozen? ⟨g, 2, none⟩ = false ∧ w.frozen? ⟨g, 3, none⟩ = false := ⟨(qQc hb 0).trans rfl, (qQc hb 1).trans rfl, (qQc hb 2).trans rfl, (qQc hb 3).trans rfl, qQi hb 0, qQi hb 1, qQi hb 2, qQi hb 3⟩
theorem lc5_ {w : World} {g : Nat} {t : TypeId} {v0 v1 v2 v3 v4 : Value} (hb : w.heap[g]? = some (.cells #[v0, v1, v2, v3, v4] t (0, 0))) : w.cell? ⟨g, 0, none⟩ = some v0 ∧ w.cell? ⟨g, 1, none⟩ = some v1 ∧ w.cell? ⟨g, 2, none⟩ = some v2 ∧ w.cell? ⟨g, 3, none⟩ = some v3 ∧ w.cell? ⟨g, 4, none⟩ = some v4 ∧ w.frozen? ⟨g, 0, none⟩ = false ∧ w.frozen? ⟨g, 1, none⟩ = false ∧ w.frozen? ⟨g, 2, none⟩ = false ∧ w.frozen? ⟨g, 3, none⟩ = false ∧ w.frozen? ⟨g, 4, none⟩ = false := ⟨(qQc hb 0).trans rfl, (qQc hb 1).trans rfl, (qQc hb 2).trans rfl, (qQc hb 3).trans rfl, (qQc hb 4).trans rfl, qQi hb 0, qQi hb 1, qQi hb 2, qQi hb 3, qQi hb 4⟩
theorem cq {P Q : Prop} (h : Q) (f : Q → P := by intro h_; repeat (first | exact h_ | (with_reducible refine Kd.zY8 ?_ _) | (with_reducible refine Kd.zQw ?_ _) | (with_reducible refine Kd.zW3 ?_))) : P := f h
theorem er {p : Prop} (h : p := by first | rfl | (simp [qQq, qQr] <;> rfl) | (simp [*, qQq, qQr] <;> rfl)) : p := h
theorem ml {p : Prop} (h : p := by (try simp only [List.map_toArray, List.map_cons, List.map_nil]); first | done | rfl | (simp only [List.length_drop, List.length_take]; rfl)) : p := h
theorem pu {p : Prop} (h : p := by simp only [Act.put, List.setIfInBounds_toArray, List.set_cons_zero, List.set_cons_succ, i64_w, i32_w]; rfl) : p := h
theorem yd {p : Prop} [Decidable p] (h : decide p = true := by first | (with_reducible assumption) | assumption) : p := of_decide_eq_true h
end Go.Proofs.YtlhcohipnieidaaGreat.P
namespace Go.Proofs.YtlhcohipnieidaaGreat.P
open Go.RowKit W.PrintWords W.PrintLast W.PrintMore
attribute [local go_sem] qXg qXd qXq qXr qY2 qY1 qXe qXf
set_option linter.unusedVariables false
set_option linter.unusedSimpArgs false
mutual
def qQ5.j0 : Nat → Bool → Int → List (S48) → Int → Int → Int → Int → List (S54) → Int → Int → Int → Int → Int → Int → Option (Bool)
 | 0, _, _, _, _, _, _, _, _, _, _, _, _, _, _ => none
 | k + 1, x13, x102000, x102001, x102002, x102003, x102004, x102005, x102006, x102007, x102008, x102009, x102010, x102011, x102012 => if x13 = true then (some true) else (qQ5.l0 k 0 x102000 x102001 x102002 x102003 x102004 x102005 x102006 x102007 x102008 x102009 x102010 x102011 x102012)
def qQ5.l0 : Nat → Int → Int → List (S48) → Int → Int → Int → Int → List (S54) → Int → Int → Int → Int → Int → Int → Option (Bool)
 | 0, _, _, _, _, _, _, _, _, _, _, _, _, _, _ => none
 | k + 1, x3, x102000, x102001, x102002, x102003, x102004, x102005, x102006, x102007, x102008, x102009, x102010, x102011, x102012 => if x3 < (x102006.length : Int) then (if 0 ≤ x3 then (if (((qXp x102006 x3).f5).length : Int) > 100 then (some true) else (qQ5.l0 k (wrap64 (x3 + 1)) x102000 x102001 x102002 x102003 x102004 x102005 x102006 x102007 x102008 x102009 x102010 x102011 x102012)) else (none)) else (some false)
end
def qQ5.f (k : Nat) (a0_0 : Int) (l0_1 : List (S48)) (a0_2 : Int) (a0_3 : Int) (a0_4 : Int) (a0_5 : Int) (l0_6 : List (S54)) (a0_7 : Int) (a0_8 : Int) (a0_9 : Int) (a0_10 : Int) (a0_11 : Int) (a0_12 : Int) : Option (Bool) := if (l0_1.length : Int) > 100 then (qQ5.j0 k true a0_0 l0_1 a0_2 a0_3 a0_4 a0_5 l0_6 a0_7 a0_8 a0_9 a0_10 a0_11 a0_12) else (qQ5.j0 k (decide ((l0_6.length : Int) > 400)) a0_0 l0_1 a0_2 a0_3 a0_4 a0_5 l0_6 a0_7 a0_8 a0_9 a0_10 a0_11 a0_12)
set_option maxHeartbeats 8000000 in
set_option maxRecDepth 100000 in
theorem qQ5.calls (k : Nat) (a0_0 : Int) (A0_1 : Option Addr) (c0_1 : Nat) (l0_1 : List (S48)) (a0_2 : Int) (a0_3 : Int) (a0_4 : Int) (a0_5 : Int) (A0_6 : Option Addr) (c0_6 : Nat) (l0_6 : List (S54)) (a0_7 : Int) (a0_8 : Int) (a0_9 : Int) (a0_10 : Int) (a0_11 : Int) (a0_12 : Int) (r : Bool) (w : World) (hr0_1 : Kd.C k48 w A0_1 l0_1.length l0_1) (hc0_1 : l0_1.length ≤ c0_1) (hr0_6 : Kd.C k54 w A0_6 l0_6.length l0_6) (hc0_6 : l0_6.length ≤ c0_6) (h : qQ5.f k a0_0 l0_1 a0_2 a0_3 a0_4 a0_5 l0_6 a0_7 a0_8 a0_9 a0_10 a0_11 a0_12 = some r) :
  Calls Tryz.prog 5 #[.agg #[.int .i64 a0_0, .slice A0_1 l0_1.length c0_1, .int .i64 a0_2, .int .i64 a0_3, .int .i64 a0_4, .int .i64 a0_5, .slice A0_6 l0_6.length c0_6, .int .i64 a0_7, .int .i64 a0_8, .int .i64 a0_9, .int .i64 a0_10, .int .i64 a0_11, .int .i64 a0_12]] w fun e w' => e = .returned (.bool r) ∧ Below w.heap.size w w' := by
 have hu28 := Tryz.underlying28
 have HR0_1 := am hr0_1
 have HC0_1 := am hc0_1
 clear hr0_1 hc0_1
 have HR0_6 := am hr0_6
 have HC0_6 := am hc0_6
 clear hr0_6 hc0_6
 have HB := am (Below.refl w.heap.size w)
 have H : (if (l0_1.length : Int) > 100 then (qQ5.j0 k true a0_0 l0_1 a0_2 a0_3 a0_4 a0_5 l0_6 a0_7 a0_8 a0_9 a0_10 a0_11 a0_12) else (qQ5.j0 k (decide ((l0_6.length : Int) > 400)) a0_0 l0_1 a0_2 a0_3 a0_4 a0_5 l0_6 a0_7 a0_8 a0_9 a0_10 a0_11 a0_12)) = some r := h
 clear h
 have HC2 := am H
 clear H
 go_enter Tryz.func5, Tryz.ntmps5
 go_upto_region 1 with (first | ((with_reducible refine qQ0 (N := 1) rfl ?_); (try (refine qYz (by rfl) ?_; dsimp only)); refine qQs ?hg (N := 1) ?hd (cs := #[.int .i64 a0_0, .slice A0_1 l0_1.length c0_1, .int .i64 a0_2, .int .i64 a0_3, .int .i64 a0_4, .int .i64 a0_5, .slice A0_6 l0_6.length c0_6, .int .i64 a0_7, .int .i64 a0_8, .int .i64 a0_9, .int .i64 a0_10, .int .i64 a0_11, .int .i64 a0_12]) (t := 28) ?hr ?_; (case hd => rfl); (case hg => rfl); (case hr => first | (go_simp; done) | (go_simp; rfl)); intro gb101 hg w3 hbox hb; have n0_ := am (qQb (by exact h0q HB.out) hb); have n1_ := am (hbox); have n2_ := am ((by rw [hg]; exact (qQd (by exact h0q HB.out)) : w.heap.size ≤ gb101)); have n3_ := am ((by rw [hg]; exact (qQd (by exact h0q HB.out)) : w.heap.size ≤ gb101)); clear HB; have HB := n0_; have BK101 := n1_; have GW101 := n2_; have GE101 := n3_; clear n0_ n1_ n2_ n3_; clear hb hbox hg))
 (try simp only [Act.put, List.setIfInBounds_toArray, List.set_cons_zero, List.set_cons_succ])
 go_cut [13] (fun v13 wc => ∃ (kq : Nat) (x13_1 : Bool), v13 = .bool x13_1 ∧ Aside0 (qQ5.j0 kq x13_1 a0_0 l0_1 a0_2 a0_3 a0_4 a0_5 l0_6 a0_7 a0_8 a0_9 a0_10 a0_11 a0_12 = some r) ∧ Aside0 (kq ≤ k) ∧ Aside0 (wc.heap[gb101]? = some (.cells #[.int .i64 a0_0, (.slice A0_1 l0_1.length c0_1), .int .i64 a0_2, .int .i64 a0_3, .int .i64 a0_4, .int .i64 a0_5, (.slice A0_6 l0_6.length c0_6), .int .i64 a0_7, .int .i64 a0_8, .int .i64 a0_9, .int .i64 a0_10, .int .i64 a0_11, .int .i64 a0_12] 28 (0, 0))) ∧ Aside0 (Below w.heap.size w wc))
 case first =>
  have H := HC2.out
  clear HC2
  by_cases c4 : (l0_1.length : Int) > 100
  ·rw [if_pos c4] at H
   have c4b0 : decide (100 < (l0_1.length : Int)) = true := decide_eq_true c4
   have c4b1 : decide (100 < l0_1.length) = true := decide_eq_true (by omega)
   clear c4
   (first | rw [c4b0] | (simp only [i64_w, i32_w]; rw [c4b0]) | skip)
   have H' := am H
   clear H
   have hz5 := lc13 BK101.out
   go_wp2
   go_meet
   case rel => exact ⟨_, (true), (by first | rfl | (simp; done) | (simp [*]; done)), H', ⟨by first | omega | exact Nat.le_refl _⟩, ⟨by exact bb BK101.out⟩, ⟨by exact h1q HB.out GE101.out⟩⟩
  ·rw [if_neg c4] at H
   have c4b0 : decide (100 < (l0_1.length : Int)) = false := decide_eq_false c4
   have c4b1 : decide (100 < l0_1.length) = false := decide_eq_false (by omega)
   clear c4
   (first | rw [c4b0] | (simp only [i64_w, i32_w]; rw [c4b0]) | skip)
   have H' := am H
   clear H
   have hz6 := lc13 BK101.out
   go_wp2
   go_meet
   case rel => exact ⟨_, (decide ((l0_6.length : Int) > 400)), (by first | rfl | (simp; done) | (simp [*]; done)), H', ⟨by first | omega | exact Nat.le_refl _⟩, ⟨by exact bb BK101.out⟩, ⟨by exact h1q HB.out GE101.out⟩⟩
 case rest =>
  clear HC2
  try clear c4
  try clear c4b0 c4b1
  try clear hz5
  try clear hz6
  obtain ⟨kq, x13_1, rfl, HA, HJ1, BK101, HB⟩ := hcut
  rcases kq with _ | kj1
  ·exact absurd HA.out (by simp [qQ5.j0])
  have H := HA.out
  clear HA
  simp only [qQ5.j0] at H
  by_cases c7 : x13_1 = true
  ·subst c7
   have H1 : (some true) = some r := by rw [if_pos rfl] at H; exact H
   clear H
   have H := H1
   clear H1
   obtain rfl := Option.some.inj H
   go_wp2
   go_ret
   exact ⟨er, by exact h1q HB.out GE101.out⟩
  ·replace c7 := Bool.eq_false_iff.mpr c7
   subst c7
   have H1 : (qQ5.l0 kj1 0 a0_0 l0_1 a0_2 a0_3 a0_4 a0_5 l0_6 a0_7 a0_8 a0_9 a0_10 a0_11 a0_12) = some r := by rw [if_neg (show ¬ (false = true) by decide)] at H; exact H
   clear H
   have H := H1
   clear H1
   have H' := am H
   clear H
   go_wp2
   go_loopg [3] kj1 (fun kq v3 w' => ∃ (x3_2 : Int), v3 = .int .i64 x3_2 ∧ Aside0 (qQ5.l0 kq x3_2 a0_0 l0_1 a0_2 a0_3 a0_4 a0_5 l0_6 a0_7 a0_8 a0_9 a0_10 a0_11 a0_12 = some r) ∧ Aside0 (kq ≤ kj1) ∧ Aside0 (w'.heap[gb101]? = some (.cells #[.int .i64 a0_0, (.slice A0_1 l0_1.length c0_1), .int .i64 a0_2, .int .i64 a0_3, .int .i64 a0_4, .int .i64 a0_5, (.slice A0_6 l0_6.length c0_6), .int .i64 a0_7, .int .i64 a0_8, .int .i64 a0_9, .int .i64 a0_10, .int .i64 a0_11, .int .i64 a0_12] 28 (0, 0))) ∧ Aside0 (Below w.heap.size w w'))
   case atStart => exact ⟨(0), (by first | rfl | (simp; done) | (simp [*]; done)), H', ⟨Nat.le_refl _⟩, ⟨by exact bb BK101.out⟩, ⟨by exact h1q HB.out GE101.out⟩⟩
   case round =>
    clear H'
    try clear c4
    try clear c4b0 c4b1
    try clear c7
    try clear hz5
    try clear hz6
    obtain ⟨x3_2, rfl, HA, HK2, BK101, HB⟩ := hrel
    rcases gk with _ | k2
    ·exact absurd HA.out (by simp [qQ5.l0])
    have H := HA.out
    clear HA
    simp only [qQ5.l0] at H
    by_cases c8 : x3_2 < (l0_6.length : Int)
    ·rw [if_pos c8] at H
     have c8b0 : decide (x3_2 < (l0_6.length : Int)) = true := decide_eq_true c8
     clear c8
     by_cases c9 : 0 ≤ x3_2
     ·rw [if_pos c9] at H
      have c9b0 : decide (0 ≤ x3_2) = true := decide_eq_true c9
      clear c9
      by_cases c10 : (((qXp l0_6 x3_2).f5).length : Int) > 100
      ·rw [if_pos c10] at H
       have c10b0 : decide (100 < (((qXp l0_6 x3_2).f5).length : Int)) = true := decide_eq_true c10
       have c10b1 : decide (100 < ((qXp l0_6 x3_2).f5).length) = true := decide_eq_true (by omega)
       clear c10
       obtain rfl := Option.some.inj H
       have hz11 := lc13 BK101.out
       have p102 : 0 ≤ (x3_2 : Int) := yd
       have q102 : x3_2 < (l0_6.length : Int) := yd
       obtain ⟨ad102, A102_5, c102_5, e102, hx102_0, hx102_1, hx102_2, hx102_3, hx102_4, hx102_5, hl102_5, hi102_5⟩ := zWx HR0_6.out x3_2 p102 q102
       cases e102
       replace hx102_0 := hxb HB.out hx102_0
       replace hx102_1 := hxb HB.out hx102_1
       replace hx102_2 := hxb HB.out hx102_2
       replace hx102_3 := hxb HB.out hx102_3
       replace hx102_4 := hxb HB.out hx102_4
       replace hx102_5 := hxb HB.out hx102_5
       have HR102_5 := am hi102_5
       have HC102_5 := am hl102_5
       clear hi102_5 hl102_5
       replace p102 := eq_true p102
       replace q102 := eq_true q102
       go_wp2
       go_ret
       exact ⟨er, by exact h1q HB.out GE101.out⟩
      ·rw [if_neg c10] at H
       have c10b0 : decide (100 < (((qXp l0_6 x3_2).f5).length : Int)) = false := decide_eq_false c10
       have c10b1 : decide (100 < ((qXp l0_6 x3_2).f5).length) = false := decide_eq_false (by omega)
       clear c10
       have H' := am H
       clear H
       have hz12 := lc13 BK101.out
       have p102 : 0 ≤ (x3_2 : Int) := yd
       have q102 : x3_2 < (l0_6.length : Int) := yd
       obtain ⟨ad102, A102_5, c102_5, e102, hx102_0, hx102_1, hx102_2, hx102_3, hx102_4, hx102_5, hl102_5, hi102_5⟩ := zWx HR0_6.out x3_2 p102 q102
       cases e102
       replace hx102_0 := hxb HB.out hx102_0
       replace hx102_1 := hxb HB.out hx102_1
       replace hx102_2 := hxb HB.out hx102_2
       replace hx102_3 := hxb HB.out hx102_3
       replace hx102_4 := hxb HB.out hx102_4
       replace hx102_5 := hxb HB.out hx102_5
       have HR102_5 := am hi102_5
       have HC102_5 := am hl102_5
       clear hi102_5 hl102_5
       replace p102 := eq_true p102
       replace q102 := eq_true q102
       go_wp2
       go_roundg k2
       case measure => have := HJ1.out; have := HK2.out; omega
       case rel => exact ⟨(wrap64 (x3_2 + 1)), (by first | rfl | (simp; done) | (simp [*]; done)), H', ⟨by have := HJ1.out; have := HK2.out; omega⟩, ⟨by exact bb BK101.out⟩, ⟨by exact h1q HB.out GE101.out⟩⟩
     ·rw [if_neg c9] at H
      exact absurd H (by simp)
    ·rw [if_neg c8] at H
     have c8b0 : decide (x3_2 < (l0_6.length : Int)) = false := decide_eq_false c8
     clear c8
     obtain rfl := Option.some.inj H
     have hz13 := lc13 BK101.out
     go_wp2
     go_ret
     exact ⟨er, by exact h1q HB.out GE101.out⟩
def qZm.f (a0 : Int) : Option (Bool) := if a0 ≥ 0 then (some (decide (a0 ≤ 87658))) else (some false)
set_option maxHeartbeats 8000000 in
set_option maxRecDepth 100000 in
theorem qZm.calls (a0 : Int) (r : Bool) (w : World) (h : qZm.f a0 = some r) :
  Calls Tryz.prog 23 #[.int .i64 a0] w fun e w' => e = .returned (.bool r) ∧ Drawn0 w w' := by
 have H : (if a0 ≥ 0 then (some (decide (a0 ≤ 87658))) else (some false)) = some r := h
 clear h
 by_cases c2 : a0 ≥ 0
 ·rw [if_pos c2] at H
  have c2b0 : decide (0 ≤ a0) = true := decide_eq_true c2
  clear c2
  obtain rfl := Option.some.inj H
  go_enter Tryz.func23, Tryz.ntmps23
  go_wp2
  go_ret
  exact ⟨by first | rfl | (simp; done) | (simp [*]; done), by repeat (first | exact Drawn0.refl _ | apply Drawn0.step)⟩
 ·rw [if_neg c2] at H
  have c2b0 : decide (0 ≤ a0) = false := decide_eq_false c2
  clear c2
  obtain rfl := Option.some.inj H
  go_enter Tryz.func23, Tryz.ntmps23
  go_wp2
  go_ret
  exact ⟨by first | rfl | (simp; done) | (simp [*]; done), by repeat (first | exact Drawn0.refl _ | apply Drawn0.step)⟩
def qQ4.f (a0 : Int) : Option (Bool) := if a0 ≥ (-10000000000000) then (some (decide (a0 ≤ 10000000000000))) else (some false)
set_option maxHeartbeats 8000000 in
set_option maxRecDepth 100000 in
theorem qQ4.calls (a0 : Int) (r : Bool) (w : World) (h : qQ4.f a0 = some r) :
  Calls Tryz.prog 74 #[.int .i64 a0] w fun e w' => e = .returned (.bool r) ∧ Drawn0 w w' := by
 have H : (if a0 ≥ (-10000000000000) then (some (decide (a0 ≤ 10000000000000))) else (some false)) = some r := h
 clear h
 by_cases c2 : a0 ≥ (-10000000000000)
 ·rw [if_pos c2] at H
  have c2b0 : decide ((-10000000000000) ≤ a0) = true := decide_eq_true c2
  clear c2
  obtain rfl := Option.some.inj H
  go_enter Tryz.func74, Tryz.ntmps74
  go_wp2
  go_ret
  exact ⟨by first | rfl | (simp; done) | (simp [*]; done), by repeat (first | exact Drawn0.refl _ | apply Drawn0.step)⟩
 ·rw [if_neg c2] at H
  have c2b0 : decide ((-10000000000000) ≤ a0) = false := decide_eq_false c2
  clear c2
  obtain rfl := Option.some.inj H
  go_enter Tryz.func74, Tryz.ntmps74
  go_wp2
  go_ret
  exact ⟨by first | rfl | (simp; done) | (simp [*]; done), by repeat (first | exact Drawn0.refl _ | apply Drawn0.step)⟩
def qZ4.l0 : Nat → List Int → Int → Int → Option (Bool)
 | 0, _, _, _ => none
 | k + 1, x5, x6, x7 => if x7 < x6 then (if 0 ≤ x7 then (if x7 < (x5.length : Int) then (if (rd x5 x7) < 0 then (some false) else ((qQ4.f (rd x5 x7)).bind fun t104 => (if t104 = true then (qZ4.l0 k x5 x6 (wrap64 (x7 + 1))) else (some false)))) else (none)) else (none)) else (some true)
def qZ4.f (k : Nat) (l0 : List Int) : Option (Bool) := qZ4.l0 k l0 (l0.length : Int) 0
set_option maxHeartbeats 8000000 in
set_option maxRecDepth 100000 in
theorem qZ4.calls (k : Nat) (A0 : Option Addr) (c0 : Nat) (l0 : List Int) (r : Bool) (w : World) (hr0 : Kd.C (Kd.int .i64) w A0 l0.length l0) (hc0 : l0.length ≤ c0) (h : qZ4.f k l0 = some r) :
  Calls Tryz.prog 47 #[.slice A0 l0.length c0] w fun e w' => e = .returned (.bool r) ∧ Drawn0 w w' := by
 have HR0 := am hr0
 have HC0 := am hc0
 clear hr0 hc0
 have H : (qZ4.l0 k l0 (l0.length : Int) 0) = some r := h
 clear h
 have H' := am H
 clear H
 go_enter Tryz.func47, Tryz.ntmps47
 go_wp2
 go_loopg [7] k (fun kq v7 w' => ∃ (x7_1 : Int), v7 = .int .i64 x7_1 ∧ Aside0 (qZ4.l0 kq l0 (l0.length : Int) x7_1 = some r) ∧ Aside0 (kq ≤ k) ∧ Drawn0 w w')
 case atStart => exact ⟨(0), (by first | rfl | (simp; done) | (simp [*]; done)), H', ⟨Nat.le_refl _⟩, by repeat (first | exact Drawn0.refl _ | apply Drawn0.step)⟩
 case round =>
  clear H'
  obtain ⟨x7_1, rfl, HA, HK1, ⟨m1, rfl⟩⟩ := hrel
  rcases gk with _ | k1
  ·exact absurd HA.out (by simp [qZ4.l0])
  have H := HA.out
  clear HA
  simp only [qZ4.l0] at H
  by_cases c2 : x7_1 < (l0.length : Int)
  ·rw [if_pos c2] at H
   have c2b0 : decide (x7_1 < (l0.length : Int)) = true := decide_eq_true c2
   clear c2
   by_cases c3 : 0 ≤ x7_1
   ·rw [if_pos c3] at H
    have c3b0 : decide (0 ≤ x7_1) = true := decide_eq_true c3
    clear c3
    by_cases c4 : x7_1 < (l0.length : Int)
    ·rw [if_pos c4] at H
     have c4b0 : decide (x7_1 < (l0.length : Int)) = true := decide_eq_true c4
     clear c4
     by_cases c5 : (rd l0 x7_1) < 0
     ·rw [if_pos c5] at H
      have c5b0 : decide ((rd l0 x7_1) < 0) = true := decide_eq_true c5
      clear c5
      obtain rfl := Option.some.inj H
      have p103 : 0 ≤ (x7_1 : Int) := yd
      have q103 : x7_1 < (l0.length : Int) := yd
      obtain ⟨ad103, e103, hx103_0⟩ := Kd.qZx HR0.out x7_1 p103 q103
      cases e103
      replace p103 := eq_true p103
      replace q103 := eq_true q103
      go_wp2
      go_ret
      exact ⟨by first | rfl | (simp; done) | (simp [*]; done), by repeat (first | exact Drawn0.refl _ | apply Drawn0.step)⟩
     ·rw [if_neg c5] at H
      have c5b0 : decide ((rd l0 x7_1) < 0) = false := decide_eq_false c5
      clear c5
      replace H := Option.bind_eq_some_iff.mp H
      obtain ⟨t104, A60, H⟩ := H
      replace H : (if t104 = true then (qZ4.l0 k1 l0 (l0.length : Int) (wrap64 (x7_1 + 1))) else (some false)) = some r := H
      have A6 := am A60
      clear A60
      by_cases c7 : t104 = true
      ·subst c7
       have H1 : (qZ4.l0 k1 l0 (l0.length : Int) (wrap64 (x7_1 + 1))) = some r := by rw [if_pos rfl] at H; exact H
       clear H
       have H := H1
       clear H1
       have H' := am H
       clear H
       have p103 : 0 ≤ (x7_1 : Int) := yd
       have q103 : x7_1 < (l0.length : Int) := yd
       obtain ⟨ad103, e103, hx103_0⟩ := Kd.qZx HR0.out x7_1 p103 q103
       cases e103
       replace p103 := eq_true p103
       replace q103 := eq_true q103
       go_wp2_with (first | (go_at_call 74; (with_reducible refine (qQ4.calls (rd l0 x7_1) true _ A6.out).mono ?_); rintro e w' ⟨rfl, ⟨nd, rfl⟩⟩))
       go_roundg k1
       case measure => have := HK1.out; omega
       case rel => exact ⟨(wrap64 (x7_1 + 1)), (by first | rfl | (simp; done) | (simp [*]; done)), H', ⟨by have := HK1.out; omega⟩, by repeat (first | exact Drawn0.refl _ | apply Drawn0.step)⟩
      ·replace c7 := Bool.eq_false_iff.mpr c7
       subst c7
       have H1 : (some false) = some r := by rw [if_neg (show ¬ (false = true) by decide)] at H; exact H
       clear H
       have H := H1
       clear H1
       obtain rfl := Option.some.inj H
       have p103 : 0 ≤ (x7_1 : Int) := yd
       have q103 : x7_1 < (l0.length : Int) := yd
       obtain ⟨ad103, e103, hx103_0⟩ := Kd.qZx HR0.out x7_1 p103 q103
       cases e103
       replace p103 := eq_true p103
       replace q103 := eq_true q103
       go_wp2_with (first | (go_at_call 74; (with_reducible refine (qQ4.calls (rd l0 x7_1) false _ A6.out).mono ?_); rintro e w' ⟨rfl, ⟨nd, rfl⟩⟩))
       go_ret
       exact ⟨by first | rfl | (simp; done) | (simp [*]; done), by repeat (first | exact Drawn0.refl _ | apply Drawn0.step)⟩
    ·rw [if_neg c4] at H
     exact absurd H (by simp)
   ·rw [if_neg c3] at H
    exact absurd H (by simp)
  ·rw [if_neg c2] at H
   have c2b0 : decide (x7_1 < (l0.length : Int)) = false := decide_eq_false c2
   clear c2
   obtain rfl := Option.some.inj H
   go_wp2
   go_ret
   exact ⟨by first | rfl | (simp; done) | (simp [*]; done), by repeat (first | exact Drawn0.refl _ | apply Drawn0.step)⟩
mutual
def qQu.j0 : Nat → Bool → Int → Int → Int → Int → Int → Int → Bool → Int → Int → Int → Int → Int → Int → Option (Bool)
 | 0, _, _, _, _, _, _, _, _, _, _, _, _, _, _ => none
 | k + 1, x3, x106000, x106001, x106002, x106003, x106004, x106005, x106006, x106007, x106008, x106009, x106010, x106011, x106012 => if x3 = true then (some false) else (if x106002 < 0 then (qQu.j1 k true x106000 x106001 x106002 x106003 x106004 x106005 x106006 x106007 x106008 x106009 x106010 x106011 x106012) else (if x106002 > 1000000000000000000 then (qQu.j1 k true x106000 x106001 x106002 x106003 x106004 x106005 x106006 x106007 x106008 x106009 x106010 x106011 x106012) else (if x106003 < 0 then (qQu.j1 k true x106000 x106001 x106002 x106003 x106004 x106005 x106006 x106007 x106008 x106009 x106010 x106011 x106012) else (qQu.j1 k (decide (x106003 > 1000000000000000000)) x106000 x106001 x106002 x106003 x106004 x106005 x106006 x106007 x106008 x106009 x106010 x106011 x106012))))
def qQu.j1 : Nat → Bool → Int → Int → Int → Int → Int → Int → Bool → Int → Int → Int → Int → Int → Int → Option (Bool)
 | 0, _, _, _, _, _, _, _, _, _, _, _, _, _, _ => none
 | k + 1, x25, x106000, x106001, x106002, x106003, x106004, x106005, x106006, x106007, x106008, x106009, x106010, x106011, x106012 => if x25 = true then (some false) else (if x106005 < 0 then (qQu.j2 k true x106000 x106001 x106002 x106003 x106004 x106005 x106006 x106007 x106008 x106009 x106010 x106011 x106012) else (if x106005 > 1000000 then (qQu.j2 k true x106000 x106001 x106002 x106003 x106004 x106005 x106006 x106007 x106008 x106009 x106010 x106011 x106012) else (if x106007 < 1 then (qQu.j2 k true x106000 x106001 x106002 x106003 x106004 x106005 x106006 x106007 x106008 x106009 x106010 x106011 x106012) else (if x106007 > 5 then (qQu.j2 k true x106000 x106001 x106002 x106003 x106004 x106005 x106006 x106007 x106008 x106009 x106010 x106011 x106012) else (if x106008 < 0 then (qQu.j2 k true x106000 x106001 x106002 x106003 x106004 x106005 x106006 x106007 x106008 x106009 x106010 x106011 x106012) else (qQu.j2 k (decide (x106008 > 4)) x106000 x106001 x106002 x106003 x106004 x106005 x106006 x106007 x106008 x106009 x106010 x106011 x106012))))))
def qQu.j2 : Nat → Bool → Int → Int → Int → Int → Int → Int → Bool → Int → Int → Int → Int → Int → Int → Option (Bool)
 | 0, _, _, _, _, _, _, _, _, _, _, _, _, _, _ => none
 | k + 1, x44, x106000, x106001, x106002, x106003, x106004, x106005, x106006, x106007, x106008, x106009, x106010, x106011, x106012 => if x44 = true then (some false) else (if x106009 < (-1) then (some false) else (if x106009 > 87658 then (some false) else (if x106012 < 0 then (some false) else (if x106008 = 0 then (some true) else (if x106001 = 0 then (if x106002 = 0 then (some (x106004 == 0)) else (some false)) else (some false))))))
end
def qQu.f (k : Nat) (a0_0 : Int) (a0_1 : Int) (a0_2 : Int) (a0_3 : Int) (a0_4 : Int) (a0_5 : Int) (a0_6 : Bool) (a0_7 : Int) (a0_8 : Int) (a0_9 : Int) (a0_10 : Int) (a0_11 : Int) (a0_12 : Int) : Option (Bool) := if a0_0 < 1 then (qQu.j0 k true a0_0 a0_1 a0_2 a0_3 a0_4 a0_5 a0_6 a0_7 a0_8 a0_9 a0_10 a0_11 a0_12) else (if a0_0 > 1000 then (qQu.j0 k true a0_0 a0_1 a0_2 a0_3 a0_4 a0_5 a0_6 a0_7 a0_8 a0_9 a0_10 a0_11 a0_12) else ((qZ4.f k (([a0_1, a0_4, a0_10, a0_11] : List Int))).bind fun t109 => (qQu.j0 k (!t109) a0_0 a0_1 a0_2 a0_3 a0_4 a0_5 a0_6 a0_7 a0_8 a0_9 a0_10 a0_11 a0_12)))
set_option maxHeartbeats 8000000 in
set_option maxRecDepth 100000 in
theorem qQu.calls (k : Nat) (a0_0 : Int) (a0_1 : Int) (a0_2 : Int) (a0_3 : Int) (a0_4 : Int) (a0_5 : Int) (a0_6 : Bool) (a0_7 : Int) (a0_8 : Int) (a0_9 : Int) (a0_10 : Int) (a0_11 : Int) (a0_12 : Int) (r : Bool) (w : World) (h : qQu.f k a0_0 a0_1 a0_2 a0_3 a0_4 a0_5 a0_6 a0_7 a0_8 a0_9 a0_10 a0_11 a0_12 = some r) :
  Calls Tryz.prog 26 #[.agg #[.int .i64 a0_0, .int .i64 a0_1, .int .i64 a0_2, .int .i64 a0_3, .int .i64 a0_4, .int .i64 a0_5, .bool a0_6, .int .i64 a0_7, .int .i64 a0_8, .int .i64 a0_9, .int .i64 a0_10, .int .i64 a0_11, .int .i64 a0_12]] w fun e w' => e = .returned (.bool r) ∧ Below w.heap.size w w' := by
 have hu48 := Tryz.underlying48
 have HB := am (Below.refl w.heap.size w)
 have H : (if a0_0 < 1 then (qQu.j0 k true a0_0 a0_1 a0_2 a0_3 a0_4 a0_5 a0_6 a0_7 a0_8 a0_9 a0_10 a0_11 a0_12) else (if a0_0 > 1000 then (qQu.j0 k true a0_0 a0_1 a0_2 a0_3 a0_4 a0_5 a0_6 a0_7 a0_8 a0_9 a0_10 a0_11 a0_12) else ((qZ4.f k (([a0_1, a0_4, a0_10, a0_11] : List Int))).bind fun t109 => (qQu.j0 k (!t109) a0_0 a0_1 a0_2 a0_3 a0_4 a0_5 a0_6 a0_7 a0_8 a0_9 a0_10 a0_11 a0_12)))) = some r := h
 clear h
 have HC2 := am H
 clear H
 go_enter Tryz.func26, Tryz.ntmps26
 go_upto_region 1 with (first | ((with_reducible refine qQ0 (N := 1) rfl ?_); (try (refine qYz (by rfl) ?_; dsimp only)); refine qQs ?hg (N := 1) ?hd (cs := #[.int .i64 a0_0, .int .i64 a0_1, .int .i64 a0_2, .int .i64 a0_3, .int .i64 a0_4, .int .i64 a0_5, .bool a0_6, .int .i64 a0_7, .int .i64 a0_8, .int .i64 a0_9, .int .i64 a0_10, .int .i64 a0_11, .int .i64 a0_12]) (t := 48) ?hr ?_; (case hd => rfl); (case hg => rfl); (case hr => first | (go_simp; done) | (go_simp; rfl)); intro gb105 hg w3 hbox hb; have n0_ := am (qQb (by exact h0q HB.out) hb); have n1_ := am (hbox); have n2_ := am ((by rw [hg]; exact (qQd (by exact h0q HB.out)) : w.heap.size ≤ gb105)); have n3_ := am ((by rw [hg]; exact (qQd (by exact h0q HB.out)) : w.heap.size ≤ gb105)); clear HB; have HB := n0_; have BK105 := n1_; have GW105 := n2_; have GE105 := n3_; clear n0_ n1_ n2_ n3_; clear hb hbox hg))
 (try simp only [Act.put, List.setIfInBounds_toArray, List.set_cons_zero, List.set_cons_succ])
 go_cut [3] (fun v3 wc => ∃ (kq : Nat) (x3_1 : Bool), v3 = .bool x3_1 ∧ Aside0 (qQu.j0 kq x3_1 a0_0 a0_1 a0_2 a0_3 a0_4 a0_5 a0_6 a0_7 a0_8 a0_9 a0_10 a0_11 a0_12 = some r) ∧ Aside0 (kq ≤ k) ∧ Aside0 (wc.heap[gb105]? = some (.cells #[.int .i64 a0_0, .int .i64 a0_1, .int .i64 a0_2, .int .i64 a0_3, .int .i64 a0_4, .int .i64 a0_5, .bool a0_6, .int .i64 a0_7, .int .i64 a0_8, .int .i64 a0_9, .int .i64 a0_10, .int .i64 a0_11, .int .i64 a0_12] 48 (0, 0))) ∧ Aside0 (Below w.heap.size w wc))
 case first =>
  have H := HC2.out
  clear HC2
  by_cases c4 : a0_0 < 1
  ·rw [if_pos c4] at H
   have c4b0 : decide (a0_0 < 1) = true := decide_eq_true c4
   clear c4
   (first | rw [c4b0] | (simp only [i64_w, i32_w]; rw [c4b0]) | skip)
   have H' := am H
   clear H
   have hz5 := lc13 BK105.out
   go_wp2
   go_meet
   case rel => exact ⟨_, (true), (by first | rfl | (simp; done) | (simp [*]; done)), H', ⟨by first | omega | exact Nat.le_refl _⟩, ⟨by exact bb BK105.out⟩, ⟨by exact h1q HB.out GE105.out⟩⟩
  ·rw [if_neg c4] at H
   have c4b0 : decide (a0_0 < 1) = false := decide_eq_false c4
   clear c4
   (first | rw [c4b0] | (simp only [i64_w, i32_w]; rw [c4b0]) | skip)
   by_cases c6 : a0_0 > 1000
   ·rw [if_pos c6] at H
    have c6b0 : decide (1000 < a0_0) = true := decide_eq_true c6
    clear c6
    have H' := am H
    clear H
    have hz7 := lc13 BK105.out
    go_wp2
    go_meet
    case rel => exact ⟨_, (true), (by first | rfl | (simp; done) | (simp [*]; done)), H', ⟨by first | omega | exact Nat.le_refl _⟩, ⟨by exact bb BK105.out⟩, ⟨by exact h1q HB.out GE105.out⟩⟩
   ·rw [if_neg c6] at H
    have c6b0 : decide (1000 < a0_0) = false := decide_eq_false c6
    clear c6
    obtain ⟨y106, hy106⟩ : ∃ y_ : List Int, y_ = (([a0_1, a0_4, a0_10, a0_11] : List Int)) := ⟨_, rfl⟩
    replace H : ((qZ4.f k y106).bind fun t109 => (qQu.j0 k (!t109) a0_0 a0_1 a0_2 a0_3 a0_4 a0_5 a0_6 a0_7 a0_8 a0_9 a0_10 a0_11 a0_12)) = some r := by first | (rw [hy106]; with_reducible exact H) | (have H2_ := (Option.bind_some _ _).symm.trans H; rw [hy106]; with_reducible exact H2_) | (have H2_ := (Option.bind_some _ _).symm.trans H; with_reducible exact H2_) | with_reducible exact H | (rw [hy106]; exact H) | exact H
    have Ny106 := am hy106
    clear hy106
    replace H := Option.bind_eq_some_iff.mp H
    obtain ⟨t109, A80, H⟩ := H
    replace H : (qQu.j0 k (!t109) a0_0 a0_1 a0_2 a0_3 a0_4 a0_5 a0_6 a0_7 a0_8 a0_9 a0_10 a0_11 a0_12) = some r := H
    have A8 := am A80
    clear A80
    have H' := am H
    clear H
    have hz9 := lc13 BK105.out
    go_wp2_with (first | ((with_reducible refine qQ0 (N := 21) rfl ?_); (try (refine qYz (by rfl) ?_; dsimp only)); refine Kd.R_lit (Kd.int .i64) _ 2 ?hg (N := 21) ?hd (xs := ([a0_1, a0_4, a0_10, a0_11] : List Int)) (inner := [.int .i64 a0_1, .int .i64 a0_4, .int .i64 a0_10, .int .i64 a0_11]) (ok := fun _ => True) (okp := fun _ => True) ?hr ?hp (fun _ hk => hk) trivial (Below.refl _ _) (Nat.le_refl _) (by simp) ?_; (case hd => rfl); (case hg => rfl); (case hr => first | (go_simp; done) | (go_simp; rfl)); (case hp => exact (Reps.one (show Kd.M (Kd.int .i64) _ _ _ a0_1 [.int .i64 a0_1] from rfl) (Reps.one (show Kd.M (Kd.int .i64) _ _ _ a0_4 [.int .i64 a0_4] from rfl) (Reps.one (show Kd.M (Kd.int .i64) _ _ _ a0_10 [.int .i64 a0_10] from rfl) (Reps.one (show Kd.M (Kd.int .i64) _ _ _ a0_11 [.int .i64 a0_11] from rfl) (Reps.none _ _)))))); intro v107 w10 ho11 hb hg_ hnew_; clear hg_ hnew_; (first | rw [← Ny106.out] at ho11 | (simp only [Int.reduceToNat] at ho11; rw [← Ny106.out] at ho11)); have n0_ := am (Kd.qYx ho11 (qQd (by exact h1q HB.out GE105.out))); have n1_ := am (qQg (g := gb105) (Up.up BK105.out) hb); have n2_ := am (qQb (by exact h1q HB.out GE105.out) hb); clear BK105; clear HB; have HO108 := n0_; have BK105 := n1_; have HB := n2_; clear n0_ n1_ n2_; clear hb ho11; obtain ⟨Ao12, co12, eo12⟩ := Kd.qYy HO108.out; subst eo12) | (go_at_call 47; (with_reducible refine (qZ4.calls k _ _ y106 t109 _ ?side1 ?side2 A8.out).mono ?_); (case side1 => exact cq ((Kd.qZe HO108.out).2.2)); (case side2 => exact (Kd.qZe HO108.out).2.1); rintro e w' ⟨rfl, ⟨nd, rfl⟩⟩))
    go_meet
    case rel => exact ⟨_, (!t109), (by first | rfl | (simp; done) | (simp [*]; done)), H', ⟨by first | omega | exact Nat.le_refl _⟩, ⟨by exact bb BK105.out⟩, ⟨by exact h1q HB.out GE105.out⟩⟩
 case rest =>
  clear HC2
  try clear c4
  try clear c4b0
  try clear c6
  try clear c6b0
  try clear hz5
  try clear hz7
  try clear hz9
  obtain ⟨kq, x3_1, rfl, HA, HJ1, BK105, HB⟩ := hcut
  rcases kq with _ | kj1
  ·exact absurd HA.out (by simp [qQu.j0])
  have H := HA.out
  clear HA
  simp only [qQu.j0] at H
  by_cases c13 : x3_1 = true
  ·subst c13
   have H1 : (some false) = some r := by rw [if_pos rfl] at H; exact H
   clear H
   have H := H1
   clear H1
   obtain rfl := Option.some.inj H
   go_wp2
   go_ret
   exact ⟨er, by exact h1q HB.out GE105.out⟩
  ·replace c13 := Bool.eq_false_iff.mpr c13
   subst c13
   have H1 : (if a0_2 < 0 then (qQu.j1 kj1 true a0_0 a0_1 a0_2 a0_3 a0_4 a0_5 a0_6 a0_7 a0_8 a0_9 a0_10 a0_11 a0_12) else (if a0_2 > 1000000000000000000 then (qQu.j1 kj1 true a0_0 a0_1 a0_2 a0_3 a0_4 a0_5 a0_6 a0_7 a0_8 a0_9 a0_10 a0_11 a0_12) else (if a0_3 < 0 then (qQu.j1 kj1 true a0_0 a0_1 a0_2 a0_3 a0_4 a0_5 a0_6 a0_7 a0_8 a0_9 a0_10 a0_11 a0_12) else (qQu.j1 kj1 (decide (a0_3 > 1000000000000000000)) a0_0 a0_1 a0_2 a0_3 a0_4 a0_5 a0_6 a0_7 a0_8 a0_9 a0_10 a0_11 a0_12)))) = some r := by rw [if_neg (show ¬ (false = true) by decide)] at H; exact H
   clear H
   have H := H1
   clear H1
   have HC14 := am H
   clear H
   go_upto_region 3 with (fail)
   go_cut [25] (fun v25 wc => ∃ (kq : Nat) (x25_13 : Bool), v25 = .bool x25_13 ∧ Aside0 (qQu.j1 kq x25_13 a0_0 a0_1 a0_2 a0_3 a0_4 a0_5 a0_6 a0_7 a0_8 a0_9 a0_10 a0_11 a0_12 = some r) ∧ Aside0 (kq ≤ kj1) ∧ Aside0 (wc.heap[gb105]? = some (.cells #[.int .i64 a0_0, .int .i64 a0_1, .int .i64 a0_2, .int .i64 a0_3, .int .i64 a0_4, .int .i64 a0_5, .bool a0_6, .int .i64 a0_7, .int .i64 a0_8, .int .i64 a0_9, .int .i64 a0_10, .int .i64 a0_11, .int .i64 a0_12] 48 (0, 0))) ∧ Aside0 (Below w.heap.size w wc))
   case first =>
    have H := HC14.out
    clear HC14
    by_cases c15 : a0_2 < 0
    ·rw [if_pos c15] at H
     have c15b0 : decide (a0_2 < 0) = true := decide_eq_true c15
     clear c15
     (first | rw [c15b0] | (simp only [i64_w, i32_w]; rw [c15b0]) | skip)
     have H' := am H
     clear H
     have hz16 := lc13 BK105.out
     go_wp2
     go_meet
     case rel => exact ⟨_, (true), (by first | rfl | (simp; done) | (simp [*]; done)), H', ⟨by have := HJ1.out; first | omega | exact Nat.le_refl _⟩, ⟨by exact bb BK105.out⟩, ⟨by exact h1q HB.out GE105.out⟩⟩
    ·rw [if_neg c15] at H
     have c15b0 : decide (a0_2 < 0) = false := decide_eq_false c15
     clear c15
     (first | rw [c15b0] | (simp only [i64_w, i32_w]; rw [c15b0]) | skip)
     by_cases c17 : a0_2 > 1000000000000000000
     ·rw [if_pos c17] at H
      have c17b0 : decide (1000000000000000000 < a0_2) = true := decide_eq_true c17
      clear c17
      have H' := am H
      clear H
      have hz18 := lc13 BK105.out
      go_wp2
      go_meet
      case rel => exact ⟨_, (true), (by first | rfl | (simp; done) | (simp [*]; done)), H', ⟨by have := HJ1.out; first | omega | exact Nat.le_refl _⟩, ⟨by exact bb BK105.out⟩, ⟨by exact h1q HB.out GE105.out⟩⟩
     ·rw [if_neg c17] at H
      have c17b0 : decide (1000000000000000000 < a0_2) = false := decide_eq_false c17
      clear c17
      by_cases c19 : a0_3 < 0
      ·rw [if_pos c19] at H
       have c19b0 : decide (a0_3 < 0) = true := decide_eq_true c19
       clear c19
       have H' := am H
       clear H
       have hz20 := lc13 BK105.out
       go_wp2
       go_meet
       case rel => exact ⟨_, (true), (by first | rfl | (simp; done) | (simp [*]; done)), H', ⟨by have := HJ1.out; first | omega | exact Nat.le_refl _⟩, ⟨by exact bb BK105.out⟩, ⟨by exact h1q HB.out GE105.out⟩⟩
      ·rw [if_neg c19] at H
       have c19b0 : decide (a0_3 < 0) = false := decide_eq_false c19
       clear c19
       have H' := am H
       clear H
       have hz21 := lc13 BK105.out
       go_wp2
       go_meet
       case rel => exact ⟨_, (decide (a0_3 > 1000000000000000000)), (by first | rfl | (simp; done) | (simp [*]; done)), H', ⟨by have := HJ1.out; first | omega | exact Nat.le_refl _⟩, ⟨by exact bb BK105.out⟩, ⟨by exact h1q HB.out GE105.out⟩⟩
   case rest =>
    clear HC14
    try clear c4
    try clear c4b0
    try clear c6
    try clear c6b0
    try clear c13
    try clear c15
    try clear c15b0
    try clear c17
    try clear c17b0
    try clear c19
    try clear c19b0
    try clear hz16
    try clear hz18
    try clear hz20
    try clear hz21
    try clear hz5
    try clear hz7
    try clear hz9
    obtain ⟨kq, x25_13, rfl, HA, HJ13, BK105, HB⟩ := hcut
    rcases kq with _ | kj13
    ·exact absurd HA.out (by simp [qQu.j1])
    have H := HA.out
    clear HA
    simp only [qQu.j1] at H
    by_cases c22 : x25_13 = true
    ·subst c22
     have H1 : (some false) = some r := by rw [if_pos rfl] at H; exact H
     clear H
     have H := H1
     clear H1
     obtain rfl := Option.some.inj H
     go_wp2
     go_ret
     exact ⟨er, by exact h1q HB.out GE105.out⟩
    ·replace c22 := Bool.eq_false_iff.mpr c22
     subst c22
     have H1 : (if a0_5 < 0 then (qQu.j2 kj13 true a0_0 a0_1 a0_2 a0_3 a0_4 a0_5 a0_6 a0_7 a0_8 a0_9 a0_10 a0_11 a0_12) else (if a0_5 > 1000000 then (qQu.j2 kj13 true a0_0 a0_1 a0_2 a0_3 a0_4 a0_5 a0_6 a0_7 a0_8 a0_9 a0_10 a0_11 a0_12) else (if a0_7 < 1 then (qQu.j2 kj13 true a0_0 a0_1 a0_2 a0_3 a0_4 a0_5 a0_6 a0_7 a0_8 a0_9 a0_10 a0_11 a0_12) else (if a0_7 > 5 then (qQu.j2 kj13 true a0_0 a0_1 a0_2 a0_3 a0_4 a0_5 a0_6 a0_7 a0_8 a0_9 a0_10 a0_11 a0_12) else (if a0_8 < 0 then (qQu.j2 kj13 true a0_0 a0_1 a0_2 a0_3 a0_4 a0_5 a0_6 a0_7 a0_8 a0_9 a0_10 a0_11 a0_12) else (qQu.j2 kj13 (decide (a0_8 > 4)) a0_0 a0_1 a0_2 a0_3 a0_4 a0_5 a0_6 a0_7 a0_8 a0_9 a0_10 a0_11 a0_12)))))) = some r := by rw [if_neg (show ¬ (false = true) by decide)] at H; exact H
     clear H
     have H := H1
     clear H1
     have HC23 := am H
     clear H
     go_upto_region 5 with (fail)
     go_cut [44] (fun v44 wc => ∃ (kq : Nat) (x44_22 : Bool), v44 = .bool x44_22 ∧ Aside0 (qQu.j2 kq x44_22 a0_0 a0_1 a0_2 a0_3 a0_4 a0_5 a0_6 a0_7 a0_8 a0_9 a0_10 a0_11 a0_12 = some r) ∧ Aside0 (kq ≤ kj13) ∧ Aside0 (wc.heap[gb105]? = some (.cells #[.int .i64 a0_0, .int .i64 a0_1, .int .i64 a0_2, .int .i64 a0_3, .int .i64 a0_4, .int .i64 a0_5, .bool a0_6, .int .i64 a0_7, .int .i64 a0_8, .int .i64 a0_9, .int .i64 a0_10, .int .i64 a0_11, .int .i64 a0_12] 48 (0, 0))) ∧ Aside0 (Below w.heap.size w wc))
     case first =>
      have H := HC23.out
      clear HC23
      by_cases c24 : a0_5 < 0
      ·rw [if_pos c24] at H
       have c24b0 : decide (a0_5 < 0) = true := decide_eq_true c24
       clear c24
       (first | rw [c24b0] | (simp only [i64_w, i32_w]; rw [c24b0]) | skip)
       have H' := am H
       clear H
       have hz25 := lc13 BK105.out
       go_wp2
       go_meet
       case rel => exact ⟨_, (true), (by first | rfl | (simp; done) | (simp [*]; done)), H', ⟨by have := HJ1.out; have := HJ13.out; first | omega | exact Nat.le_refl _⟩, ⟨by exact bb BK105.out⟩, ⟨by exact h1q HB.out GE105.out⟩⟩
      ·rw [if_neg c24] at H
       have c24b0 : decide (a0_5 < 0) = false := decide_eq_false c24
       clear c24
       (first | rw [c24b0] | (simp only [i64_w, i32_w]; rw [c24b0]) | skip)
       by_cases c26 : a0_5 > 1000000
       ·rw [if_pos c26] at H
        have c26b0 : decide (1000000 < a0_5) = true := decide_eq_true c26
        clear c26
        have H' := am H
        clear H
        have hz27 := lc13 BK105.out
        go_wp2
        go_meet
        case rel => exact ⟨_, (true), (by first | rfl | (simp; done) | (simp [*]; done)), H', ⟨by have := HJ1.out; have := HJ13.out; first | omega | exact Nat.le_refl _⟩, ⟨by exact bb BK105.out⟩, ⟨by exact h1q HB.out GE105.out⟩⟩
       ·rw [if_neg c26] at H
        have c26b0 : decide (1000000 < a0_5) = false := decide_eq_false c26
        clear c26
        by_cases c28 : a0_7 < 1
        ·rw [if_pos c28] at H
         have c28b0 : decide (a0_7 < 1) = true := decide_eq_true c28
         clear c28
         have H' := am H
         clear H
         have hz29 := lc13 BK105.out
         go_wp2
         go_meet
         case rel => exact ⟨_, (true), (by first | rfl | (simp; done) | (simp [*]; done)), H', ⟨by have := HJ1.out; have := HJ13.out; first | omega | exact Nat.le_refl _⟩, ⟨by exact bb BK105.out⟩, ⟨by exact h1q HB.out GE105.out⟩⟩
        ·rw [if_neg c28] at H
         have c28b0 : decide (a0_7 < 1) = false := decide_eq_false c28
         clear c28
         by_cases c30 : a0_7 > 5
         ·rw [if_pos c30] at H
          have c30b0 : decide (5 < a0_7) = true := decide_eq_true c30
          clear c30
          have H' := am H
          clear H
          have hz31 := lc13 BK105.out
          go_wp2
          go_meet
          case rel => exact ⟨_, (true), (by first | rfl | (simp; done) | (simp [*]; done)), H', ⟨by have := HJ1.out; have := HJ13.out; first | omega | exact Nat.le_refl _⟩, ⟨by exact bb BK105.out⟩, ⟨by exact h1q HB.out GE105.out⟩⟩
         ·rw [if_neg c30] at H
          have c30b0 : decide (5 < a0_7) = false := decide_eq_false c30
          clear c30
          by_cases c32 : a0_8 < 0
          ·rw [if_pos c32] at H
           have c32b0 : decide (a0_8 < 0) = true := decide_eq_true c32
           clear c32
           have H' := am H
           clear H
           have hz33 := lc13 BK105.out
           go_wp2
           go_meet
           case rel => exact ⟨_, (true), (by first | rfl | (simp; done) | (simp [*]; done)), H', ⟨by have := HJ1.out; have := HJ13.out; first | omega | exact Nat.le_refl _⟩, ⟨by exact bb BK105.out⟩, ⟨by exact h1q HB.out GE105.out⟩⟩
          ·rw [if_neg c32] at H
           have c32b0 : decide (a0_8 < 0) = false := decide_eq_false c32
           clear c32
           have H' := am H
           clear H
           have hz34 := lc13 BK105.out
           go_wp2
           go_meet
           case rel => exact ⟨_, (decide (a0_8 > 4)), (by first | rfl | (simp; done) | (simp [*]; done)), H', ⟨by have := HJ1.out; have := HJ13.out; first | omega | exact Nat.le_refl _⟩, ⟨by exact bb BK105.out⟩, ⟨by exact h1q HB.out GE105.out⟩⟩
     case rest =>
      clear HC23
      try clear c4
      try clear c4b0
      try clear c6
      try clear c6b0
      try clear c13
      try clear c15
      try clear c15b0
      try clear c17
      try clear c17b0
      try clear c19
      try clear c19b0
      try clear c22
      try clear c24
      try clear c24b0
      try clear c26
      try clear c26b0
      try clear c28
      try clear c28b0
      try clear c30
      try clear c30b0
      try clear c32
      try clear c32b0
      try clear hz16
      try clear hz18
      try clear hz20
      try clear hz21
      try clear hz25
      try clear hz27
      try clear hz29
      try clear hz31
      try clear hz33
      try clear hz34
      try clear hz5
      try clear hz7
      try clear hz9
      obtain ⟨kq, x44_22, rfl, HA, HJ22, BK105, HB⟩ := hcut
      rcases kq with _ | kj22
      ·exact absurd HA.out (by simp [qQu.j2])
      have H := HA.out
      clear HA
      simp only [qQu.j2] at H
      by_cases c35 : x44_22 = true
      ·subst c35
       have H1 : (some false) = some r := by rw [if_pos rfl] at H; exact H
       clear H
       have H := H1
       clear H1
       obtain rfl := Option.some.inj H
       go_wp2
       go_ret
       exact ⟨er, by exact h1q HB.out GE105.out⟩
      ·replace c35 := Bool.eq_false_iff.mpr c35
       subst c35
       have H1 : (if a0_9 < (-1) then (some false) else (if a0_9 > 87658 then (some false) else (if a0_12 < 0 then (some false) else (if a0_8 = 0 then (some true) else (if a0_1 = 0 then (if a0_2 = 0 then (some (a0_4 == 0)) else (some false)) else (some false)))))) = some r := by rw [if_neg (show ¬ (false = true) by decide)] at H; exact H
       clear H
       have H := H1
       clear H1
       by_cases c36 : a0_9 < (-1)
       ·rw [if_pos c36] at H
        have c36b0 : decide (a0_9 < (-1)) = true := decide_eq_true c36
        clear c36
        obtain rfl := Option.some.inj H
        have hz37 := lc13 BK105.out
        go_wp2
        go_ret
        exact ⟨er, by exact h1q HB.out GE105.out⟩
       ·rw [if_neg c36] at H
        have c36b0 : decide (a0_9 < (-1)) = false := decide_eq_false c36
        clear c36
        by_cases c38 : a0_9 > 87658
        ·rw [if_pos c38] at H
         have c38b0 : decide (87658 < a0_9) = true := decide_eq_true c38
         clear c38
         obtain rfl := Option.some.inj H
         have hz39 := lc13 BK105.out
         go_wp2
         go_ret
         exact ⟨er, by exact h1q HB.out GE105.out⟩
        ·rw [if_neg c38] at H
         have c38b0 : decide (87658 < a0_9) = false := decide_eq_false c38
         clear c38
         by_cases c40 : a0_12 < 0
         ·rw [if_pos c40] at H
          have c40b0 : decide (a0_12 < 0) = true := decide_eq_true c40
          clear c40
          obtain rfl := Option.some.inj H
          have hz41 := lc13 BK105.out
          go_wp2
          go_ret
          exact ⟨er, by exact h1q HB.out GE105.out⟩
         ·rw [if_neg c40] at H
          have c40b0 : decide (a0_12 < 0) = false := decide_eq_false c40
          clear c40
          by_cases c42 : a0_8 = 0
          ·rw [if_pos c42] at H
           have c42b0 : (a0_8 == 0) = true := beq_iff_eq.mpr c42
           have c42b1 : (a0_8 != 0) = false := bne_eq_false_iff_eq.mpr c42
           clear c42
           obtain rfl := Option.some.inj H
           have hz43 := lc13 BK105.out
           go_wp2
           go_ret
           exact ⟨er, by exact h1q HB.out GE105.out⟩
          ·rw [if_neg c42] at H
           have c42b0 : (a0_8 == 0) = false := beq_eq_false_iff_ne.mpr c42
           have c42b1 : (a0_8 != 0) = true := bne_iff_ne.mpr c42
           by_cases c44 : a0_1 = 0
           ·rw [if_pos c44] at H
            have c44b0 : (a0_1 == 0) = true := beq_iff_eq.mpr c44
            have c44b1 : (a0_1 != 0) = false := bne_eq_false_iff_eq.mpr c44
            clear c44
            by_cases c45 : a0_2 = 0
            ·rw [if_pos c45] at H
             have c45b0 : (a0_2 == 0) = true := beq_iff_eq.mpr c45
             have c45b1 : (a0_2 != 0) = false := bne_eq_false_iff_eq.mpr c45
             clear c45
             obtain rfl := Option.some.inj H
             have hz46 := lc13 BK105.out
             go_wp2
             go_ret
             exact ⟨er, by exact h1q HB.out GE105.out⟩
            ·rw [if_neg c45] at H
             have c45b0 : (a0_2 == 0) = false := beq_eq_false_iff_ne.mpr c45
             have c45b1 : (a0_2 != 0) = true := bne_iff_ne.mpr c45
             obtain rfl := Option.some.inj H
             have hz47 := lc13 BK105.out
             go_wp2
             go_ret
             exact ⟨er, by exact h1q HB.out GE105.out⟩
           ·rw [if_neg c44] at H
            have c44b0 : (a0_1 == 0) = false := beq_eq_false_iff_ne.mpr c44
            have c44b1 : (a0_1 != 0) = true := bne_iff_ne.mpr c44
            obtain rfl := Option.some.inj H
            have hz48 := lc13 BK105.out
            go_wp2
            go_ret
            exact ⟨er, by exact h1q HB.out GE105.out⟩
def qYg.go (k : Nat) : List S48 → Nat → Option Int
  | [], _ => some (-1)
  | x :: l, j => (qQu.f k x.f0 x.f1 x.f2 x.f3 x.f4 x.f5 x.f6 x.f7 x.f8 x.f9 x.f10 x.f11 x.f12).bind fun g => if g = true then qYg.go k l (j + 1) else some (j : Int)
def qYg.f (k : Nat) (l0 : List S48) : Option Bool := if l0.length ≤ 100000 then (qYg.go k l0 0).bind fun i => some (decide (0 ≤ i)) else none
set_option maxHeartbeats 8000000 in
set_option maxRecDepth 100000 in
theorem qYg.in_ (k : Nat) (x : S48) (g : Bool) (w : World) (hg : qQu.f k x.f0 x.f1 x.f2 x.f3 x.f4 x.f5 x.f6 x.f7 x.f8 x.f9 x.f10 x.f11 x.f12 = some g) :
    Calls Tryz.prog 25 #[.agg #[.int .i64 x.f0, .int .i64 x.f1, .int .i64 x.f2, .int .i64 x.f3, .int .i64 x.f4, .int .i64 x.f5, .bool x.f6, .int .i64 x.f7, .int .i64 x.f8, .int .i64 x.f9, .int .i64 x.f10, .int .i64 x.f11, .int .i64 x.f12]] w fun e w' => e = .returned (.bool (!g)) ∧ Below w.heap.size w w' := by
  have hu43 := Tryz.underlying48
  obtain ⟨x0, x1, x2, x3, x4, x5, x6, x7, x8, x9, x10, x11, x12⟩ := x
  dsimp only at hg ⊢
  have HG := am hg
  clear hg
  have HB := am (Below.refl w.heap.size w)
  go_enter Tryz.func25, Tryz.ntmps25
  go_wp2_with (first | ((with_reducible refine qQ0 (N := 1) rfl ?_); refine qQs ?hg (N := 1) ?hd (cs := #[.int .i64 x0, .int .i64 x1, .int .i64 x2, .int .i64 x3, .int .i64 x4, .int .i64 x5, .bool x6, .int .i64 x7, .int .i64 x8, .int .i64 x9, .int .i64 x10, .int .i64 x11, .int .i64 x12]) (t := 48) ?hr ?_; (case hd => rfl); (case hg => rfl); (case hr => first | (go_simp; done) | (go_simp; rfl)); intro gb hgq w6 hbox hb1; obtain ⟨hc0, hc1, hc2, hc3, hc4, hc5, hc6, hc7, hc8, hc9, hc10, hc11, hc12⟩ := lc13c hbox; have n_ := am (qQb (by exact h0q HB.out) hb1); clear HB; have HB := n_; clear n_ hb1; clear hbox hgq) | (go_at_call 26; (with_reducible refine (qQu.calls k x0 x1 x2 x3 x4 x5 x6 x7 x8 x9 x10 x11 x12 g _ HG.out).mono ?_); rintro e w7 ⟨rfl, hb1⟩; have n_ := am (qQb (by exact h0q HB.out) hb1); clear HB; have HB := n_; clear n_ hb1))
  go_ret
  exact ⟨by first | rfl | (simp; done), (by exact h0q HB.out)⟩
set_option maxHeartbeats 8000000 in
set_option maxRecDepth 100000 in
theorem qYg.index (k : Nat) (A0 : Option Addr) (c0 : Nat) (l0 : List S48) (r : Int) (w : World) (hr0 : Kd.C k48 w A0 l0.length l0) (hlen : l0.length ≤ 100000) (h : qYg.go k l0 0 = some r) :
    Calls Tryz.prog 46 #[.slice A0 l0.length c0, .func (.func 25) #[] #[]] w fun e w' => e = .returned (.int .i64 r) ∧ Below w.heap.size w w' := by
  have hu43 := Tryz.underlying48
  have HR0 := am hr0
  have HR := am h
  clear hr0 h
  have HB := am (Below.refl w.heap.size w)
  go_enter Tryz.func46, Tryz.ntmps46
  go_wp2
  go_loopw [5, 8] (fun v5 v8 wr => ∃ (j : Nat), j ≤ l0.length ∧ v8 = .int .i64 j ∧ Aside0 (qYg.go k (l0.drop j) j = some r) ∧ Aside0 (Below w.heap.size w wr)) (fun _ v8 _ => l0.length - (intOf v8).toNat)
  case atStart => exact ⟨0, Nat.zero_le _, rfl, ⟨by rw [List.drop_zero]; exact HR.out⟩, ⟨(by exact h0q HB.out)⟩⟩
  case round =>
    clear HB
    obtain ⟨j, hj, rfl, HS, HB⟩ := hrel
    by_cases hlt : j < l0.length
    · have hd : l0.drop j = qQa l0 j :: l0.drop (j + 1) := by
        rw [List.drop_eq_getElem_cons hlt]; congr 1; unfold qQa; simp [List.getD_eq_getElem?_getD, hlt]
      have h0 := HS.out
      rw [hd, qYg.go] at h0
      obtain ⟨g, hg, h0⟩ := Option.bind_eq_some_iff.mp h0
      have hcall := qYg.in_ k (qQa l0 j) g
      obtain ⟨ad, ea, hx0, hx1, hx2, hx3, hx4, hx5, hx6, hx7, hx8, hx9, hx10, hx11, hx12⟩ := qY8 (Kd.qZq HR0.out HB.out) j (by omega) (by omega)
      cases ea
      simp only [Int.toNat_natCast] at hx0 hx1 hx2 hx3 hx4 hx5 hx6 hx7 hx8 hx9 hx10 hx11 hx12
      have hltz : (j : Int) < (l0.length : Int) := by omega
      have hltn : (0 : Int) ≤ (j : Int) := by omega
      obtain ⟨x, hxx⟩ : ∃ x, x = qQa l0 j := ⟨_, rfl⟩
      rw [← hxx] at hg hx0 hx1 hx2 hx3 hx4 hx5 hx6 hx7 hx8 hx9 hx10 hx11 hx12 hcall
      obtain ⟨x0, x1, x2, x3, x4, x5, x6, x7, x8, x9, x10, x11, x12⟩ := x
      dsimp only at hg hx0 hx1 hx2 hx3 hx4 hx5 hx6 hx7 hx8 hx9 hx10 hx11 hx12 hcall
      have HC : Aside0 (∀ w1, Calls Tryz.prog 25 #[.agg #[.int .i64 x0, .int .i64 x1, .int .i64 x2, .int .i64 x3, .int .i64 x4, .int .i64 x5, .bool x6, .int .i64 x7, .int .i64 x8, .int .i64 x9, .int .i64 x10, .int .i64 x11, .int .i64 x12]] w1 fun e w' => e = .returned (.bool (!g)) ∧ Below w1.heap.size w1 w') := ⟨fun w1 => hcall w1 hg⟩
      clear hxx hd HS hcall hg
      cases g with
      | false =>
        rw [if_neg (by simp)] at h0
        obtain rfl := (Option.some.inj h0).symm
        clear h0
        go_wp2_with (go_at_call 25; refine (HC.out _).mono ?_; rintro e w1 ⟨rfl, hb1⟩; have n_ := am (qQb (by exact h0q HB.out) hb1); clear HB; have HB := n_; clear n_ hb1)
        go_ret
        exact ⟨by first | rfl | (simp; done), HB.out⟩
      | true =>
        rw [if_pos rfl] at h0
        have HN := am h0
        clear h0
        go_wp2_with (go_at_call 25; refine (HC.out _).mono ?_; rintro e w1 ⟨rfl, hb1⟩; have n_ := am (qQb (by exact h0q HB.out) hb1); clear HB; have HB := n_; clear n_ hb1)
        go_roundw
        case measure => simp [intOf]; omega
        case rel => exact ⟨j + 1, by omega, by go_num, HN, HB⟩
    · have h0 := HS.out
      rw [List.drop_of_length_le (by omega), qYg.go] at h0
      obtain rfl := (Option.some.inj h0).symm
      have hltz : ¬ (j : Int) < (l0.length : Int) := by omega
      go_wp2
      go_ret
      exact ⟨by first | rfl | (simp; done), HB.out⟩
set_option maxHeartbeats 8000000 in
set_option maxRecDepth 100000 in
theorem qYg.calls (k : Nat) (A0 : Option Addr) (c0 : Nat) (l0 : List S48) (r : Bool) (w : World) (hr0 : Kd.C k48 w A0 l0.length l0) (hc0 : l0.length ≤ c0) (h : qYg.f k l0 = some r) :
    Calls Tryz.prog 24 #[.slice A0 l0.length c0, .func (.func 25) #[] #[]] w fun e w' => e = .returned (.bool r) ∧ Below w.heap.size w w' := by
  by_cases hlen : l0.length ≤ 100000
  case neg => rw [qYg.f, if_neg hlen] at h; cases h
  rw [qYg.f, if_pos hlen] at h
  obtain ⟨i, hi, h⟩ := Option.bind_eq_some_iff.mp h
  have h := Option.some.inj h
  have HI : Aside0 (∀ w1, Below w.heap.size w w1 → Calls Tryz.prog 46 #[.slice A0 l0.length c0, .func (.func 25) #[] #[]] w1 fun e w' => e = .returned (.int .i64 i) ∧ Below w1.heap.size w1 w') := ⟨fun w1 hw => qYg.index k A0 c0 l0 i w1 (Kd.qZq hr0 hw) hlen hi⟩
  have HB := am (Below.refl w.heap.size w)
  obtain ⟨n, hn⟩ : ∃ n, l0.length = n := ⟨_, rfl⟩
  rw [hn] at HI ⊢
  clear hr0 hc0 hi hlen hn
  subst h
  go_enter Tryz.func24, Tryz.ntmps24
  go_wp2_with (go_at_call 46; refine (HI.out _ (by exact h0q HB.out)).mono ?_; rintro e w2 ⟨rfl, hb1⟩; have n_ := am (qQb (by exact h0q HB.out) hb1); clear HB; have HB := n_; clear n_ hb1)
  go_ret
  exact ⟨by first | rfl | (simp; done), HB.out⟩
def qYf.f (a0_0 : Int) (a0_1 : Int) (a0_2 : Int) (a0_3 : Int) (a0_4 : Int) (a0_5 : Int) (a0_6 : Bool) (a0_7 : Int) (a0_8 : Int) (a0_9 : Int) (a0_10 : Int) (a0_11 : Int) (a0_12 : Int) : Option (Bool) := if a0_8 = 0 then (some (a0_7 == 5)) else (some false)
set_option maxHeartbeats 8000000 in
set_option maxRecDepth 100000 in
theorem qYf.calls (a0_0 : Int) (a0_1 : Int) (a0_2 : Int) (a0_3 : Int) (a0_4 : Int) (a0_5 : Int) (a0_6 : Bool) (a0_7 : Int) (a0_8 : Int) (a0_9 : Int) (a0_10 : Int) (a0_11 : Int) (a0_12 : Int) (r : Bool) (w : World) (h : qYf.f a0_0 a0_1 a0_2 a0_3 a0_4 a0_5 a0_6 a0_7 a0_8 a0_9 a0_10 a0_11 a0_12 = some r) :
  Calls Tryz.prog 27 #[.agg #[.int .i64 a0_0, .int .i64 a0_1, .int .i64 a0_2, .int .i64 a0_3, .int .i64 a0_4, .int .i64 a0_5, .bool a0_6, .int .i64 a0_7, .int .i64 a0_8, .int .i64 a0_9, .int .i64 a0_10, .int .i64 a0_11, .int .i64 a0_12]] w fun e w' => e = .returned (.bool r) ∧ Below w.heap.size w w' := by
 have hu48 := Tryz.underlying48
 have HB := am (Below.refl w.heap.size w)
 have H : (if a0_8 = 0 then (some (a0_7 == 5)) else (some false)) = some r := h
 clear h
 by_cases c2 : a0_8 = 0
 case neg =>
  rw [if_neg c2] at H
  have c2b0 : (a0_8 == 0) = false := beq_eq_false_iff_ne.mpr c2
  have c2b1 : (a0_8 != 0) = true := bne_iff_ne.mpr c2
  obtain rfl := Option.some.inj H
  go_enter Tryz.func27, Tryz.ntmps27
  go_wp2_with (first | ((with_reducible refine qQ0 (N := 1) rfl ?_); refine qQs ?hg (N := 1) ?hd (cs := #[.int .i64 a0_0, .int .i64 a0_1, .int .i64 a0_2, .int .i64 a0_3, .int .i64 a0_4, .int .i64 a0_5, .bool a0_6, .int .i64 a0_7, .int .i64 a0_8, .int .i64 a0_9, .int .i64 a0_10, .int .i64 a0_11, .int .i64 a0_12]) (t := 48) ?hr ?_; (case hd => rfl); (case hg => rfl); (case hr => first | (go_simp; done) | (go_simp; rfl)); intro gb110 hg w5 hbox hb; have n0_ := am (qQb (by exact h0q HB.out) hb); have n1_ := am (hbox); have n2_ := am ((by rw [hg]; exact (qQd (by exact h0q HB.out)) : w.heap.size ≤ gb110)); have n3_ := am ((by rw [hg]; exact (qQd (by exact h0q HB.out)) : w.heap.size ≤ gb110)); clear HB; have HB := n0_; have BK110 := n1_; have GW110 := n2_; have GE110 := n3_; clear n0_ n1_ n2_ n3_; clear hb hbox hg; have hz6 := lc13 BK110.out))
  go_ret
  exact ⟨er, by exact h1q HB.out GE110.out⟩
 rw [if_pos c2] at H
 have c2b0 : (a0_8 == 0) = true := beq_iff_eq.mpr c2
 have c2b1 : (a0_8 != 0) = false := bne_eq_false_iff_eq.mpr c2
 clear c2
 obtain rfl := Option.some.inj H
 go_enter Tryz.func27, Tryz.ntmps27
 go_wp2_with (first | ((with_reducible refine qQ0 (N := 1) rfl ?_); refine qQs ?hg (N := 1) ?hd (cs := #[.int .i64 a0_0, .int .i64 a0_1, .int .i64 a0_2, .int .i64 a0_3, .int .i64 a0_4, .int .i64 a0_5, .bool a0_6, .int .i64 a0_7, .int .i64 a0_8, .int .i64 a0_9, .int .i64 a0_10, .int .i64 a0_11, .int .i64 a0_12]) (t := 48) ?hr ?_; (case hd => rfl); (case hg => rfl); (case hr => first | (go_simp; done) | (go_simp; rfl)); intro gb110 hg w3 hbox hb; have n0_ := am (qQb (by exact h0q HB.out) hb); have n1_ := am (hbox); have n2_ := am ((by rw [hg]; exact (qQd (by exact h0q HB.out)) : w.heap.size ≤ gb110)); have n3_ := am ((by rw [hg]; exact (qQd (by exact h0q HB.out)) : w.heap.size ≤ gb110)); clear HB; have HB := n0_; have BK110 := n1_; have GW110 := n2_; have GE110 := n3_; clear n0_ n1_ n2_ n3_; clear hb hbox hg; have hz4 := lc13 BK110.out))
 go_ret
 exact ⟨er, by exact h1q HB.out GE110.out⟩
-- NOT PRINTED: function 106 (loan_does_1)
-- NOT PRINTED: function 107 (loan_stop)
-- NOT PRINTED: function 85 (qQl)
-- NOT PRINTED: function 97 (money_Sum_1)
-- NOT PRINTED: function 98 (money_add)
def isMoney (a : Int) : Bool := decide (-10000000000000 ≤ a ∧ a ≤ 10000000000000)
theorem qQ4.some_ (a : Int) : qQ4.f a = some (isMoney a) := by
 unfold qQ4.f isMoney
 by_cases h : a ≥ -10000000000000
 ·rw [if_pos h]; simp [h]
 ·rw [if_neg h]; simp; omega
def qZv.go : List Int → Int → Int × Int
 | [], s => (s, 0)
 | a :: l, s => if isMoney s && (isMoney a && isMoney (s + a)) then qZv.go l (s + a) else (0, 14)
def qZv.f (l0 : List Int) : Option (Int × Int) := if l0.length ≤ 140737488351232 then some (qZv.go l0 0) else none
set_option maxHeartbeats 8000000 in
set_option maxRecDepth 100000 in
theorem qZv.add_ok (a b : Int) (w : World) (h1 : isMoney a = true) (h2 : isMoney b = true) (h3 : isMoney (a + b) = true) :
  Calls Tryz.prog 98 #[.int .i64 a, .int .i64 b] w fun e w' => e = .returned (.int .i64 (a + b)) ∧ Drawn0 w w' := by
 have bd1 : -10000000000000 ≤ a ∧ a ≤ 10000000000000 := by simpa [isMoney] using h1
 have bd2 : -10000000000000 ≤ b ∧ b ≤ 10000000000000 := by simpa [isMoney] using h2
 have g1 := am ((qQ4.some_ a).trans (by rw [h1])); have g2 := am ((qQ4.some_ b).trans (by rw [h2])); have g3 := am ((qQ4.some_ (a + b)).trans (by rw [h3]))
 clear h1 h2 h3
 obtain ⟨q1, q2⟩ := bd1
 obtain ⟨q3, q4⟩ := bd2
 go_enter Tryz.func98, Tryz.ntmps98
 go_wp2_with fail
 refine (qQ4.calls a true _ g1.out).mono ?_
 rintro e w' ⟨rfl, ⟨nd, rfl⟩⟩
 go_wp2_with fail
 refine (qQ4.calls b true _ g2.out).mono ?_
 rintro e w' ⟨rfl, ⟨nd, rfl⟩⟩
 go_wp2_with fail
 refine (qQ4.calls (a + b) true _ g3.out).mono ?_
 rintro e w' ⟨rfl, ⟨nd, rfl⟩⟩
 go_wp2
 go_ret
 exact ⟨rfl, by repeat (first | exact Drawn0.refl _ | apply Drawn0.step)⟩
set_option maxHeartbeats 8000000 in
set_option maxRecDepth 100000 in
theorem qZv.zVn (a b : Int) (w : World) (h : (isMoney a && (isMoney b && isMoney (a + b))) = false) :
  Calls Tryz.prog 98 #[.int .i64 a, .int .i64 b] w fun e w' => e = .panicked [{ v := .iface 135 (.agg #[]), recovered := false }] ∧ Drawn0 w w' := by
 cases h1 : isMoney a with
 | false =>
  have g1 := am ((qQ4.some_ a).trans (by rw [h1]))
  clear h h1
  go_enter Tryz.func98, Tryz.ntmps98
  go_wp2_with fail
  refine (qQ4.calls a false _ g1.out).mono ?_
  rintro e w' ⟨rfl, ⟨nd, rfl⟩⟩
  go_wp2
  exact ⟨rfl, rfl, by repeat (first | exact Drawn0.refl _ | apply Drawn0.step)⟩
 | true =>
  have g1 := am ((qQ4.some_ a).trans (by rw [h1]))
  have bd1 : -10000000000000 ≤ a ∧ a ≤ 10000000000000 := by simpa [isMoney] using h1
  rw [h1, Bool.true_and] at h
  clear h1
  obtain ⟨q1, q2⟩ := bd1
  cases h2 : isMoney b with
  | false =>
   have g2 := am ((qQ4.some_ b).trans (by rw [h2]))
   clear h h2
   go_enter Tryz.func98, Tryz.ntmps98
   go_wp2_with fail
   refine (qQ4.calls a true _ g1.out).mono ?_
   rintro e w' ⟨rfl, ⟨nd, rfl⟩⟩
   go_wp2_with fail
   refine (qQ4.calls b false _ g2.out).mono ?_
   rintro e w' ⟨rfl, ⟨nd, rfl⟩⟩
   go_wp2
   exact ⟨rfl, rfl, by repeat (first | exact Drawn0.refl _ | apply Drawn0.step)⟩
  | true =>
   have g2 := am ((qQ4.some_ b).trans (by rw [h2]))
   have bd2 : -10000000000000 ≤ b ∧ b ≤ 10000000000000 := by simpa [isMoney] using h2
   rw [h2, Bool.true_and] at h
   have g3 := am ((qQ4.some_ (a + b)).trans (by rw [h]))
   clear h h2
   obtain ⟨q3, q4⟩ := bd2
   go_enter Tryz.func98, Tryz.ntmps98
   go_wp2_with fail
   refine (qQ4.calls a true _ g1.out).mono ?_
   rintro e w' ⟨rfl, ⟨nd, rfl⟩⟩
   go_wp2_with fail
   refine (qQ4.calls b true _ g2.out).mono ?_
   rintro e w' ⟨rfl, ⟨nd, rfl⟩⟩
   go_wp2_with fail
   refine (qQ4.calls (a + b) false _ g3.out).mono ?_
   rintro e w' ⟨rfl, ⟨nd, rfl⟩⟩
   go_wp2
   exact ⟨rfl, rfl, by repeat (first | exact Drawn0.refl _ | apply Drawn0.step)⟩
set_option maxHeartbeats 8000000 in
set_option maxRecDepth 100000 in
theorem qZv.idle (p q : Addr) (w : World) :
  CallsD Tryz.prog 97 #[.pointer (some p), .pointer (some q)] .returning w fun e u' w' => e = .returned (.tuple #[]) ∧ u' = .returning ∧ w' = w := by
 refine callsD_of_wpS Tryz.func97 rfl fun c₀ cs hu => ?_
 apply wpS_seq
 apply wpS_region
 simp [wpOpsS, go_sem, recoverD, hu, Tryz.ntmps97, Exit.thenS]
 refine wpS_of_wp ?_
 go_wp2
 cases c₀
 simp_all [bodyPostS, results, Tryz.results97]
set_option maxHeartbeats 8000000 in
set_option maxRecDepth 100000 in
theorem qZv.caught (g : Nat) (x y : Int) (w : World) (h1 : w.heap[g]? = some (.cells #[.int .i64 x] 2 (0, 0))) (h2 : w.heap[g + 1]? = some (.cells #[.int .i64 y] 33 (0, 0))) :
  CallsD Tryz.prog 97 #[.pointer (some ⟨g, 0, none⟩), .pointer (some ⟨g + 1, 0, none⟩)] (.panicking [{ v := .iface 135 (.agg #[]), recovered := false }]) w fun e u' w' =>
   e = .returned (.tuple #[]) ∧ u' = .panicking [{ v := .iface 135 (.agg #[]), recovered := true }] ∧
   w'.heap[g]? = some (.cells #[.int .i64 0] 2 (0, 0)) ∧ w'.heap[g + 1]? = some (.cells #[.int .i64 14] 33 (0, 0)) ∧ ∀ W, Below g W w → Below g W w' := by
 have hl := qZr h2
 have c1 : w.cell? ⟨g, 0, none⟩ = some (.int .i64 x) := (qQc h1 0).trans rfl
 have c2 : w.cell? ⟨g + 1, 0, none⟩ = some (.int .i64 y) := (qQc h2 0).trans rfl
 have f1 := qQi h1 0
 have f2 := qQi h2 0
 have k1 := qQm h1 (Obj.cells #[] 135)
 have k2 := qYr (qQm h2 (Obj.cells #[] 135)) (p := ⟨g, 0, none⟩) (by simp) (.int .i64 0)
 have d1 : (w.alloc (Obj.cells #[] 135)).cell? ⟨g, 0, none⟩ = some (.int .i64 x) := (qQc k1 0).trans rfl
 have d2 : ((w.alloc (Obj.cells #[] 135)).setCell ⟨g, 0, none⟩ (.int .i64 0)).cell? ⟨g + 1, 0, none⟩ = some (.int .i64 y) := (qQc k2 0).trans rfl
 have e1 := qQi k1 0
 have e2 := qQi k2 0
 have K1 := am k1; have K2 := am k2
 clear h1 h2 k1 k2 c1 c2 f1 f2
 have hta : ∀ (v : Value) (W : World), (Instr.typeAssert (.iface 135 v) 20 135 true).run Tryz.prog W = .ok (.tuple #[v, .bool true]) W := fun v W => by rfl
 refine callsD_of_wpS Tryz.func97 rfl fun c₀ cs hu => ?_
 apply wpS_seq
 apply wpS_region
 simp [wpOpsS, go_sem, recoverD, hu, Tryz.ntmps97, Exit.thenS]
 refine wpS_of_wp ?_
 go_wp2
 cases c₀
 simp only at hu
 subst hu
 refine ⟨rfl, _, rfl, _, results_none rfl _ _ _, rfl, rfl, qYr (qZ6 K1.out 0 _ rfl) (by simp) _, qZ6 K2.out 0 _ rfl, fun W hb => ?_⟩
 exact ((hb.alloc (by omega) _).setCell (Nat.le_refl _) _).setCell (by simp) _
set_option maxHeartbeats 8000000 in
set_option maxRecDepth 100000 in
theorem qZv.calls (A0 : Option Addr) (c0 : Nat) (l0 : List Int) (r1 : Int) (r2 : Int) (w : World) (hr0 : Kd.C (Kd.int .i64) w A0 l0.length l0) (hc0 : l0.length ≤ c0) (h : qZv.f l0 = some (r1, r2)) :
  Calls Tryz.prog 80 #[.slice A0 l0.length c0] w fun e w' => e = .returned (.tuple #[.int .i64 r1, .int .i64 r2]) ∧ Below w.heap.size w w' := by
 have HR0 := am hr0
 have HC0 := am hc0
 have hlen : l0.length ≤ 140737488351232 := by
  by_cases c : l0.length ≤ 140737488351232
  ·exact c
  ·rw [qZv.f, if_neg c] at h; cases h
 rw [qZv.f, if_pos hlen] at h
 have HG := am (Option.some.inj h)
 clear hr0 hc0 h
 have hmf : ∀ (fn : Fn) (first cap : Array Value) (w : World), (Instr.makeFunc fn first cap).run Tryz.prog w = .ok (.func fn first cap) w := fun _ _ _ _ => rfl
 go_enter_defers Tryz.func80, Tryz.ntmps80
 go_wp2
 go_loopw [5, 9] (fun v5 v9 wr => ∃ (j : Nat) (s : Int), j ≤ l0.length ∧ v9 = .int .i64 j ∧ Aside0 (qZv.go (l0.drop j) s = (r1, r2)) ∧ Aside0 (wr.heap[w.heap.size]? = some (.cells #[.int .i64 s] 2 (0, 0))) ∧ Aside0 (wr.heap[w.heap.size + 1]? = some (.cells #[.int .i64 0] 33 (0, 0))) ∧ Aside0 (Below w.heap.size w wr)) (fun _ v9 _ => l0.length - (intOf v9).toNat)
 case atStart =>
  have k0 := qY3 w (Obj.cells #[.int .i64 0] 2)
  exact ⟨0, 0, Nat.zero_le _, rfl, by rw [List.drop_zero]; exact HG, ⟨qQm k0 _⟩, ⟨by have := qY3 (w.alloc (Obj.cells #[.int .i64 0] 2)) (Obj.cells #[.int .i64 0] 33); simpa using this⟩, ⟨((Below.refl _ _).alloc (Nat.le_refl _) _).alloc (by simp) _⟩⟩
 case round =>
  obtain ⟨j, s, hj, rfl, HS, B1, B2, HB⟩ := hrel
  have lt1 := qZr B1.out
  have lt2 := qZr B2.out
  by_cases hlt : j < l0.length
  ·have hd : l0.drop j = rd l0 j :: l0.drop (j + 1) := by
    rw [List.drop_eq_getElem_cons hlt]; congr 1; unfold rd; simp [List.getD_eq_getElem?_getD, hlt]
   have h0 := HS.out
   rw [hd, qZv.go] at h0
   obtain ⟨ad, ea, hx⟩ := Kd.qZx (Kd.qZq HR0.out HB.out) j (by omega) (by omega)
   cases ea
   simp only [Int.toNat_natCast] at hx
   have hc1 : wr.cell? ⟨w.heap.size, 0, none⟩ = some (.int .i64 s) := (qQc B1.out 0).trans rfl
   have hf1 := qQi B1.out 0
   by_cases hg : (isMoney s && (isMoney (rd l0 j) && isMoney (s + rd l0 j))) = true
   ·rw [if_pos hg] at h0
    have HN := am h0
    have H1 := am hg
    clear h0 hg HS hd
    go_wp2_with fail
    have hg := H1.out
    simp only [Bool.and_eq_true] at hg
    refine (qZv.add_ok s (rd l0 j) _ hg.1 hg.2.1 hg.2.2).mono ?_
    clear hg
    rintro e w' ⟨rfl, ⟨nd, rfl⟩⟩
    go_wp2
    go_roundw
    case measure => simp [intOf]; omega
    case rel => exact ⟨j + 1, s + rd l0 j, by omega, by go_num, HN, ⟨qZ6 (qQj B1.out _) 0 _ rfl⟩, ⟨qYr (qQj B2.out _) (by simp) _⟩, ⟨(qZo HB.out _).setCell (Nat.le_refl _) _⟩⟩
   ·rw [if_neg hg] at h0
    have HN := am h0
    have H1 := am (Bool.eq_false_iff.2 hg)
    clear h0 hg HS hd
    go_wp2_with fail
    refine (qZv.zVn s (rd l0 j) _ H1.out).mono ?_
    rintro e w' ⟨rfl, ⟨nd, rfl⟩⟩
    go_wp2
    refine leaves_cons (f := 97) (args := #[.pointer (some ⟨w.heap.size, 0, none⟩), .pointer (some ⟨w.heap.size + 1, 0, none⟩)]) (by simp) (by simp [go_sem]) ?_
    refine (qZv.caught w.heap.size s 0 _ (qQj B1.out _) (qQj B2.out _)).mono ?_
    rintro e u' w'' ⟨rfl, rfl, b1, b2, hb⟩
    have g1 : w''.cell? ⟨w.heap.size, 0, none⟩ = some (.int .i64 0) := (qQc b1 0).trans rfl
    have g2 : w''.cell? ⟨w.heap.size + 1, 0, none⟩ = some (.int .i64 14) := (qQc b2 0).trans rfl
    have hn := HN.out
    simp only [Prod.mk.injEq] at hn
    obtain ⟨rfl, rfl⟩ := hn
    simp [Leaves, settle, results, Tryz.results80, go_sem, g1, g2]
    exact hb w (qZo HB.out _)
  ·have h0 := HS.out
   rw [List.drop_of_length_le (by omega), qZv.go] at h0
   simp only [Prod.mk.injEq] at h0
   obtain ⟨rfl, rfl⟩ := h0
   have hc1 : wr.cell? ⟨w.heap.size, 0, none⟩ = some (.int .i64 s) := (qQc B1.out 0).trans rfl
   have hf1 := qQi B1.out 0
   have k2 := qYr B2.out (p := ⟨w.heap.size, 0, none⟩) (by simp) (.int .i64 s)
   have hc2 : (wr.setCell ⟨w.heap.size, 0, none⟩ (.int .i64 s)).cell? ⟨w.heap.size + 1, 0, none⟩ = some (.int .i64 0) := (qQc k2 0).trans rfl
   have hf2 := qQi k2 0
   have K2 := am k2
   clear k2
   go_wp2
   refine leaves_cons (f := 97) (args := #[.pointer (some ⟨w.heap.size, 0, none⟩), .pointer (some ⟨w.heap.size + 1, 0, none⟩)]) (by simp) (by simp [go_sem]) ?_
   refine (qZv.idle _ _ _).mono ?_
   rintro e u' w'' ⟨rfl, rfl, rfl⟩
   have k1 := qYr (qZ6 (cs' := #[.int .i64 s]) B1.out 0 (.int .i64 s) rfl) (p := ⟨w.heap.size + 1, 0, none⟩) (by simp) (.int .i64 0)
   have k3 := qZ6 (cs' := #[.int .i64 0]) K2.out 0 (.int .i64 0) rfl
   have g1 := (qQc k1 0).trans rfl
   have g2 := (qQc k3 0).trans rfl
   simp [Leaves, settle, results, Tryz.results80, go_sem, g1, g2]
   exact (HB.out.setCell (Nat.le_refl _) _).setCell (by simp) _
def qZ1.f (a0 : Int) (a1 : Int) : Option (Int × Int) := (qZv.f (([a0, a1] : List Int))).bind fun bt117 => (some (bt117.1, bt117.2))
set_option maxHeartbeats 8000000 in
set_option maxRecDepth 100000 in
theorem qZ1.calls (a0 : Int) (a1 : Int) (r1 : Int) (r2 : Int) (w : World) (h : qZ1.f a0 a1 = some (r1, r2)) :
  Calls Tryz.prog 110 #[.int .i64 a0, .int .i64 a1] w fun e w' => e = .returned (.tuple #[.int .i64 r1, .int .i64 r2]) ∧ Below w.heap.size w w' := by
 have HB := am (Below.refl w.heap.size w)
 have H : ((qZv.f (([a0, a1] : List Int))).bind fun bt117 => (some (bt117.1, bt117.2))) = some (r1, r2) := h
 clear h
 obtain ⟨y114, hy114⟩ : ∃ y_ : List Int, y_ = (([a0, a1] : List Int)) := ⟨_, rfl⟩
 replace H : ((qZv.f y114).bind fun bt117 => (some (bt117.1, bt117.2))) = some (r1, r2) := by first | (rw [hy114]; with_reducible exact H) | (have H2_ := (Option.bind_some _ _).symm.trans H; rw [hy114]; with_reducible exact H2_) | (have H2_ := (Option.bind_some _ _).symm.trans H; with_reducible exact H2_) | with_reducible exact H | (rw [hy114]; exact H) | exact H
 have Ny114 := am hy114
 clear hy114
 replace H := Option.bind_eq_some_iff.mp H
 obtain ⟨⟨t117, t118⟩, A30, H⟩ := H
 replace H : (some (t117, t118)) = some (r1, r2) := H
 have A3 := am A30
 clear A30
 simp only [Option.some.injEq, Prod.mk.injEq] at H
 obtain ⟨rfl, rfl⟩ := H
 go_enter Tryz.func110, Tryz.ntmps110
 go_wp2_with (first | ((with_reducible refine qQ0 (N := 8) rfl ?_); refine Kd.R_lit (Kd.int .i64) _ 2 ?hg (N := 8) ?hd (xs := ([a0, a1] : List Int)) (inner := [.int .i64 a0, .int .i64 a1]) (ok := fun _ => True) (okp := fun _ => True) ?hr ?hp (fun _ hk => hk) trivial (Below.refl _ _) (Nat.le_refl _) (by simp) ?_; (case hd => rfl); (case hg => rfl); (case hr => first | (go_simp; done) | (go_simp; rfl)); (case hp => exact (Reps.one (show Kd.M (Kd.int .i64) _ _ _ a0 [.int .i64 a0] from rfl) (Reps.one (show Kd.M (Kd.int .i64) _ _ _ a1 [.int .i64 a1] from rfl) (Reps.none _ _)))); intro v115 w4 ho5 hb hg_ hnew_; clear hg_ hnew_; (first | rw [← Ny114.out] at ho5 | (simp only [Int.reduceToNat] at ho5; rw [← Ny114.out] at ho5)); have n0_ := am (Kd.qYx ho5 (qQd (by exact h0q HB.out))); have n1_ := am (qQb (by exact h0q HB.out) hb); clear HB; have HO116 := n0_; have HB := n1_; clear n0_ n1_; clear hb ho5; obtain ⟨Ao6, co6, eo6⟩ := Kd.qYy HO116.out; subst eo6) | ((with_reducible refine qQh (f := 80) rfl ?_); refine goesL_ (some 9) rfl rfl Tryz.func80 (by kernel_rfl) rfl #[.slice Ao6 y114.length co6] rfl ml ?_; (with_reducible refine (qZv.calls _ _ y114 t117 t118 _ ?side1 ?side2 A3.out).mono ?_); (case side1 => exact cq ((Kd.qZe HO116.out).2.2)); (case side2 => exact (Kd.qZe HO116.out).2.1); rintro e w7 ⟨rfl, hb⟩; refine ⟨_, rfl, ?_⟩; have n0_ := am (Kd.qQt (by exact rq HO116.out) hb); have n1_ := am (qQb (by exact h0q HB.out) hb); clear HO116; clear HB; have HO116 := n0_; have HB := n1_; clear n0_ n1_; (try clear hb); (try clear hb2); (try clear hk); (try clear hi)))
 go_ret2
 exact ⟨er, by exact h0q HB.out⟩
-- NOT PRINTED: function 108 (loan_sum)
def qYq.f (a0 : Int) : Option (Int) := if a0 ≤ 9223372036854775807 then some (if a0 < 0 then 0 else a0 / 1000000) else none
set_option maxHeartbeats 8000000 in
set_option maxRecDepth 100000 in
theorem qYq.calls (a0 : Int) (r : Int) (w : World) (h : qYq.f a0 = some r) :
  Calls Tryz.prog 109 #[.int .i64 a0] w fun e w' => e = .returned (.int .i64 r) ∧ Drawn0 w w' := by
 have hb : a0 ≤ 9223372036854775807 := by
  by_cases c : a0 ≤ 9223372036854775807
  ·exact c
  ·rw [qYq.f, if_neg c] at h; cases h
 rw [qYq.f, if_pos hb] at h
 obtain rfl := Option.some.inj h
 clear h
 by_cases c : a0 < 0
 ·have c1 : decide (a0 < 0) = true := decide_eq_true c
  rw [if_pos c]
  go_enter Tryz.func109, Tryz.ntmps109
  go_wp2
  go_ret
  refine ⟨?_, Drawn0.refl _⟩
  simp [c]
 ·have c1 : decide (a0 < 0) = false := decide_eq_false c
  rw [if_neg c]
  go_enter Tryz.func109, Tryz.ntmps109
  go_wp2
  go_ret
  refine ⟨?_, Drawn0.refl _⟩
  simp [c]
-- NOT PRINTED: function 87 (loan_owes)
-- NOT PRINTED: function 86 (loan_Owes_1)
-- NOT PRINTED: function 51 (qYj)
set_option maxHeartbeats 8000000 in
set_option maxRecDepth 100000 in
theorem qQl.zQs (x : Int) (b : Bool) (w : World) (h : x = 0 ∨ b = false) :
    Calls Tryz.prog 107 #[.int .i64 x, .bool b] w fun e w' => e = .returned (.tuple #[]) ∧ Drawn0 w w' := by
  rcases h with rfl | rfl
  · go_enter Tryz.func107, Tryz.ntmps107
    go_wp2
    go_end0
    exact ⟨by first | rfl | (simp; done), by repeat (first | exact Drawn0.refl _ | apply Drawn0.step)⟩
  · by_cases c : x = 0
    · subst c
      go_enter Tryz.func107, Tryz.ntmps107
      go_wp2
      go_end0
      exact ⟨by first | rfl | (simp; done), by repeat (first | exact Drawn0.refl _ | apply Drawn0.step)⟩
    · have c1 : (x != 0) = true := bne_iff_ne.mpr c
      go_enter Tryz.func107, Tryz.ntmps107
      go_wp2
      go_end0
      exact ⟨by first | rfl | (simp; done), by repeat (first | exact Drawn0.refl _ | apply Drawn0.step)⟩
set_option maxHeartbeats 8000000 in
set_option maxRecDepth 100000 in
theorem qQl.zQ6 (x : Int) (w : World) (h : x ≠ 0) :
    Calls Tryz.prog 107 #[.int .i64 x, .bool true] w fun e w' => e = .panicked [{ v := .iface 33 (.int .i64 x), recovered := false }] ∧ Drawn0 w w' := by
  have c1 : (x == 0) = false := beq_eq_false_iff_ne.mpr h
  have c2 : (x != 0) = true := bne_iff_ne.mpr h
  go_enter Tryz.func107, Tryz.ntmps107
  go_wp2
  exact ⟨rfl, rfl, by repeat (first | exact Drawn0.refl _ | apply Drawn0.step)⟩
def loanC (id pr it su fe ppm : Int) (sd : Bool) (st cl en le fa ct : Int) : Array Value := #[.int .i64 id, .int .i64 pr, .int .i64 it, .int .i64 su, .int .i64 fe, .int .i64 ppm, .bool sd, .int .i64 st, .int .i64 cl, .int .i64 en, .int .i64 le, .int .i64 fa, .int .i64 ct]
theorem qQl.one (id pr it su fe ppm : Int) (sd : Bool) (st cl en le fa ct : Int) : (loanC id pr it su fe ppm sd st cl en le fa ct).all (fun x => x.oneCell') = true := by simp [loanC, Value.oneCell']
structure qQl.Near (a b : Nat) (w w' : World) : Prop where
  os : w'.os = w.os
  tape : w'.tape = w.tape
  output : w'.output = w.output
  size : w.heap.size ≤ w'.heap.size
  block : ∀ k, k < w.heap.size → k ≠ a → k ≠ b → w'.heap[k]? = w.heap[k]?
theorem qQl.Near.of_below {a b : Nat} {w w' : World} (h : Below w.heap.size w w') : qQl.Near a b w w' := ⟨h.os, h.tape, h.output, h.size, fun k hk _ _ => h.block k hk⟩
section
variable {P : Program} {ops : Array Oper} {rest : List Oper} {o : Oper} {a : Act} {W : World} {Q : Exit → Act → World → Prop}
theorem qQl.gate (ty : TypeId) (x y : Operand) (ho : o.op = .store ty x y) (h : wpList P ops Q (o :: rest) a W) : wpList P ops Q (o :: rest) a W := h
def qQl.Mark (p : Prop) : Prop := p
theorem qQl.MARK {p : Prop} (h : qQl.Mark p) : p := h
theorem qQl.st (hgd : o.guard = none) (ty : TypeId) (x y : Operand) (ho : o.op = .store ty x y) (hd : o.dst = none) (g : Nat) (cells : Array Value) (hx : a.eval x = .pointer (some ⟨g, 0, none⟩)) (hy : a.eval y = .agg cells)
    (t : TypeId) (old : Array Value) (hg : W.heap[g]? = some (.cells old t (0, 0))) (hi : (P.info? ty).map (·.size) = some cells.size) (hold : old.size = cells.size) (h1 : cells.all (·.oneCell') = true)
    (h : wpList P ops Q rest a (W.setRow g cells)) : wpList P ops Q (o :: rest) a W :=
  wpList_plain hgd fun K hK => wp_store_row ty x y ho g cells hx hy t old hg hi hold h1 (by rw [hd]; exact hK _ _ h)
end
theorem qQl.kept {w w' : World} {i : Nat} {o : Obj} (hb : Below w.heap.size w w') (h : w.heap[i]? = some o) : w'.heap[i]? = some o := (hb.block i (qZr h)).trans h
set_option maxHeartbeats 8000000 in
set_option maxRecDepth 100000 in
theorem qQl.idle (p q : Addr) (w : World) :
    CallsD Tryz.prog 106 #[.pointer (some p), .pointer (some q)] .returning w fun e u' w' => e = .returned (.tuple #[]) ∧ u' = .returning ∧ w' = w := by
  refine callsD_of_wpS Tryz.func106 rfl fun c₀ cs hu => ?_
  apply wpS_seq
  apply wpS_region
  simp [wpOpsS, go_sem, recoverD, hu, Tryz.ntmps106, Exit.thenS]
  refine wpS_of_wp ?_
  go_wp2
  cases c₀
  simp_all [bodyPostS, results, Tryz.results106]
set_option maxHeartbeats 8000000 in
set_option maxRecDepth 100000 in
theorem qQl.caught (g : Nat) (x : Int) (cs₁ : Array Value) (y : Int) (w : World) (hcs : cs₁.size = 13) (h1 : w.heap[g]? = some (.cells cs₁ 48 (0, 0))) (h2 : w.heap[g + 1]? = some (.cells #[.int .i64 y] 33 (0, 0))) :
    CallsD Tryz.prog 106 #[.pointer (some ⟨g, 0, none⟩), .pointer (some ⟨g + 1, 0, none⟩)] (.panicking [{ v := .iface 33 (.int .i64 x), recovered := false }]) w fun e u' w' =>
      e = .returned (.tuple #[]) ∧ u' = .panicking [{ v := .iface 33 (.int .i64 x), recovered := true }] ∧
      w'.heap[g]? = some (.cells (loanC 0 0 0 0 0 0 false 0 0 0 0 0 0) 48 (0, 0)) ∧ w'.heap[g + 1]? = some (.cells #[.int .i64 x] 33 (0, 0)) ∧ ∀ B W, B ≤ g → Below B W w → Below B W w' := by
  have hl := qZr h2
  have hta : ∀ (v : Value) (W : World), (Instr.typeAssert (.iface 33 v) 20 33 true).run Tryz.prog W = .ok (.tuple #[v, .bool true]) W := fun v W => by rfl
  refine callsD_of_wpS Tryz.func106 rfl fun c₀ cs hu => ?_
  apply wpS_seq
  apply wpS_region
  simp [wpOpsS, go_sem, recoverD, hu, Tryz.ntmps106, Exit.thenS]
  refine wpS_of_wp ?_
  have h1' := am h1
  have h2' := am h2
  clear h1 h2
  have k2 : (w.setRow g (loanC 0 0 0 0 0 0 false 0 0 0 0 0 0)).heap[g + 1]? = some (.cells #[.int .i64 y] 33 (0, 0)) := (setRow_other w g (g + 1) _ (by omega)).trans h2'.out
  have d2 : (w.setRow g (loanC 0 0 0 0 0 0 false 0 0 0 0 0 0)).cell? ⟨g + 1, 0, none⟩ = some (.int .i64 y) := (qQc k2 0).trans rfl
  have e2 := qQi k2 0
  have K2 := am k2
  clear k2
  go_wp2_with ((with_reducible refine qQl.gate 48 (.tmp 0) (.tmp 11) rfl ?_); refine qQl.MARK ?_)
  unfold qQl.Mark
  (refine qQl.st rfl 48 (.tmp 0) (.tmp 11) rfl rfl g (loanC 0 0 0 0 0 0 false 0 0 0 0 0 0) ?hx ?hy 48 cs₁ h1'.out (by kernel_rfl) hcs (qQl.one _ _ _ _ _ _ _ _ _ _ _ _ _) ?_); (case hx => simp [go_sem]); (case hy => simp [go_sem, loanC])
  go_wp2
  cases c₀
  simp only at hu
  subst hu
  refine ⟨rfl, _, rfl, _, results_none rfl _ _ _, rfl, rfl, qYr (setRow_heap w g _ _ 48 (0, 0) h1'.out) (by simp) _, qZ6 K2.out 0 _ rfl, fun B W hB hb => ?_⟩
  exact (below_setRow hb hB _).setCell (by simp; omega) _
section
variable {P : Program} {ops : Array Oper} {Q : Exit → Act → World → Prop} {md : Region.Mode} {S : World → Prop} {fuel : Nat} {listed : Array Bool} {a : Act} {w : World}
end
theorem qQl.Near.fin {c : Nat} {w Wc w2 W3 : World} (h1 : Below w.heap.size w Wc) (h2 : qQl.Near w.heap.size c Wc w2) (h3 : Below w.heap.size w2 W3) : qQl.Near c c w W3 :=
  ⟨h3.os.trans (h2.os.trans h1.os), h3.tape.trans (h2.tape.trans h1.tape), h3.output.trans (h2.output.trans h1.output), Nat.le_trans h1.size (Nat.le_trans h2.size h3.size),
    fun k hk hc _ => (h3.block k hk).trans ((h2.block k (Nat.lt_of_lt_of_le hk h1.size) (Nat.ne_of_lt hk) hc).trans (h1.block k hk))⟩
set_option maxHeartbeats 8000000 in
set_option maxRecDepth 100000 in
theorem qQl.zXt (k : Nat) (id pr it su fe ppm : Int) (sd : Bool) (st cl en le fa ct : Int) (F : Value) (w : World) (h : qQu.f k id pr it su fe ppm sd st cl en le fa ct = some false) :
    Calls Tryz.prog 85 #[.agg (loanC id pr it su fe ppm sd st cl en le fa ct), F] w fun e w' => e = .returned (.tuple #[.agg (loanC 0 0 0 0 0 0 false 0 0 0 0 0 0), .int .i64 1]) ∧ Below w.heap.size w w' := by
  have H := am h
  clear h
  have hmf : ∀ (fn : Fn) (first cap : Array Value) (w : World), (Instr.makeFunc fn first cap).run Tryz.prog w = .ok (.func fn first cap) w := fun _ _ _ _ => rfl
  unfold loanC
  go_enter_defers Tryz.func85, Tryz.ntmps85
  go_upto_region 1 with (fail)
  obtain ⟨W, hW⟩ : ∃ W, W = ((w.alloc (Obj.cells #[.int .i64 id, .int .i64 pr, .int .i64 it, .int .i64 su, .int .i64 fe, .int .i64 ppm, .bool sd, .int .i64 st, .int .i64 cl, .int .i64 en, .int .i64 le, .int .i64 fa, .int .i64 ct] 48)).alloc (Obj.cells #[.int .i64 0, .int .i64 0, .int .i64 0, .int .i64 0, .int .i64 0, .int .i64 0, .bool false, .int .i64 0, .int .i64 0, .int .i64 0, .int .i64 0, .int .i64 0, .int .i64 0] 48)).alloc (Obj.cells #[.int .i64 0] 33) := ⟨_, rfl⟩
  have B0 : Aside0 (W.heap[w.heap.size]? = some (.cells (loanC id pr it su fe ppm sd st cl en le fa ct) 48 (0, 0))) := ⟨by rw [hW]; exact qQm (qQm (qY3 w _) _) _⟩
  have B1 : Aside0 (W.heap[w.heap.size + 1]? = some (.cells (loanC 0 0 0 0 0 0 false 0 0 0 0 0 0) 48 (0, 0))) := ⟨by
    have := qQm (qY3 (w.alloc (Obj.cells #[.int .i64 id, .int .i64 pr, .int .i64 it, .int .i64 su, .int .i64 fe, .int .i64 ppm, .bool sd, .int .i64 st, .int .i64 cl, .int .i64 en, .int .i64 le, .int .i64 fa, .int .i64 ct] 48)) (Obj.cells #[.int .i64 0, .int .i64 0, .int .i64 0, .int .i64 0, .int .i64 0, .int .i64 0, .bool false, .int .i64 0, .int .i64 0, .int .i64 0, .int .i64 0, .int .i64 0, .int .i64 0] 48)) (Obj.cells #[.int .i64 0] 33)
    rw [hW]; simpa [loanC] using this⟩
  have B2 : Aside0 (W.heap[w.heap.size + 2]? = some (.cells #[.int .i64 0] 33 (0, 0))) := ⟨by
    have := qY3 ((w.alloc (Obj.cells #[.int .i64 id, .int .i64 pr, .int .i64 it, .int .i64 su, .int .i64 fe, .int .i64 ppm, .bool sd, .int .i64 st, .int .i64 cl, .int .i64 en, .int .i64 le, .int .i64 fa, .int .i64 ct] 48)).alloc (Obj.cells #[.int .i64 0, .int .i64 0, .int .i64 0, .int .i64 0, .int .i64 0, .int .i64 0, .bool false, .int .i64 0, .int .i64 0, .int .i64 0, .int .i64 0, .int .i64 0, .int .i64 0] 48)) (Obj.cells #[.int .i64 0] 33)
    rw [hW]; simpa using this⟩
  have HB : Aside0 (Below w.heap.size w W) := ⟨by rw [hW]; exact (((Below.refl _ _).alloc (Nat.le_refl _) _).alloc (by simp) _).alloc (by simp; omega) _⟩
  rw [← hW]
  clear hW
  rw [show w.heap.size + 1 + 1 = w.heap.size + 2 from rfl]
  have c0 : W.cell? ⟨w.heap.size, 0, none⟩ = some (.int .i64 id) := (qQc B0.out 0).trans rfl
  have c1 : W.cell? ⟨w.heap.size, 1, none⟩ = some (.int .i64 pr) := (qQc B0.out 1).trans rfl
  have c2 : W.cell? ⟨w.heap.size, 2, none⟩ = some (.int .i64 it) := (qQc B0.out 2).trans rfl
  have c3 : W.cell? ⟨w.heap.size, 3, none⟩ = some (.int .i64 su) := (qQc B0.out 3).trans rfl
  have c4 : W.cell? ⟨w.heap.size, 4, none⟩ = some (.int .i64 fe) := (qQc B0.out 4).trans rfl
  have c5 : W.cell? ⟨w.heap.size, 5, none⟩ = some (.int .i64 ppm) := (qQc B0.out 5).trans rfl
  have c6 : W.cell? ⟨w.heap.size, 6, none⟩ = some (.bool sd) := (qQc B0.out 6).trans rfl
  have c7 : W.cell? ⟨w.heap.size, 7, none⟩ = some (.int .i64 st) := (qQc B0.out 7).trans rfl
  have c8 : W.cell? ⟨w.heap.size, 8, none⟩ = some (.int .i64 cl) := (qQc B0.out 8).trans rfl
  have c9 : W.cell? ⟨w.heap.size, 9, none⟩ = some (.int .i64 en) := (qQc B0.out 9).trans rfl
  have c10 : W.cell? ⟨w.heap.size, 10, none⟩ = some (.int .i64 le) := (qQc B0.out 10).trans rfl
  have c11 : W.cell? ⟨w.heap.size, 11, none⟩ = some (.int .i64 fa) := (qQc B0.out 11).trans rfl
  have c12 : W.cell? ⟨w.heap.size, 12, none⟩ = some (.int .i64 ct) := (qQc B0.out 12).trans rfl
  go_wp2_with (first | (go_at_call 26; (with_reducible refine (qQu.calls k id pr it su fe ppm sd st cl en le fa ct false _ H.out).mono ?_); rintro e w1 ⟨rfl, hb⟩) | (go_at_call 107; (with_reducible refine (qQl.zQ6 1 _ (by decide)).mono ?_); rintro e w' ⟨rfl, ⟨nd, rfl⟩⟩))
  have K0 := am (qQj (qQl.kept hb B1.out) nd)
  have K1 := am (qQj (qQl.kept hb B2.out) nd)
  have HC : Below w.heap.size w (w1.drewN nd) := qZo (qQb HB.out hb) nd
  refine leaves_cons (f := 106) (args := #[.pointer (some ⟨w.heap.size + 1, 0, none⟩), .pointer (some ⟨w.heap.size + 2, 0, none⟩)]) (by simp) (by simp [go_sem]) ?_
  refine (qQl.caught (w.heap.size + 1) 1 _ 0 _ rfl K0.out K1.out).mono ?_
  rintro e u' w'' ⟨rfl, rfl, b1, b2, hB⟩
  have z0 : w''.cell? ⟨w.heap.size + 1, 0, none⟩ = some (.int .i64 0) := (qQc b1 0).trans rfl
  have z1 : w''.cell? ⟨w.heap.size + 1, 1, none⟩ = some (.int .i64 0) := (qQc b1 1).trans rfl
  have z2 : w''.cell? ⟨w.heap.size + 1, 2, none⟩ = some (.int .i64 0) := (qQc b1 2).trans rfl
  have z3 : w''.cell? ⟨w.heap.size + 1, 3, none⟩ = some (.int .i64 0) := (qQc b1 3).trans rfl
  have z4 : w''.cell? ⟨w.heap.size + 1, 4, none⟩ = some (.int .i64 0) := (qQc b1 4).trans rfl
  have z5 : w''.cell? ⟨w.heap.size + 1, 5, none⟩ = some (.int .i64 0) := (qQc b1 5).trans rfl
  have z6 : w''.cell? ⟨w.heap.size + 1, 6, none⟩ = some (.bool false) := (qQc b1 6).trans rfl
  have z7 : w''.cell? ⟨w.heap.size + 1, 7, none⟩ = some (.int .i64 0) := (qQc b1 7).trans rfl
  have z8 : w''.cell? ⟨w.heap.size + 1, 8, none⟩ = some (.int .i64 0) := (qQc b1 8).trans rfl
  have z9 : w''.cell? ⟨w.heap.size + 1, 9, none⟩ = some (.int .i64 0) := (qQc b1 9).trans rfl
  have z10 : w''.cell? ⟨w.heap.size + 1, 10, none⟩ = some (.int .i64 0) := (qQc b1 10).trans rfl
  have z11 : w''.cell? ⟨w.heap.size + 1, 11, none⟩ = some (.int .i64 0) := (qQc b1 11).trans rfl
  have z12 : w''.cell? ⟨w.heap.size + 1, 12, none⟩ = some (.int .i64 0) := (qQc b1 12).trans rfl
  have g1 : w''.cell? ⟨w.heap.size + 2, 0, none⟩ = some (.int .i64 1) := (qQc b2 0).trans rfl
  simp [Leaves, settle, results, Tryz.results85, go_sem, z0, z1, z2, z3, z4, z5, z6, z7, z8, z9, z10, z11, z12, g1, loanC]
  exact hB _ w (by omega) HC
set_option maxHeartbeats 8000000 in
set_option maxRecDepth 100000 in
theorem qQl.zVa (k : Nat) (id pr it su fe ppm : Int) (sd : Bool) (st cl en le fa ct : Int) (f : Nat) (caps : Array Value) (id' pr' it' su' fe' ppm' : Int) (sd' : Bool) (st' cl' en' le' fa' ct' : Int) (c : Nat) (o : Obj) (w : World)
    (hc : c ≤ w.heap.size) (hf : ∀ args W, (callFunc f args).run Tryz.prog W = .ok (.enter f args) W)
    (h : qQu.f k id pr it su fe ppm sd st cl en le fa ct = some true)
    (hK : ∀ W, W.heap[w.heap.size]? = some (.cells (loanC id pr it su fe ppm sd st cl en le fa ct) 48 (0, 0)) → w.heap.size + 3 ≤ W.heap.size → Below w.heap.size w W →
      Calls Tryz.prog f (#[.pointer (some ⟨w.heap.size, 0, none⟩)] ++ caps) W fun e W' => e = .returned (.tuple #[]) ∧ W'.heap[w.heap.size]? = some (.cells (loanC id' pr' it' su' fe' ppm' sd' st' cl' en' le' fa' ct') 48 (0, 0)) ∧ qQl.Near w.heap.size c W W' ∧ (c < w.heap.size → W'.heap[c]? = some o)) :
    Calls Tryz.prog 85 #[.agg (loanC id pr it su fe ppm sd st cl en le fa ct), .func (.func f) #[] caps] w fun e w' => e = .returned (.tuple #[.agg (loanC id' pr' it' su' fe' ppm' sd' st' cl' en' le' fa' ct'), .int .i64 0]) ∧ qQl.Near c c w w' ∧ (c < w.heap.size → w'.heap[c]? = some o) := by
  have H := am h
  have HK := am hK
  clear h hK
  have hmf : ∀ (fn : Fn) (first cap : Array Value) (w : World), (Instr.makeFunc fn first cap).run Tryz.prog w = .ok (.func fn first cap) w := fun _ _ _ _ => rfl
  unfold loanC
  go_enter_defers Tryz.func85, Tryz.ntmps85
  go_upto_region 1 with (fail)
  obtain ⟨W, hW⟩ : ∃ W, W = ((w.alloc (Obj.cells #[.int .i64 id, .int .i64 pr, .int .i64 it, .int .i64 su, .int .i64 fe, .int .i64 ppm, .bool sd, .int .i64 st, .int .i64 cl, .int .i64 en, .int .i64 le, .int .i64 fa, .int .i64 ct] 48)).alloc (Obj.cells #[.int .i64 0, .int .i64 0, .int .i64 0, .int .i64 0, .int .i64 0, .int .i64 0, .bool false, .int .i64 0, .int .i64 0, .int .i64 0, .int .i64 0, .int .i64 0, .int .i64 0] 48)).alloc (Obj.cells #[.int .i64 0] 33) := ⟨_, rfl⟩
  have B0 : Aside0 (W.heap[w.heap.size]? = some (.cells (loanC id pr it su fe ppm sd st cl en le fa ct) 48 (0, 0))) := ⟨by rw [hW]; exact qQm (qQm (qY3 w _) _) _⟩
  have B1 : Aside0 (W.heap[w.heap.size + 1]? = some (.cells (loanC 0 0 0 0 0 0 false 0 0 0 0 0 0) 48 (0, 0))) := ⟨by
    have := qQm (qY3 (w.alloc (Obj.cells #[.int .i64 id, .int .i64 pr, .int .i64 it, .int .i64 su, .int .i64 fe, .int .i64 ppm, .bool sd, .int .i64 st, .int .i64 cl, .int .i64 en, .int .i64 le, .int .i64 fa, .int .i64 ct] 48)) (Obj.cells #[.int .i64 0, .int .i64 0, .int .i64 0, .int .i64 0, .int .i64 0, .int .i64 0, .bool false, .int .i64 0, .int .i64 0, .int .i64 0, .int .i64 0, .int .i64 0, .int .i64 0] 48)) (Obj.cells #[.int .i64 0] 33)
    rw [hW]; simpa [loanC] using this⟩
  have B2 : Aside0 (W.heap[w.heap.size + 2]? = some (.cells #[.int .i64 0] 33 (0, 0))) := ⟨by
    have := qY3 ((w.alloc (Obj.cells #[.int .i64 id, .int .i64 pr, .int .i64 it, .int .i64 su, .int .i64 fe, .int .i64 ppm, .bool sd, .int .i64 st, .int .i64 cl, .int .i64 en, .int .i64 le, .int .i64 fa, .int .i64 ct] 48)).alloc (Obj.cells #[.int .i64 0, .int .i64 0, .int .i64 0, .int .i64 0, .int .i64 0, .int .i64 0, .bool false, .int .i64 0, .int .i64 0, .int .i64 0, .int .i64 0, .int .i64 0, .int .i64 0] 48)) (Obj.cells #[.int .i64 0] 33)
    rw [hW]; simpa using this⟩
  have HB : Aside0 (Below w.heap.size w W) := ⟨by rw [hW]; exact (((Below.refl _ _).alloc (Nat.le_refl _) _).alloc (by simp) _).alloc (by simp; omega) _⟩
  rw [← hW]
  clear hW
  rw [show w.heap.size + 1 + 1 = w.heap.size + 2 from rfl]
  have c0 : W.cell? ⟨w.heap.size, 0, none⟩ = some (.int .i64 id) := (qQc B0.out 0).trans rfl
  have c1 : W.cell? ⟨w.heap.size, 1, none⟩ = some (.int .i64 pr) := (qQc B0.out 1).trans rfl
  have c2 : W.cell? ⟨w.heap.size, 2, none⟩ = some (.int .i64 it) := (qQc B0.out 2).trans rfl
  have c3 : W.cell? ⟨w.heap.size, 3, none⟩ = some (.int .i64 su) := (qQc B0.out 3).trans rfl
  have c4 : W.cell? ⟨w.heap.size, 4, none⟩ = some (.int .i64 fe) := (qQc B0.out 4).trans rfl
  have c5 : W.cell? ⟨w.heap.size, 5, none⟩ = some (.int .i64 ppm) := (qQc B0.out 5).trans rfl
  have c6 : W.cell? ⟨w.heap.size, 6, none⟩ = some (.bool sd) := (qQc B0.out 6).trans rfl
  have c7 : W.cell? ⟨w.heap.size, 7, none⟩ = some (.int .i64 st) := (qQc B0.out 7).trans rfl
  have c8 : W.cell? ⟨w.heap.size, 8, none⟩ = some (.int .i64 cl) := (qQc B0.out 8).trans rfl
  have c9 : W.cell? ⟨w.heap.size, 9, none⟩ = some (.int .i64 en) := (qQc B0.out 9).trans rfl
  have c10 : W.cell? ⟨w.heap.size, 10, none⟩ = some (.int .i64 le) := (qQc B0.out 10).trans rfl
  have c11 : W.cell? ⟨w.heap.size, 11, none⟩ = some (.int .i64 fa) := (qQc B0.out 11).trans rfl
  have c12 : W.cell? ⟨w.heap.size, 12, none⟩ = some (.int .i64 ct) := (qQc B0.out 12).trans rfl
  go_wp2_with (first | (go_at_call 26; (with_reducible refine (qQu.calls k id pr it su fe ppm sd st cl en le fa ct true _ H.out).mono ?_); rintro e w1 ⟨rfl, hb⟩) | (go_at_call 107; (with_reducible refine (qQl.zQs 1 false _ (.inr rfl)).mono ?_); rintro e w' ⟨rfl, ⟨nd, rfl⟩⟩))
  have K0 := qQj (qQl.kept hb B0.out) nd
  have HC : Below w.heap.size w (w1.drewN nd) := qZo (qQb HB.out hb) nd
  refine (HK.out _ K0 (by have := qZr (qQj (qQl.kept hb B2.out) nd); omega) HC).mono ?_
  rintro e w2 ⟨rfl, b0, hN, hO⟩
  have k1 : w2.heap[w.heap.size + 1]? = some (.cells (loanC 0 0 0 0 0 0 false 0 0 0 0 0 0) 48 (0, 0)) := (hN.block _ (qZr (qQj (qQl.kept hb B1.out) nd)) (by omega) (by omega)).trans (qQj (qQl.kept hb B1.out) nd)
  have k2 : w2.heap[w.heap.size + 2]? = some (.cells #[.int .i64 0] 33 (0, 0)) := (hN.block _ (qZr (qQj (qQl.kept hb B2.out) nd)) (by omega) (by omega)).trans (qQj (qQl.kept hb B2.out) nd)
  have y0 : w2.cell? ⟨w.heap.size, 0, none⟩ = some (.int .i64 id') := (qQc b0 0).trans rfl
  have y1 : w2.cell? ⟨w.heap.size, 1, none⟩ = some (.int .i64 pr') := (qQc b0 1).trans rfl
  have y2 : w2.cell? ⟨w.heap.size, 2, none⟩ = some (.int .i64 it') := (qQc b0 2).trans rfl
  have y3 : w2.cell? ⟨w.heap.size, 3, none⟩ = some (.int .i64 su') := (qQc b0 3).trans rfl
  have y4 : w2.cell? ⟨w.heap.size, 4, none⟩ = some (.int .i64 fe') := (qQc b0 4).trans rfl
  have y5 : w2.cell? ⟨w.heap.size, 5, none⟩ = some (.int .i64 ppm') := (qQc b0 5).trans rfl
  have y6 : w2.cell? ⟨w.heap.size, 6, none⟩ = some (.bool sd') := (qQc b0 6).trans rfl
  have y7 : w2.cell? ⟨w.heap.size, 7, none⟩ = some (.int .i64 st') := (qQc b0 7).trans rfl
  have y8 : w2.cell? ⟨w.heap.size, 8, none⟩ = some (.int .i64 cl') := (qQc b0 8).trans rfl
  have y9 : w2.cell? ⟨w.heap.size, 9, none⟩ = some (.int .i64 en') := (qQc b0 9).trans rfl
  have y10 : w2.cell? ⟨w.heap.size, 10, none⟩ = some (.int .i64 le') := (qQc b0 10).trans rfl
  have y11 : w2.cell? ⟨w.heap.size, 11, none⟩ = some (.int .i64 fa') := (qQc b0 11).trans rfl
  have y12 : w2.cell? ⟨w.heap.size, 12, none⟩ = some (.int .i64 ct') := (qQc b0 12).trans rfl
  have q2 : (w2.setRow (w.heap.size + 1) (loanC id' pr' it' su' fe' ppm' sd' st' cl' en' le' fa' ct')).heap[w.heap.size + 2]? = some (.cells #[.int .i64 0] 33 (0, 0)) := (setRow_other _ _ _ _ (by omega)).trans k2
  have d2 : (w2.setRow (w.heap.size + 1) (loanC id' pr' it' su' fe' ppm' sd' st' cl' en' le' fa' ct')).cell? ⟨w.heap.size + 2, 0, none⟩ = some (.int .i64 0) := (qQc q2 0).trans rfl
  have e2 := qQi q2 0
  have K1 := am k1
  have K2 := am k2
  have Q2 := am q2
  have BO := am b0
  have HN := am hN
  have HO := am hO
  have HCC := am HC
  have HCl := am hc
  clear k1 k2 q2 b0 hN hO HC hb hc c0 c1 c2 c3 c4 c5 c6 c7 c8 c9 c10 c11 c12
  go_wp2_with ((with_reducible refine qQl.gate 48 (.tmp 4) (.tmp 13) rfl ?_); refine qQl.MARK ?_)
  unfold qQl.Mark
  refine qQl.st rfl 48 (.tmp 4) (.tmp 13) rfl rfl (w.heap.size + 1) (loanC id' pr' it' su' fe' ppm' sd' st' cl' en' le' fa' ct') ?hx ?hy 48 _ K1.out (by kernel_rfl) rfl (qQl.one _ _ _ _ _ _ _ _ _ _ _ _ _) ?_
  case hx => simp [go_sem]
  case hy => simp [go_sem, loanC]
  go_wp2
  obtain ⟨W3, hW3⟩ : ∃ W3, W3 = (w2.setRow (w.heap.size + 1) (loanC id' pr' it' su' fe' ppm' sd' st' cl' en' le' fa' ct')).setCell ⟨w.heap.size + 2, 0, none⟩ (.int .i64 0) := ⟨_, rfl⟩
  have h31 : W3.heap[w.heap.size + 1]? = some (.cells (loanC id' pr' it' su' fe' ppm' sd' st' cl' en' le' fa' ct') 48 (0, 0)) := by rw [hW3]; exact qYr (setRow_heap w2 _ _ _ 48 (0, 0) K1.out) (by simp) _
  have h32 : W3.heap[w.heap.size + 2]? = some (.cells #[.int .i64 0] 33 (0, 0)) := by rw [hW3]; exact qZ6 Q2.out 0 _ rfl
  have h33 : Below w.heap.size w2 W3 := by rw [hW3]; exact (below_setRow (Below.refl _ _) (by omega) _).setCell (by simp) _
  rw [← hW3]
  clear hW3
  refine leaves_cons (f := 106) (args := #[.pointer (some ⟨w.heap.size + 1, 0, none⟩), .pointer (some ⟨w.heap.size + 2, 0, none⟩)]) (by simp) (by simp [go_sem]) ?_
  refine (qQl.idle _ _ _).mono ?_
  rintro e u' w'' ⟨rfl, rfl, rfl⟩
  have z0 : w''.cell? ⟨w.heap.size + 1, 0, none⟩ = some (.int .i64 id') := (qQc h31 0).trans rfl
  have z1 : w''.cell? ⟨w.heap.size + 1, 1, none⟩ = some (.int .i64 pr') := (qQc h31 1).trans rfl
  have z2 : w''.cell? ⟨w.heap.size + 1, 2, none⟩ = some (.int .i64 it') := (qQc h31 2).trans rfl
  have z3 : w''.cell? ⟨w.heap.size + 1, 3, none⟩ = some (.int .i64 su') := (qQc h31 3).trans rfl
  have z4 : w''.cell? ⟨w.heap.size + 1, 4, none⟩ = some (.int .i64 fe') := (qQc h31 4).trans rfl
  have z5 : w''.cell? ⟨w.heap.size + 1, 5, none⟩ = some (.int .i64 ppm') := (qQc h31 5).trans rfl
  have z6 : w''.cell? ⟨w.heap.size + 1, 6, none⟩ = some (.bool sd') := (qQc h31 6).trans rfl
  have z7 : w''.cell? ⟨w.heap.size + 1, 7, none⟩ = some (.int .i64 st') := (qQc h31 7).trans rfl
  have z8 : w''.cell? ⟨w.heap.size + 1, 8, none⟩ = some (.int .i64 cl') := (qQc h31 8).trans rfl
  have z9 : w''.cell? ⟨w.heap.size + 1, 9, none⟩ = some (.int .i64 en') := (qQc h31 9).trans rfl
  have z10 : w''.cell? ⟨w.heap.size + 1, 10, none⟩ = some (.int .i64 le') := (qQc h31 10).trans rfl
  have z11 : w''.cell? ⟨w.heap.size + 1, 11, none⟩ = some (.int .i64 fa') := (qQc h31 11).trans rfl
  have z12 : w''.cell? ⟨w.heap.size + 1, 12, none⟩ = some (.int .i64 ct') := (qQc h31 12).trans rfl
  have g1 : w''.cell? ⟨w.heap.size + 2, 0, none⟩ = some (.int .i64 0) := (qQc h32 0).trans rfl
  simp [Leaves, settle, results, Tryz.results85, go_sem, z0, z1, z2, z3, z4, z5, z6, z7, z8, z9, z10, z11, z12, g1, loanC]
  exact ⟨qQl.Near.fin HCC.out HN.out h33, fun h => (h33.block _ h).trans (HO.out h)⟩
set_option maxHeartbeats 8000000 in
set_option maxRecDepth 100000 in
theorem qQl.zQ2 (k : Nat) (id pr it su fe ppm : Int) (sd : Bool) (st cl en le fa ct : Int) (f : Nat) (caps : Array Value) (x : Int) (c : Nat) (o : Obj) (w : World)
    (hc : c ≤ w.heap.size) (hf : ∀ args W, (callFunc f args).run Tryz.prog W = .ok (.enter f args) W)
    (h : qQu.f k id pr it su fe ppm sd st cl en le fa ct = some true)
    (hK : ∀ W, W.heap[w.heap.size]? = some (.cells (loanC id pr it su fe ppm sd st cl en le fa ct) 48 (0, 0)) → w.heap.size + 3 ≤ W.heap.size → Below w.heap.size w W →
      Calls Tryz.prog f (#[.pointer (some ⟨w.heap.size, 0, none⟩)] ++ caps) W fun e W' => e = .panicked [{ v := .iface 33 (.int .i64 x), recovered := false }] ∧ qQl.Near w.heap.size c W W' ∧ (c < w.heap.size → W'.heap[c]? = some o)) :
    Calls Tryz.prog 85 #[.agg (loanC id pr it su fe ppm sd st cl en le fa ct), .func (.func f) #[] caps] w fun e w' => e = .returned (.tuple #[.agg (loanC 0 0 0 0 0 0 false 0 0 0 0 0 0), .int .i64 x]) ∧ qQl.Near c c w w' ∧ (c < w.heap.size → w'.heap[c]? = some o) := by
  have H := am h
  have HK := am hK
  clear h hK
  have hmf : ∀ (fn : Fn) (first cap : Array Value) (w : World), (Instr.makeFunc fn first cap).run Tryz.prog w = .ok (.func fn first cap) w := fun _ _ _ _ => rfl
  unfold loanC
  go_enter_defers Tryz.func85, Tryz.ntmps85
  go_upto_region 1 with (fail)
  obtain ⟨W, hW⟩ : ∃ W, W = ((w.alloc (Obj.cells #[.int .i64 id, .int .i64 pr, .int .i64 it, .int .i64 su, .int .i64 fe, .int .i64 ppm, .bool sd, .int .i64 st, .int .i64 cl, .int .i64 en, .int .i64 le, .int .i64 fa, .int .i64 ct] 48)).alloc (Obj.cells #[.int .i64 0, .int .i64 0, .int .i64 0, .int .i64 0, .int .i64 0, .int .i64 0, .bool false, .int .i64 0, .int .i64 0, .int .i64 0, .int .i64 0, .int .i64 0, .int .i64 0] 48)).alloc (Obj.cells #[.int .i64 0] 33) := ⟨_, rfl⟩
  have B0 : Aside0 (W.heap[w.heap.size]? = some (.cells (loanC id pr it su fe ppm sd st cl en le fa ct) 48 (0, 0))) := ⟨by rw [hW]; exact qQm (qQm (qY3 w _) _) _⟩
  have B1 : Aside0 (W.heap[w.heap.size + 1]? = some (.cells (loanC 0 0 0 0 0 0 false 0 0 0 0 0 0) 48 (0, 0))) := ⟨by
    have := qQm (qY3 (w.alloc (Obj.cells #[.int .i64 id, .int .i64 pr, .int .i64 it, .int .i64 su, .int .i64 fe, .int .i64 ppm, .bool sd, .int .i64 st, .int .i64 cl, .int .i64 en, .int .i64 le, .int .i64 fa, .int .i64 ct] 48)) (Obj.cells #[.int .i64 0, .int .i64 0, .int .i64 0, .int .i64 0, .int .i64 0, .int .i64 0, .bool false, .int .i64 0, .int .i64 0, .int .i64 0, .int .i64 0, .int .i64 0, .int .i64 0] 48)) (Obj.cells #[.int .i64 0] 33)
    rw [hW]; simpa [loanC] using this⟩
  have B2 : Aside0 (W.heap[w.heap.size + 2]? = some (.cells #[.int .i64 0] 33 (0, 0))) := ⟨by
    have := qY3 ((w.alloc (Obj.cells #[.int .i64 id, .int .i64 pr, .int .i64 it, .int .i64 su, .int .i64 fe, .int .i64 ppm, .bool sd, .int .i64 st, .int .i64 cl, .int .i64 en, .int .i64 le, .int .i64 fa, .int .i64 ct] 48)).alloc (Obj.cells #[.int .i64 0, .int .i64 0, .int .i64 0, .int .i64 0, .int .i64 0, .int .i64 0, .bool false, .int .i64 0, .int .i64 0, .int .i64 0, .int .i64 0, .int .i64 0, .int .i64 0] 48)) (Obj.cells #[.int .i64 0] 33)
    rw [hW]; simpa using this⟩
  have HB : Aside0 (Below w.heap.size w W) := ⟨by rw [hW]; exact (((Below.refl _ _).alloc (Nat.le_refl _) _).alloc (by simp) _).alloc (by simp; omega) _⟩
  rw [← hW]
  clear hW
  rw [show w.heap.size + 1 + 1 = w.heap.size + 2 from rfl]
  have c0 : W.cell? ⟨w.heap.size, 0, none⟩ = some (.int .i64 id) := (qQc B0.out 0).trans rfl
  have c1 : W.cell? ⟨w.heap.size, 1, none⟩ = some (.int .i64 pr) := (qQc B0.out 1).trans rfl
  have c2 : W.cell? ⟨w.heap.size, 2, none⟩ = some (.int .i64 it) := (qQc B0.out 2).trans rfl
  have c3 : W.cell? ⟨w.heap.size, 3, none⟩ = some (.int .i64 su) := (qQc B0.out 3).trans rfl
  have c4 : W.cell? ⟨w.heap.size, 4, none⟩ = some (.int .i64 fe) := (qQc B0.out 4).trans rfl
  have c5 : W.cell? ⟨w.heap.size, 5, none⟩ = some (.int .i64 ppm) := (qQc B0.out 5).trans rfl
  have c6 : W.cell? ⟨w.heap.size, 6, none⟩ = some (.bool sd) := (qQc B0.out 6).trans rfl
  have c7 : W.cell? ⟨w.heap.size, 7, none⟩ = some (.int .i64 st) := (qQc B0.out 7).trans rfl
  have c8 : W.cell? ⟨w.heap.size, 8, none⟩ = some (.int .i64 cl) := (qQc B0.out 8).trans rfl
  have c9 : W.cell? ⟨w.heap.size, 9, none⟩ = some (.int .i64 en) := (qQc B0.out 9).trans rfl
  have c10 : W.cell? ⟨w.heap.size, 10, none⟩ = some (.int .i64 le) := (qQc B0.out 10).trans rfl
  have c11 : W.cell? ⟨w.heap.size, 11, none⟩ = some (.int .i64 fa) := (qQc B0.out 11).trans rfl
  have c12 : W.cell? ⟨w.heap.size, 12, none⟩ = some (.int .i64 ct) := (qQc B0.out 12).trans rfl
  go_wp2_with (first | (go_at_call 26; (with_reducible refine (qQu.calls k id pr it su fe ppm sd st cl en le fa ct true _ H.out).mono ?_); rintro e w1 ⟨rfl, hb⟩) | (go_at_call 107; (with_reducible refine (qQl.zQs 1 false _ (.inr rfl)).mono ?_); rintro e w' ⟨rfl, ⟨nd, rfl⟩⟩))
  have K0 := qQj (qQl.kept hb B0.out) nd
  have HC : Below w.heap.size w (w1.drewN nd) := qZo (qQb HB.out hb) nd
  refine (HK.out _ K0 (by have := qZr (qQj (qQl.kept hb B2.out) nd); omega) HC).mono ?_
  rintro e w2 ⟨rfl, hN, hO⟩
  have k1 : w2.heap[w.heap.size + 1]? = some (.cells (loanC 0 0 0 0 0 0 false 0 0 0 0 0 0) 48 (0, 0)) := (hN.block _ (qZr (qQj (qQl.kept hb B1.out) nd)) (by omega) (by omega)).trans (qQj (qQl.kept hb B1.out) nd)
  have k2 : w2.heap[w.heap.size + 2]? = some (.cells #[.int .i64 0] 33 (0, 0)) := (hN.block _ (qZr (qQj (qQl.kept hb B2.out) nd)) (by omega) (by omega)).trans (qQj (qQl.kept hb B2.out) nd)
  refine leaves_cons (f := 106) (args := #[.pointer (some ⟨w.heap.size + 1, 0, none⟩), .pointer (some ⟨w.heap.size + 2, 0, none⟩)]) (by simp) (by simp [go_sem]) ?_
  refine (qQl.caught (w.heap.size + 1) x _ 0 _ rfl k1 k2).mono ?_
  rintro e u' w'' ⟨rfl, rfl, b1, b2, hB⟩
  have z0 : w''.cell? ⟨w.heap.size + 1, 0, none⟩ = some (.int .i64 0) := (qQc b1 0).trans rfl
  have z1 : w''.cell? ⟨w.heap.size + 1, 1, none⟩ = some (.int .i64 0) := (qQc b1 1).trans rfl
  have z2 : w''.cell? ⟨w.heap.size + 1, 2, none⟩ = some (.int .i64 0) := (qQc b1 2).trans rfl
  have z3 : w''.cell? ⟨w.heap.size + 1, 3, none⟩ = some (.int .i64 0) := (qQc b1 3).trans rfl
  have z4 : w''.cell? ⟨w.heap.size + 1, 4, none⟩ = some (.int .i64 0) := (qQc b1 4).trans rfl
  have z5 : w''.cell? ⟨w.heap.size + 1, 5, none⟩ = some (.int .i64 0) := (qQc b1 5).trans rfl
  have z6 : w''.cell? ⟨w.heap.size + 1, 6, none⟩ = some (.bool false) := (qQc b1 6).trans rfl
  have z7 : w''.cell? ⟨w.heap.size + 1, 7, none⟩ = some (.int .i64 0) := (qQc b1 7).trans rfl
  have z8 : w''.cell? ⟨w.heap.size + 1, 8, none⟩ = some (.int .i64 0) := (qQc b1 8).trans rfl
  have z9 : w''.cell? ⟨w.heap.size + 1, 9, none⟩ = some (.int .i64 0) := (qQc b1 9).trans rfl
  have z10 : w''.cell? ⟨w.heap.size + 1, 10, none⟩ = some (.int .i64 0) := (qQc b1 10).trans rfl
  have z11 : w''.cell? ⟨w.heap.size + 1, 11, none⟩ = some (.int .i64 0) := (qQc b1 11).trans rfl
  have z12 : w''.cell? ⟨w.heap.size + 1, 12, none⟩ = some (.int .i64 0) := (qQc b1 12).trans rfl
  have g1 : w''.cell? ⟨w.heap.size + 2, 0, none⟩ = some (.int .i64 x) := (qQc b2 0).trans rfl
  simp [Leaves, settle, results, Tryz.results85, go_sem, z0, z1, z2, z3, z4, z5, z6, z7, z8, z9, z10, z11, z12, g1, loanC]
  have h33 := hB w.heap.size w2 (by omega) (Below.refl _ _)
  exact ⟨qQl.Near.fin HC hN h33, fun h => (h33.block _ h).trans (hO h)⟩
set_option maxHeartbeats 8000000 in
set_option maxRecDepth 100000 in
theorem qQl.zWu (a b c : Int) (w : World) (h : qZ1.f a b = some (c, 0)) :
    Calls Tryz.prog 108 #[.int .i64 a, .int .i64 b] w fun e w' => e = .returned (.int .i64 c) ∧ Below w.heap.size w w' := by
  have H := am h
  have HB := am (Below.refl w.heap.size w)
  clear h
  go_enter Tryz.func108, Tryz.ntmps108
  go_wp2_with (first | (go_at_call 110; (with_reducible refine (qZ1.calls a b c 0 _ H.out).mono ?_); rintro e w1 ⟨rfl, hb⟩; have n0_ := am (qQb HB.out hb); clear HB; have HB := n0_; clear n0_ hb) | (go_at_call 107; (with_reducible refine (qQl.zQs 0 true _ (.inl rfl)).mono ?_); rintro e w' ⟨rfl, ⟨nd, rfl⟩⟩))
  go_ret
  exact ⟨by first | rfl | (simp; done), qZo HB.out _⟩
set_option maxHeartbeats 8000000 in
set_option maxRecDepth 100000 in
theorem qQl.zYd (a b c x : Int) (w : World) (h : qZ1.f a b = some (c, x)) (hx : x ≠ 0) :
    Calls Tryz.prog 108 #[.int .i64 a, .int .i64 b] w fun e w' => e = .panicked [{ v := .iface 33 (.int .i64 x), recovered := false }] ∧ Below w.heap.size w w' := by
  have H := am h
  have HX := am hx
  have HB := am (Below.refl w.heap.size w)
  clear h hx
  go_enter Tryz.func108, Tryz.ntmps108
  go_wp2_with (first | (go_at_call 110; (with_reducible refine (qZ1.calls a b c x _ H.out).mono ?_); rintro e w1 ⟨rfl, hb⟩; have n0_ := am (qQb HB.out hb); clear HB; have HB := n0_; clear n0_ hb) | (go_at_call 107; (with_reducible refine (qQl.zQ6 x _ HX.out).mono ?_); rintro e w' ⟨rfl, ⟨nd, rfl⟩⟩))
  exact ⟨rfl, rfl, qZo HB.out _⟩
theorem qQl.held {b : Nat} {W w1 : World} (hb : Below W.heap.size W w1) (h : b < W.heap.size) : (∀ o, w1.cell? ⟨b, o, none⟩ = W.cell? ⟨b, o, none⟩) ∧ (∀ o, w1.frozen? ⟨b, o, none⟩ = W.frozen? ⟨b, o, none⟩) ∧ W.heap.size ≤ w1.heap.size :=
  ⟨fun o => hb.cell (p := ⟨b, o, none⟩) h, fun o => hb.frozen (p := ⟨b, o, none⟩) h, hb.size⟩
theorem qQl.next {b : Nat} {pr it fe : Int} {w W w1 : World} (hS : W.cell? ⟨b, 1, none⟩ = some (.int .i64 pr) ∧ W.cell? ⟨b, 2, none⟩ = some (.int .i64 it) ∧ W.cell? ⟨b, 4, none⟩ = some (.int .i64 fe) ∧ W.frozen? ⟨b, 1, none⟩ = false ∧ W.frozen? ⟨b, 2, none⟩ = false ∧ W.frozen? ⟨b, 4, none⟩ = false ∧ b < W.heap.size ∧ w.heap.size ≤ W.heap.size ∧ Below w.heap.size w W) (hb : Below W.heap.size W w1) :
    w1.cell? ⟨b, 1, none⟩ = some (.int .i64 pr) ∧ w1.cell? ⟨b, 2, none⟩ = some (.int .i64 it) ∧ w1.cell? ⟨b, 4, none⟩ = some (.int .i64 fe) ∧ w1.frozen? ⟨b, 1, none⟩ = false ∧ w1.frozen? ⟨b, 2, none⟩ = false ∧ w1.frozen? ⟨b, 4, none⟩ = false ∧ b < w1.heap.size ∧ w.heap.size ≤ w1.heap.size ∧ Below w.heap.size w w1 := by
  obtain ⟨c1, c2, c4, f1, f2, f4, h1, h2, h3⟩ := hS
  obtain ⟨q1, q2, q3⟩ := qQl.held hb h1
  exact ⟨(q1 _).trans c1, (q1 _).trans c2, (q1 _).trans c4, (q2 _).trans f1, (q2 _).trans f2, (q2 _).trans f4, by omega, by omega, qQb h3 hb⟩
theorem qQl.start {b : Nat} {pr it fe : Int} {w : World} (hS : w.cell? ⟨b, 1, none⟩ = some (.int .i64 pr) ∧ w.cell? ⟨b, 2, none⟩ = some (.int .i64 it) ∧ w.cell? ⟨b, 4, none⟩ = some (.int .i64 fe) ∧ w.frozen? ⟨b, 1, none⟩ = false ∧ w.frozen? ⟨b, 2, none⟩ = false ∧ w.frozen? ⟨b, 4, none⟩ = false ∧ b < w.heap.size ∧ w.heap.size ≤ w.heap.size ∧ Below w.heap.size w w) :
    w.drew.cell? ⟨b, 1, none⟩ = some (.int .i64 pr) ∧ w.drew.cell? ⟨b, 2, none⟩ = some (.int .i64 it) ∧ w.drew.cell? ⟨b, 4, none⟩ = some (.int .i64 fe) ∧ w.drew.frozen? ⟨b, 1, none⟩ = false ∧ w.drew.frozen? ⟨b, 2, none⟩ = false ∧ w.drew.frozen? ⟨b, 4, none⟩ = false ∧ b < w.drew.heap.size ∧ w.heap.size ≤ w.drew.heap.size ∧ Below w.heap.size w w.drew := qQl.next hS ((Below.refl _ _).drew)
set_option maxHeartbeats 8000000 in
set_option maxRecDepth 100000 in
theorem qQl.zVg (b : Nat) (id pr it su fe ppm : Int) (sd : Bool) (st cl en le fa ct : Int) (w : World) (h : w.heap[b]? = some (.cells (loanC id pr it su fe ppm sd st cl en le fa ct) 48 (0, 0)))
    (x y z : Int) (h1 : qZ1.f pr fe = some (x, 0)) (h2 : qYq.f it = some y) (h3 : qZ1.f x y = some (z, 0)) :
    Calls Tryz.prog 87 #[.pointer (some ⟨b, 0, none⟩)] w fun e w' => e = .returned (.int .i64 z) ∧ Below w.heap.size w w' := by
  have c1 : w.cell? ⟨b, 1, none⟩ = some (.int .i64 pr) := (qQc h 1).trans rfl
  have c2 : w.cell? ⟨b, 2, none⟩ = some (.int .i64 it) := (qQc h 2).trans rfl
  have c4 : w.cell? ⟨b, 4, none⟩ = some (.int .i64 fe) := (qQc h 4).trans rfl
  have f1 := qQi h 1
  have f2 := qQi h 2
  have f4 := qQi h 4
  have H1 := am h1
  have H2 := am h2
  have H3 := am h3
  have HB := Below.refl w.heap.size w
  have hlt := qZr h
  have hle := Nat.le_refl w.heap.size
  clear h h1 h2 h3
  go_enter Tryz.func87, Tryz.ntmps87
  go_wp2_with fail
  go_region_held3 (fun W => W.cell? ⟨b, 1, none⟩ = some (.int .i64 pr) ∧ W.cell? ⟨b, 2, none⟩ = some (.int .i64 it) ∧ W.cell? ⟨b, 4, none⟩ = some (.int .i64 fe) ∧ W.frozen? ⟨b, 1, none⟩ = false ∧ W.frozen? ⟨b, 2, none⟩ = false ∧ W.frozen? ⟨b, 4, none⟩ = false ∧ b < W.heap.size ∧ w.heap.size ≤ W.heap.size ∧ Below w.heap.size w W) (first | assumption | ((try dsimp only) <;> (refine ⟨?_, ?_, ?_, ?_, ?_, ?_, ?_, ?_, ?_⟩ <;> first | assumption | exact Below.drew ‹_› | exact qZo ‹_› _ | (simp [*]; done) | omega)))
    (first | (go_at_call 108; refine (qQl.zWu _ _ _ _ (by with_reducible first | exact H1.out | exact H3.out)).mono ?_; rintro e w1 ⟨rfl, hb⟩; have hn_ := qQl.next (by assumption) hb) | (go_at_call 109; refine (qYq.calls it y _ H2.out).mono ?_; rintro e w' ⟨rfl, ⟨nd, rfl⟩⟩; have hn_ := qQl.next (by assumption) (qZo (Below.refl _ _) nd)))
  obtain ⟨_, _, _, _, _, _, _, _, hB⟩ := hn_
  go_wp2
  go_ret
  exact ⟨by first | rfl | (simp; done), hB⟩
set_option maxHeartbeats 8000000 in
set_option maxRecDepth 100000 in
theorem qQl.zY9 (b : Nat) (id pr it su fe ppm : Int) (sd : Bool) (st cl en le fa ct : Int) (w : World) (h : w.heap[b]? = some (.cells (loanC id pr it su fe ppm sd st cl en le fa ct) 48 (0, 0)))
    (x e : Int) (h1 : qZ1.f pr fe = some (x, e)) (he : e ≠ 0) :
    Calls Tryz.prog 87 #[.pointer (some ⟨b, 0, none⟩)] w fun r w' => r = .panicked [{ v := .iface 33 (.int .i64 e), recovered := false }] ∧ Below w.heap.size w w' := by
  have c1 : w.cell? ⟨b, 1, none⟩ = some (.int .i64 pr) := (qQc h 1).trans rfl
  have c2 : w.cell? ⟨b, 2, none⟩ = some (.int .i64 it) := (qQc h 2).trans rfl
  have c4 : w.cell? ⟨b, 4, none⟩ = some (.int .i64 fe) := (qQc h 4).trans rfl
  have f1 := qQi h 1
  have f2 := qQi h 2
  have f4 := qQi h 4
  have H1 := am h1
  have HE := am he
  have HB := Below.refl w.heap.size w
  have hlt := qZr h
  have hle := Nat.le_refl w.heap.size
  clear h h1 he
  go_enter Tryz.func87, Tryz.ntmps87
  go_wp2_with fail
  have hS0 := qQl.start (pr := pr) (it := it) (fe := fe) (w := w) ⟨c1, c2, c4, f1, f2, f4, hlt, hle, HB⟩
  refine wp_region_held_drew (S := (fun W => W.cell? ⟨b, 1, none⟩ = some (.int .i64 pr) ∧ W.cell? ⟨b, 2, none⟩ = some (.int .i64 it) ∧ W.cell? ⟨b, 4, none⟩ = some (.int .i64 fe) ∧ W.frozen? ⟨b, 1, none⟩ = false ∧ W.frozen? ⟨b, 2, none⟩ = false ∧ W.frozen? ⟨b, 4, none⟩ = false ∧ b < W.heap.size ∧ w.heap.size ≤ W.heap.size ∧ Below w.heap.size w W)) (by kernel_rfl) hS0 (fun hHeld => ?_)
  refine wpAnyH_take (i := 0) (v := ?v1_) rfl (by kernel_rfl) (by kernel_rfl) (by kernel_rfl) (fun _ _ _ h => h) (Or.inl ⟨by rfl, ?hy1_⟩) (by assumption) ?rest1_
  case hy1_ => (intro w_ hSw_; (try dsimp only at hSw_); (first | (go_simp; done) | (go_simp; with_reducible rfl)))
  try simp only [Act.put, List.getElem_toArray, List.getElem_cons_zero, List.getElem_cons_succ, List.setIfInBounds_toArray, List.set_cons_zero, List.set_cons_succ]
  refine wpAnyH_take (i := 1) (v := ?v2_) rfl (by kernel_rfl) (by kernel_rfl) (by kernel_rfl) (fun _ _ _ h => h) (Or.inl ⟨by rfl, ?hy2_⟩) (by assumption) ?rest2_
  case hy2_ => (intro w_ hSw_; (try dsimp only at hSw_); (first | (go_simp; done) | (go_simp; with_reducible rfl)))
  try simp only [Act.put, List.getElem_toArray, List.getElem_cons_zero, List.getElem_cons_succ, List.setIfInBounds_toArray, List.set_cons_zero, List.set_cons_succ]
  refine wpAnyH_take (i := 2) (v := ?v3_) rfl (by kernel_rfl) (by kernel_rfl) (by kernel_rfl) (fun _ _ _ h => h) (Or.inl ⟨by rfl, ?hy3_⟩) (by assumption) ?rest3_
  case hy3_ => (intro w_ hSw_; (try dsimp only at hSw_); (first | (go_simp; done) | (go_simp; with_reducible rfl)))
  try simp only [Act.put, List.getElem_toArray, List.getElem_cons_zero, List.getElem_cons_succ, List.setIfInBounds_toArray, List.set_cons_zero, List.set_cons_succ]
  refine wpAnyH_take (i := 3) (v := ?v4_) rfl (by kernel_rfl) (by kernel_rfl) (by kernel_rfl) (fun _ _ _ h => h) (Or.inl ⟨by rfl, ?hy4_⟩) (by assumption) ?rest4_
  case hy4_ => (intro w_ hSw_; (try dsimp only at hSw_); (first | (go_simp; done) | (go_simp; with_reducible rfl)))
  try simp only [Act.put, List.getElem_toArray, List.getElem_cons_zero, List.getElem_cons_succ, List.setIfInBounds_toArray, List.set_cons_zero, List.set_cons_succ]
  refine wpAnyH_take (i := 4) (v := ?v5_) rfl (by kernel_rfl) (by kernel_rfl) (by kernel_rfl) (fun _ _ _ h => h) (Or.inl ⟨by rfl, ?hy5_⟩) (by assumption) ?rest5_
  case hy5_ => (intro w_ hSw_; (try dsimp only at hSw_); (first | (go_simp; done) | (go_simp; with_reducible rfl)))
  try simp only [Act.put, List.getElem_toArray, List.getElem_cons_zero, List.getElem_cons_succ, List.setIfInBounds_toArray, List.set_cons_zero, List.set_cons_succ]
  refine wpAnyH_take (i := 5) (v := ?v6_) rfl (by kernel_rfl) (by kernel_rfl) (by kernel_rfl) (fun _ _ _ h => h) (Or.inl ⟨by rfl, ?hy6_⟩) (by assumption) ?rest6_
  case hy6_ => (intro w_ hSw_; (try dsimp only at hSw_); (first | (go_simp; done) | (go_simp; with_reducible rfl)))
  try simp only [Act.put, List.getElem_toArray, List.getElem_cons_zero, List.getElem_cons_succ, List.setIfInBounds_toArray, List.set_cons_zero, List.set_cons_succ]
  refine wpAnyH_take (i := 6) (v := ?v7_) rfl (by kernel_rfl) (by kernel_rfl) (by kernel_rfl) (fun _ _ _ h => h) (Or.inl ⟨by rfl, ?hy7_⟩) (by assumption) ?rest7_
  case hy7_ => (intro w_ hSw_; (try dsimp only at hSw_); (first | (go_simp; done) | (go_simp; with_reducible rfl)))
  try simp only [Act.put, List.getElem_toArray, List.getElem_cons_zero, List.getElem_cons_succ, List.setIfInBounds_toArray, List.set_cons_zero, List.set_cons_succ]
  refine wpAnyH_take (i := 7) (v := ?v8_) rfl (by kernel_rfl) (by kernel_rfl) (by kernel_rfl) (fun _ _ _ h => h) (Or.inl ⟨by rfl, ?hy8_⟩) (by assumption) ?rest8_
  case hy8_ => (intro w_ hSw_; (try dsimp only at hSw_); (first | (go_simp; done) | (go_simp; with_reducible rfl)))
  try simp only [Act.put, List.getElem_toArray, List.getElem_cons_zero, List.getElem_cons_succ, List.setIfInBounds_toArray, List.set_cons_zero, List.set_cons_succ]
  refine wpAnyH_take (i := 9) (v := ?v9_) rfl (by kernel_rfl) (by kernel_rfl) (by kernel_rfl) (fun _ _ _ h => h) (Or.inl ⟨by rfl, ?hy9_⟩) (by assumption) ?rest9_
  case hy9_ => (intro w_ hSw_; (try dsimp only at hSw_); (first | (go_simp; done) | (go_simp; with_reducible rfl)))
  try simp only [Act.put, List.getElem_toArray, List.getElem_cons_zero, List.getElem_cons_succ, List.setIfInBounds_toArray, List.set_cons_zero, List.set_cons_succ]
  refine wpAnyH_take (i := 10) (v := ?v10_) rfl (by kernel_rfl) (by kernel_rfl) (by kernel_rfl) (fun _ _ _ h => h) (Or.inl ⟨by rfl, ?hy10_⟩) (by assumption) ?rest10_
  case hy10_ => (intro w_ hSw_; (try dsimp only at hSw_); (first | (go_simp; done) | (go_simp; with_reducible rfl)))
  try simp only [Act.put, List.getElem_toArray, List.getElem_cons_zero, List.getElem_cons_succ, List.setIfInBounds_toArray, List.set_cons_zero, List.set_cons_succ]
  refine wpAnyH_take (i := 11) (v := ?v11_) rfl (by kernel_rfl) (by kernel_rfl) (by kernel_rfl) (fun _ _ _ h => h) (Or.inl ⟨by rfl, ?hy11_⟩) (by assumption) ?rest11_
  case hy11_ => (intro w_ hSw_; (try dsimp only at hSw_); (first | (go_simp; done) | (go_simp; with_reducible rfl)))
  try simp only [Act.put, List.getElem_toArray, List.getElem_cons_zero, List.getElem_cons_succ, List.setIfInBounds_toArray, List.set_cons_zero, List.set_cons_succ]
  refine wpAnyH_take (i := 12) (v := ?v12_) rfl (by kernel_rfl) (by kernel_rfl) (by kernel_rfl) (fun _ _ _ h => h) (Or.inl ⟨by rfl, ?hy12_⟩) (by assumption) ?rest12_
  case hy12_ => (intro w_ hSw_; (try dsimp only at hSw_); (first | (go_simp; done) | (go_simp; with_reducible rfl)))
  try simp only [Act.put, List.getElem_toArray, List.getElem_cons_zero, List.getElem_cons_succ, List.setIfInBounds_toArray, List.set_cons_zero, List.set_cons_succ]
  refine wpAnyH_ready (rs := [8]) (by kernel_rfl) (by simp) ?_
  refine AllReadyH.cons rfl (fun K hK => ?_) AllReadyH.nil
  go_simp
  go_wp2_with (go_at_call 108; (refine (qQl.zYd _ _ _ _ _ H1.out HE.out).mono ?_); rintro e w1 ⟨rfl, hb⟩)
  exact ⟨rfl, rfl, (qQl.next hHeld hb).2.2.2.2.2.2.2.2⟩
set_option maxHeartbeats 8000000 in
set_option maxRecDepth 100000 in
theorem qQl.zXj (b : Nat) (id pr it su fe ppm : Int) (sd : Bool) (st cl en le fa ct : Int) (w : World) (h : w.heap[b]? = some (.cells (loanC id pr it su fe ppm sd st cl en le fa ct) 48 (0, 0)))
    (x y z e : Int) (h1 : qZ1.f pr fe = some (x, 0)) (h2 : qYq.f it = some y) (h3 : qZ1.f x y = some (z, e)) (he : e ≠ 0) :
    Calls Tryz.prog 87 #[.pointer (some ⟨b, 0, none⟩)] w fun r w' => r = .panicked [{ v := .iface 33 (.int .i64 e), recovered := false }] ∧ Below w.heap.size w w' := by
  have c1 : w.cell? ⟨b, 1, none⟩ = some (.int .i64 pr) := (qQc h 1).trans rfl
  have c2 : w.cell? ⟨b, 2, none⟩ = some (.int .i64 it) := (qQc h 2).trans rfl
  have c4 : w.cell? ⟨b, 4, none⟩ = some (.int .i64 fe) := (qQc h 4).trans rfl
  have f1 := qQi h 1
  have f2 := qQi h 2
  have f4 := qQi h 4
  have H1 := am h1
  have HE := am he
  have H2 := am h2
  have H3 := am h3
  have HB := Below.refl w.heap.size w
  have hlt := qZr h
  have hle := Nat.le_refl w.heap.size
  clear h h1 h2 h3 he
  go_enter Tryz.func87, Tryz.ntmps87
  go_wp2_with fail
  have hS0 := qQl.start (pr := pr) (it := it) (fe := fe) (w := w) ⟨c1, c2, c4, f1, f2, f4, hlt, hle, HB⟩
  refine wp_region_held_drew (S := (fun W => W.cell? ⟨b, 1, none⟩ = some (.int .i64 pr) ∧ W.cell? ⟨b, 2, none⟩ = some (.int .i64 it) ∧ W.cell? ⟨b, 4, none⟩ = some (.int .i64 fe) ∧ W.frozen? ⟨b, 1, none⟩ = false ∧ W.frozen? ⟨b, 2, none⟩ = false ∧ W.frozen? ⟨b, 4, none⟩ = false ∧ b < W.heap.size ∧ w.heap.size ≤ W.heap.size ∧ Below w.heap.size w W)) (by kernel_rfl) hS0 (fun hHeld => ?_)
  refine wpAnyH_take (i := 0) (v := ?v13_) rfl (by kernel_rfl) (by kernel_rfl) (by kernel_rfl) (fun _ _ _ h => h) (Or.inl ⟨by rfl, ?hy13_⟩) (by assumption) ?rest13_
  case hy13_ => (intro w_ hSw_; (try dsimp only at hSw_); (first | (go_simp; done) | (go_simp; with_reducible rfl)))
  try simp only [Act.put, List.getElem_toArray, List.getElem_cons_zero, List.getElem_cons_succ, List.setIfInBounds_toArray, List.set_cons_zero, List.set_cons_succ]
  refine wpAnyH_take (i := 1) (v := ?v14_) rfl (by kernel_rfl) (by kernel_rfl) (by kernel_rfl) (fun _ _ _ h => h) (Or.inl ⟨by rfl, ?hy14_⟩) (by assumption) ?rest14_
  case hy14_ => (intro w_ hSw_; (try dsimp only at hSw_); (first | (go_simp; done) | (go_simp; with_reducible rfl)))
  try simp only [Act.put, List.getElem_toArray, List.getElem_cons_zero, List.getElem_cons_succ, List.setIfInBounds_toArray, List.set_cons_zero, List.set_cons_succ]
  refine wpAnyH_take (i := 2) (v := ?v15_) rfl (by kernel_rfl) (by kernel_rfl) (by kernel_rfl) (fun _ _ _ h => h) (Or.inl ⟨by rfl, ?hy15_⟩) (by assumption) ?rest15_
  case hy15_ => (intro w_ hSw_; (try dsimp only at hSw_); (first | (go_simp; done) | (go_simp; with_reducible rfl)))
  try simp only [Act.put, List.getElem_toArray, List.getElem_cons_zero, List.getElem_cons_succ, List.setIfInBounds_toArray, List.set_cons_zero, List.set_cons_succ]
  refine wpAnyH_take (i := 3) (v := ?v16_) rfl (by kernel_rfl) (by kernel_rfl) (by kernel_rfl) (fun _ _ _ h => h) (Or.inl ⟨by rfl, ?hy16_⟩) (by assumption) ?rest16_
  case hy16_ => (intro w_ hSw_; (try dsimp only at hSw_); (first | (go_simp; done) | (go_simp; with_reducible rfl)))
  try simp only [Act.put, List.getElem_toArray, List.getElem_cons_zero, List.getElem_cons_succ, List.setIfInBounds_toArray, List.set_cons_zero, List.set_cons_succ]
  refine wpAnyH_take (i := 4) (v := ?v17_) rfl (by kernel_rfl) (by kernel_rfl) (by kernel_rfl) (fun _ _ _ h => h) (Or.inl ⟨by rfl, ?hy17_⟩) (by assumption) ?rest17_
  case hy17_ => (intro w_ hSw_; (try dsimp only at hSw_); (first | (go_simp; done) | (go_simp; with_reducible rfl)))
  try simp only [Act.put, List.getElem_toArray, List.getElem_cons_zero, List.getElem_cons_succ, List.setIfInBounds_toArray, List.set_cons_zero, List.set_cons_succ]
  refine wpAnyH_take (i := 5) (v := ?v18_) rfl (by kernel_rfl) (by kernel_rfl) (by kernel_rfl) (fun _ _ _ h => h) (Or.inl ⟨by rfl, ?hy18_⟩) (by assumption) ?rest18_
  case hy18_ => (intro w_ hSw_; (try dsimp only at hSw_); (first | (go_simp; done) | (go_simp; with_reducible rfl)))
  try simp only [Act.put, List.getElem_toArray, List.getElem_cons_zero, List.getElem_cons_succ, List.setIfInBounds_toArray, List.set_cons_zero, List.set_cons_succ]
  refine wpAnyH_take (i := 6) (v := ?v19_) rfl (by kernel_rfl) (by kernel_rfl) (by kernel_rfl) (fun _ _ _ h => h) (Or.inl ⟨by rfl, ?hy19_⟩) (by assumption) ?rest19_
  case hy19_ => (intro w_ hSw_; (try dsimp only at hSw_); (first | (go_simp; done) | (go_simp; with_reducible rfl)))
  try simp only [Act.put, List.getElem_toArray, List.getElem_cons_zero, List.getElem_cons_succ, List.setIfInBounds_toArray, List.set_cons_zero, List.set_cons_succ]
  refine wpAnyH_take (i := 7) (v := ?v20_) rfl (by kernel_rfl) (by kernel_rfl) (by kernel_rfl) (fun _ _ _ h => h) (Or.inl ⟨by rfl, ?hy20_⟩) (by assumption) ?rest20_
  case hy20_ => (intro w_ hSw_; (try dsimp only at hSw_); (first | (go_simp; done) | (go_simp; with_reducible rfl)))
  try simp only [Act.put, List.getElem_toArray, List.getElem_cons_zero, List.getElem_cons_succ, List.setIfInBounds_toArray, List.set_cons_zero, List.set_cons_succ]
  refine wpAnyH_take (i := 9) (v := ?v21_) rfl (by kernel_rfl) (by kernel_rfl) (by kernel_rfl) (fun _ _ _ h => h) (Or.inl ⟨by rfl, ?hy21_⟩) (by assumption) ?rest21_
  case hy21_ => (intro w_ hSw_; (try dsimp only at hSw_); (first | (go_simp; done) | (go_simp; with_reducible rfl)))
  try simp only [Act.put, List.getElem_toArray, List.getElem_cons_zero, List.getElem_cons_succ, List.setIfInBounds_toArray, List.set_cons_zero, List.set_cons_succ]
  refine wpAnyH_take (i := 10) (v := ?v22_) rfl (by kernel_rfl) (by kernel_rfl) (by kernel_rfl) (fun _ _ _ h => h) (Or.inl ⟨by rfl, ?hy22_⟩) (by assumption) ?rest22_
  case hy22_ => (intro w_ hSw_; (try dsimp only at hSw_); (first | (go_simp; done) | (go_simp; with_reducible rfl)))
  try simp only [Act.put, List.getElem_toArray, List.getElem_cons_zero, List.getElem_cons_succ, List.setIfInBounds_toArray, List.set_cons_zero, List.set_cons_succ]
  refine wpAnyH_take (i := 11) (v := ?v23_) rfl (by kernel_rfl) (by kernel_rfl) (by kernel_rfl) (fun _ _ _ h => h) (Or.inl ⟨by rfl, ?hy23_⟩) (by assumption) ?rest23_
  case hy23_ => (intro w_ hSw_; (try dsimp only at hSw_); (first | (go_simp; done) | (go_simp; with_reducible rfl)))
  try simp only [Act.put, List.getElem_toArray, List.getElem_cons_zero, List.getElem_cons_succ, List.setIfInBounds_toArray, List.set_cons_zero, List.set_cons_succ]
  refine wpAnyH_take (i := 12) (v := ?v24_) rfl (by kernel_rfl) (by kernel_rfl) (by kernel_rfl) (fun _ _ _ h => h) (Or.inl ⟨by rfl, ?hy24_⟩) (by assumption) ?rest24_
  case hy24_ => (intro w_ hSw_; (try dsimp only at hSw_); (first | (go_simp; done) | (go_simp; with_reducible rfl)))
  try simp only [Act.put, List.getElem_toArray, List.getElem_cons_zero, List.getElem_cons_succ, List.setIfInBounds_toArray, List.set_cons_zero, List.set_cons_succ]
  refine wpAnyH_ready (rs := [8]) (by kernel_rfl) (by simp) ?_
  refine AllReadyH.cons rfl (fun K hK => ?_) AllReadyH.nil
  go_simp
  go_wp2_with (go_at_call 108; (refine (qQl.zWu _ _ _ _ H1.out).mono ?_); rintro e w1 ⟨rfl, hb⟩)
  have hS1 := qQl.next hHeld hb
  refine hK.out _ _ hS1 (fun hHeld1 => ?_)
  clear hK K
  try simp only [Act.put, List.getElem_toArray, List.getElem_cons_zero, List.getElem_cons_succ, List.setIfInBounds_toArray, List.set_cons_zero, List.set_cons_succ]
  refine wpAnyH_ready (rs := [13]) (by kernel_rfl) (by simp) ?_
  refine AllReadyH.cons rfl (fun K hK => ?_) AllReadyH.nil
  go_simp
  go_wp2_with (go_at_call 109; (refine (qYq.calls _ _ _ H2.out).mono ?_); rintro e w' ⟨rfl, ⟨nd, rfl⟩⟩)
  have hS2 := qQl.next hS1 (qZo (Below.refl _ _) nd)
  refine hK.out _ _ hS2 (fun hHeld2 => ?_)
  clear hK K
  try simp only [Act.put, List.getElem_toArray, List.getElem_cons_zero, List.getElem_cons_succ, List.setIfInBounds_toArray, List.set_cons_zero, List.set_cons_succ]
  refine wpAnyH_ready (rs := [14]) (by kernel_rfl) (by simp) ?_
  refine AllReadyH.cons rfl (fun K hK => ?_) AllReadyH.nil
  go_simp
  go_wp2_with (go_at_call 108; (refine (qQl.zYd _ _ _ _ _ H3.out HE.out).mono ?_); rintro e w2 ⟨rfl, hb2⟩)
  exact ⟨rfl, rfl, (qQl.next hS2 hb2).2.2.2.2.2.2.2.2⟩
theorem qQl.Near.refl (a b : Nat) (w : World) : qQl.Near a b w w := ⟨rfl, rfl, rfl, Nat.le_refl _, fun _ _ _ _ => rfl⟩
theorem qQl.Near.trans {a b : Nat} {w w1 w2 : World} (h1 : qQl.Near a b w w1) (h2 : qQl.Near a b w1 w2) : qQl.Near a b w w2 :=
  ⟨h2.os.trans h1.os, h2.tape.trans h1.tape, h2.output.trans h1.output, Nat.le_trans h1.size h2.size, fun k hk ha hb => (h2.block k (Nat.lt_of_lt_of_le hk h1.size) ha hb).trans (h1.block k hk ha hb)⟩
theorem qQl.Near.step {a b : Nat} {w w1 w2 : World} (h1 : qQl.Near a b w w1) (h2 : Below w1.heap.size w1 w2) : qQl.Near a b w w2 := h1.trans (.of_below h2)
theorem qQl.Near.put {a b : Nat} {w w1 : World} (h1 : qQl.Near a b w w1) (p : Addr) (v : Value) (hp : p.block = a) : qQl.Near a b w (w1.setCell p v) :=
  h1.trans ⟨rfl, rfl, rfl, by simp [World.setCell], fun k _ ha _ => Below.heap_setCell _ _ _ _ (by omega)⟩
theorem qQl.Near.put2 {a b : Nat} {w w1 : World} (h1 : qQl.Near a b w w1) (p : Addr) (v : Value) (hp : p.block = b) : qQl.Near a b w (w1.setCell p v) :=
  h1.trans ⟨rfl, rfl, rfl, by simp [World.setCell], fun k _ _ hb => Below.heap_setCell _ _ _ _ (by omega)⟩
theorem qQl.whole {it : Int} (i0 : 0 ≤ it) (i1 : it ≤ 1000000000000000000) : qYq.f it = some (it / 1000000) := by
  unfold qYq.f; rw [if_pos (by omega), if_neg (by omega)]
set_option linter.unnecessarySimpa false
end Go.Proofs.YtlhcohipnieidaaGreat.P
namespace Go.Proofs.YtlhcohipnieidaaGreat.P
open Go.RowKit W.PrintWords W.PrintLast W.PrintMore
attribute [local go_sem] qXg qXd qXq qXr qY2 qY1 qXe qXf
set_option linter.unusedVariables false
set_option linter.unusedSimpArgs false
set_option linter.unnecessarySimpa false
theorem qQl.Near.on {w W w1 : World} {c : Nat} (h0 : Below w.heap.size w W) (h : qQl.Near c c W w1) (hc : w.heap.size ≤ c) : Below w.heap.size w w1 :=
  ⟨h.os.trans h0.os, h.tape.trans h0.tape, h.output.trans h0.output, Nat.le_trans h0.size h.size, fun k hk => (h.block k (Nat.lt_of_lt_of_le hk h0.size) (by omega) (by omega)).trans (h0.block k hk)⟩
set_option maxHeartbeats 8000000 in
set_option maxRecDepth 100000 in
theorem qYj.in_ok (b : Nat) (id pr it su fe ppm : Int) (sd : Bool) (st cl en le fa ct : Int) (w : World) (h : w.heap[b]? = some (.cells (loanC id pr it su fe ppm sd st cl en le fa ct) 48 (0, 0))) (c : Nat) (hc : w.heap[c]? = some (.cells #[.int .i64 0] 2 (0, 0))) (hcb : c ≠ b) (x y z : Int) (h1 : qZ1.f pr fe = some (x, 0)) (h2 : qYq.f it = some y) (h3 : qZ1.f x y = some (z, 0)) :
    Calls Tryz.prog 86 #[.pointer (some ⟨b, 0, none⟩), .pointer (some ⟨c, 0, none⟩)] w fun e w' => e = .returned (.tuple #[]) ∧ w'.heap[b]? = some (.cells (loanC id pr it su fe ppm sd st cl en le fa ct) 48 (0, 0)) ∧ qQl.Near b c w w' ∧ w'.heap[c]? = some (.cells #[.int .i64 z] 2 (0, 0)) := by
  have B := am h
  have C := am hc
  have NE := am hcb
  have H1 := am h1
  have H2 := am h2
  have H3 := am h3
  clear h hc hcb h1 h2 h3
  go_enter Tryz.func86, Tryz.ntmps86
  go_wp2_with (go_at_call 87; (with_reducible refine (qQl.zVg b id pr it su fe ppm sd st cl en le fa ct _ B.out x y z H1.out H2.out H3.out).mono ?_); rintro e w1 ⟨rfl, hb⟩; refine qQl.MARK ?_)
  unfold qQl.Mark
  have B1 := qQl.kept hb B.out
  have C1 := qQl.kept hb C.out
  have m1 : w1.cell? ⟨c, 0, none⟩ = some (.int .i64 0) := (qQc C1 0).trans rfl
  have g1 := qQi C1 0
  have BB := am B1
  have CC := am C1
  have NN := am ((qQl.Near.refl b c w).step hb)
  clear B1 C1 hb
  go_wp2
  go_end0
  exact ⟨by first | rfl | (simp; done), qYr BB.out (by simpa using Ne.symm NE.out) _, NN.out.put2 _ _ rfl, qZ6 CC.out 0 _ rfl⟩
set_option maxHeartbeats 8000000 in
set_option maxRecDepth 100000 in
theorem qYj.zVm (b : Nat) (id pr it su fe ppm : Int) (sd : Bool) (st cl en le fa ct : Int) (w : World) (h : w.heap[b]? = some (.cells (loanC id pr it su fe ppm sd st cl en le fa ct) 48 (0, 0))) (c : Nat) (hc : w.heap[c]? = some (.cells #[.int .i64 0] 2 (0, 0))) (hcb : c ≠ b) (x e : Int) (h1 : qZ1.f pr fe = some (x, e)) (he : e ≠ 0) :
    Calls Tryz.prog 86 #[.pointer (some ⟨b, 0, none⟩), .pointer (some ⟨c, 0, none⟩)] w fun r w' => r = .panicked [{ v := .iface 33 (.int .i64 e), recovered := false }] ∧ qQl.Near b c w w' ∧ w'.heap[c]? = some (.cells #[.int .i64 0] 2 (0, 0)) := by
  have B := am h
  have C := am hc
  have NE := am hcb
  have H1 := am h1
  have HE := am he
  clear h hc hcb h1 he
  go_enter Tryz.func86, Tryz.ntmps86
  go_wp2_with (go_at_call 87; (with_reducible refine (qQl.zY9 b id pr it su fe ppm sd st cl en le fa ct _ B.out x e H1.out HE.out).mono ?_); rintro e w1 ⟨rfl, hb⟩)
  exact ⟨rfl, rfl, (qQl.Near.refl b c w).step hb, qQl.kept hb C.out⟩
set_option maxHeartbeats 8000000 in
set_option maxRecDepth 100000 in
theorem qYj.zV0 (b : Nat) (id pr it su fe ppm : Int) (sd : Bool) (st cl en le fa ct : Int) (w : World) (h : w.heap[b]? = some (.cells (loanC id pr it su fe ppm sd st cl en le fa ct) 48 (0, 0))) (c : Nat) (hc : w.heap[c]? = some (.cells #[.int .i64 0] 2 (0, 0))) (hcb : c ≠ b) (x y z e : Int) (h1 : qZ1.f pr fe = some (x, 0)) (h2 : qYq.f it = some y) (h3 : qZ1.f x y = some (z, e)) (he : e ≠ 0) :
    Calls Tryz.prog 86 #[.pointer (some ⟨b, 0, none⟩), .pointer (some ⟨c, 0, none⟩)] w fun r w' => r = .panicked [{ v := .iface 33 (.int .i64 e), recovered := false }] ∧ qQl.Near b c w w' ∧ w'.heap[c]? = some (.cells #[.int .i64 0] 2 (0, 0)) := by
  have B := am h
  have C := am hc
  have NE := am hcb
  have H1 := am h1
  have HE := am he
  have H2 := am h2
  have H3 := am h3
  clear h2 h3
  clear h hc hcb h1 he
  go_enter Tryz.func86, Tryz.ntmps86
  go_wp2_with (go_at_call 87; (with_reducible refine (qQl.zXj b id pr it su fe ppm sd st cl en le fa ct _ B.out x y z e H1.out H2.out H3.out HE.out).mono ?_); rintro e w1 ⟨rfl, hb⟩)
  exact ⟨rfl, rfl, (qQl.Near.refl b c w).step hb, qQl.kept hb C.out⟩
set_option maxHeartbeats 8000000 in
set_option maxRecDepth 100000 in
theorem qYj.by_ (id pr it su fe ppm : Int) (sd : Bool) (st cl en le fa ct : Int) (r1 : Int) (r2 : Int) (r3 : Int) (r4 : Int) (r5 : Int) (r6 : Int) (r7 : Bool) (r8 : Int) (r9 : Int) (r10 : Int) (r11 : Int) (r12 : Int) (r13 : Int) (r14 : Int) (z : Int) (w : World)
    (hD : ∀ W, W.heap[w.heap.size + 1]? = some (.cells #[.int .i64 0] 2 (0, 0)) → Below w.heap.size w W → Calls Tryz.prog 85 #[.agg (loanC id pr it su fe ppm sd st cl en le fa ct), .func (.func 86) #[] #[.pointer (some ⟨w.heap.size + 1, 0, none⟩)]] W fun e w' => e = .returned (.tuple #[.agg (loanC r1 r2 r3 r4 r5 r6 r7 r8 r9 r10 r11 r12 r13), .int .i64 r14]) ∧ qQl.Near (w.heap.size + 1) (w.heap.size + 1) W w' ∧ w'.heap[w.heap.size + 1]? = some (.cells #[.int .i64 z] 2 (0, 0))) :
    Calls Tryz.prog 51 #[.agg #[.int .i64 id, .int .i64 pr, .int .i64 it, .int .i64 su, .int .i64 fe, .int .i64 ppm, .bool sd, .int .i64 st, .int .i64 cl, .int .i64 en, .int .i64 le, .int .i64 fa, .int .i64 ct]] w fun e w' => e = .returned (.tuple #[.int .i64 z, .int .i64 r14]) ∧ Below w.heap.size w w' := by
  have HD := am hD
  clear hD
  have hmf : ∀ (fn : Fn) (first cap : Array Value) (w : World), (Instr.makeFunc fn first cap).run Tryz.prog w = .ok (.func fn first cap) w := fun _ _ _ _ => rfl
  have k0 := qY3 (w.alloc (Obj.cells #[.int .i64 id, .int .i64 pr, .int .i64 it, .int .i64 su, .int .i64 fe, .int .i64 ppm, .bool sd, .int .i64 st, .int .i64 cl, .int .i64 en, .int .i64 le, .int .i64 fa, .int .i64 ct] 48)) (Obj.cells #[.int .i64 0] 2)
  have n0 : ((w.alloc (Obj.cells #[.int .i64 id, .int .i64 pr, .int .i64 it, .int .i64 su, .int .i64 fe, .int .i64 ppm, .bool sd, .int .i64 st, .int .i64 cl, .int .i64 en, .int .i64 le, .int .i64 fa, .int .i64 ct] 48)).alloc (Obj.cells #[.int .i64 0] 2)).cell? ⟨w.heap.size + 1, 0, none⟩ = some (.int .i64 0) := by have := (qQc k0 0).trans rfl; simpa using this
  go_enter Tryz.func51, Tryz.ntmps51
  go_upto_region 2 with (fail)
  obtain ⟨W, hW⟩ : ∃ W, W = (w.alloc (Obj.cells #[.int .i64 id, .int .i64 pr, .int .i64 it, .int .i64 su, .int .i64 fe, .int .i64 ppm, .bool sd, .int .i64 st, .int .i64 cl, .int .i64 en, .int .i64 le, .int .i64 fa, .int .i64 ct] 48)).alloc (Obj.cells #[.int .i64 0] 2) := ⟨_, rfl⟩
  have B0 : Aside0 (W.heap[w.heap.size]? = some (.cells (loanC id pr it su fe ppm sd st cl en le fa ct) 48 (0, 0))) := ⟨by
    have := qQm (qY3 w (Obj.cells #[.int .i64 id, .int .i64 pr, .int .i64 it, .int .i64 su, .int .i64 fe, .int .i64 ppm, .bool sd, .int .i64 st, .int .i64 cl, .int .i64 en, .int .i64 le, .int .i64 fa, .int .i64 ct] 48)) (Obj.cells #[.int .i64 0] 2)
    rw [hW]; simpa [loanC] using this⟩
  have B1 : Aside0 (W.heap[w.heap.size + 1]? = some (.cells #[.int .i64 0] 2 (0, 0))) := ⟨by rw [hW]; simpa using k0⟩
  have HB : Aside0 (Below w.heap.size w W) := ⟨by rw [hW]; exact ((Below.refl _ _).alloc (Nat.le_refl _) _).alloc (by simp) _⟩
  rw [← hW]
  clear hW k0 n0
  have c0 : W.cell? ⟨w.heap.size, 0, none⟩ = some (.int .i64 id) := (qQc B0.out 0).trans rfl
  have c1 : W.cell? ⟨w.heap.size, 1, none⟩ = some (.int .i64 pr) := (qQc B0.out 1).trans rfl
  have c2 : W.cell? ⟨w.heap.size, 2, none⟩ = some (.int .i64 it) := (qQc B0.out 2).trans rfl
  have c3 : W.cell? ⟨w.heap.size, 3, none⟩ = some (.int .i64 su) := (qQc B0.out 3).trans rfl
  have c4 : W.cell? ⟨w.heap.size, 4, none⟩ = some (.int .i64 fe) := (qQc B0.out 4).trans rfl
  have c5 : W.cell? ⟨w.heap.size, 5, none⟩ = some (.int .i64 ppm) := (qQc B0.out 5).trans rfl
  have c6 : W.cell? ⟨w.heap.size, 6, none⟩ = some (.bool sd) := (qQc B0.out 6).trans rfl
  have c7 : W.cell? ⟨w.heap.size, 7, none⟩ = some (.int .i64 st) := (qQc B0.out 7).trans rfl
  have c8 : W.cell? ⟨w.heap.size, 8, none⟩ = some (.int .i64 cl) := (qQc B0.out 8).trans rfl
  have c9 : W.cell? ⟨w.heap.size, 9, none⟩ = some (.int .i64 en) := (qQc B0.out 9).trans rfl
  have c10 : W.cell? ⟨w.heap.size, 10, none⟩ = some (.int .i64 le) := (qQc B0.out 10).trans rfl
  have c11 : W.cell? ⟨w.heap.size, 11, none⟩ = some (.int .i64 fa) := (qQc B0.out 11).trans rfl
  have c12 : W.cell? ⟨w.heap.size, 12, none⟩ = some (.int .i64 ct) := (qQc B0.out 12).trans rfl
  go_wp2_with (first | (go_at_call 85; refine (HD.out _ B1.out HB.out).mono ?_; rintro e w1 ⟨rfl, hN, hn⟩) | ((with_reducible refine qQl.gate 48 (.tmp 5) (.tmp 11) rfl ?_); refine qQl.MARK ?_))
  unfold qQl.Mark
  have k1 := qY3 w1 (Obj.cells #[.int .i64 0, .int .i64 0, .int .i64 0, .int .i64 0, .int .i64 0, .int .i64 0, .bool false, .int .i64 0, .int .i64 0, .int .i64 0, .int .i64 0, .int .i64 0, .int .i64 0] 48)
  have HW : Aside0 (Below w.heap.size w w1) := ⟨hN.on HB.out (by omega)⟩
  have lt := qZr hn
  have sz := HW.out.size
  refine qQl.st rfl 48 (.tmp 5) (.tmp 11) rfl rfl w1.heap.size (loanC r1 r2 r3 r4 r5 r6 r7 r8 r9 r10 r11 r12 r13) ?hx ?hy 48 _ k1 (by kernel_rfl) rfl (qQl.one _ _ _ _ _ _ _ _ _ _ _ _ _) ?_
  case hx => simp [go_sem]
  case hy => simp [go_sem]
  have n1 : ((w1.alloc (Obj.cells #[.int .i64 0, .int .i64 0, .int .i64 0, .int .i64 0, .int .i64 0, .int .i64 0, .bool false, .int .i64 0, .int .i64 0, .int .i64 0, .int .i64 0, .int .i64 0, .int .i64 0] 48)).setRow w1.heap.size (loanC r1 r2 r3 r4 r5 r6 r7 r8 r9 r10 r11 r12 r13)).heap[w.heap.size + 1]? = some (.cells #[.int .i64 z] 2 (0, 0)) := (setRow_other _ _ _ _ (by omega)).trans (qQm hn _)
  have HF : Aside0 (Below w.heap.size w ((w1.alloc (Obj.cells #[.int .i64 0, .int .i64 0, .int .i64 0, .int .i64 0, .int .i64 0, .int .i64 0, .bool false, .int .i64 0, .int .i64 0, .int .i64 0, .int .i64 0, .int .i64 0, .int .i64 0] 48)).setRow w1.heap.size (loanC r1 r2 r3 r4 r5 r6 r7 r8 r9 r10 r11 r12 r13))) := ⟨below_setRow (qYp HW.out _) (by omega) _⟩
  generalize (w1.alloc (Obj.cells #[.int .i64 0, .int .i64 0, .int .i64 0, .int .i64 0, .int .i64 0, .int .i64 0, .bool false, .int .i64 0, .int .i64 0, .int .i64 0, .int .i64 0, .int .i64 0, .int .i64 0] 48)).setRow w1.heap.size (loanC r1 r2 r3 r4 r5 r6 r7 r8 r9 r10 r11 r12 r13) = W4 at *
  have n3 : W4.cell? ⟨w.heap.size + 1, 0, none⟩ = some (.int .i64 z) := (qQc n1 0).trans rfl
  go_wp2
  go_ret2
  exact ⟨by first | rfl | (simp; done), HF.out⟩
def qYj.f (k : Nat) (id pr it su fe ppm : Int) (sd : Bool) (st cl en le fa ct : Int) : Option (Int × Int) := (qQu.f k id pr it su fe ppm sd st cl en le fa ct).bind fun g =>
  if g = true then (if 0 ≤ it ∧ it ≤ 1000000000000000000 then (qZ1.f pr fe).bind fun p => (if p.2 = 0 then (qZ1.f p.1 (it / 1000000)).bind fun q => (if q.2 = 0 then some (q.1, 0) else some (0, q.2)) else some (0, p.2)) else none) else some (0, 1)
set_option maxHeartbeats 8000000 in
set_option maxRecDepth 100000 in
theorem qYj.calls (k : Nat) (id pr it su fe ppm : Int) (sd : Bool) (st cl en le fa ct : Int) (r1 r2 : Int) (w : World) (h : qYj.f k id pr it su fe ppm sd st cl en le fa ct = some (r1, r2)) :
    Calls Tryz.prog 51 #[.agg #[.int .i64 id, .int .i64 pr, .int .i64 it, .int .i64 su, .int .i64 fe, .int .i64 ppm, .bool sd, .int .i64 st, .int .i64 cl, .int .i64 en, .int .i64 le, .int .i64 fa, .int .i64 ct]] w fun e w' => e = .returned (.tuple #[.int .i64 r1, .int .i64 r2]) ∧ Below w.heap.size w w' := by
  have hf : ∀ args W, (callFunc 86 args).run Tryz.prog W = .ok (.enter 86 args) W := fun _ _ => by rfl
  unfold qYj.f at h
  obtain ⟨g, hg, h⟩ := Option.bind_eq_some_iff.mp h
  cases g with
  | false =>
    rw [if_neg (by simp)] at h
    simp only [Option.some.injEq, Prod.mk.injEq] at h
    obtain ⟨rfl, rfl⟩ := h
    refine qYj.by_ id pr it su fe ppm sd st cl en le fa ct 0 0 0 0 0 0 false 0 0 0 0 0 0 1 0 w (fun W hn hW => ?_)
    exact (qQl.zXt k _ _ _ _ _ _ _ _ _ _ _ _ _ _ W hg).mono (fun e w' ⟨h1, h2⟩ => ⟨h1, .of_below h2, qQl.kept h2 hn⟩)
  | true =>
    rw [if_pos rfl] at h
    by_cases ci : 0 ≤ it ∧ it ≤ 1000000000000000000
    · rw [if_pos ci] at h
      obtain ⟨⟨x, e⟩, hp, h⟩ := Option.bind_eq_some_iff.mp h
      simp only at h
      by_cases ce : e = 0
      · rw [if_pos ce] at h
        subst ce
        obtain ⟨⟨z, e⟩, hq, h⟩ := Option.bind_eq_some_iff.mp h
        simp only at h
        by_cases ce : e = 0
        · rw [if_pos ce] at h
          subst ce
          simp only [Option.some.injEq, Prod.mk.injEq] at h
          obtain ⟨rfl, rfl⟩ := h
          refine qYj.by_ id pr it su fe ppm sd st cl en le fa ct id pr it su fe ppm sd st cl en le fa ct 0 z w (fun W hn hW => ?_)
          have lt := qZr hn
          refine (qQl.zVa k id pr it su fe ppm sd st cl en le fa ct 86 #[.pointer (some ⟨w.heap.size + 1, 0, none⟩)] _ _ _ _ _ _ _ _ _ _ _ _ _ (w.heap.size + 1) (.cells #[.int .i64 z] 2 (0, 0)) W (by omega) hf hg (fun V hV _ hb => ?_)).mono (fun e w' ⟨h1, h2, h3⟩ => ⟨h1, h2, h3 lt⟩)
          exact (qYj.in_ok W.heap.size id pr it su fe ppm sd st cl en le fa ct V hV (w.heap.size + 1) (qQl.kept hb hn) (by omega) _ _ _ hp (qQl.whole ci.1 ci.2) hq).mono (fun e w' ⟨h1, h2, h3, h4⟩ => ⟨h1, h2, h3, fun _ => h4⟩)
        · rw [if_neg ce] at h
          simp only [Option.some.injEq, Prod.mk.injEq] at h
          obtain ⟨rfl, rfl⟩ := h
          refine qYj.by_ id pr it su fe ppm sd st cl en le fa ct 0 0 0 0 0 0 false 0 0 0 0 0 0 e 0 w (fun W hn hW => ?_)
          have lt := qZr hn
          refine (qQl.zQ2 k id pr it su fe ppm sd st cl en le fa ct 86 #[.pointer (some ⟨w.heap.size + 1, 0, none⟩)] e (w.heap.size + 1) (.cells #[.int .i64 0] 2 (0, 0)) W (by omega) hf hg (fun V hV _ hb => ?_)).mono (fun e w' ⟨h1, h2, h3⟩ => ⟨h1, h2, h3 lt⟩)
          exact (qYj.zV0 W.heap.size id pr it su fe ppm sd st cl en le fa ct V hV (w.heap.size + 1) (qQl.kept hb hn) (by omega) _ _ _ _ hp (qQl.whole ci.1 ci.2) hq ce).mono (fun e w' ⟨h1, h2, h3⟩ => ⟨h1, h2, fun _ => h3⟩)
      · rw [if_neg ce] at h
        simp only [Option.some.injEq, Prod.mk.injEq] at h
        obtain ⟨rfl, rfl⟩ := h
        refine qYj.by_ id pr it su fe ppm sd st cl en le fa ct 0 0 0 0 0 0 false 0 0 0 0 0 0 e 0 w (fun W hn hW => ?_)
        have lt := qZr hn
        refine (qQl.zQ2 k id pr it su fe ppm sd st cl en le fa ct 86 #[.pointer (some ⟨w.heap.size + 1, 0, none⟩)] e (w.heap.size + 1) (.cells #[.int .i64 0] 2 (0, 0)) W (by omega) hf hg (fun V hV _ hb => ?_)).mono (fun e w' ⟨h1, h2, h3⟩ => ⟨h1, h2, h3 lt⟩)
        exact (qYj.zVm W.heap.size id pr it su fe ppm sd st cl en le fa ct V hV (w.heap.size + 1) (qQl.kept hb hn) (by omega) _ _ hp ce).mono (fun e w' ⟨h1, h2, h3⟩ => ⟨h1, h2, fun _ => h3⟩)
    · rw [if_neg ci] at h; cases h
end Go.Proofs.YtlhcohipnieidaaGreat.P
namespace Go.Proofs.YtlhcohipnieidaaGreat.P
open Go.RowKit W.PrintWords W.PrintLast W.PrintMore
attribute [local go_sem] qXg qXd qXq qXr qY2 qY1 qXe qXf
set_option linter.unusedVariables false
set_option linter.unusedSimpArgs false
def qYk.f (k : Nat) (a0_0 : Int) (a0_1 : Int) (a0_2 : Int) (a0_3 : Int) (a0_4 : Int) (a0_5 : Int) (a0_6 : Bool) (a0_7 : Int) (a0_8 : Int) (a0_9 : Int) (a0_10 : Int) (a0_11 : Int) (a0_12 : Int) (a1 : Int) : Option (Int × Int) := (qYj.f k a0_0 a0_1 a0_2 a0_3 a0_4 a0_5 a0_6 a0_7 a0_8 a0_9 a0_10 a0_11 a0_12).bind fun bt122 => (if bt122.2 = 0 then (some (mn a1 bt122.1, 0)) else (some (0, bt122.2)))
set_option maxHeartbeats 8000000 in
set_option maxRecDepth 100000 in
theorem qYk.calls (k : Nat) (a0_0 : Int) (a0_1 : Int) (a0_2 : Int) (a0_3 : Int) (a0_4 : Int) (a0_5 : Int) (a0_6 : Bool) (a0_7 : Int) (a0_8 : Int) (a0_9 : Int) (a0_10 : Int) (a0_11 : Int) (a0_12 : Int) (a1 : Int) (r1 : Int) (r2 : Int) (w : World) (h : qYk.f k a0_0 a0_1 a0_2 a0_3 a0_4 a0_5 a0_6 a0_7 a0_8 a0_9 a0_10 a0_11 a0_12 a1 = some (r1, r2)) :
  Calls Tryz.prog 30 #[.agg #[.int .i64 a0_0, .int .i64 a0_1, .int .i64 a0_2, .int .i64 a0_3, .int .i64 a0_4, .int .i64 a0_5, .bool a0_6, .int .i64 a0_7, .int .i64 a0_8, .int .i64 a0_9, .int .i64 a0_10, .int .i64 a0_11, .int .i64 a0_12], .int .i64 a1] w fun e w' => e = .returned (.tuple #[.int .i64 r1, .int .i64 r2]) ∧ Below w.heap.size w w' := by
 have hu48 := Tryz.underlying48
 have HB := am (Below.refl w.heap.size w)
 have H : ((qYj.f k a0_0 a0_1 a0_2 a0_3 a0_4 a0_5 a0_6 a0_7 a0_8 a0_9 a0_10 a0_11 a0_12).bind fun bt122 => (if bt122.2 = 0 then (some (mn a1 bt122.1, 0)) else (some (0, bt122.2)))) = some (r1, r2) := h
 clear h
 replace H := Option.bind_eq_some_iff.mp H
 obtain ⟨⟨t122, t123⟩, A30, H⟩ := H
 replace H : (if t123 = 0 then (some (mn a1 t122, 0)) else (some (0, t123))) = some (r1, r2) := H
 have A3 := am A30
 clear A30
 by_cases c4 : t123 = 0
 ·rw [if_pos c4] at H
  have c4b0 : (t123 == 0) = true := beq_iff_eq.mpr c4
  have c4b1 : (t123 != 0) = false := bne_eq_false_iff_eq.mpr c4
  clear c4
  obtain ⟨ji5, hji5⟩ : ∃ j_ : Int, (mn a1 t122) = j_ := ⟨_, rfl⟩
  replace H : (some (ji5, 0)) = some (r1, r2) := by first | (rw [hji5] at H; exact H) | (simp only [hji5] at H ⊢; exact H)
  (try rw [hji5] at A3)
  have hji5_ : (if t122 < a1 then t122 else a1) = ji5 := hji5
  simp only [Option.some.injEq, Prod.mk.injEq] at H
  obtain ⟨rfl, rfl⟩ := H
  go_enter Tryz.func30, Tryz.ntmps30
  go_wp2_with (first | ((with_reducible refine qQ0 (N := 2) rfl ?_); refine qQs ?hg (N := 2) ?hd (cs := #[.int .i64 a0_0, .int .i64 a0_1, .int .i64 a0_2, .int .i64 a0_3, .int .i64 a0_4, .int .i64 a0_5, .bool a0_6, .int .i64 a0_7, .int .i64 a0_8, .int .i64 a0_9, .int .i64 a0_10, .int .i64 a0_11, .int .i64 a0_12]) (t := 48) ?hr ?_; (case hd => rfl); (case hg => rfl); (case hr => first | (go_simp; done) | (go_simp; rfl)); intro gb121 hg w6 hbox hb; have n0_ := am (qQb (by exact h0q HB.out) hb); have n1_ := am (hbox); have n2_ := am ((by rw [hg]; exact (qQd (by exact h0q HB.out)) : w.heap.size ≤ gb121)); have n3_ := am ((by rw [hg]; exact (qQd (by exact h0q HB.out)) : w.heap.size ≤ gb121)); clear HB; have HB := n0_; have BK121 := n1_; have GW121 := n2_; have GE121 := n3_; clear n0_ n1_ n2_ n3_; clear hb hbox hg; have hz7 := lc13 BK121.out) | ((with_reducible refine qQh (f := 51) rfl ?_); refine goesL_ (some 10) rfl rfl Tryz.func51 (by kernel_rfl) rfl #[.agg #[.int .i64 a0_0, .int .i64 a0_1, .int .i64 a0_2, .int .i64 a0_3, .int .i64 a0_4, .int .i64 a0_5, .bool a0_6, .int .i64 a0_7, .int .i64 a0_8, .int .i64 a0_9, .int .i64 a0_10, .int .i64 a0_11, .int .i64 a0_12]] rfl ml ?_; (with_reducible refine (qYj.calls k a0_0 a0_1 a0_2 a0_3 a0_4 a0_5 a0_6 a0_7 a0_8 a0_9 a0_10 a0_11 a0_12 t122 t123 _ A3.out).mono ?_); rintro e w8 ⟨rfl, hb⟩; refine ⟨_, rfl, ?_⟩; have n0_ := am (qQg (g := gb121) (Up.up BK121.out) hb); have n1_ := am (qQb (by exact h1q HB.out GE121.out) hb); clear BK121; clear HB; have BK121 := n0_; have HB := n1_; clear n0_ n1_; (try clear hb); (try clear hb2); (try clear hk); (try clear hi)))
  go_ret2
  exact ⟨by first | rfl | (simp [qQq, qQr] <;> rfl) | (simp only [← hji5]; first | rfl | (simp [qQq, qQr] <;> rfl)) | (simp [*, qQq, qQr] <;> rfl), by exact h1q HB.out GE121.out⟩
 ·rw [if_neg c4] at H
  have c4b0 : (t123 == 0) = false := beq_eq_false_iff_ne.mpr c4
  have c4b1 : (t123 != 0) = true := bne_iff_ne.mpr c4
  simp only [Option.some.injEq, Prod.mk.injEq] at H
  obtain ⟨rfl, rfl⟩ := H
  go_enter Tryz.func30, Tryz.ntmps30
  go_wp2_with (first | ((with_reducible refine qQ0 (N := 2) rfl ?_); refine qQs ?hg (N := 2) ?hd (cs := #[.int .i64 a0_0, .int .i64 a0_1, .int .i64 a0_2, .int .i64 a0_3, .int .i64 a0_4, .int .i64 a0_5, .bool a0_6, .int .i64 a0_7, .int .i64 a0_8, .int .i64 a0_9, .int .i64 a0_10, .int .i64 a0_11, .int .i64 a0_12]) (t := 48) ?hr ?_; (case hd => rfl); (case hg => rfl); (case hr => first | (go_simp; done) | (go_simp; rfl)); intro gb121 hg w9 hbox hb; have n0_ := am (qQb (by exact h0q HB.out) hb); have n1_ := am (hbox); have n2_ := am ((by rw [hg]; exact (qQd (by exact h0q HB.out)) : w.heap.size ≤ gb121)); have n3_ := am ((by rw [hg]; exact (qQd (by exact h0q HB.out)) : w.heap.size ≤ gb121)); clear HB; have HB := n0_; have BK121 := n1_; have GW121 := n2_; have GE121 := n3_; clear n0_ n1_ n2_ n3_; clear hb hbox hg; have hz10 := lc13 BK121.out) | ((with_reducible refine qQh (f := 51) rfl ?_); refine goesL_ (some 10) rfl rfl Tryz.func51 (by kernel_rfl) rfl #[.agg #[.int .i64 a0_0, .int .i64 a0_1, .int .i64 a0_2, .int .i64 a0_3, .int .i64 a0_4, .int .i64 a0_5, .bool a0_6, .int .i64 a0_7, .int .i64 a0_8, .int .i64 a0_9, .int .i64 a0_10, .int .i64 a0_11, .int .i64 a0_12]] rfl ml ?_; (with_reducible refine (qYj.calls k a0_0 a0_1 a0_2 a0_3 a0_4 a0_5 a0_6 a0_7 a0_8 a0_9 a0_10 a0_11 a0_12 t122 t123 _ A3.out).mono ?_); rintro e w11 ⟨rfl, hb⟩; refine ⟨_, rfl, ?_⟩; have n0_ := am (qQg (g := gb121) (Up.up BK121.out) hb); have n1_ := am (qQb (by exact h1q HB.out GE121.out) hb); clear BK121; clear HB; have BK121 := n0_; have HB := n1_; clear n0_ n1_; (try clear hb); (try clear hb2); (try clear hk); (try clear hi)))
  go_ret2
  exact ⟨er, by exact h1q HB.out GE121.out⟩
def qY4.f (a0_0 : Int) (a0_1 : Int) (a0_2 : Int) (a0_3 : Int) (a0_4 : Int) (a0_5 : Int) (a0_6 : Bool) (a0_7 : Int) (a0_8 : Int) (a0_9 : Int) (a0_10 : Int) (a0_11 : Int) (a0_12 : Int) (a1 : Int) : Option (Int × Int) := some (a0_10, 0)
set_option maxHeartbeats 8000000 in
set_option maxRecDepth 100000 in
theorem qY4.calls (a0_0 : Int) (a0_1 : Int) (a0_2 : Int) (a0_3 : Int) (a0_4 : Int) (a0_5 : Int) (a0_6 : Bool) (a0_7 : Int) (a0_8 : Int) (a0_9 : Int) (a0_10 : Int) (a0_11 : Int) (a0_12 : Int) (a1 : Int) (r1 : Int) (r2 : Int) (w : World) (h : qY4.f a0_0 a0_1 a0_2 a0_3 a0_4 a0_5 a0_6 a0_7 a0_8 a0_9 a0_10 a0_11 a0_12 a1 = some (r1, r2)) :
  Calls Tryz.prog 69 #[.agg #[.int .i64 a0_0, .int .i64 a0_1, .int .i64 a0_2, .int .i64 a0_3, .int .i64 a0_4, .int .i64 a0_5, .bool a0_6, .int .i64 a0_7, .int .i64 a0_8, .int .i64 a0_9, .int .i64 a0_10, .int .i64 a0_11, .int .i64 a0_12], .int .i64 a1] w fun e w' => e = .returned (.tuple #[.int .i64 r1, .int .i64 r2]) ∧ Below w.heap.size w w' := by
 have hu48 := Tryz.underlying48
 have HB := am (Below.refl w.heap.size w)
 have H : (some (a0_10, 0)) = some (r1, r2) := h
 clear h
 simp only [Option.some.injEq, Prod.mk.injEq] at H
 obtain ⟨rfl, rfl⟩ := H
 go_enter Tryz.func69, Tryz.ntmps69
 go_wp2_with (first | ((with_reducible refine qQ0 (N := 2) rfl ?_); refine qQs ?hg (N := 2) ?hd (cs := #[.int .i64 a0_0, .int .i64 a0_1, .int .i64 a0_2, .int .i64 a0_3, .int .i64 a0_4, .int .i64 a0_5, .bool a0_6, .int .i64 a0_7, .int .i64 a0_8, .int .i64 a0_9, .int .i64 a0_10, .int .i64 a0_11, .int .i64 a0_12]) (t := 48) ?hr ?_; (case hd => rfl); (case hg => rfl); (case hr => first | (go_simp; done) | (go_simp; rfl)); intro gb124 hg w3 hbox hb; have n0_ := am (qQb (by exact h0q HB.out) hb); have n1_ := am (hbox); have n2_ := am ((by rw [hg]; exact (qQd (by exact h0q HB.out)) : w.heap.size ≤ gb124)); have n3_ := am ((by rw [hg]; exact (qQd (by exact h0q HB.out)) : w.heap.size ≤ gb124)); clear HB; have HB := n0_; have BK124 := n1_; have GW124 := n2_; have GE124 := n3_; clear n0_ n1_ n2_ n3_; clear hb hbox hg; obtain ⟨hcz4_0, hcz4_1, hcz4_2, hcz4_3, hcz4_4, hcz4_5, hcz4_6, hcz4_7, hcz4_8, hcz4_9, hcz4_10, hcz4_11, hcz4_12, hfz4_0, hfz4_1, hfz4_2, hfz4_3, hfz4_4, hfz4_5, hfz4_6, hfz4_7, hfz4_8, hfz4_9, hfz4_10, hfz4_11, hfz4_12⟩ := lc13 BK124.out))
 go_ret2
 exact ⟨er, by exact h1q HB.out GE124.out⟩
def qY5.f (a0_0 : Int) (a0_1 : Int) (a0_2 : Int) (a0_3 : Int) (a0_4 : Int) (a0_5 : Int) (a0_6 : Bool) (a0_7 : Int) (a0_8 : Int) (a0_9 : Int) (a0_10 : Int) (a0_11 : Int) (a0_12 : Int) (a1 : Int) : Option (Int × Int) := some (a0_11, 0)
set_option maxHeartbeats 8000000 in
set_option maxRecDepth 100000 in
theorem qY5.calls (a0_0 : Int) (a0_1 : Int) (a0_2 : Int) (a0_3 : Int) (a0_4 : Int) (a0_5 : Int) (a0_6 : Bool) (a0_7 : Int) (a0_8 : Int) (a0_9 : Int) (a0_10 : Int) (a0_11 : Int) (a0_12 : Int) (a1 : Int) (r1 : Int) (r2 : Int) (w : World) (h : qY5.f a0_0 a0_1 a0_2 a0_3 a0_4 a0_5 a0_6 a0_7 a0_8 a0_9 a0_10 a0_11 a0_12 a1 = some (r1, r2)) :
  Calls Tryz.prog 70 #[.agg #[.int .i64 a0_0, .int .i64 a0_1, .int .i64 a0_2, .int .i64 a0_3, .int .i64 a0_4, .int .i64 a0_5, .bool a0_6, .int .i64 a0_7, .int .i64 a0_8, .int .i64 a0_9, .int .i64 a0_10, .int .i64 a0_11, .int .i64 a0_12], .int .i64 a1] w fun e w' => e = .returned (.tuple #[.int .i64 r1, .int .i64 r2]) ∧ Below w.heap.size w w' := by
 have hu48 := Tryz.underlying48
 have HB := am (Below.refl w.heap.size w)
 have H : (some (a0_11, 0)) = some (r1, r2) := h
 clear h
 simp only [Option.some.injEq, Prod.mk.injEq] at H
 obtain ⟨rfl, rfl⟩ := H
 go_enter Tryz.func70, Tryz.ntmps70
 go_wp2_with (first | ((with_reducible refine qQ0 (N := 2) rfl ?_); refine qQs ?hg (N := 2) ?hd (cs := #[.int .i64 a0_0, .int .i64 a0_1, .int .i64 a0_2, .int .i64 a0_3, .int .i64 a0_4, .int .i64 a0_5, .bool a0_6, .int .i64 a0_7, .int .i64 a0_8, .int .i64 a0_9, .int .i64 a0_10, .int .i64 a0_11, .int .i64 a0_12]) (t := 48) ?hr ?_; (case hd => rfl); (case hg => rfl); (case hr => first | (go_simp; done) | (go_simp; rfl)); intro gb125 hg w3 hbox hb; have n0_ := am (qQb (by exact h0q HB.out) hb); have n1_ := am (hbox); have n2_ := am ((by rw [hg]; exact (qQd (by exact h0q HB.out)) : w.heap.size ≤ gb125)); have n3_ := am ((by rw [hg]; exact (qQd (by exact h0q HB.out)) : w.heap.size ≤ gb125)); clear HB; have HB := n0_; have BK125 := n1_; have GW125 := n2_; have GE125 := n3_; clear n0_ n1_ n2_ n3_; clear hb hbox hg; obtain ⟨hcz4_0, hcz4_1, hcz4_2, hcz4_3, hcz4_4, hcz4_5, hcz4_6, hcz4_7, hcz4_8, hcz4_9, hcz4_10, hcz4_11, hcz4_12, hfz4_0, hfz4_1, hfz4_2, hfz4_3, hfz4_4, hfz4_5, hfz4_6, hfz4_7, hfz4_8, hfz4_9, hfz4_10, hfz4_11, hfz4_12⟩ := lc13 BK125.out))
 go_ret2
 exact ⟨er, by exact h1q HB.out GE125.out⟩
def bits_Mul64.f (a0 : Int) (a1 : Int) : Option (Int × Int) := if 0 ≤ a0 ∧ a0 < 18446744073709551616 ∧ 0 ≤ a1 ∧ a1 < 18446744073709551616 then some (a0 * a1 / 18446744073709551616, a0 * a1 % 18446744073709551616) else none
theorem bits_Mul64.calls (a0 : Int) (a1 : Int) (r1 : Int) (r2 : Int) (w : World) (h : bits_Mul64.f a0 a1 = some (r1, r2)) :
  Calls Tryz.prog 101 #[.int .u64 a0, .int .u64 a1] w fun e w' => e = .returned (.tuple #[.int .u64 r1, .int .u64 r2]) ∧ Drawn0 w w' := by
 unfold bits_Mul64.f at h
 by_cases c : 0 ≤ a0 ∧ a0 < 18446744073709551616 ∧ 0 ≤ a1 ∧ a1 < 18446744073709551616
 ·rw [if_pos c] at h
  simp only [Option.some.injEq, Prod.mk.injEq] at h
  obtain ⟨rfl, rfl⟩ := h
  obtain ⟨x, rfl⟩ : ∃ x : Nat, a0 = x := ⟨a0.toNat, by omega⟩
  obtain ⟨y, rfl⟩ : ∃ y : Nat, a1 = y := ⟨a1.toNat, by omega⟩
  refine (Tryz.bits_Mul64 x y (by omega) (by omega) w).mono ?_
  rintro e w' ⟨rfl, rfl⟩
  refine ⟨?_, Drawn0.refl _⟩
  simp only [Int.natCast_ediv, Int.natCast_emod, Int.natCast_mul]
  rfl
 ·rw [if_neg c] at h; cases h
def qXl.f (a0 : Int) (a1 : Int) : Option (Int × Int) := (bits_Mul64.f a0 a1).bind fun bt126 => (some (bt126.1, bt126.2))
set_option maxHeartbeats 8000000 in
set_option maxRecDepth 100000 in
theorem qXl.calls (a0 : Int) (a1 : Int) (r1 : Int) (r2 : Int) (w : World) (h : qXl.f a0 a1 = some (r1, r2)) :
  Calls Tryz.prog 82 #[.int .u64 a0, .int .u64 a1] w fun e w' => e = .returned (.tuple #[.int .u64 r1, .int .u64 r2]) ∧ Drawn0 w w' := by
 have H : ((bits_Mul64.f a0 a1).bind fun bt126 => (some (bt126.1, bt126.2))) = some (r1, r2) := h
 clear h
 replace H := Option.bind_eq_some_iff.mp H
 obtain ⟨⟨t126, t127⟩, A30, H⟩ := H
 replace H : (some (t126, t127)) = some (r1, r2) := H
 have A3 := am A30
 clear A30
 simp only [Option.some.injEq, Prod.mk.injEq] at H
 obtain ⟨rfl, rfl⟩ := H
 go_enter Tryz.func82, Tryz.ntmps82
 go_wp2_with (first | ((with_reducible refine qQh (f := 101) rfl ?_); refine goesL_ (some 8) rfl rfl Tryz.func101 (by kernel_rfl) rfl #[.int .u64 a0, .int .u64 a1] rfl ml ?_; (with_reducible refine (bits_Mul64.calls a0 a1 t126 t127 _ A3.out).mono ?_); rintro e w' ⟨rfl, ⟨nd, rfl⟩⟩; refine ⟨_, rfl, ?_⟩))
 go_ret2
 exact ⟨by first | rfl | (simp; done) | (simp [*]; done), by repeat (first | exact Drawn0.refl _ | apply Drawn0.step)⟩
def bits_LeadingZeros64.f (a0 : Int) : Option (Int) := if 0 ≤ a0 ∧ a0 ≤ 18446744073709551615 then some (64 - (Lib.bitLen a0.toNat : Int)) else none
theorem bits_LeadingZeros64.calls (a0 : Int) (r : Int) (w : World) (h : bits_LeadingZeros64.f a0 = some r) :
  Calls Tryz.prog 114 #[.int .u64 a0] w fun e w' => e = .returned (.int .i64 r) ∧ Drawn0 w w' := by
 unfold bits_LeadingZeros64.f at h
 by_cases c : 0 ≤ a0 ∧ a0 ≤ 18446744073709551615
 ·rw [if_pos c] at h
  obtain rfl := Option.some.inj h
  refine (Tryz.bits_LeadingZeros64 a0 w c.1 c.2).mono ?_
  rintro e w' ⟨rfl, rfl⟩
  exact ⟨rfl, Drawn0.refl _⟩
 ·rw [if_neg c] at h; cases h
end Go.Proofs.YtlhcohipnieidaaGreat.P
