/- A part of a proof. -/
import Derived.Laws.BitsLemmas
import Derived.Laws.Bits64
import Derived.Lib.ItoaNum
import Derived.RowKit
namespace Go.Proofs.Yteemomncbcpdjaa.PlainM
open Go Go.RowKit
theorem w64 {e : Int} (h : -9223372036854775808 ≤ e) (h' : e ≤ 9223372036854775807) : wrap64 e = e := by unfold wrap64; omega
theorem obind {α β : Type} (a : α) (f : α → Option β) : (some a).bind f = f a := (Option.bind_some a f).trans (Eq.refl (f a))
end Go.Proofs.Yteemomncbcpdjaa.PlainM
