/- What plan's functions come to, in plain numbers, for every number of rounds that is large enough. -/
import Derived.Test.YtlhcohipnieidaaZb
import Derived.Test.YtlhcohipnieidaaZo
import Derived.Test.YtlhcohipnieidaaPx9
import Derived.Test.YtlhcohipnieidaaPx18
import Derived.Test.YtlhcohipnieidaaPx24
import Derived.Test.YtlhcohipnieidaaPx25
import Derived.Test.YtlhcohipnieidaaPx29
import Derived.Test.YtlhcohipnieidaaPx30
import Derived.Test.YtlhcohipnieidaaLevelEv
import Derived.Test.YtlhcohipnieidaaLoanEv
import Derived.Test.YtlhcohipnieidaaDueEv
import Derived.Test.YtlhcohipnieidaaStepEv
import Derived.Test.YtlhcohipnieidaaIncomeEv
import Derived.Test.YtlhcohipnieidaaShareEv
namespace Go.Proofs.Ytlhcohipnieidaa.PurePl
set_option linter.unusedVariables false
set_option linter.unusedSimpArgs false
open Go.RowKit Go.Proofs.Ytlhcohipnieidaa.P Go.Proofs.YtlhcohipnieidaaW.PrintWords Go.Proofs.YtlhcohipnieidaaW.PrintLast Go.Proofs.YtlhcohipnieidaaW.PrintMore Go.Proofs.Ytlhcohipnieidaa.PlainM
open Go.Proofs.Ytlhcohipnieidaa.PureLo (gd mon owesS good_is owes_is)
/-- A loan. -/
abbrev LT := S23
abbrev BT := S147
def gdL (x : LT) : Prop := gd x.f0 x.f1 x.f2 x.f3 x.f4 x.f5 x.f7 x.f8 x.f9 x.f10 x.f11 x.f12
instance (x : LT) : Decidable (gdL x) := by unfold gdL; infer_instance
def owesL (x : LT) : Int × Int := owesS x.f0 x.f1 x.f2 x.f3 x.f4 x.f5 x.f7 x.f8 x.f9 x.f10 x.f11 x.f12
/-- What is asked of a loan, at most what it owes. -/
def capL (x : LT) (n : Int) : Int × Int := if (owesL x).2 = 0 then (mn n (owesL x).1, 0) else (0, (owesL x).2)
/-- Whether a loan takes part. -/
def partL (x : LT) : Bool := decide (x.f8 = 0 ∧ x.f7 = 5)
/-- Whole months between two days. -/
def wholeD (a b : Int) : Int := (due_Whole.f 3000 a b).getD 0
theorem whole_ex (a b : Int) : ∃ r, r ≤ 3000 ∧ ∀ k, 3000 ≤ k → due_Whole.f k a b = some r := by
  by_cases h : a < 0 ∨ 87658 < a ∨ b < 0 ∨ 87658 < b ∨ b < a
  · exact ⟨0, by omega, fun k hk => PureD.due_Whole_no a b k h (by omega)⟩
  · obtain ⟨m, hm, h1, h2⟩ := Plain.mo_ex a (by omega) (by omega)
    obtain ⟨n, hn, g1, g2⟩ := Plain.mo_ex b (by omega) (by omega)
    refine ⟨_, ?_, fun k hk => PureD.due_Whole_ok m n k a b hm h1 h2 hn g1 g2 (by omega) (by omega)⟩
    unfold PureD.wholeS
    split <;> omega
theorem whole_is (a b : Int) (k : Nat) (hk : 3000 ≤ k) : due_Whole.f k a b = some (wholeD a b) := by
  obtain ⟨r, _, h⟩ := whole_ex a b
  unfold wholeD
  rw [h k hk, h 3000 (Nat.le_refl _)]; rfl
theorem whole_le (a b : Int) : wholeD a b ≤ 3000 := by
  obtain ⟨r, hr, h⟩ := whole_ex a b
  unfold wholeD
  rw [h 3000 (Nat.le_refl _)]; exact hr
/-- What the plan of a number asks of a loan, not capped. -/
def valL (x : LT) (how day : Int) : Int × Int := if how = 1 then (x.f10, 0) else if how = 2 then (x.f11, 0) else PureSt.stepS x.f10 (wholeD x.f9 day)
def ofL (x : LT) (how day : Int) : Int × Int :=
  if gdL x ∧ (1 ≤ how ∧ how ≤ 3) ∧ (0 ≤ day ∧ day ≤ 87658) then (if partL x = true then (if (valL x how day).2 = 0 then capL x (valL x how day).1 else (0, (valL x how day).2)) else (0, 0)) else (0, 1)
theorem goodL_is (x : LT) (k : Nat) (hk : 10 ≤ k) : loan_Good.f k x.f0 x.f1 x.f2 x.f3 x.f4 x.f5 x.f6 x.f7 x.f8 x.f9 x.f10 x.f11 x.f12 = some (decide (gdL x)) := good_is _ _ _ _ _ _ _ _ _ _ _ _ _ k hk
theorem capped_is (x : LT) (n : Int) (k : Nat) (hk : 10 ≤ k) : plan_capped.f k x.f0 x.f1 x.f2 x.f3 x.f4 x.f5 x.f6 x.f7 x.f8 x.f9 x.f10 x.f11 x.f12 n = some (capL x n) := by
  unfold plan_capped.f capL owesL
  rw [owes_is _ _ _ _ _ _ _ _ _ _ _ _ _ k hk, obind]
  split <;> rfl
theorem part_is (x : LT) : plan_Part.f x.f0 x.f1 x.f2 x.f3 x.f4 x.f5 x.f6 x.f7 x.f8 x.f9 x.f10 x.f11 x.f12 = some (partL x) := by
  unfold plan_Part.f partL
  by_cases h : x.f8 = 0
  · rw [if_pos h]
    by_cases h2 : x.f7 = 5
    · rw [decide_eq_true ⟨h, h2⟩, beq_iff_eq.2 h2]
    · rw [decide_eq_false (fun z => h2 z.2), beq_eq_false_iff_ne.2 h2]
  · rw [if_neg h, decide_eq_false (fun z => h z.1)]
theorem val_is (x : LT) (how day : Int) (k : Nat) (hk : 3000 ≤ k) : plan_Of.val k x.f0 x.f1 x.f2 x.f3 x.f4 x.f5 x.f6 x.f7 x.f8 x.f9 x.f10 x.f11 x.f12 how day = some (valL x how day) := by
  unfold plan_Of.val valL plan_asks_1.f plan_asks_2.f plan_asks_3.f
  by_cases h1 : how = 1
  · rw [if_pos h1, if_pos h1]
  rw [if_neg h1, if_neg h1]
  by_cases h2 : how = 2
  · rw [if_pos h2, if_pos h2]
  rw [if_neg h2, if_neg h2, whole_is _ _ k hk, obind, PureSt.step_Of_is _ _ k (by have := whole_le x.f9 day; omega) (by omega), obind]
theorem of_is (x : LT) (how day : Int) (k : Nat) (hk : 3000 ≤ k) : plan_Of.f k x.f0 x.f1 x.f2 x.f3 x.f4 x.f5 x.f6 x.f7 x.f8 x.f9 x.f10 x.f11 x.f12 how day = some (ofL x how day) := by
  unfold plan_Of.f ofL
  rw [goodL_is x k (by omega), obind]
  by_cases hg : gdL x
  case neg => rw [decide_eq_false hg, if_neg (by simp), if_neg (fun h => hg h.1)]
  rw [decide_eq_true hg, if_pos rfl]
  by_cases hh : 1 ≤ how ∧ how ≤ 3
  case neg => rw [if_neg hh, if_neg (fun h => hh h.2.1)]
  rw [if_pos hh, PureD.date_Good_is, obind]
  by_cases hd : 0 ≤ day ∧ day ≤ 87658
  case neg => rw [decide_eq_false hd, if_neg (by simp), if_neg (fun h => hd h.2.2)]
  rw [decide_eq_true hd, if_pos rfl, if_pos ⟨hg, hh, hd⟩, part_is, obind]
  by_cases hp : partL x = true
  case neg => rw [if_neg hp, if_neg hp]
  rw [if_pos hp, if_pos hp, val_is x how day k hk, obind]
  by_cases hv : (valL x how day).2 = 0
  · rw [if_pos hv, if_pos hv, capped_is x _ k (by omega)]
  · rw [if_neg hv, if_neg hv]
/-! ### is any loan not good -/
def badL (l : List LT) : Bool := l.any (fun x => !decide (gdL x))
theorem bad_go (k : Nat) (hk : 10 ≤ k) : ∀ (l : List LT) (j : Nat), ∃ i, plan_bad.go k l j = some i ∧ decide (0 ≤ i) = badL l := by
  intro l
  induction l with
  | nil => intro j; exact ⟨-1, rfl, rfl⟩
  | cons x l ih =>
    intro j
    unfold plan_bad.go
    rw [goodL_is x k hk, obind]
    by_cases hg : gdL x
    · rw [decide_eq_true hg, if_pos rfl]
      obtain ⟨i, h1, h2⟩ := ih (j + 1)
      refine ⟨i, h1, h2.trans ?_⟩
      show badL l = (!decide (gdL x) || badL l)
      rw [decide_eq_true hg]; rfl
    · rw [decide_eq_false hg, if_neg (by simp)]
      refine ⟨_, rfl, ?_⟩
      show _ = (!decide (gdL x) || badL l)
      rw [decide_eq_false hg, decide_eq_true (by omega)]; rfl
theorem bad_is (l : List LT) (k : Nat) (hl : l.length ≤ 100000) (hk : 10 ≤ k) : plan_bad.f k l = some (badL l) := by
  unfold plan_bad.f
  obtain ⟨i, h1, h2⟩ := bad_go k hk l 0
  rw [if_pos hl, h1, obind, h2]
/-! ### the plan that holds -/
def addD (a n : Int) : Int × Int := (date_Add.f 400 a n).getD (0, 0)
theorem add_is (a n : Int) (k : Nat) (hk : 400 ≤ k) : date_Add.f k a n = some (addD a n) := by
  have h : ∃ r, ∀ k, 400 ≤ k → date_Add.f k a n = some r := by
    by_cases h : a < 0 ∨ 87658 < a
    · exact ⟨_, fun k hk => PureD.date_Add_out a n k h (by omega)⟩
    · obtain ⟨m, hm, h1, h2⟩ := Plain.mo_ex a (by omega) (by omega)
      by_cases hx : (m : Int) + n < 0 ∨ 2880 ≤ (m : Int) + n
      · exact ⟨_, fun k hk => PureD.date_Add_no m k a n hm h1 h2 hx (by omega)⟩
      · exact ⟨_, fun k hk => PureD.date_Add_ok m ((m : Int) + n).toNat k a n hm h1 h2 (by omega) (by omega) (by omega)⟩
  obtain ⟨r, h⟩ := h
  unfold addD
  rw [h k hk, h 400 (Nat.le_refl _)]; rfl
def holdsS (plan since day : Int) : Int := if plan = 0 then 1 else if plan = 4 then (if (addD since 12).2 = 0 then (if day ≥ (addD since 12).1 then 1 else plan) else 1) else plan
theorem holds_is (d : Int) (L : List LT) (plan since inc fam : Int) (B : List BT) (a b c e f g day : Int) (k : Nat) (hk : 400 ≤ k) : plan_Holds.f k d L plan since inc fam B a b c e f g day = some (holdsS plan since day) := by
  unfold plan_Holds.f holdsS
  by_cases h0 : plan = 0
  · rw [if_pos h0, if_pos h0]
  rw [if_neg h0, if_neg h0]
  by_cases h4 : plan = 4
  · rw [if_pos h4, if_pos h4, add_is _ _ k hk, obind]
    split
    · split <;> rfl
    · rfl
  · rw [if_neg h4, if_neg h4]
/-! ### shares by income -/
theorem rdT_drop (l : List LT) (j : Nat) (h : j < l.length) : l.drop j = rd_T23 l j :: l.drop (j + 1) := by
  rw [List.drop_eq_getElem_cons h]; congr 1; unfold rd_T23; simp [List.getD_eq_getElem?_getD, h]
theorem rdT_map (l : List LT) (j : Nat) (h : j < l.length) : (rd_T23 l j).f1 = rd (l.map fun x => x.f1) j := by
  unfold rd_T23 rd; simp [List.getD_eq_getElem?_getD, h]
def prinL (l : List LT) : List Int := l.map fun x => x.f1
def anyP (l : List Int) : Bool := l.any fun a => decide (a > 0)
def sharesS (total : Int) (l : List LT) : List Int × Int := if anyP (prinL l) = true then PureSh.splitF total (prinL l) else (prinL l, 0)
theorem any_take (l : List Int) (j : Nat) (h : j < l.length) : anyP (l.take (j + 1)) = (anyP (l.take j) || decide (rd l j > 0)) := by
  unfold anyP
  rw [List.take_add_one, List.any_append]
  have e : rd l j = l[j] := by unfold rd; simp [List.getD_eq_getElem?_getD, h]
  rw [e]
  simp [h]
theorem shares_l0 (total : Int) (l : List LT) (hl : l.length ≤ 1000) : ∀ (d k j : Nat), j + d = l.length → d + 3010 < k →
    plan_shares.l0 k total (PureSh.halfS id (prinL l) j) (anyP ((prinL l).take j)) l l.length j = some (sharesS total l) := by
  have hpl : (prinL l).length = l.length := by unfold prinL; simp
  intro d
  induction d with
  | zero =>
    intro k j hj hk
    obtain ⟨k, rfl⟩ : ∃ m, k = m + 1 := ⟨k - 1, by omega⟩
    obtain rfl : j = l.length := by omega
    simp only [plan_shares.l0]
    rw [if_neg (by omega)]
    have e1 : PureSh.halfS id (prinL l) l.length = prinL l := by
      rw [show l.length = (prinL l).length from hpl.symm, PureSh.half_all]; simp
    have e2 : (prinL l).take l.length = prinL l := List.take_of_length_le (by omega)
    rw [e1, e2]
    unfold sharesS
    by_cases c : anyP (prinL l) = true
    · rw [if_pos c, if_pos c, PureSh.split_is total (prinL l) k (by omega) (by omega), obind]
    · rw [if_neg c, if_neg c]
  | succ d ih =>
    intro k j hj hk
    obtain ⟨k, rfl⟩ : ∃ m, k = m + 1 := ⟨k - 1, by omega⟩
    have hlt : j < l.length := by omega
    simp only [plan_shares.l0]
    rw [if_pos (by omega), if_pos (by omega), if_pos (by omega), if_pos (by rw [PureSh.half_len id _ (by omega)]; omega), obind, Int.toNat_natCast]
    have e1 : (PureSh.halfS id (prinL l) j).set j ((rd_T23 l j).f1) = PureSh.halfS id (prinL l) (j + 1) := by
      rw [rdT_map l j hlt]; exact PureSh.half_set id (prinL l) (by omega)
    have e2 := any_take (prinL l) j (by omega)
    have e3 : (rd_T23 l j).f1 = rd (prinL l) j := rdT_map l j hlt
    rw [e1, w64 (e := (j : Int) + 1) (by omega) (by omega)]
    have nx := ih k (j + 1) (by omega) (by omega)
    rw [e2, show ((j + 1 : Nat) : Int) = (j : Int) + 1 by omega] at nx
    by_cases c : anyP ((prinL l).take j) = true
    · rw [if_pos c]; rw [c, Bool.true_or] at nx; exact nx
    · rw [if_neg c, e3]; rw [Bool.eq_false_iff.2 c, Bool.false_or] at nx; exact nx
def sharesF (poor : List Int) (fam inc : Int) (l : List LT) : List Int × Int := if (PureIn.askS poor fam inc).2 = 0 then sharesS (PureIn.askS poor fam inc).1 l else ([], (PureIn.askS poor fam inc).2)
theorem shares_is (m : Int) (poor : List Int) (d : Int) (L : List LT) (plan since inc fam : Int) (B : List BT) (a b c e f g : Int) (l : List LT) (k : Nat) (hl : l.length ≤ 1000) (hp : poor.length ≤ 4611686018427387904) (hk : 4100 ≤ k) :
    plan_shares.f k m poor d L plan since inc fam B a b c e f g l = some (sharesF poor fam inc l) := by
  unfold plan_shares.f sharesF
  rw [PureIn.income_Ask_is _ _ _ k hp (by omega), obind]
  by_cases h : (PureIn.askS poor fam inc).2 = 0
  · rw [if_pos h, if_pos h, if_pos (by omega), if_pos (by omega), Int.toNat_natCast]
    have := shares_l0 (PureIn.askS poor fam inc).1 l hl l.length k 0 (by omega) (by omega)
    rw [PureSh.half_zero, show (prinL l).length = l.length by unfold prinL; simp] at this
    exact this
  · rw [if_neg h, if_neg h]
/-! ### what all are asked -/
def valsS (how day : Int) : List LT → List Int → List (Int × Int)
  | x :: l, n :: m => (if how = 4 then capL x n else ofL x how day) :: valsS how day l m
  | _, _ => []
/-- The first error, or all. -/
def firstE : List (Int × Int) → Int × List Int
  | [] => (0, [])
  | v :: l => if v.2 = 0 then (if (firstE l).1 = 0 then (0, v.1 :: (firstE l).2) else ((firstE l).1, [])) else (v.2, [])
def finS (ids acc : List Int) (r : Int × List Int) : List Int × List Int × Int := if r.1 = 0 then (ids, acc ++ r.2, 0) else ([], [], r.1)
theorem asks_l1 (day : Int) (ids : List Int) (how : Int) (all : List Int) (part : List LT) (hall : all.length = part.length) (hl : part.length ≤ 1000) : ∀ (d k j : Nat) (acc : List Int), j + d = part.length → d + 3010 < k → acc.length + d ≤ 100000 →
    plan_Asks.l1 k day ids acc how all part part.length j = some (finS ids acc (firstE (valsS how day (part.drop j) (all.drop j)))) := by
  intro d
  induction d with
  | zero =>
    intro k j acc hj hk ha
    obtain ⟨k, rfl⟩ : ∃ m, k = m + 1 := ⟨k - 1, by omega⟩
    simp only [plan_Asks.l1]
    rw [if_neg (by omega), List.drop_of_length_le (by omega)]
    simp [valsS, firstE, finS]
  | succ d ih =>
    intro k j acc hj hk ha
    obtain ⟨k, rfl⟩ : ∃ m, k = m + 1 := ⟨k - 1, by omega⟩
    have hlt : j < part.length := by omega
    rw [rdT_drop part j hlt, PureSh.rd_drop all j (by omega)]
    simp only [plan_Asks.l1]
    rw [if_pos (by omega), if_pos (by omega), if_pos (by omega), if_pos (by omega), w64 (e := (j : Int) + 1) (by omega) (by omega)]
    have nx := fun q => ih k (j + 1) (acc ++ [q]) (by omega) (by omega) (by simp; omega)
    rw [show ((j + 1 : Nat) : Int) = (j : Int) + 1 by omega] at nx
    have key : ∀ v : Int × Int, ((some v).bind fun bt : Int × Int => (if bt.2 = 0 then (if acc.length < 17592186044416 then plan_Asks.l1 k day ids (acc ++ [bt.1]) how all part part.length ((j : Int) + 1) else none) else some (([] : List Int), ([] : List Int), bt.2))) = some (finS ids acc (firstE (v :: valsS how day (part.drop (j + 1)) (all.drop (j + 1))))) := by
      intro v
      rw [obind]
      by_cases hv : v.2 = 0
      · rw [if_pos hv, if_pos (by omega), nx v.1]
        simp only [firstE, if_pos hv, finS]
        by_cases h2 : (firstE (valsS how day (part.drop (j + 1)) (all.drop (j + 1)))).1 = 0
        · rw [if_pos h2, if_pos h2, if_pos rfl]; simp
        · rw [if_neg h2, if_neg h2, if_neg h2]
      · rw [if_neg hv]
        simp only [firstE, if_neg hv, finS]
    simp only [valsS]
    by_cases h4 : how = 4
    · rw [if_pos h4, if_pos h4, capped_is _ _ k (by omega)]
      exact key _
    · rw [if_neg h4, if_neg h4, of_is _ _ _ k (by omega)]
      exact key _
theorem splitF_len2 {t : Int} {l : List Int} (h : (PureSh.splitF t l).2 = 0) : (PureSh.splitF t l).1.length = l.length := by
  unfold PureSh.splitF at h ⊢
  split
  · exact PureSh.prt_len _ _ _
  · rename_i hc; rw [if_neg hc] at h; cases h
theorem shares_len {poor : List Int} {fam inc : Int} {l : List LT} (h : (sharesF poor fam inc l).2 = 0) : (sharesF poor fam inc l).1.length = l.length := by
  unfold sharesF at h ⊢
  by_cases c : (PureIn.askS poor fam inc).2 = 0
  · rw [if_pos c] at h ⊢
    unfold sharesS at h ⊢
    by_cases c2 : anyP (prinL l) = true
    · rw [if_pos c2] at h ⊢
      rw [splitF_len2 h]; unfold prinL; simp
    · rw [if_neg c2]; unfold prinL; simp
  · rw [if_neg c] at h; exact absurd h c
/-- What those that take part are asked. -/
def partS (poor : List Int) (plan since inc fam day : Int) (part : List LT) : List Int × List Int × Int :=
  if part = [] then ([], [], 0) else
  if holdsS plan since day = 4 then (if (sharesF poor fam inc part).2 = 0 then finS (part.map fun x => x.f0) [] (firstE (valsS 4 day part (sharesF poor fam inc part).1)) else ([], [], (sharesF poor fam inc part).2))
  else finS (part.map fun x => x.f0) [] (firstE (valsS (holdsS plan since day) day part (List.replicate part.length 0)))
def asksS (poor : List Int) (L : List LT) (plan since inc fam day : Int) : List Int × List Int × Int :=
  if PureIn.goodT poor = true ∧ (0 ≤ day ∧ day ≤ 87658) ∧ badL L = false then partS poor plan since inc fam day (L.filter partL) else ([], [], 1)
section
variable (m : Int) (poor : List Int) (d0 : Int) (L : List LT) (plan since inc fam : Int) (B : List BT) (a b c e f g day : Int)
theorem asks_end (hp : poor.length ≤ 4611686018427387904) (part : List LT) (n : Int) (hn : (L.length : Int) = n) (hl : part.length ≤ 1000) (k : Nat) (hk : 5200 ≤ k) :
    plan_Asks.l0 (k + 1) day (part.map fun x => x.f0) [] part L n n m poor d0 L plan since inc fam B a b c e f g = some (partS poor plan since inc fam day part) := by
  obtain ⟨k, rfl⟩ : ∃ q, k = q + 1 := ⟨k - 1, by omega⟩
  simp only [plan_Asks.l0]
  unfold partS
  rw [if_neg (by omega)]
  cases part with
  | nil => rfl
  | cons x part =>
    rw [if_neg (by simp; omega), if_neg (by simp), holds_is _ _ _ _ _ _ _ _ _ _ _ _ _ _ (k + 1) (by omega), obind, if_pos (by omega), if_pos (by simp at hl ⊢; omega)]
    generalize hP : x :: part = P at hl ⊢
    by_cases h4 : holdsS plan since day = 4
    · rw [if_pos h4, if_pos h4, shares_is _ _ _ _ _ _ _ _ _ _ _ _ _ _ _ P (k + 1) hl hp (by omega), obind]
      by_cases hs : (sharesF poor fam inc P).2 = 0
      · rw [if_pos hs, if_pos hs]
        simp only [plan_Asks.j2]
        have := asks_l1 day (P.map fun x => x.f0) 4 (sharesF poor fam inc P).1 P (shares_len hs) hl P.length k 0 [] (by omega) (by omega) (by simp; omega)
        rw [h4]
        exact this
      · rw [if_neg hs, if_neg hs]
    · rw [if_neg h4, if_neg h4, Int.toNat_natCast]
      simp only [plan_Asks.j2]
      exact asks_l1 day (P.map fun x => x.f0) (holdsS plan since day) (List.replicate P.length 0) P (by simp) hl P.length k 0 [] (by omega) (by omega) (by simp; omega)
theorem asks_l0 (hp : poor.length ≤ 4611686018427387904) (hL : L.length ≤ 1000) : ∀ (d k j : Nat) (part : List LT), j + d = L.length → d + 5300 < k → part.length + d ≤ 1000 →
    plan_Asks.l0 k day (part.map fun x => x.f0) [] part L L.length j m poor d0 L plan since inc fam B a b c e f g = some (partS poor plan since inc fam day (part ++ (L.drop j).filter partL)) := by
  intro d
  induction d with
  | zero =>
    intro k j part hj hk hq
    obtain ⟨k, rfl⟩ : ∃ q, k = q + 1 := ⟨k - 1, by omega⟩
    obtain rfl : j = L.length := by omega
    rw [List.drop_length, List.filter_nil, List.append_nil]
    exact asks_end m poor d0 L plan since inc fam B a b c e f g day hp part L.length rfl (by omega) k (by omega)
  | succ d ih =>
    intro k j part hj hk hq
    obtain ⟨k, rfl⟩ : ∃ q, k = q + 1 := ⟨k - 1, by omega⟩
    have hlt : j < L.length := by omega
    rw [rdT_drop L j hlt]
    generalize hX : rd_T23 L j = X
    simp only [plan_Asks.l0, hX]
    rw [if_pos (by omega), if_pos (by omega), if_pos (by omega), part_is X, obind, w64 (e := (j : Int) + 1) (by omega) (by omega)]
    by_cases hx : partL X = true
    · rw [if_pos hx, if_pos (by omega), if_pos (by simp; omega), List.filter_cons_of_pos hx]
      have nx := ih k (j + 1) (part ++ [X]) (by omega) (by omega) (by simp; omega)
      rw [List.map_append, List.append_assoc, show ((j + 1 : Nat) : Int) = (j : Int) + 1 by omega] at nx
      exact nx
    · rw [if_neg hx, List.filter_cons_of_neg hx]
      have nx := ih k (j + 1) part (by omega) (by omega) (by omega)
      rw [show ((j + 1 : Nat) : Int) = (j : Int) + 1 by omega] at nx
      exact nx
theorem asks_is (hp : poor.length ≤ 4611686018427387904) (hL : L.length ≤ 1000) (k : Nat) (hk : 7000 ≤ k) :
    plan_Asks.f k m poor d0 L plan since inc fam B a b c e f g day = some (asksS poor L plan since inc fam day) := by
  obtain ⟨k, rfl⟩ : ∃ q, k = q + 1 := ⟨k - 1, by omega⟩
  unfold plan_Asks.f asksS
  rw [PureIn.income_Good_is poor (k + 1) hp (by omega), obind]
  by_cases h1 : PureIn.goodT poor = true
  case neg =>
    rw [if_neg h1, if_neg (fun h => h1 h.1)]
    simp only [plan_Asks.j0, if_true]
  rw [if_pos h1, PureD.date_Good_is, obind]
  by_cases h2 : 0 ≤ day ∧ day ≤ 87658
  case neg =>
    rw [decide_eq_false h2, if_neg (by simp), if_neg (fun h => h2 h.2.1)]
    simp only [plan_Asks.j0, if_true]
  rw [decide_eq_true h2, if_pos rfl, bad_is L (k + 1) (by omega) (by omega), obind]
  simp only [plan_Asks.j0]
  by_cases h3 : badL L = true
  · rw [if_pos h3, if_neg (fun h => by rw [h3] at h; exact absurd h.2.2 (by simp))]
  · rw [if_neg h3, if_pos ⟨h1, h2, by simpa using h3⟩]
    exact asks_l0 m poor d0 L plan since inc fam B a b c e f g day hp hL L.length k 0 [] (by omega) (by omega) (by simp; omega)
end
end Go.Proofs.Ytlhcohipnieidaa.PurePl
