/- A payment is the same as its two parts, one behind the other, as long as nothing of the first one is refunded. -/
import Derived.Test.YteemomncbcpdjaaPx19
import Derived.Test.YteemomncbcpdjaaPayAgain
import Derived.Test.YteemomncbcpdjaaPayKeep0
namespace Go.Proofs.Yteemomncbcpdjaa.Pure
set_option linter.unusedVariables false
set_option linter.unusedSimpArgs false
open Go.RowKit Go.Proofs.Yteemomncbcpdjaa.P Go.Proofs.YteemomncbcpdjaaW.PrintWords Go.Proofs.YteemomncbcpdjaaW.PrintLast Go.Proofs.YteemomncbcpdjaaW.PrintMore Go.Proofs.Yteemomncbcpdjaa.PlainM Go.Proofs.Yteemomncbcpdjaa.Plain
theorem payR_no {l : List S43} {a : Int} (n : noPay l a = true) : payR l a = ([], 0, 0, 0, 0, 1) := by unfold payR; rw [if_pos n]
theorem payR_ok {l : List S43} {a : Int} (n : ¬ noPay l a = true) : payR l a = (outL l a, (F1 l a).sum, (F2 l a).sum, (F3 l a).sum, R3 l a, 0) := by unfold payR; rw [if_neg n]
theorem noPay_not {l : List S43} {a : Int} (hg : ∀ x ∈ l, gdL x) (hl : l.length ≤ 16) (ha : 0 ≤ a) (ha' : a ≤ 10000000000000) : ¬ noPay l a = true := by
  unfold noPay
  rw [decide_eq_true_eq]
  have hb : ¬ badL l = true := by
    unfold badL
    rw [show l.all (fun x => decide (gdL x)) = true from List.all_eq_true.2 (fun x hx => decide_eq_true (hg x hx))]
    simp
  exact fun h => h.elim hb (fun h => by omega)
theorem sum_bd {l : List S43} {a : Int} (hg : ∀ x ∈ l, gdL x) (ha : 0 ≤ a) : (0 ≤ (F1 l a).sum ∧ (F1 l a).sum ≤ a) ∧ (0 ≤ (F2 l a).sum ∧ (F2 l a).sum ≤ a) ∧ (0 ≤ (F3 l a).sum ∧ (F3 l a).sum ≤ a) := by
  have h := @sums l a
  have r := R_bd hg ha
  omega
theorem PayTwice : annuitylaw20_PayTwice.Pure := by
  intro l a b hm _ _ ha hb
  have ba : 0 ≤ a ∧ a ≤ 4294967295 := by simp only [Lit.wf, Bool.and_eq_true, decide_eq_true_eq] at ha; exact ha
  have bb : 0 ≤ b ∧ b ≤ 4294967295 := by simp only [Lit.wf, Bool.and_eq_true, decide_eq_true_eq] at hb; exact hb
  obtain ⟨k, hk⟩ : ∃ k : Nat, 3000 ≤ k := ⟨3000, by omega⟩
  refine ⟨k, ?_⟩
  unfold annuitylaw20_PayTwice.f
  by_cases c : (l.length : Int) > 16
  · rw [if_pos c, wakes20 k (by omega)]; rfl
  rw [if_neg c, copy_is l (by omega), w64 (e := a) (by omega) (by omega), w64 (e := b) (by omega) (by omega), w64 (e := a + b) (by omega) (by omega)]
  simp only [obind]
  rw [pay_All_is l a (by omega) k (by omega)]
  simp only [obind]
  by_cases n : noPay l a = true
  · rw [payR_no n, if_neg (by decide), wakes20 k (by omega)]; rfl
  rw [payR_ok n, if_pos rfl]
  have hg : ∀ x ∈ l, gdL x := badL_all (by
    unfold noPay at n
    simp only [decide_eq_true_eq] at n
    simpa using fun h => n (.inl h))
  by_cases h0 : R3 l a > 0
  · rw [if_pos (show R3 l a > 0 from h0), wakes20 k (by omega)]; rfl
  rw [if_neg (show ¬ R3 l a > 0 from h0)]
  have r := R_bd hg ba.1
  have h0' : R3 l a = 0 := by omega
  have go := out_good hg ba.1
  rw [pay_All_is (outL l a) b (by rw [outL_len']; omega) k (by omega), pay_All_is l (a + b) (by omega) k (by omega),
    payR_ok (noPay_not go (by rw [outL_len']; omega) bb.1 (by omega)), payR_ok (noPay_not hg (by omega) (by omega) (by omega))]
  simp only [obind]
  have s := again_sums hg ba.1 bb.1 h0'
  have b1 := sum_bd hg ba.1
  have b2 := sum_bd go bb.1
  rw [if_pos trivial, if_pos trivial, w64 (e := (F1 l a).sum + (F1 (outL l a) b).sum) (by omega) (by omega), w64 (e := (F2 l a).sum + (F2 (outL l a) b).sum) (by omega) (by omega), w64 (e := (F3 l a).sum + (F3 (outL l a) b).sum) (by omega) (by omega),
    if_pos s.1, if_pos s.2.1, if_pos s.2.2.1, if_pos s.2.2.2, again_out hg ba.1 bb.1 h0', loans_eq _ (by rw [outL_len']; omega) k (by omega)]
  simp only [obind]
  rw [if_pos trivial, wakes20 k (by omega)]
  rfl
end Go.Proofs.Yteemomncbcpdjaa.Pure
