/- share.good: whether a total and its shares may be: walked by hand (slices.ContainsFunc, slices.IndexFunc and the function literal among it). -/
import Derived.Test.YtlhcohipnieidaaPx1
namespace Go.Proofs.Ytlhcohipnieidaa.P
open Go.RowKit Go.Proofs.YtlhcohipnieidaaW.PrintWords Go.Proofs.YtlhcohipnieidaaW.PrintLast Go.Proofs.YtlhcohipnieidaaW.PrintMore
attribute [local go_sem] max2_int min2_int max_two min_two max_three min_three max_four min_four   -- for this text's walks alone
set_option linter.unusedVariables false
set_option linter.unusedSimpArgs false
-- BEGIN
/-- No money, or below 0. -/
def share_good.bad (a : Int) : Bool := decide (a < 0 ∨ isMoney a = false)
set_option maxHeartbeats 8000000 in
set_option maxRecDepth 100000 in
theorem share_good.in_ (a : Int) (w : World) :
    Calls Try.prog 80 #[.int .i64 a] w fun e w' => e = .returned (.bool (share_good.bad a)) ∧ Drawn0 w w' := by
  by_cases c : a < 0
  · have d : decide (a < 0) = true := decide_eq_true c
    rw [show share_good.bad a = true from decide_eq_true (.inl c)]
    clear c
    go_enter Try.func80, Try.ntmps80
    go_wp2
    go_ret
    exact ⟨by first | rfl | (simp; done), by repeat (first | exact Drawn0.refl _ | apply Drawn0.step)⟩
  · have d : decide (a < 0) = false := decide_eq_false c
    cases h : isMoney a with
    | true =>
      rw [show share_good.bad a = false from decide_eq_false (by rw [h]; simp; omega)]
      have g1 := Aside0.mk ((money_Good.some_ a).trans (by rw [h]))
      clear c h
      go_enter Try.func80, Try.ntmps80
      go_wp2_with (go_at_call 40; (with_reducible refine (money_Good.calls a true _ g1.out).mono ?_); rintro e w' ⟨rfl, ⟨nd, rfl⟩⟩)
      go_ret
      exact ⟨by first | rfl | (simp; done), by repeat (first | exact Drawn0.refl _ | apply Drawn0.step)⟩
    | false =>
      rw [show share_good.bad a = true from decide_eq_true (.inr h)]
      have g1 := Aside0.mk ((money_Good.some_ a).trans (by rw [h]))
      clear c h
      go_enter Try.func80, Try.ntmps80
      go_wp2_with (go_at_call 40; (with_reducible refine (money_Good.calls a false _ g1.out).mono ?_); rintro e w' ⟨rfl, ⟨nd, rfl⟩⟩)
      go_ret
      exact ⟨by first | rfl | (simp; done), by repeat (first | exact Drawn0.refl _ | apply Drawn0.step)⟩
/-- Where the first one lies that is bad. -/
def share_good.idx : List Int → Nat → Int
  | [], _ => -1
  | a :: l, j => if share_good.bad a = true then (j : Int) else share_good.idx l (j + 1)
set_option maxHeartbeats 8000000 in
set_option maxRecDepth 100000 in
theorem share_good.index (A0 : Option Addr) (c0 : Nat) (l0 : List Int) (w : World) (hr0 : Kd.C (Kd.int .i64) w A0 l0.length l0) (hc0 : l0.length ≤ c0) (hlen : l0.length ≤ 140737488351232) :
    Calls Try.prog 89 #[.slice A0 l0.length c0, .func (.func 80) #[] #[]] w fun e w' => e = .returned (.int .i64 (share_good.idx l0 0)) ∧ Drawn0 w w' := by
  have HR0 := Aside0.mk hr0
  clear hr0
  obtain ⟨r, hr⟩ : ∃ r, r = share_good.idx l0 0 := ⟨_, rfl⟩
  rw [← hr]
  have HR := Aside0.mk hr
  clear hr
  go_enter Try.func89, Try.ntmps89
  go_wp2
  go_loopw [5, 8] (fun v5 v8 wr => ∃ (j : Nat), j ≤ l0.length ∧ v8 = .int .i64 j ∧ Aside0 (share_good.idx (l0.drop j) j = r) ∧ Aside0 (Drawn0 w wr)) (fun _ v8 _ => l0.length - (intOf v8).toNat)
  case atStart => exact ⟨0, Nat.zero_le _, rfl, ⟨by rw [List.drop_zero]; exact HR.out.symm⟩, ⟨Drawn0.refl _⟩⟩
  case round =>
    obtain ⟨j, hj, rfl, HS, HB⟩ := hrel
    by_cases hlt : j < l0.length
    · have hd : l0.drop j = rd l0 j :: l0.drop (j + 1) := by
        rw [List.drop_eq_getElem_cons hlt]; congr 1; unfold rd; simp [List.getD_eq_getElem?_getD, hlt]
      have h0 := HS.out
      rw [hd, share_good.idx] at h0
      obtain ⟨ad, ea, hx⟩ := Kd.at_int (Kd.C_below HR0.out HB.out.below) j (by omega) (by omega)
      cases ea
      simp only [Int.toNat_natCast] at hx
      have hltz : (j : Int) < (l0.length : Int) := by omega
      obtain ⟨x, hxx⟩ : ∃ x, x = rd l0 j := ⟨_, rfl⟩
      rw [← hxx] at h0 hx
      have HX := Aside0.mk hxx
      clear hxx hd HS
      have hcall := share_good.in_ x
      cases hb : share_good.bad x with
      | true =>
        rw [hb, if_pos rfl] at h0
        rw [hb] at hcall
        subst h0
        clear hb
        go_wp2_with (go_at_call 80; refine (hcall _).mono ?_; rintro e w' ⟨rfl, ⟨nd, rfl⟩⟩)
        go_ret
        exact ⟨by first | rfl | (simp; done), HB.out.step _⟩
      | false =>
        rw [hb, if_neg (by simp)] at h0
        rw [hb] at hcall
        have HN := Aside0.mk h0
        clear hb h0
        go_wp2_with (go_at_call 80; refine (hcall _).mono ?_; rintro e w' ⟨rfl, ⟨nd, rfl⟩⟩)
        go_roundw
        case measure => simp [intOf]; omega
        case rel => exact ⟨j + 1, by omega, by go_num, HN, ⟨HB.out.step _⟩⟩
    · have h0 := HS.out
      rw [List.drop_of_length_le (by omega), share_good.idx] at h0
      subst h0
      have hltz : ¬ (j : Int) < (l0.length : Int) := by omega
      go_wp2
      go_ret
      exact ⟨by first | rfl | (simp; done), HB.out⟩
set_option maxHeartbeats 8000000 in
set_option maxRecDepth 100000 in
theorem share_good.contains (A0 : Option Addr) (c0 : Nat) (l0 : List Int) (w : World) (hr0 : Kd.C (Kd.int .i64) w A0 l0.length l0) (hc0 : l0.length ≤ c0) (hlen : l0.length ≤ 140737488351232) :
    Calls Try.prog 79 #[.slice A0 l0.length c0, .func (.func 80) #[] #[]] w fun e w' => e = .returned (.bool (decide (0 ≤ share_good.idx l0 0))) ∧ Drawn0 w w' := by
  have HI := Aside0.mk (share_good.index A0 c0 l0 w hr0 hc0 hlen)
  clear hr0 hc0 hlen
  generalize share_good.idx l0 0 = r at *
  go_enter Try.func79, Try.ntmps79
  go_wp2_with (go_at_call 89; refine HI.out.mono ?_; rintro e w' ⟨rfl, ⟨nd, rfl⟩⟩)
  go_ret
  exact ⟨by first | rfl | (simp; done), by repeat (first | exact Drawn0.refl _ | apply Drawn0.step)⟩
def share_good.f (k : Nat) (a0 : Int) (l1 : List Int) : Option (Bool) := if l1.length ≤ 140737488351232 then some (decide (0 ≤ a0 ∧ isMoney a0 = true ∧ l1.length ≤ 1000 ∧ share_good.idx l1 0 < 0)) else none
set_option maxHeartbeats 8000000 in
set_option maxRecDepth 100000 in
theorem share_good.calls (k : Nat) (a0 : Int) (A1 : Option Addr) (c1 : Nat) (l1 : List Int) (r : Bool) (w : World) (hr1 : Kd.C (Kd.int .i64) w A1 l1.length l1) (hc1 : l1.length ≤ c1) (h : share_good.f k a0 l1 = some r) :
    Calls Try.prog 65 #[.int .i64 a0, .slice A1 l1.length c1] w fun e w' => e = .returned (.bool r) ∧ Below w.heap.size w w' := by
  have hlen : l1.length ≤ 140737488351232 := by
    by_cases c : l1.length ≤ 140737488351232
    · exact c
    · rw [share_good.f, if_neg c] at h; cases h
  rw [share_good.f, if_pos hlen] at h
  have hr := Option.some.inj h
  clear h
  have HC : Aside0 (∀ n, Calls Try.prog 79 #[.slice A1 l1.length c1, .func (.func 80) #[] #[]] (w.drewN n) fun e w' => e = .returned (.bool (decide (0 ≤ share_good.idx l1 0))) ∧ Drawn0 (w.drewN n) w') := ⟨fun n => share_good.contains A1 c1 l1 _ (Kd.C_drewN hr1 n) hc1 hlen⟩
  have hmf : ∀ (fn : Fn) (first cap : Array Value) (w : World), (Instr.makeFunc fn first cap).run Try.prog w = .ok (.func fn first cap) w := fun _ _ _ _ => rfl
  clear hr1 hc1
  obtain ⟨ix, hix⟩ : ∃ ix, ix = share_good.idx l1 0 := ⟨_, rfl⟩
  rw [← hix] at HC hr
  clear hix
  obtain ⟨n1, hn1⟩ : ∃ n : Nat, n = l1.length := ⟨_, rfl⟩
  rw [← hn1] at HC hr ⊢
  clear hn1
  by_cases ca : 0 ≤ a0
  case neg =>
    have d0 : decide (a0 ≥ 0) = false := decide_eq_false (by omega)
    have d0' : decide (0 ≤ a0) = false := decide_eq_false (by omega)
    rw [decide_eq_false (fun h => ca h.1)] at hr
    subst hr
    clear ca hlen HC
    go_enter Try.func65, Try.ntmps65
    go_wp2
    go_ret
    exact ⟨by first | rfl | (simp; done), (by repeat (first | exact Drawn0.refl _ | apply Drawn0.step) : Drawn0 w _).below⟩
  have d0 : decide (a0 ≥ 0) = true := decide_eq_true ca
  have d0' : decide (0 ≤ a0) = true := decide_eq_true ca
  cases hm : isMoney a0 with
  | false =>
    rw [decide_eq_false (fun h => by rw [hm] at h; exact absurd h.2.1 (by simp))] at hr
    subst hr
    have g1 := Aside0.mk ((money_Good.some_ a0).trans (by rw [hm]))
    clear ca hlen HC hm
    go_enter Try.func65, Try.ntmps65
    go_wp2_with (go_at_call 40; (with_reducible refine (money_Good.calls a0 false _ g1.out).mono ?_); rintro e w' ⟨rfl, ⟨nd, rfl⟩⟩)
    go_ret
    exact ⟨by first | rfl | (simp; done), (by repeat (first | exact Drawn0.refl _ | apply Drawn0.step) : Drawn0 w _).below⟩
  | true =>
    have g1 := Aside0.mk ((money_Good.some_ a0).trans (by rw [hm]))
    by_cases cl : n1 ≤ 1000
    case neg =>
      rw [decide_eq_false (fun h => cl h.2.2.1)] at hr
      subst hr
      have d1 : decide ((n1 : Int) ≤ 1000) = false := decide_eq_false (by omega)
      clear ca hlen HC hm
      go_enter Try.func65, Try.ntmps65
      go_wp2_with (go_at_call 40; (with_reducible refine (money_Good.calls a0 true _ g1.out).mono ?_); rintro e w' ⟨rfl, ⟨nd, rfl⟩⟩)
      go_ret
      exact ⟨by first | rfl | (simp; done), (by repeat (first | exact Drawn0.refl _ | apply Drawn0.step) : Drawn0 w _).below⟩
    have d1 : decide ((n1 : Int) ≤ 1000) = true := decide_eq_true (by omega)
    by_cases ci : ix < 0
    · rw [decide_eq_true ⟨ca, hm, cl, ci⟩] at hr
      subst hr
      rw [decide_eq_false (show ¬ 0 ≤ ix by omega)] at HC
      clear ca hlen hm cl ci
      go_enter Try.func65, Try.ntmps65
      go_wp2_with (first | (go_at_call 40; (with_reducible refine (money_Good.calls a0 true _ g1.out).mono ?_); rintro e w' ⟨rfl, ⟨nd, rfl⟩⟩) | (go_at_call 79; refine (HC.out _).mono ?_; rintro e w' ⟨rfl, ⟨nd2, rfl⟩⟩))
      go_ret
      exact ⟨by first | rfl | (simp; done), (by repeat (first | exact Drawn0.refl _ | apply Drawn0.step) : Drawn0 w _).below⟩
    · rw [decide_eq_false (fun h => ci h.2.2.2)] at hr
      subst hr
      rw [decide_eq_true (show 0 ≤ ix by omega)] at HC
      clear ca hlen hm cl ci
      go_enter Try.func65, Try.ntmps65
      go_wp2_with (first | (go_at_call 40; (with_reducible refine (money_Good.calls a0 true _ g1.out).mono ?_); rintro e w' ⟨rfl, ⟨nd, rfl⟩⟩) | (go_at_call 79; refine (HC.out _).mono ?_; rintro e w' ⟨rfl, ⟨nd2, rfl⟩⟩))
      go_ret
      exact ⟨by first | rfl | (simp; done), (by repeat (first | exact Drawn0.refl _ | apply Drawn0.step) : Drawn0 w _).below⟩
end Go.Proofs.Ytlhcohipnieidaa.P
