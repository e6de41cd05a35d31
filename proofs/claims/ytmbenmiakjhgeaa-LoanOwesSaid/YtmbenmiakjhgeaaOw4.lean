/- What a law's own function comes to: a part of its walk. -/
import Derived.Test.YtmbenmiakjhgeaaPx0
import Derived.Test.YtmbenmiakjhgeaaPx7
import Derived.Test.YtmbenmiakjhgeaaPx17
import Derived.Test.YtmbenmiakjhgeaaPx30
import Derived.Test.YtmbenmiakjhgeaaZd
import Derived.Test.YtmbenmiakjhgeaaZk
import Derived.Test.YtmbenmiakjhgeaaZl
import Derived.Test.YtmbenmiakjhgeaaZq
import Derived.Test.YtmbenmiakjhgeaaZu
import Derived.Test.YtmbenmiakjhgeaaZy
import Derived.Test.YtmbenmiakjhgeaaOwA
namespace Go.Proofs.Ytmbenmiakjhgeaa.P
open Go.RowKit Go.Proofs.YtmbenmiakjhgeaaW.PrintWords Go.Proofs.YtmbenmiakjhgeaaW.PrintLast Go.Proofs.YtmbenmiakjhgeaaW.PrintMore
attribute [local go_sem] max2_int min2_int max_two min_two max_three min_three max_four min_four   -- for this text's walks alone
set_option linter.unusedVariables false
set_option linter.unusedSimpArgs false
set_option maxHeartbeats 8000000 in
set_option maxRecDepth 100000 in
theorem annuitylaw14_LoanOwes.rest4 {a2 : Int} {t327 : Int} {a0_0 : Int} {a0_1 : Int} {a0_2 : Int} {a0_3 : Int} {a0_4 : Int} {a0_5 : Int} {a0_6 : Bool} {a0_7 : Int} {a0_8 : Int} {a0_9 : Int} {a0_10 : Int} {a0_11 : Int} {a0_12 : Int} {r : Bool} {kj115 : Nat} {gb325 : Nat} {gb326 : Nat} {a1_0 : Int} {a1_1 : Int} {a1_2 : Int} {a1_3 : Int} {gb344 : Nat} {t330 : Int} {t331 : Int} {t332 : Int} {t333 : Int} {t334 : Int} {t335 : Int} {t336 : Bool} {t337 : Int} {t338 : Int} {t339 : Int} {t340 : Int} {t341 : Int} {t342 : Int} {gb362 : Nat} {t348 : Int} {t349 : Int} {t350 : Int} {t351 : Int} {t352 : Int} {t353 : Int} {t354 : Bool} {t355 : Int} {t356 : Int} {t357 : Int} {t358 : Int} {t359 : Int} {t360 : Int} {gb381 : Nat} {t367 : Int} {t368 : Int} {t369 : Int} {t370 : Int} {t371 : Int} {t372 : Int} {t373 : Bool} {t374 : Int} {t375 : Int} {t376 : Int} {t377 : Int} {t378 : Int} {t379 : Int} {gb400 : Nat} {t386 : Int} {t387 : Int} {t388 : Int} {t389 : Int} {t390 : Int} {t391 : Int} {t392 : Bool} {t393 : Int} {t394 : Int} {t395 : Int} {t396 : Int} {t397 : Int} {t398 : Int} {gb418 : Nat} {t404 : Int} {t405 : Int} {t406 : Int} {t407 : Int} {t408 : Int} {t409 : Int} {t410 : Bool} {t411 : Int} {t412 : Int} {t413 : Int} {t414 : Int} {t415 : Int} {t416 : Int} {w : World} {u0_ u1_ u5_ u6_ u8_ u9_ u10_ u11_ u12_ u13_ u14_ u15_ u16_ u17_ u18_ u19_ u20_ u21_ u22_ u23_ u24_ u25_ u26_ u27_ u28_ u29_ u30_ u31_ u32_ u33_ u34_ u35_ u36_ u37_ u38_ u39_ u40_ u41_ u42_ u43_ u44_ u45_ u46_ u47_ u48_ u49_ u50_ u51_ u52_ u53_ u54_ u55_ u56_ u57_ u58_ u59_ u60_ u61_ u62_ u63_ u64_ u65_ u66_ u67_ u68_ u69_ u70_ u71_ u72_ u73_ u74_ u75_ u76_ u77_ u78_ u79_ u80_ u81_ u82_ u83_ u84_ u85_ u86_ u87_ u88_ u89_ u90_ u91_ u92_ u93_ u94_ u95_ u96_ u97_ u98_ u99_ u100_ u101_ u102_ u103_ u104_ u105_ u106_ u107_ u108_ u109_ u110_ u111_ u112_ u113_ u114_ u115_ u116_ u117_ u118_ u119_ u120_ u121_ u122_ u123_ u124_ u125_ u126_ u127_ u128_ u129_ u130_ u131_ u132_ u133_ u134_ u135_ u136_ u137_ u138_ u139_ u140_ u141_ u142_ u143_ u144_ u145_ u146_ u147_ u148_ u149_ u150_ u151_ u152_ u153_ u154_ u155_ u156_ u157_ u158_ u159_ u160_ u161_ u162_ u163_ u164_ u165_ u166_ u167_ u168_ u169_ u170_ u171_ u172_ u173_ u174_ u175_ u176_ u177_ u178_ u179_ u180_ u181_ u182_ u183_ u184_ u185_ u186_ u187_ u188_ u189_ u190_ u191_ u192_ u193_ u194_ u195_ u196_ u197_ u198_ u199_ u200_ u201_ u202_ u203_ u204_ u205_ u206_ u207_ u208_ u209_ u210_ u211_ u212_ u213_ u214_ u215_ u216_ u217_ u218_ u219_ u220_ u221_ u222_ u223_ u224_ u225_ u226_ u227_ u228_ u229_ u230_ u231_ u232_ u233_ u234_ u235_ u236_ u237_ u238_ u239_ u240_ u241_ u242_ u243_ u244_ u245_ u246_ u247_ u248_ u249_ u250_ u251_ u252_ u253_ u254_ u255_ u256_ u257_ u258_ u259_ u260_ u261_ u262_ : Value} {wc : World} (GE325 : Aside0 (w.heap.size ≤ gb325)) (GE326 : Aside0 (w.heap.size ≤ gb326)) (GE344 : Aside0 (w.heap.size ≤ gb344)) (GE362 : Aside0 (w.heap.size ≤ gb362)) (GE381 : Aside0 (w.heap.size ≤ gb381)) (GE400 : Aside0 (w.heap.size ≤ gb400)) (GE418 : Aside0 (w.heap.size ≤ gb418)) (NB325_326 : Aside0 (gb325 ≠ gb326)) (NB326_325 : Aside0 (gb326 ≠ gb325)) (NB325_344 : Aside0 (gb325 ≠ gb344)) (NB344_325 : Aside0 (gb344 ≠ gb325)) (NB325_362 : Aside0 (gb325 ≠ gb362)) (NB362_325 : Aside0 (gb362 ≠ gb325)) (NB325_381 : Aside0 (gb325 ≠ gb381)) (NB381_325 : Aside0 (gb381 ≠ gb325)) (NB325_400 : Aside0 (gb325 ≠ gb400)) (NB400_325 : Aside0 (gb400 ≠ gb325)) (NB325_418 : Aside0 (gb325 ≠ gb418)) (NB418_325 : Aside0 (gb418 ≠ gb325))
    (hcut : ∃ (kq : Nat), Aside0 (annuitylaw14_LoanOwes.j4 kq a2 t327 a0_0 a0_1 a0_2 a0_3 a0_4 a0_5 a0_6 a0_7 a0_8 a0_9 a0_10 a0_11 a0_12 = some r) ∧ Aside0 (kq ≤ kj115) ∧ Aside0 (wc.heap[gb325]? = some (.cells #[.int .i64 a0_0, .int .i64 a0_1, .int .i64 a0_2, .int .i64 a0_3, .int .i64 a0_4, .int .i64 a0_5, .bool a0_6, .int .i64 a0_7, .int .i64 a0_8, .int .i64 a0_9, .int .i64 a0_10, .int .i64 a0_11, .int .i64 a0_12] 23 (0, 0))) ∧ Aside0 (wc.heap[gb326]? = some (.cells #[.int .i64 a1_0, .int .i64 a1_1, .int .i64 a1_2, .int .i64 a1_3] 35 (0, 0))) ∧ Aside0 (wc.heap[gb344]? = some (.cells #[.int .i64 t330, .int .i64 t331, .int .i64 t332, .int .i64 t333, .int .i64 t334, .int .i64 t335, .bool t336, .int .i64 t337, .int .i64 t338, .int .i64 t339, .int .i64 t340, .int .i64 t341, .int .i64 t342] 23 (0, 0))) ∧ Aside0 (wc.heap[gb362]? = some (.cells #[.int .i64 t348, .int .i64 t349, .int .i64 t350, .int .i64 t351, .int .i64 t352, .int .i64 t353, .bool t354, .int .i64 t355, .int .i64 t356, .int .i64 t357, .int .i64 t358, .int .i64 t359, .int .i64 t360] 23 (0, 0))) ∧ Aside0 (wc.heap[gb381]? = some (.cells #[.int .i64 t367, .int .i64 t368, .int .i64 t369, .int .i64 t370, .int .i64 t371, .int .i64 t372, .bool t373, .int .i64 t374, .int .i64 t375, .int .i64 t376, .int .i64 t377, .int .i64 t378, .int .i64 t379] 23 (0, 0))) ∧ Aside0 (wc.heap[gb400]? = some (.cells #[.int .i64 t386, .int .i64 t387, .int .i64 t388, .int .i64 t389, .int .i64 t390, .int .i64 t391, .bool t392, .int .i64 t393, .int .i64 t394, .int .i64 t395, .int .i64 t396, .int .i64 t397, .int .i64 t398] 23 (0, 0))) ∧ Aside0 (wc.heap[gb418]? = some (.cells #[.int .i64 t404, .int .i64 t405, .int .i64 t406, .int .i64 t407, .int .i64 t408, .int .i64 t409, .bool t410, .int .i64 t411, .int .i64 t412, .int .i64 t413, .int .i64 t414, .int .i64 t415, .int .i64 t416] 23 (0, 0))) ∧ Aside0 (Below w.heap.size w wc)) :
    Code.wp Try.prog (annuitylaw14_LoanOwes.tl 8) (bodyPost Try.prog Try.f4 fun e w' => e = .returned (.bool r) ∧ Below w.heap.size w w') { tmps := #[u0_, u1_, .int .i64 a2, .pointer (some ⟨gb325, 0, none⟩), .pointer (some ⟨gb326, 0, none⟩), u5_, u6_, .int .i64 t327, u8_, u9_, u10_, u11_, u12_, u13_, u14_, u15_, u16_, u17_, u18_, u19_, u20_, u21_, u22_, u23_, u24_, u25_, u26_, u27_, u28_, u29_, u30_, u31_, u32_, u33_, u34_, u35_, u36_, u37_, u38_, u39_, u40_, u41_, u42_, u43_, u44_, u45_, u46_, u47_, u48_, u49_, u50_, u51_, u52_, u53_, u54_, u55_, u56_, u57_, u58_, u59_, u60_, u61_, u62_, u63_, u64_, u65_, u66_, u67_, u68_, u69_, u70_, u71_, u72_, u73_, u74_, u75_, u76_, u77_, u78_, u79_, u80_, u81_, u82_, u83_, u84_, u85_, u86_, u87_, u88_, u89_, u90_, u91_, u92_, u93_, u94_, u95_, u96_, u97_, u98_, u99_, u100_, u101_, u102_, u103_, u104_, u105_, u106_, u107_, u108_, u109_, u110_, u111_, u112_, u113_, u114_, u115_, u116_, u117_, u118_, u119_, u120_, u121_, u122_, u123_, u124_, u125_, u126_, u127_, u128_, u129_, u130_, u131_, u132_, u133_, u134_, u135_, u136_, u137_, u138_, u139_, u140_, u141_, u142_, u143_, u144_, u145_, u146_, u147_, u148_, u149_, u150_, u151_, u152_, u153_, u154_, u155_, u156_, u157_, u158_, u159_, u160_, u161_, u162_, u163_, u164_, u165_, u166_, u167_, u168_, u169_, u170_, u171_, u172_, u173_, u174_, u175_, u176_, u177_, u178_, u179_, u180_, u181_, u182_, u183_, u184_, u185_, u186_, u187_, u188_, u189_, u190_, u191_, u192_, u193_, u194_, u195_, u196_, u197_, u198_, u199_, u200_, u201_, u202_, u203_, u204_, u205_, u206_, u207_, u208_, u209_, u210_, u211_, u212_, u213_, u214_, u215_, u216_, u217_, u218_, u219_, u220_, u221_, u222_, u223_, u224_, u225_, u226_, u227_, u228_, u229_, u230_, u231_, u232_, u233_, u234_, u235_, u236_, u237_, u238_, u239_, u240_, u241_, u242_, u243_, u244_, u245_, u246_, u247_, u248_, u249_, u250_, u251_, u252_, u253_, u254_, u255_, u256_, u257_, u258_, u259_, u260_, u261_, u262_], defers := [] } wc := by
  have hu23 := Try.underlying23
  have hu35 := Try.underlying35
  conv => arg 2; dsimp only [annuitylaw14_LoanOwes.tl, Try.f4, Option.getD]
  obtain ⟨kq, HA, HJ156, BK325, BK326, BK344, BK362, BK381, BK400, BK418, HB⟩ := hcut
  cases kq with
  | zero => exact absurd HA.out (by simp [annuitylaw14_LoanOwes.j4])
  | succ kj156 =>
    have H := HA.out
    clear HA
    simp only [annuitylaw14_LoanOwes.j4] at H
    replace H := Option.bind_eq_some_iff.mp H
    obtain ⟨t422, A1910, H⟩ := H
    replace H : ((loan_Close.f kj156 a0_0 a0_1 a0_2 a0_3 a0_4 a0_5 a0_6 a0_7 a0_8 a0_9 a0_10 a0_11 a0_12 (wrap64 (1 + t422))).bind fun bt423 => (if a0_8 = 0 then ((loan_Owes.f kj156 bt423.1 bt423.2.1 bt423.2.2.1 bt423.2.2.2.1 bt423.2.2.2.2.1 bt423.2.2.2.2.2.1 bt423.2.2.2.2.2.2.1 bt423.2.2.2.2.2.2.2.1 bt423.2.2.2.2.2.2.2.2.1 bt423.2.2.2.2.2.2.2.2.2.1 bt423.2.2.2.2.2.2.2.2.2.2.1 bt423.2.2.2.2.2.2.2.2.2.2.2.1 bt423.2.2.2.2.2.2.2.2.2.2.2.2.1).bind fun bt440 => (if bt423.2.2.2.2.2.2.2.2.2.2.2.2.2.2 = 0 then (if bt423.2.2.2.2.2.2.2.2.2.2.2.2.2.1 = t327 then (if bt440.2 = 0 then (if bt440.1 = 0 then ((annuityref14_Good.f bt423.1 bt423.2.1 bt423.2.2.1 bt423.2.2.2.1 bt423.2.2.2.2.1 bt423.2.2.2.2.2.1 bt423.2.2.2.2.2.2.1 bt423.2.2.2.2.2.2.2.1 bt423.2.2.2.2.2.2.2.2.1 bt423.2.2.2.2.2.2.2.2.2.1 bt423.2.2.2.2.2.2.2.2.2.2.1 bt423.2.2.2.2.2.2.2.2.2.2.2.1 bt423.2.2.2.2.2.2.2.2.2.2.2.2.1).bind fun t442 => (if t442 = true then ((annuitykeep_Mod.f a2 4).bind fun t443 => (if bt423.2.2.2.2.2.2.2.2.1 = (wrap64 (1 + t443)) then ((annuitylaw14_wakes.f kj156).bind fun t444 => (some t444)) else (none))) else (none))) else (none)) else (none)) else (none)) else (none))) else (if bt423.2.2.2.2.2.2.2.2.2.2.2.2.2.2 = 61 then (if t327 = 0 then ((annuitylaw14_wakes.f kj156).bind fun t439 => (some t439)) else (none)) else (none)))) = some r := H
    have A191 := Aside0.mk A1910
    clear A1910
    replace H := Option.bind_eq_some_iff.mp H
    obtain ⟨⟨t423, t424, t425, t426, t427, t428, t429, t430, t431, t432, t433, t434, t435, t436, t437⟩, A1920, H⟩ := H
    replace H : (if a0_8 = 0 then ((loan_Owes.f kj156 t423 t424 t425 t426 t427 t428 t429 t430 t431 t432 t433 t434 t435).bind fun bt440 => (if t437 = 0 then (if t436 = t327 then (if bt440.2 = 0 then (if bt440.1 = 0 then ((annuityref14_Good.f t423 t424 t425 t426 t427 t428 t429 t430 t431 t432 t433 t434 t435).bind fun t442 => (if t442 = true then ((annuitykeep_Mod.f a2 4).bind fun t443 => (if t431 = (wrap64 (1 + t443)) then ((annuitylaw14_wakes.f kj156).bind fun t444 => (some t444)) else (none))) else (none))) else (none)) else (none)) else (none)) else (none))) else (if t437 = 61 then (if t327 = 0 then ((annuitylaw14_wakes.f kj156).bind fun t439 => (some t439)) else (none)) else (none))) = some r := H
    have A192 := Aside0.mk A1920
    clear A1920
    by_cases c193 : a0_8 = 0
    · rw [if_pos c193] at H
      have c193b0 : (a0_8 == 0) = true := beq_iff_eq.mpr c193
      have c193b1 : (a0_8 != 0) = false := bne_eq_false_iff_eq.mpr c193
      clear c193
      replace H := Option.bind_eq_some_iff.mp H
      obtain ⟨⟨t440, t441⟩, A1940, H⟩ := H
      replace H : (if t437 = 0 then (if t436 = t327 then (if t441 = 0 then (if t440 = 0 then ((annuityref14_Good.f t423 t424 t425 t426 t427 t428 t429 t430 t431 t432 t433 t434 t435).bind fun t442 => (if t442 = true then ((annuitykeep_Mod.f a2 4).bind fun t443 => (if t431 = (wrap64 (1 + t443)) then ((annuitylaw14_wakes.f kj156).bind fun t444 => (some t444)) else (none))) else (none))) else (none)) else (none)) else (none)) else (none)) = some r := H
      have A194 := Aside0.mk A1940
      clear A1940
      by_cases c195 : t437 = 0
      · rw [if_pos c195] at H
        have c195b0 : (t437 == 0) = true := beq_iff_eq.mpr c195
        have c195b1 : (t437 != 0) = false := bne_eq_false_iff_eq.mpr c195
        clear c195
        by_cases c196 : t436 = t327
        · rw [if_pos c196] at H
          have c196b0 : (t436 == t327) = true := beq_iff_eq.mpr c196
          have c196b1 : (t436 != t327) = false := bne_eq_false_iff_eq.mpr c196
          clear c196
          by_cases c197 : t441 = 0
          · rw [if_pos c197] at H
            have c197b0 : (t441 == 0) = true := beq_iff_eq.mpr c197
            have c197b1 : (t441 != 0) = false := bne_eq_false_iff_eq.mpr c197
            clear c197
            by_cases c198 : t440 = 0
            · rw [if_pos c198] at H
              have c198b0 : (t440 == 0) = true := beq_iff_eq.mpr c198
              have c198b1 : (t440 != 0) = false := bne_eq_false_iff_eq.mpr c198
              clear c198
              replace H := Option.bind_eq_some_iff.mp H
              obtain ⟨t442, A1990, H⟩ := H
              replace H : (if t442 = true then ((annuitykeep_Mod.f a2 4).bind fun t443 => (if t431 = (wrap64 (1 + t443)) then ((annuitylaw14_wakes.f kj156).bind fun t444 => (some t444)) else (none))) else (none)) = some r := H
              have A199 := Aside0.mk A1990
              clear A1990
              by_cases c200 : t442 = true
              · subst c200
                have H1 : ((annuitykeep_Mod.f a2 4).bind fun t443 => (if t431 = (wrap64 (1 + t443)) then ((annuitylaw14_wakes.f kj156).bind fun t444 => (some t444)) else (none))) = some r := by rw [if_pos rfl] at H; exact H
                clear H
                have H := H1
                clear H1
                replace H := Option.bind_eq_some_iff.mp H
                obtain ⟨t443, A2010, H⟩ := H
                replace H : (if t431 = (wrap64 (1 + t443)) then ((annuitylaw14_wakes.f kj156).bind fun t444 => (some t444)) else (none)) = some r := H
                have A201 := Aside0.mk A2010
                clear A2010
                by_cases c202 : t431 = (wrap64 (1 + t443))
                · rw [if_pos c202] at H
                  have c202b0 : (t431 == (wrap64 (1 + t443))) = true := beq_iff_eq.mpr c202
                  have c202b1 : (t431 != (wrap64 (1 + t443))) = false := bne_eq_false_iff_eq.mpr c202
                  clear c202
                  replace H := Option.bind_eq_some_iff.mp H
                  obtain ⟨t444, A2030, H⟩ := H
                  replace H : (some t444) = some r := H
                  have A203 := Aside0.mk A2030
                  clear A2030
                  obtain rfl := Option.some.inj H
                  try go_wp2
                  have n0_ := Aside0.mk (blk_drew BK325.out)
                  have n1_ := Aside0.mk (blk_drew BK326.out)
                  have n2_ := Aside0.mk (blk_drew BK344.out)
                  have n3_ := Aside0.mk (blk_drew BK362.out)
                  have n4_ := Aside0.mk (blk_drew BK381.out)
                  have n5_ := Aside0.mk (blk_drew BK400.out)
                  have n6_ := Aside0.mk (blk_drew BK418.out)
                  have n7_ := Aside0.mk (below_drew1 HB.out)
                  clear BK325
                  clear BK326
                  clear BK344
                  clear BK362
                  clear BK381
                  clear BK400
                  clear BK418
                  clear HB
                  have BK325 := n0_
                  have BK326 := n1_
                  have BK344 := n2_
                  have BK362 := n3_
                  have BK381 := n4_
                  have BK400 := n5_
                  have BK418 := n6_
                  have HB := n7_
                  clear n0_ n1_ n2_ n3_ n4_ n5_ n6_ n7_
                  refine start_ (n := 13) (S := fun w' => w'.cell? ⟨gb325, 0, none⟩ = some (.int .i64 a0_0) ∧ w'.cell? ⟨gb325, 1, none⟩ = some (.int .i64 a0_1) ∧ w'.cell? ⟨gb325, 2, none⟩ = some (.int .i64 a0_2) ∧ w'.cell? ⟨gb325, 3, none⟩ = some (.int .i64 a0_3) ∧ w'.cell? ⟨gb325, 4, none⟩ = some (.int .i64 a0_4) ∧ w'.cell? ⟨gb325, 5, none⟩ = some (.int .i64 a0_5) ∧ w'.cell? ⟨gb325, 6, none⟩ = some (.bool a0_6) ∧ w'.cell? ⟨gb325, 7, none⟩ = some (.int .i64 a0_7) ∧ w'.cell? ⟨gb325, 8, none⟩ = some (.int .i64 a0_8) ∧ w'.cell? ⟨gb325, 9, none⟩ = some (.int .i64 a0_9) ∧ w'.cell? ⟨gb325, 10, none⟩ = some (.int .i64 a0_10) ∧ w'.cell? ⟨gb325, 11, none⟩ = some (.int .i64 a0_11) ∧ w'.cell? ⟨gb325, 12, none⟩ = some (.int .i64 a0_12)) (ds := []) #[false, false, false, false, false, false, false, false, false, false, false, false, false] (by kernel_rfl) rfl rfl ⟨(blk_cell BK325.out 0).trans rfl, (blk_cell BK325.out 1).trans rfl, (blk_cell BK325.out 2).trans rfl, (blk_cell BK325.out 3).trans rfl, (blk_cell BK325.out 4).trans rfl, (blk_cell BK325.out 5).trans rfl, (blk_cell BK325.out 6).trans rfl, (blk_cell BK325.out 7).trans rfl, (blk_cell BK325.out 8).trans rfl, (blk_cell BK325.out 9).trans rfl, (blk_cell BK325.out 10).trans rfl, (blk_cell BK325.out 11).trans rfl, (blk_cell BK325.out 12).trans rfl⟩ (fun hHeld => ?_); refine with_tabW annuitylaw14_LoanOwes.tab29 annuitylaw14_LoanOwes.bits29 (fun HT_ HW_ => ?_)
                  generalize wc.drew = w204 at BK325 BK326 BK344 BK362 BK381 BK400 BK418 HB hHeld ⊢
                  refine pure_ (i := 1) (N := some 209) (v := ?_) (a' := ?_) #[false, true, false, false, false, false, false, false, false, false, false, false, false] rfl rfl (any_of HT_.out (by kernel_rfl)) (fun _ _ _ h => h) (Or.inl ⟨by rfl, ?_⟩) ?_ ?_
                  rotate_left
                  · intro w'
                    go_simp
                    with_reducible rfl
                  rotate_left
                  · simp only [Act.put, List.setIfInBounds_toArray, List.set_cons_zero, List.set_cons_succ, i64_w, i32_w]
                    rfl
                  refine take_ (i := 0) (N := some 208) (v := ?_) (a' := ?_) #[true, true, false, false, false, false, false, false, false, false, false, false, false] rfl rfl (take_ofW HT_.out HW_.out (by kernel_rfl)) (fun _ _ _ h => h) (Or.inl ⟨by rfl, ?_⟩) hHeld ?_ ?_
                  rotate_left
                  · rintro w' ⟨s0, s1, s2, s3, s4, s5, s6, s7, s8, s9, s10, s11, s12⟩
                    go_simp
                    with_reducible rfl
                  rotate_left
                  · simp only [Act.put, List.setIfInBounds_toArray, List.set_cons_zero, List.set_cons_succ, i64_w, i32_w]
                    rfl
                  refine join_ (σ := Nat) 3 #[true, true, true, true, true, true, true, true, true, true, false, false, false] (fun s_ => [(210, .int .i64 t422), (212, .tuple #[.agg #[.int .i64 t423, .int .i64 t424, .int .i64 t425, .int .i64 t426, .int .i64 t427, .int .i64 t428, .bool t429, .int .i64 t430, .int .i64 t431, .int .i64 t432, .int .i64 t433, .int .i64 t434, .int .i64 t435], .int .i64 t436, .int .i64 t437]), (29, .pointer (some ⟨s_, 0, none⟩)), (211, .int .i64 (wrap64 (1 + t422))), (207, .tuple #[.agg #[.int .i64 t423, .int .i64 t424, .int .i64 t425, .int .i64 t426, .int .i64 t427, .int .i64 t428, .bool t429, .int .i64 t430, .int .i64 t431, .int .i64 t432, .int .i64 t433, .int .i64 t434, .int .i64 t435], .int .i64 t436, .int .i64 t437]), (213, .agg #[.int .i64 t423, .int .i64 t424, .int .i64 t425, .int .i64 t426, .int .i64 t427, .int .i64 t428, .bool t429, .int .i64 t430, .int .i64 t431, .int .i64 t432, .int .i64 t433, .int .i64 t434, .int .i64 t435]), (214, .int .i64 t436), (215, .int .i64 t437)]) (fun s_ w' => (w'.cell? ⟨gb325, 0, none⟩ = some (.int .i64 a0_0) ∧ w'.cell? ⟨gb325, 1, none⟩ = some (.int .i64 a0_1) ∧ w'.cell? ⟨gb325, 2, none⟩ = some (.int .i64 a0_2) ∧ w'.cell? ⟨gb325, 3, none⟩ = some (.int .i64 a0_3) ∧ w'.cell? ⟨gb325, 4, none⟩ = some (.int .i64 a0_4) ∧ w'.cell? ⟨gb325, 5, none⟩ = some (.int .i64 a0_5) ∧ w'.cell? ⟨gb325, 6, none⟩ = some (.bool a0_6) ∧ w'.cell? ⟨gb325, 7, none⟩ = some (.int .i64 a0_7) ∧ w'.cell? ⟨gb325, 8, none⟩ = some (.int .i64 a0_8) ∧ w'.cell? ⟨gb325, 9, none⟩ = some (.int .i64 a0_9) ∧ w'.cell? ⟨gb325, 10, none⟩ = some (.int .i64 a0_10) ∧ w'.cell? ⟨gb325, 11, none⟩ = some (.int .i64 a0_11) ∧ w'.cell? ⟨gb325, 12, none⟩ = some (.int .i64 a0_12)) ∧ (w'.heap[gb325]? = some (.cells #[.int .i64 a0_0, .int .i64 a0_1, .int .i64 a0_2, .int .i64 a0_3, .int .i64 a0_4, .int .i64 a0_5, .bool a0_6, .int .i64 a0_7, .int .i64 a0_8, .int .i64 a0_9, .int .i64 a0_10, .int .i64 a0_11, .int .i64 a0_12] 23 (0, 0))) ∧ (w'.heap[gb326]? = some (.cells #[.int .i64 a1_0, .int .i64 a1_1, .int .i64 a1_2, .int .i64 a1_3] 35 (0, 0))) ∧ (w'.heap[gb344]? = some (.cells #[.int .i64 t330, .int .i64 t331, .int .i64 t332, .int .i64 t333, .int .i64 t334, .int .i64 t335, .bool t336, .int .i64 t337, .int .i64 t338, .int .i64 t339, .int .i64 t340, .int .i64 t341, .int .i64 t342] 23 (0, 0))) ∧ (w'.heap[gb362]? = some (.cells #[.int .i64 t348, .int .i64 t349, .int .i64 t350, .int .i64 t351, .int .i64 t352, .int .i64 t353, .bool t354, .int .i64 t355, .int .i64 t356, .int .i64 t357, .int .i64 t358, .int .i64 t359, .int .i64 t360] 23 (0, 0))) ∧ (w'.heap[gb381]? = some (.cells #[.int .i64 t367, .int .i64 t368, .int .i64 t369, .int .i64 t370, .int .i64 t371, .int .i64 t372, .bool t373, .int .i64 t374, .int .i64 t375, .int .i64 t376, .int .i64 t377, .int .i64 t378, .int .i64 t379] 23 (0, 0))) ∧ (w'.heap[gb400]? = some (.cells #[.int .i64 t386, .int .i64 t387, .int .i64 t388, .int .i64 t389, .int .i64 t390, .int .i64 t391, .bool t392, .int .i64 t393, .int .i64 t394, .int .i64 t395, .int .i64 t396, .int .i64 t397, .int .i64 t398] 23 (0, 0))) ∧ (w'.heap[gb418]? = some (.cells #[.int .i64 t404, .int .i64 t405, .int .i64 t406, .int .i64 t407, .int .i64 t408, .int .i64 t409, .bool t410, .int .i64 t411, .int .i64 t412, .int .i64 t413, .int .i64 t414, .int .i64 t415, .int .i64 t416] 23 (0, 0))) ∧ (w'.heap[s_]? = some (.cells #[.int .i64 0, .int .i64 0, .int .i64 0, .int .i64 0, .int .i64 0, .int .i64 0, .bool false, .int .i64 0, .int .i64 0, .int .i64 0, .int .i64 0, .int .i64 0, .int .i64 0] 23 (0, 0))) ∧ (w.heap.size ≤ s_) ∧ (w.heap.size ≤ s_) ∧ (gb325 ≠ s_) ∧ (s_ ≠ gb325) ∧ (gb326 ≠ s_) ∧ (s_ ≠ gb326) ∧ (gb344 ≠ s_) ∧ (s_ ≠ gb344) ∧ (gb362 ≠ s_) ∧ (s_ ≠ gb362) ∧ (gb381 ≠ s_) ∧ (s_ ≠ gb381) ∧ (gb400 ≠ s_) ∧ (s_ ≠ gb400) ∧ (gb418 ≠ s_) ∧ (s_ ≠ gb418) ∧ (Below w.heap.size w w')) ?_ ?_
                  rotate_left
                  · intro hCont
                    refine two_ (i := 2) (j := 9) (Ni := some 210) (Nj := some 29) #[true, true, true, false, false, false, false, false, false, false, false, false, false] #[true, true, false, false, false, false, false, false, false, true, false, false, false] rfl rfl rfl rfl (two_of HT_.out (by kernel_rfl)) (by decide) (by decide) (fun K hK => ?_) (fun K hK => ?_)
                    · skip
                      refine goes_ Try.func21 (by kernel_rfl) rfl #[.int .i64 a2, .int .i64 4] (by rfl) rfl rfl (by (try simp only [List.map_toArray, List.map_cons, List.map_nil]); first | done | rfl | (simp only [List.length_drop, List.length_take]; rfl)) ?_
                      with_reducible refine (annuitykeep_Mod.calls a2 4 t422 _ A191.out).mono ?_
                      rintro e w' ⟨rfl, ⟨nd, rfl⟩⟩
                      refine ⟨_, rfl, ?_⟩
                      refine hK.out _ _ ⟨(blk_cell BK325.out 0).trans rfl, (blk_cell BK325.out 1).trans rfl, (blk_cell BK325.out 2).trans rfl, (blk_cell BK325.out 3).trans rfl, (blk_cell BK325.out 4).trans rfl, (blk_cell BK325.out 5).trans rfl, (blk_cell BK325.out 6).trans rfl, (blk_cell BK325.out 7).trans rfl, (blk_cell BK325.out 8).trans rfl, (blk_cell BK325.out 9).trans rfl, (blk_cell BK325.out 10).trans rfl, (blk_cell BK325.out 11).trans rfl, (blk_cell BK325.out 12).trans rfl⟩ (fun hHeld => ?_)
                      clear hK K
                      refine norm_ (a' := ?_) ?_ ?_
                      rotate_left
                      · show Act.put _ (some 210) _ = _
                        simp only [Act.put, List.setIfInBounds_toArray, List.set_cons_zero, List.set_cons_succ, i64_w, i32_w]
                        rfl
                      refine pure_ (i := 3) (N := some 211) (v := ?_) (a' := ?_) #[true, true, true, true, false, false, false, false, false, false, false, false, false] rfl rfl (any_of HT_.out (by kernel_rfl)) (fun _ _ _ h => h) (Or.inl ⟨by rfl, ?_⟩) ?_ ?_
                      rotate_left
                      · intro w'
                        go_simp
                        with_reducible rfl
                      rotate_left
                      · simp only [Act.put, List.setIfInBounds_toArray, List.set_cons_zero, List.set_cons_succ, i64_w, i32_w]
                        rfl
                      refine two_ (i := 4) (j := 9) (Ni := some 212) (Nj := some 29) #[true, true, true, true, true, false, false, false, false, false, false, false, false] #[true, true, true, true, false, false, false, false, false, true, false, false, false] rfl rfl rfl rfl (two_of HT_.out (by kernel_rfl)) (by decide) (by decide) (fun K hK => ?_) (fun K hK => ?_)
                      · skip
                        refine goes_ Try.func20 (by kernel_rfl) rfl #[.agg #[.int .i64 a0_0, .int .i64 a0_1, .int .i64 a0_2, .int .i64 a0_3, .int .i64 a0_4, .int .i64 a0_5, .bool a0_6, .int .i64 a0_7, .int .i64 a0_8, .int .i64 a0_9, .int .i64 a0_10, .int .i64 a0_11, .int .i64 a0_12], .int .i64 (wrap64 (1 + t422))] (by rfl) rfl rfl (by (try simp only [List.map_toArray, List.map_cons, List.map_nil]); first | done | rfl | (simp only [List.length_drop, List.length_take]; rfl)) ?_
                        with_reducible refine (loan_Close.calls kj156 a0_0 a0_1 a0_2 a0_3 a0_4 a0_5 a0_6 a0_7 a0_8 a0_9 a0_10 a0_11 a0_12 (wrap64 (1 + t422)) t423 t424 t425 t426 t427 t428 t429 t430 t431 t432 t433 t434 t435 t436 t437 _ A192.out).mono ?_
                        rintro e w205 ⟨rfl, hb⟩
                        refine ⟨_, rfl, ?_⟩
                        have n0_ := Aside0.mk (blk_below (g := gb325) (Up.up BK325.out) hb)
                        have n1_ := Aside0.mk (blk_below (g := gb326) (Up.up BK326.out) hb)
                        have n2_ := Aside0.mk (blk_below (g := gb344) (Up.up BK344.out) hb)
                        have n3_ := Aside0.mk (blk_below (g := gb362) (Up.up BK362.out) hb)
                        have n4_ := Aside0.mk (blk_below (g := gb381) (Up.up BK381.out) hb)
                        have n5_ := Aside0.mk (blk_below (g := gb400) (Up.up BK400.out) hb)
                        have n6_ := Aside0.mk (blk_below (g := gb418) (Up.up BK418.out) hb)
                        have n7_ := Aside0.mk (below_step (by repeat (first | (with_reducible first | exact HB.out | apply below_alloc | apply pw_below_drewN | apply below_drew1 | refine below_set ?_ GE325.out | refine below_set ?_ GE326.out | refine below_set ?_ GE344.out | refine below_set ?_ GE362.out | refine below_set ?_ GE381.out | refine below_set ?_ GE400.out | refine below_set ?_ GE418.out) | exact HB.out)) hb)
                        clear BK325
                        clear BK326
                        clear BK344
                        clear BK362
                        clear BK381
                        clear BK400
                        clear BK418
                        clear HB
                        have BK325 := n0_
                        have BK326 := n1_
                        have BK344 := n2_
                        have BK362 := n3_
                        have BK381 := n4_
                        have BK400 := n5_
                        have BK418 := n6_
                        have HB := n7_
                        clear n0_ n1_ n2_ n3_ n4_ n5_ n6_ n7_
                        (try clear hb)
                        (try clear hb2)
                        (try clear hk)
                        (try clear hi)
                        refine hK.out _ _ ⟨(blk_cell BK325.out 0).trans rfl, (blk_cell BK325.out 1).trans rfl, (blk_cell BK325.out 2).trans rfl, (blk_cell BK325.out 3).trans rfl, (blk_cell BK325.out 4).trans rfl, (blk_cell BK325.out 5).trans rfl, (blk_cell BK325.out 6).trans rfl, (blk_cell BK325.out 7).trans rfl, (blk_cell BK325.out 8).trans rfl, (blk_cell BK325.out 9).trans rfl, (blk_cell BK325.out 10).trans rfl, (blk_cell BK325.out 11).trans rfl, (blk_cell BK325.out 12).trans rfl⟩ (fun hHeld => ?_)
                        clear hK K
                        refine norm_ (a' := ?_) ?_ ?_
                        rotate_left
                        · show Act.put _ (some 212) _ = _
                          simp only [Act.put, List.setIfInBounds_toArray, List.set_cons_zero, List.set_cons_succ, i64_w, i32_w]
                          rfl
                        refine pure_ (i := 5) (N := some 207) (v := ?_) (a' := ?_) #[true, true, true, true, true, true, false, false, false, false, false, false, false] rfl rfl (any_of HT_.out (by kernel_rfl)) (fun _ _ _ h => h) (Or.inl ⟨by rfl, ?_⟩) ?_ ?_
                        rotate_left
                        · intro w'
                          go_simp
                          with_reducible rfl
                        rotate_left
                        · simp only [Act.put, List.setIfInBounds_toArray, List.set_cons_zero, List.set_cons_succ, i64_w, i32_w]
                          rfl
                        refine pure_ (i := 6) (N := some 213) (v := ?_) (a' := ?_) #[true, true, true, true, true, true, true, false, false, false, false, false, false] rfl rfl (any_of HT_.out (by kernel_rfl)) (fun _ _ _ h => h) (Or.inl ⟨by rfl, ?_⟩) ?_ ?_
                        rotate_left
                        · intro w'
                          go_simp
                          with_reducible rfl
                        rotate_left
                        · simp only [Act.put, List.setIfInBounds_toArray, List.set_cons_zero, List.set_cons_succ, i64_w, i32_w]
                          rfl
                        refine pure_ (i := 7) (N := some 214) (v := ?_) (a' := ?_) #[true, true, true, true, true, true, true, true, false, false, false, false, false] rfl rfl (any_of HT_.out (by kernel_rfl)) (fun _ _ _ h => h) (Or.inl ⟨by rfl, ?_⟩) ?_ ?_
                        rotate_left
                        · intro w'
                          go_simp
                          with_reducible rfl
                        rotate_left
                        · simp only [Act.put, List.setIfInBounds_toArray, List.set_cons_zero, List.set_cons_succ, i64_w, i32_w]
                          rfl
                        refine pure_ (i := 8) (N := some 215) (v := ?_) (a' := ?_) #[true, true, true, true, true, true, true, true, true, false, false, false, false] rfl rfl (any_of HT_.out (by kernel_rfl)) (fun _ _ _ h => h) (Or.inl ⟨by rfl, ?_⟩) ?_ ?_
                        rotate_left
                        · intro w'
                          go_simp
                          with_reducible rfl
                        rotate_left
                        · simp only [Act.put, List.setIfInBounds_toArray, List.set_cons_zero, List.set_cons_succ, i64_w, i32_w]
                          rfl
                        refine one_ (i := 9) (N := some 29) #[true, true, true, true, true, true, true, true, true, true, false, false, false] rfl rfl (one_of HT_.out (by kernel_rfl)) (by decide) (fun K hK => ?_)
                        refine box_step ?hg (N := 29) ?hd (cs := #[.int .i64 0, .int .i64 0, .int .i64 0, .int .i64 0, .int .i64 0, .int .i64 0, .bool false, .int .i64 0, .int .i64 0, .int .i64 0, .int .i64 0, .int .i64 0, .int .i64 0]) (t := 23) ?hr ?_; (case hd => rfl); (case hg => rfl); (case hr => first | (go_simp; done) | (go_simp; rfl))
                        intro gb438 hg w206 hbox hb
                        have n0_ := Aside0.mk (blk_below (g := gb325) (Up.up BK325.out) hb)
                        have n1_ := Aside0.mk (blk_below (g := gb326) (Up.up BK326.out) hb)
                        have n2_ := Aside0.mk (blk_below (g := gb344) (Up.up BK344.out) hb)
                        have n3_ := Aside0.mk (blk_below (g := gb362) (Up.up BK362.out) hb)
                        have n4_ := Aside0.mk (blk_below (g := gb381) (Up.up BK381.out) hb)
                        have n5_ := Aside0.mk (blk_below (g := gb400) (Up.up BK400.out) hb)
                        have n6_ := Aside0.mk (blk_below (g := gb418) (Up.up BK418.out) hb)
                        have n7_ := Aside0.mk (below_step (by repeat (first | (with_reducible first | exact HB.out | apply below_alloc | apply pw_below_drewN | apply below_drew1 | refine below_set ?_ GE325.out | refine below_set ?_ GE326.out | refine below_set ?_ GE344.out | refine below_set ?_ GE362.out | refine below_set ?_ GE381.out | refine below_set ?_ GE400.out | refine below_set ?_ GE418.out) | exact HB.out)) hb)
                        have n8_ := Aside0.mk (hbox)
                        have n9_ := Aside0.mk ((by rw [hg]; exact (below_size (by repeat (first | (with_reducible first | exact HB.out | apply below_alloc | apply pw_below_drewN | apply below_drew1 | refine below_set ?_ GE325.out | refine below_set ?_ GE326.out | refine below_set ?_ GE344.out | refine below_set ?_ GE362.out | refine below_set ?_ GE381.out | refine below_set ?_ GE400.out | refine below_set ?_ GE418.out) | exact HB.out))) : w.heap.size ≤ gb438))
                        have n10_ := Aside0.mk ((by rw [hg]; exact (below_size (by repeat (first | (with_reducible first | exact HB.out | apply below_alloc | apply pw_below_drewN | apply below_drew1 | refine below_set ?_ GE325.out | refine below_set ?_ GE326.out | refine below_set ?_ GE344.out | refine below_set ?_ GE362.out | refine below_set ?_ GE381.out | refine below_set ?_ GE400.out | refine below_set ?_ GE418.out) | exact HB.out))) : w.heap.size ≤ gb438))
                        have n11_ := Aside0.mk ((by rw [hg]; exact Nat.ne_of_lt (blk_lt (g := gb325) (Up.up BK325.out)) : gb325 ≠ gb438))
                        have n12_ := Aside0.mk ((by rw [hg]; exact Nat.ne_of_gt (blk_lt (g := gb325) (Up.up BK325.out)) : gb438 ≠ gb325))
                        have n13_ := Aside0.mk ((by rw [hg]; exact Nat.ne_of_lt (blk_lt (g := gb326) (Up.up BK326.out)) : gb326 ≠ gb438))
                        have n14_ := Aside0.mk ((by rw [hg]; exact Nat.ne_of_gt (blk_lt (g := gb326) (Up.up BK326.out)) : gb438 ≠ gb326))
                        have n15_ := Aside0.mk ((by rw [hg]; exact Nat.ne_of_lt (blk_lt (g := gb344) (Up.up BK344.out)) : gb344 ≠ gb438))
                        have n16_ := Aside0.mk ((by rw [hg]; exact Nat.ne_of_gt (blk_lt (g := gb344) (Up.up BK344.out)) : gb438 ≠ gb344))
                        have n17_ := Aside0.mk ((by rw [hg]; exact Nat.ne_of_lt (blk_lt (g := gb362) (Up.up BK362.out)) : gb362 ≠ gb438))
                        have n18_ := Aside0.mk ((by rw [hg]; exact Nat.ne_of_gt (blk_lt (g := gb362) (Up.up BK362.out)) : gb438 ≠ gb362))
                        have n19_ := Aside0.mk ((by rw [hg]; exact Nat.ne_of_lt (blk_lt (g := gb381) (Up.up BK381.out)) : gb381 ≠ gb438))
                        have n20_ := Aside0.mk ((by rw [hg]; exact Nat.ne_of_gt (blk_lt (g := gb381) (Up.up BK381.out)) : gb438 ≠ gb381))
                        have n21_ := Aside0.mk ((by rw [hg]; exact Nat.ne_of_lt (blk_lt (g := gb400) (Up.up BK400.out)) : gb400 ≠ gb438))
                        have n22_ := Aside0.mk ((by rw [hg]; exact Nat.ne_of_gt (blk_lt (g := gb400) (Up.up BK400.out)) : gb438 ≠ gb400))
                        have n23_ := Aside0.mk ((by rw [hg]; exact Nat.ne_of_lt (blk_lt (g := gb418) (Up.up BK418.out)) : gb418 ≠ gb438))
                        have n24_ := Aside0.mk ((by rw [hg]; exact Nat.ne_of_gt (blk_lt (g := gb418) (Up.up BK418.out)) : gb438 ≠ gb418))
                        clear BK325
                        clear BK326
                        clear BK344
                        clear BK362
                        clear BK381
                        clear BK400
                        clear BK418
                        clear HB
                        have BK325 := n0_
                        have BK326 := n1_
                        have BK344 := n2_
                        have BK362 := n3_
                        have BK381 := n4_
                        have BK400 := n5_
                        have BK418 := n6_
                        have HB := n7_
                        have BK438 := n8_
                        have GW438 := n9_
                        have GE438 := n10_
                        have NB325_438 := n11_
                        have NB438_325 := n12_
                        have NB326_438 := n13_
                        have NB438_326 := n14_
                        have NB344_438 := n15_
                        have NB438_344 := n16_
                        have NB362_438 := n17_
                        have NB438_362 := n18_
                        have NB381_438 := n19_
                        have NB438_381 := n20_
                        have NB400_438 := n21_
                        have NB438_400 := n22_
                        have NB418_438 := n23_
                        have NB438_418 := n24_
                        clear n0_ n1_ n2_ n3_ n4_ n5_ n6_ n7_ n8_ n9_ n10_ n11_ n12_ n13_ n14_ n15_ n16_ n17_ n18_ n19_ n20_ n21_ n22_ n23_ n24_
                        clear hb hbox hg
                        refine hK.out _ _ ⟨(blk_cell BK325.out 0).trans rfl, (blk_cell BK325.out 1).trans rfl, (blk_cell BK325.out 2).trans rfl, (blk_cell BK325.out 3).trans rfl, (blk_cell BK325.out 4).trans rfl, (blk_cell BK325.out 5).trans rfl, (blk_cell BK325.out 6).trans rfl, (blk_cell BK325.out 7).trans rfl, (blk_cell BK325.out 8).trans rfl, (blk_cell BK325.out 9).trans rfl, (blk_cell BK325.out 10).trans rfl, (blk_cell BK325.out 11).trans rfl, (blk_cell BK325.out 12).trans rfl⟩ (fun hHeld => ?_)
                        clear hK K
                        refine norm_ (a' := ?_) ?_ ?_
                        rotate_left
                        · show Act.put _ (some 29) _ = _
                          simp only [Act.put, List.setIfInBounds_toArray, List.set_cons_zero, List.set_cons_succ, i64_w, i32_w]
                          rfl
                        exact norm_ (by simp only [putAll, Act.put, List.setIfInBounds_toArray, List.set_cons_zero, List.set_cons_succ]) (hCont (gb438) _ ⟨hHeld, (Up.up BK325.out), (Up.up BK326.out), (Up.up BK344.out), (Up.up BK362.out), (Up.up BK381.out), (Up.up BK400.out), (Up.up BK418.out), (Up.up BK438.out), GW438.out, GE438.out, NB325_438.out, NB438_325.out, NB326_438.out, NB438_326.out, NB344_438.out, NB438_344.out, NB362_438.out, NB438_362.out, NB381_438.out, NB438_381.out, NB400_438.out, NB438_400.out, NB418_438.out, NB438_418.out, (by repeat (first | (with_reducible first | exact HB.out | apply below_alloc | apply pw_below_drewN | apply below_drew1 | refine below_set ?_ GE325.out | refine below_set ?_ GE326.out | refine below_set ?_ GE344.out | refine below_set ?_ GE362.out | refine below_set ?_ GE381.out | refine below_set ?_ GE400.out | refine below_set ?_ GE418.out | refine below_set ?_ GE438.out) | exact HB.out))⟩)
                      · skip
                        refine box_step ?hg (N := 29) ?hd (cs := #[.int .i64 0, .int .i64 0, .int .i64 0, .int .i64 0, .int .i64 0, .int .i64 0, .bool false, .int .i64 0, .int .i64 0, .int .i64 0, .int .i64 0, .int .i64 0, .int .i64 0]) (t := 23) ?hr ?_; (case hd => rfl); (case hg => rfl); (case hr => first | (go_simp; done) | (go_simp; rfl))
                        intro gb438 hg w205 hbox hb
                        have n0_ := Aside0.mk (blk_below (g := gb325) (Up.up BK325.out) hb)
                        have n1_ := Aside0.mk (blk_below (g := gb326) (Up.up BK326.out) hb)
                        have n2_ := Aside0.mk (blk_below (g := gb344) (Up.up BK344.out) hb)
                        have n3_ := Aside0.mk (blk_below (g := gb362) (Up.up BK362.out) hb)
                        have n4_ := Aside0.mk (blk_below (g := gb381) (Up.up BK381.out) hb)
                        have n5_ := Aside0.mk (blk_below (g := gb400) (Up.up BK400.out) hb)
                        have n6_ := Aside0.mk (blk_below (g := gb418) (Up.up BK418.out) hb)
                        have n7_ := Aside0.mk (below_step (by repeat (first | (with_reducible first | exact HB.out | apply below_alloc | apply pw_below_drewN | apply below_drew1 | refine below_set ?_ GE325.out | refine below_set ?_ GE326.out | refine below_set ?_ GE344.out | refine below_set ?_ GE362.out | refine below_set ?_ GE381.out | refine below_set ?_ GE400.out | refine below_set ?_ GE418.out) | exact HB.out)) hb)
                        have n8_ := Aside0.mk (hbox)
                        have n9_ := Aside0.mk ((by rw [hg]; exact (below_size (by repeat (first | (with_reducible first | exact HB.out | apply below_alloc | apply pw_below_drewN | apply below_drew1 | refine below_set ?_ GE325.out | refine below_set ?_ GE326.out | refine below_set ?_ GE344.out | refine below_set ?_ GE362.out | refine below_set ?_ GE381.out | refine below_set ?_ GE400.out | refine below_set ?_ GE418.out) | exact HB.out))) : w.heap.size ≤ gb438))
                        have n10_ := Aside0.mk ((by rw [hg]; exact (below_size (by repeat (first | (with_reducible first | exact HB.out | apply below_alloc | apply pw_below_drewN | apply below_drew1 | refine below_set ?_ GE325.out | refine below_set ?_ GE326.out | refine below_set ?_ GE344.out | refine below_set ?_ GE362.out | refine below_set ?_ GE381.out | refine below_set ?_ GE400.out | refine below_set ?_ GE418.out) | exact HB.out))) : w.heap.size ≤ gb438))
                        have n11_ := Aside0.mk ((by rw [hg]; exact Nat.ne_of_lt (blk_lt (g := gb325) (Up.up BK325.out)) : gb325 ≠ gb438))
                        have n12_ := Aside0.mk ((by rw [hg]; exact Nat.ne_of_gt (blk_lt (g := gb325) (Up.up BK325.out)) : gb438 ≠ gb325))
                        have n13_ := Aside0.mk ((by rw [hg]; exact Nat.ne_of_lt (blk_lt (g := gb326) (Up.up BK326.out)) : gb326 ≠ gb438))
                        have n14_ := Aside0.mk ((by rw [hg]; exact Nat.ne_of_gt (blk_lt (g := gb326) (Up.up BK326.out)) : gb438 ≠ gb326))
                        have n15_ := Aside0.mk ((by rw [hg]; exact Nat.ne_of_lt (blk_lt (g := gb344) (Up.up BK344.out)) : gb344 ≠ gb438))
                        have n16_ := Aside0.mk ((by rw [hg]; exact Nat.ne_of_gt (blk_lt (g := gb344) (Up.up BK344.out)) : gb438 ≠ gb344))
                        have n17_ := Aside0.mk ((by rw [hg]; exact Nat.ne_of_lt (blk_lt (g := gb362) (Up.up BK362.out)) : gb362 ≠ gb438))
                        have n18_ := Aside0.mk ((by rw [hg]; exact Nat.ne_of_gt (blk_lt (g := gb362) (Up.up BK362.out)) : gb438 ≠ gb362))
                        have n19_ := Aside0.mk ((by rw [hg]; exact Nat.ne_of_lt (blk_lt (g := gb381) (Up.up BK381.out)) : gb381 ≠ gb438))
                        have n20_ := Aside0.mk ((by rw [hg]; exact Nat.ne_of_gt (blk_lt (g := gb381) (Up.up BK381.out)) : gb438 ≠ gb381))
                        have n21_ := Aside0.mk ((by rw [hg]; exact Nat.ne_of_lt (blk_lt (g := gb400) (Up.up BK400.out)) : gb400 ≠ gb438))
                        have n22_ := Aside0.mk ((by rw [hg]; exact Nat.ne_of_gt (blk_lt (g := gb400) (Up.up BK400.out)) : gb438 ≠ gb400))
                        have n23_ := Aside0.mk ((by rw [hg]; exact Nat.ne_of_lt (blk_lt (g := gb418) (Up.up BK418.out)) : gb418 ≠ gb438))
                        have n24_ := Aside0.mk ((by rw [hg]; exact Nat.ne_of_gt (blk_lt (g := gb418) (Up.up BK418.out)) : gb438 ≠ gb418))
                        clear BK325
                        clear BK326
                        clear BK344
                        clear BK362
                        clear BK381
                        clear BK400
                        clear BK418
                        clear HB
                        have BK325 := n0_
                        have BK326 := n1_
                        have BK344 := n2_
                        have BK362 := n3_
                        have BK381 := n4_
                        have BK400 := n5_
                        have BK418 := n6_
                        have HB := n7_
                        have BK438 := n8_
                        have GW438 := n9_
                        have GE438 := n10_
                        have NB325_438 := n11_
                        have NB438_325 := n12_
                        have NB326_438 := n13_
                        have NB438_326 := n14_
                        have NB344_438 := n15_
                        have NB438_344 := n16_
                        have NB362_438 := n17_
                        have NB438_362 := n18_
                        have NB381_438 := n19_
                        have NB438_381 := n20_
                        have NB400_438 := n21_
                        have NB438_400 := n22_
                        have NB418_438 := n23_
                        have NB438_418 := n24_
                        clear n0_ n1_ n2_ n3_ n4_ n5_ n6_ n7_ n8_ n9_ n10_ n11_ n12_ n13_ n14_ n15_ n16_ n17_ n18_ n19_ n20_ n21_ n22_ n23_ n24_
                        clear hb hbox hg
                        refine hK.out _ _ ⟨(blk_cell BK325.out 0).trans rfl, (blk_cell BK325.out 1).trans rfl, (blk_cell BK325.out 2).trans rfl, (blk_cell BK325.out 3).trans rfl, (blk_cell BK325.out 4).trans rfl, (blk_cell BK325.out 5).trans rfl, (blk_cell BK325.out 6).trans rfl, (blk_cell BK325.out 7).trans rfl, (blk_cell BK325.out 8).trans rfl, (blk_cell BK325.out 9).trans rfl, (blk_cell BK325.out 10).trans rfl, (blk_cell BK325.out 11).trans rfl, (blk_cell BK325.out 12).trans rfl⟩ (fun hHeld => ?_)
                        clear hK K
                        refine norm_ (a' := ?_) ?_ ?_
                        rotate_left
                        · show Act.put _ (some 29) _ = _
                          simp only [Act.put, List.setIfInBounds_toArray, List.set_cons_zero, List.set_cons_succ, i64_w, i32_w]
                          rfl
                        refine one_ (i := 4) (N := some 212) #[true, true, true, true, true, false, false, false, false, true, false, false, false] rfl rfl (one_of HT_.out (by kernel_rfl)) (by decide) (fun K hK => ?_)
                        refine goes_ Try.func20 (by kernel_rfl) rfl #[.agg #[.int .i64 a0_0, .int .i64 a0_1, .int .i64 a0_2, .int .i64 a0_3, .int .i64 a0_4, .int .i64 a0_5, .bool a0_6, .int .i64 a0_7, .int .i64 a0_8, .int .i64 a0_9, .int .i64 a0_10, .int .i64 a0_11, .int .i64 a0_12], .int .i64 (wrap64 (1 + t422))] (by rfl) rfl rfl (by (try simp only [List.map_toArray, List.map_cons, List.map_nil]); first | done | rfl | (simp only [List.length_drop, List.length_take]; rfl)) ?_
                        with_reducible refine (loan_Close.calls kj156 a0_0 a0_1 a0_2 a0_3 a0_4 a0_5 a0_6 a0_7 a0_8 a0_9 a0_10 a0_11 a0_12 (wrap64 (1 + t422)) t423 t424 t425 t426 t427 t428 t429 t430 t431 t432 t433 t434 t435 t436 t437 _ A192.out).mono ?_
                        rintro e w206 ⟨rfl, hb⟩
                        refine ⟨_, rfl, ?_⟩
                        have n0_ := Aside0.mk (blk_below (g := gb325) (Up.up BK325.out) hb)
                        have n1_ := Aside0.mk (blk_below (g := gb326) (Up.up BK326.out) hb)
                        have n2_ := Aside0.mk (blk_below (g := gb344) (Up.up BK344.out) hb)
                        have n3_ := Aside0.mk (blk_below (g := gb362) (Up.up BK362.out) hb)
                        have n4_ := Aside0.mk (blk_below (g := gb381) (Up.up BK381.out) hb)
                        have n5_ := Aside0.mk (blk_below (g := gb400) (Up.up BK400.out) hb)
                        have n6_ := Aside0.mk (blk_below (g := gb418) (Up.up BK418.out) hb)
                        have n7_ := Aside0.mk (blk_below (g := gb438) (Up.up BK438.out) hb)
                        have n8_ := Aside0.mk (below_step (by repeat (first | (with_reducible first | exact HB.out | apply below_alloc | apply pw_below_drewN | apply below_drew1 | refine below_set ?_ GE325.out | refine below_set ?_ GE326.out | refine below_set ?_ GE344.out | refine below_set ?_ GE362.out | refine below_set ?_ GE381.out | refine below_set ?_ GE400.out | refine below_set ?_ GE418.out | refine below_set ?_ GE438.out) | exact HB.out)) hb)
                        clear BK325
                        clear BK326
                        clear BK344
                        clear BK362
                        clear BK381
                        clear BK400
                        clear BK418
                        clear BK438
                        clear HB
                        have BK325 := n0_
                        have BK326 := n1_
                        have BK344 := n2_
                        have BK362 := n3_
                        have BK381 := n4_
                        have BK400 := n5_
                        have BK418 := n6_
                        have BK438 := n7_
                        have HB := n8_
                        clear n0_ n1_ n2_ n3_ n4_ n5_ n6_ n7_ n8_
                        (try clear hb)
                        (try clear hb2)
                        (try clear hk)
                        (try clear hi)
                        refine hK.out _ _ ⟨(blk_cell BK325.out 0).trans rfl, (blk_cell BK325.out 1).trans rfl, (blk_cell BK325.out 2).trans rfl, (blk_cell BK325.out 3).trans rfl, (blk_cell BK325.out 4).trans rfl, (blk_cell BK325.out 5).trans rfl, (blk_cell BK325.out 6).trans rfl, (blk_cell BK325.out 7).trans rfl, (blk_cell BK325.out 8).trans rfl, (blk_cell BK325.out 9).trans rfl, (blk_cell BK325.out 10).trans rfl, (blk_cell BK325.out 11).trans rfl, (blk_cell BK325.out 12).trans rfl⟩ (fun hHeld => ?_)
                        clear hK K
                        refine norm_ (a' := ?_) ?_ ?_
                        rotate_left
                        · show Act.put _ (some 212) _ = _
                          simp only [Act.put, List.setIfInBounds_toArray, List.set_cons_zero, List.set_cons_succ, i64_w, i32_w]
                          rfl
                        refine pure_ (i := 5) (N := some 207) (v := ?_) (a' := ?_) #[true, true, true, true, true, true, false, false, false, true, false, false, false] rfl rfl (any_of HT_.out (by kernel_rfl)) (fun _ _ _ h => h) (Or.inl ⟨by rfl, ?_⟩) ?_ ?_
                        rotate_left
                        · intro w'
                          go_simp
                          with_reducible rfl
                        rotate_left
                        · simp only [Act.put, List.setIfInBounds_toArray, List.set_cons_zero, List.set_cons_succ, i64_w, i32_w]
                          rfl
                        refine pure_ (i := 6) (N := some 213) (v := ?_) (a' := ?_) #[true, true, true, true, true, true, true, false, false, true, false, false, false] rfl rfl (any_of HT_.out (by kernel_rfl)) (fun _ _ _ h => h) (Or.inl ⟨by rfl, ?_⟩) ?_ ?_
                        rotate_left
                        · intro w'
                          go_simp
                          with_reducible rfl
                        rotate_left
                        · simp only [Act.put, List.setIfInBounds_toArray, List.set_cons_zero, List.set_cons_succ, i64_w, i32_w]
                          rfl
                        refine pure_ (i := 7) (N := some 214) (v := ?_) (a' := ?_) #[true, true, true, true, true, true, true, true, false, true, false, false, false] rfl rfl (any_of HT_.out (by kernel_rfl)) (fun _ _ _ h => h) (Or.inl ⟨by rfl, ?_⟩) ?_ ?_
                        rotate_left
                        · intro w'
                          go_simp
                          with_reducible rfl
                        rotate_left
                        · simp only [Act.put, List.setIfInBounds_toArray, List.set_cons_zero, List.set_cons_succ, i64_w, i32_w]
                          rfl
                        refine pure_ (i := 8) (N := some 215) (v := ?_) (a' := ?_) #[true, true, true, true, true, true, true, true, true, true, false, false, false] rfl rfl (any_of HT_.out (by kernel_rfl)) (fun _ _ _ h => h) (Or.inl ⟨by rfl, ?_⟩) ?_ ?_
                        rotate_left
                        · intro w'
                          go_simp
                          with_reducible rfl
                        rotate_left
                        · simp only [Act.put, List.setIfInBounds_toArray, List.set_cons_zero, List.set_cons_succ, i64_w, i32_w]
                          rfl
                        exact norm_ (by simp only [putAll, Act.put, List.setIfInBounds_toArray, List.set_cons_zero, List.set_cons_succ]) (hCont (gb438) _ ⟨hHeld, (Up.up BK325.out), (Up.up BK326.out), (Up.up BK344.out), (Up.up BK362.out), (Up.up BK381.out), (Up.up BK400.out), (Up.up BK418.out), (Up.up BK438.out), GW438.out, GE438.out, NB325_438.out, NB438_325.out, NB326_438.out, NB438_326.out, NB344_438.out, NB438_344.out, NB362_438.out, NB438_362.out, NB381_438.out, NB438_381.out, NB400_438.out, NB438_400.out, NB418_438.out, NB438_418.out, (by repeat (first | (with_reducible first | exact HB.out | apply below_alloc | apply pw_below_drewN | apply below_drew1 | refine below_set ?_ GE325.out | refine below_set ?_ GE326.out | refine below_set ?_ GE344.out | refine below_set ?_ GE362.out | refine below_set ?_ GE381.out | refine below_set ?_ GE400.out | refine below_set ?_ GE418.out | refine below_set ?_ GE438.out) | exact HB.out))⟩)
                    · skip
                      refine box_step ?hg (N := 29) ?hd (cs := #[.int .i64 0, .int .i64 0, .int .i64 0, .int .i64 0, .int .i64 0, .int .i64 0, .bool false, .int .i64 0, .int .i64 0, .int .i64 0, .int .i64 0, .int .i64 0, .int .i64 0]) (t := 23) ?hr ?_; (case hd => rfl); (case hg => rfl); (case hr => first | (go_simp; done) | (go_simp; rfl))
                      intro gb438 hg w205 hbox hb
                      have n0_ := Aside0.mk (blk_below (g := gb325) (Up.up BK325.out) hb)
                      have n1_ := Aside0.mk (blk_below (g := gb326) (Up.up BK326.out) hb)
                      have n2_ := Aside0.mk (blk_below (g := gb344) (Up.up BK344.out) hb)
                      have n3_ := Aside0.mk (blk_below (g := gb362) (Up.up BK362.out) hb)
                      have n4_ := Aside0.mk (blk_below (g := gb381) (Up.up BK381.out) hb)
                      have n5_ := Aside0.mk (blk_below (g := gb400) (Up.up BK400.out) hb)
                      have n6_ := Aside0.mk (blk_below (g := gb418) (Up.up BK418.out) hb)
                      have n7_ := Aside0.mk (below_step (by repeat (first | (with_reducible first | exact HB.out | apply below_alloc | apply pw_below_drewN | apply below_drew1 | refine below_set ?_ GE325.out | refine below_set ?_ GE326.out | refine below_set ?_ GE344.out | refine below_set ?_ GE362.out | refine below_set ?_ GE381.out | refine below_set ?_ GE400.out | refine below_set ?_ GE418.out) | exact HB.out)) hb)
                      have n8_ := Aside0.mk (hbox)
                      have n9_ := Aside0.mk ((by rw [hg]; exact (below_size (by repeat (first | (with_reducible first | exact HB.out | apply below_alloc | apply pw_below_drewN | apply below_drew1 | refine below_set ?_ GE325.out | refine below_set ?_ GE326.out | refine below_set ?_ GE344.out | refine below_set ?_ GE362.out | refine below_set ?_ GE381.out | refine below_set ?_ GE400.out | refine below_set ?_ GE418.out) | exact HB.out))) : w.heap.size ≤ gb438))
                      have n10_ := Aside0.mk ((by rw [hg]; exact (below_size (by repeat (first | (with_reducible first | exact HB.out | apply below_alloc | apply pw_below_drewN | apply below_drew1 | refine below_set ?_ GE325.out | refine below_set ?_ GE326.out | refine below_set ?_ GE344.out | refine below_set ?_ GE362.out | refine below_set ?_ GE381.out | refine below_set ?_ GE400.out | refine below_set ?_ GE418.out) | exact HB.out))) : w.heap.size ≤ gb438))
                      have n11_ := Aside0.mk ((by rw [hg]; exact Nat.ne_of_lt (blk_lt (g := gb325) (Up.up BK325.out)) : gb325 ≠ gb438))
                      have n12_ := Aside0.mk ((by rw [hg]; exact Nat.ne_of_gt (blk_lt (g := gb325) (Up.up BK325.out)) : gb438 ≠ gb325))
                      have n13_ := Aside0.mk ((by rw [hg]; exact Nat.ne_of_lt (blk_lt (g := gb326) (Up.up BK326.out)) : gb326 ≠ gb438))
                      have n14_ := Aside0.mk ((by rw [hg]; exact Nat.ne_of_gt (blk_lt (g := gb326) (Up.up BK326.out)) : gb438 ≠ gb326))
                      have n15_ := Aside0.mk ((by rw [hg]; exact Nat.ne_of_lt (blk_lt (g := gb344) (Up.up BK344.out)) : gb344 ≠ gb438))
                      have n16_ := Aside0.mk ((by rw [hg]; exact Nat.ne_of_gt (blk_lt (g := gb344) (Up.up BK344.out)) : gb438 ≠ gb344))
                      have n17_ := Aside0.mk ((by rw [hg]; exact Nat.ne_of_lt (blk_lt (g := gb362) (Up.up BK362.out)) : gb362 ≠ gb438))
                      have n18_ := Aside0.mk ((by rw [hg]; exact Nat.ne_of_gt (blk_lt (g := gb362) (Up.up BK362.out)) : gb438 ≠ gb362))
                      have n19_ := Aside0.mk ((by rw [hg]; exact Nat.ne_of_lt (blk_lt (g := gb381) (Up.up BK381.out)) : gb381 ≠ gb438))
                      have n20_ := Aside0.mk ((by rw [hg]; exact Nat.ne_of_gt (blk_lt (g := gb381) (Up.up BK381.out)) : gb438 ≠ gb381))
                      have n21_ := Aside0.mk ((by rw [hg]; exact Nat.ne_of_lt (blk_lt (g := gb400) (Up.up BK400.out)) : gb400 ≠ gb438))
                      have n22_ := Aside0.mk ((by rw [hg]; exact Nat.ne_of_gt (blk_lt (g := gb400) (Up.up BK400.out)) : gb438 ≠ gb400))
                      have n23_ := Aside0.mk ((by rw [hg]; exact Nat.ne_of_lt (blk_lt (g := gb418) (Up.up BK418.out)) : gb418 ≠ gb438))
                      have n24_ := Aside0.mk ((by rw [hg]; exact Nat.ne_of_gt (blk_lt (g := gb418) (Up.up BK418.out)) : gb438 ≠ gb418))
                      clear BK325
                      clear BK326
                      clear BK344
                      clear BK362
                      clear BK381
                      clear BK400
                      clear BK418
                      clear HB
                      have BK325 := n0_
                      have BK326 := n1_
                      have BK344 := n2_
                      have BK362 := n3_
                      have BK381 := n4_
                      have BK400 := n5_
                      have BK418 := n6_
                      have HB := n7_
                      have BK438 := n8_
                      have GW438 := n9_
                      have GE438 := n10_
                      have NB325_438 := n11_
                      have NB438_325 := n12_
                      have NB326_438 := n13_
                      have NB438_326 := n14_
                      have NB344_438 := n15_
                      have NB438_344 := n16_
                      have NB362_438 := n17_
                      have NB438_362 := n18_
                      have NB381_438 := n19_
                      have NB438_381 := n20_
                      have NB400_438 := n21_
                      have NB438_400 := n22_
                      have NB418_438 := n23_
                      have NB438_418 := n24_
                      clear n0_ n1_ n2_ n3_ n4_ n5_ n6_ n7_ n8_ n9_ n10_ n11_ n12_ n13_ n14_ n15_ n16_ n17_ n18_ n19_ n20_ n21_ n22_ n23_ n24_
                      clear hb hbox hg
                      refine hK.out _ _ ⟨(blk_cell BK325.out 0).trans rfl, (blk_cell BK325.out 1).trans rfl, (blk_cell BK325.out 2).trans rfl, (blk_cell BK325.out 3).trans rfl, (blk_cell BK325.out 4).trans rfl, (blk_cell BK325.out 5).trans rfl, (blk_cell BK325.out 6).trans rfl, (blk_cell BK325.out 7).trans rfl, (blk_cell BK325.out 8).trans rfl, (blk_cell BK325.out 9).trans rfl, (blk_cell BK325.out 10).trans rfl, (blk_cell BK325.out 11).trans rfl, (blk_cell BK325.out 12).trans rfl⟩ (fun hHeld => ?_)
                      clear hK K
                      refine norm_ (a' := ?_) ?_ ?_
                      rotate_left
                      · show Act.put _ (some 29) _ = _
                        simp only [Act.put, List.setIfInBounds_toArray, List.set_cons_zero, List.set_cons_succ, i64_w, i32_w]
                        rfl
                      refine one_ (i := 2) (N := some 210) #[true, true, true, false, false, false, false, false, false, true, false, false, false] rfl rfl (one_of HT_.out (by kernel_rfl)) (by decide) (fun K hK => ?_)
                      refine goes_ Try.func21 (by kernel_rfl) rfl #[.int .i64 a2, .int .i64 4] (by rfl) rfl rfl (by (try simp only [List.map_toArray, List.map_cons, List.map_nil]); first | done | rfl | (simp only [List.length_drop, List.length_take]; rfl)) ?_
                      with_reducible refine (annuitykeep_Mod.calls a2 4 t422 _ A191.out).mono ?_
                      rintro e w' ⟨rfl, ⟨nd, rfl⟩⟩
                      refine ⟨_, rfl, ?_⟩
                      refine hK.out _ _ ⟨(blk_cell BK325.out 0).trans rfl, (blk_cell BK325.out 1).trans rfl, (blk_cell BK325.out 2).trans rfl, (blk_cell BK325.out 3).trans rfl, (blk_cell BK325.out 4).trans rfl, (blk_cell BK325.out 5).trans rfl, (blk_cell BK325.out 6).trans rfl, (blk_cell BK325.out 7).trans rfl, (blk_cell BK325.out 8).trans rfl, (blk_cell BK325.out 9).trans rfl, (blk_cell BK325.out 10).trans rfl, (blk_cell BK325.out 11).trans rfl, (blk_cell BK325.out 12).trans rfl⟩ (fun hHeld => ?_)
                      clear hK K
                      refine norm_ (a' := ?_) ?_ ?_
                      rotate_left
                      · show Act.put _ (some 210) _ = _
                        simp only [Act.put, List.setIfInBounds_toArray, List.set_cons_zero, List.set_cons_succ, i64_w, i32_w]
                        rfl
                      refine pure_ (i := 3) (N := some 211) (v := ?_) (a' := ?_) #[true, true, true, true, false, false, false, false, false, true, false, false, false] rfl rfl (any_of HT_.out (by kernel_rfl)) (fun _ _ _ h => h) (Or.inl ⟨by rfl, ?_⟩) ?_ ?_
                      rotate_left
                      · intro w'
                        go_simp
                        with_reducible rfl
                      rotate_left
                      · simp only [Act.put, List.setIfInBounds_toArray, List.set_cons_zero, List.set_cons_succ, i64_w, i32_w]
                        rfl
                      refine one_ (i := 4) (N := some 212) #[true, true, true, true, true, false, false, false, false, true, false, false, false] rfl rfl (one_of HT_.out (by kernel_rfl)) (by decide) (fun K hK => ?_)
                      refine goes_ Try.func20 (by kernel_rfl) rfl #[.agg #[.int .i64 a0_0, .int .i64 a0_1, .int .i64 a0_2, .int .i64 a0_3, .int .i64 a0_4, .int .i64 a0_5, .bool a0_6, .int .i64 a0_7, .int .i64 a0_8, .int .i64 a0_9, .int .i64 a0_10, .int .i64 a0_11, .int .i64 a0_12], .int .i64 (wrap64 (1 + t422))] (by rfl) rfl rfl (by (try simp only [List.map_toArray, List.map_cons, List.map_nil]); first | done | rfl | (simp only [List.length_drop, List.length_take]; rfl)) ?_
                      with_reducible refine (loan_Close.calls kj156 a0_0 a0_1 a0_2 a0_3 a0_4 a0_5 a0_6 a0_7 a0_8 a0_9 a0_10 a0_11 a0_12 (wrap64 (1 + t422)) t423 t424 t425 t426 t427 t428 t429 t430 t431 t432 t433 t434 t435 t436 t437 _ A192.out).mono ?_
                      rintro e w206 ⟨rfl, hb⟩
                      refine ⟨_, rfl, ?_⟩
                      have n0_ := Aside0.mk (blk_below (g := gb325) (Up.up BK325.out) hb)
                      have n1_ := Aside0.mk (blk_below (g := gb326) (Up.up BK326.out) hb)
                      have n2_ := Aside0.mk (blk_below (g := gb344) (Up.up BK344.out) hb)
                      have n3_ := Aside0.mk (blk_below (g := gb362) (Up.up BK362.out) hb)
                      have n4_ := Aside0.mk (blk_below (g := gb381) (Up.up BK381.out) hb)
                      have n5_ := Aside0.mk (blk_below (g := gb400) (Up.up BK400.out) hb)
                      have n6_ := Aside0.mk (blk_below (g := gb418) (Up.up BK418.out) hb)
                      have n7_ := Aside0.mk (blk_below (g := gb438) (Up.up BK438.out) hb)
                      have n8_ := Aside0.mk (below_step (by repeat (first | (with_reducible first | exact HB.out | apply below_alloc | apply pw_below_drewN | apply below_drew1 | refine below_set ?_ GE325.out | refine below_set ?_ GE326.out | refine below_set ?_ GE344.out | refine below_set ?_ GE362.out | refine below_set ?_ GE381.out | refine below_set ?_ GE400.out | refine below_set ?_ GE418.out | refine below_set ?_ GE438.out) | exact HB.out)) hb)
                      clear BK325
                      clear BK326
                      clear BK344
                      clear BK362
                      clear BK381
                      clear BK400
                      clear BK418
                      clear BK438
                      clear HB
                      have BK325 := n0_
                      have BK326 := n1_
                      have BK344 := n2_
                      have BK362 := n3_
                      have BK381 := n4_
                      have BK400 := n5_
                      have BK418 := n6_
                      have BK438 := n7_
                      have HB := n8_
                      clear n0_ n1_ n2_ n3_ n4_ n5_ n6_ n7_ n8_
                      (try clear hb)
                      (try clear hb2)
                      (try clear hk)
                      (try clear hi)
                      refine hK.out _ _ ⟨(blk_cell BK325.out 0).trans rfl, (blk_cell BK325.out 1).trans rfl, (blk_cell BK325.out 2).trans rfl, (blk_cell BK325.out 3).trans rfl, (blk_cell BK325.out 4).trans rfl, (blk_cell BK325.out 5).trans rfl, (blk_cell BK325.out 6).trans rfl, (blk_cell BK325.out 7).trans rfl, (blk_cell BK325.out 8).trans rfl, (blk_cell BK325.out 9).trans rfl, (blk_cell BK325.out 10).trans rfl, (blk_cell BK325.out 11).trans rfl, (blk_cell BK325.out 12).trans rfl⟩ (fun hHeld => ?_)
                      clear hK K
                      refine norm_ (a' := ?_) ?_ ?_
                      rotate_left
                      · show Act.put _ (some 212) _ = _
                        simp only [Act.put, List.setIfInBounds_toArray, List.set_cons_zero, List.set_cons_succ, i64_w, i32_w]
                        rfl
                      refine pure_ (i := 5) (N := some 207) (v := ?_) (a' := ?_) #[true, true, true, true, true, true, false, false, false, true, false, false, false] rfl rfl (any_of HT_.out (by kernel_rfl)) (fun _ _ _ h => h) (Or.inl ⟨by rfl, ?_⟩) ?_ ?_
                      rotate_left
                      · intro w'
                        go_simp
                        with_reducible rfl
                      rotate_left
                      · simp only [Act.put, List.setIfInBounds_toArray, List.set_cons_zero, List.set_cons_succ, i64_w, i32_w]
                        rfl
                      refine pure_ (i := 6) (N := some 213) (v := ?_) (a' := ?_) #[true, true, true, true, true, true, true, false, false, true, false, false, false] rfl rfl (any_of HT_.out (by kernel_rfl)) (fun _ _ _ h => h) (Or.inl ⟨by rfl, ?_⟩) ?_ ?_
                      rotate_left
                      · intro w'
                        go_simp
                        with_reducible rfl
                      rotate_left
                      · simp only [Act.put, List.setIfInBounds_toArray, List.set_cons_zero, List.set_cons_succ, i64_w, i32_w]
                        rfl
                      refine pure_ (i := 7) (N := some 214) (v := ?_) (a' := ?_) #[true, true, true, true, true, true, true, true, false, true, false, false, false] rfl rfl (any_of HT_.out (by kernel_rfl)) (fun _ _ _ h => h) (Or.inl ⟨by rfl, ?_⟩) ?_ ?_
                      rotate_left
                      · intro w'
                        go_simp
                        with_reducible rfl
                      rotate_left
                      · simp only [Act.put, List.setIfInBounds_toArray, List.set_cons_zero, List.set_cons_succ, i64_w, i32_w]
                        rfl
                      refine pure_ (i := 8) (N := some 215) (v := ?_) (a' := ?_) #[true, true, true, true, true, true, true, true, true, true, false, false, false] rfl rfl (any_of HT_.out (by kernel_rfl)) (fun _ _ _ h => h) (Or.inl ⟨by rfl, ?_⟩) ?_ ?_
                      rotate_left
                      · intro w'
                        go_simp
                        with_reducible rfl
                      rotate_left
                      · simp only [Act.put, List.setIfInBounds_toArray, List.set_cons_zero, List.set_cons_succ, i64_w, i32_w]
                        rfl
                      exact norm_ (by simp only [putAll, Act.put, List.setIfInBounds_toArray, List.set_cons_zero, List.set_cons_succ]) (hCont (gb438) _ ⟨hHeld, (Up.up BK325.out), (Up.up BK326.out), (Up.up BK344.out), (Up.up BK362.out), (Up.up BK381.out), (Up.up BK400.out), (Up.up BK418.out), (Up.up BK438.out), GW438.out, GE438.out, NB325_438.out, NB438_325.out, NB326_438.out, NB438_326.out, NB344_438.out, NB438_344.out, NB362_438.out, NB438_362.out, NB381_438.out, NB438_381.out, NB400_438.out, NB438_400.out, NB418_438.out, NB438_418.out, (by repeat (first | (with_reducible first | exact HB.out | apply below_alloc | apply pw_below_drewN | apply below_drew1 | refine below_set ?_ GE325.out | refine below_set ?_ GE326.out | refine below_set ?_ GE344.out | refine below_set ?_ GE362.out | refine below_set ?_ GE381.out | refine below_set ?_ GE400.out | refine below_set ?_ GE418.out | refine below_set ?_ GE438.out) | exact HB.out))⟩)
                  rintro gb438 w207 ⟨hS_, h0_, h1_, h2_, h3_, h4_, h5_, h6_, h7_, h8_, h9_, h10_, h11_, h12_, h13_, h14_, h15_, h16_, h17_, h18_, h19_, h20_, h21_, h22_, h23_, h24_⟩
                  have n0_ : Aside0 (w207.heap[gb325]? = some (.cells #[.int .i64 a0_0, .int .i64 a0_1, .int .i64 a0_2, .int .i64 a0_3, .int .i64 a0_4, .int .i64 a0_5, .bool a0_6, .int .i64 a0_7, .int .i64 a0_8, .int .i64 a0_9, .int .i64 a0_10, .int .i64 a0_11, .int .i64 a0_12] 23 (0, 0))) := ⟨h0_⟩
                  have n1_ : Aside0 (w207.heap[gb326]? = some (.cells #[.int .i64 a1_0, .int .i64 a1_1, .int .i64 a1_2, .int .i64 a1_3] 35 (0, 0))) := ⟨h1_⟩
                  have n2_ : Aside0 (w207.heap[gb344]? = some (.cells #[.int .i64 t330, .int .i64 t331, .int .i64 t332, .int .i64 t333, .int .i64 t334, .int .i64 t335, .bool t336, .int .i64 t337, .int .i64 t338, .int .i64 t339, .int .i64 t340, .int .i64 t341, .int .i64 t342] 23 (0, 0))) := ⟨h2_⟩
                  have n3_ : Aside0 (w207.heap[gb362]? = some (.cells #[.int .i64 t348, .int .i64 t349, .int .i64 t350, .int .i64 t351, .int .i64 t352, .int .i64 t353, .bool t354, .int .i64 t355, .int .i64 t356, .int .i64 t357, .int .i64 t358, .int .i64 t359, .int .i64 t360] 23 (0, 0))) := ⟨h3_⟩
                  have n4_ : Aside0 (w207.heap[gb381]? = some (.cells #[.int .i64 t367, .int .i64 t368, .int .i64 t369, .int .i64 t370, .int .i64 t371, .int .i64 t372, .bool t373, .int .i64 t374, .int .i64 t375, .int .i64 t376, .int .i64 t377, .int .i64 t378, .int .i64 t379] 23 (0, 0))) := ⟨h4_⟩
                  have n5_ : Aside0 (w207.heap[gb400]? = some (.cells #[.int .i64 t386, .int .i64 t387, .int .i64 t388, .int .i64 t389, .int .i64 t390, .int .i64 t391, .bool t392, .int .i64 t393, .int .i64 t394, .int .i64 t395, .int .i64 t396, .int .i64 t397, .int .i64 t398] 23 (0, 0))) := ⟨h5_⟩
                  have n6_ : Aside0 (w207.heap[gb418]? = some (.cells #[.int .i64 t404, .int .i64 t405, .int .i64 t406, .int .i64 t407, .int .i64 t408, .int .i64 t409, .bool t410, .int .i64 t411, .int .i64 t412, .int .i64 t413, .int .i64 t414, .int .i64 t415, .int .i64 t416] 23 (0, 0))) := ⟨h6_⟩
                  have n7_ : Aside0 (w207.heap[gb438]? = some (.cells #[.int .i64 0, .int .i64 0, .int .i64 0, .int .i64 0, .int .i64 0, .int .i64 0, .bool false, .int .i64 0, .int .i64 0, .int .i64 0, .int .i64 0, .int .i64 0, .int .i64 0] 23 (0, 0))) := ⟨h7_⟩
                  have n8_ : Aside0 (w.heap.size ≤ gb438) := ⟨h8_⟩
                  have n9_ : Aside0 (w.heap.size ≤ gb438) := ⟨h9_⟩
                  have n10_ : Aside0 (gb325 ≠ gb438) := ⟨h10_⟩
                  have n11_ : Aside0 (gb438 ≠ gb325) := ⟨h11_⟩
                  have n12_ : Aside0 (gb326 ≠ gb438) := ⟨h12_⟩
                  have n13_ : Aside0 (gb438 ≠ gb326) := ⟨h13_⟩
                  have n14_ : Aside0 (gb344 ≠ gb438) := ⟨h14_⟩
                  have n15_ : Aside0 (gb438 ≠ gb344) := ⟨h15_⟩
                  have n16_ : Aside0 (gb362 ≠ gb438) := ⟨h16_⟩
                  have n17_ : Aside0 (gb438 ≠ gb362) := ⟨h17_⟩
                  have n18_ : Aside0 (gb381 ≠ gb438) := ⟨h18_⟩
                  have n19_ : Aside0 (gb438 ≠ gb381) := ⟨h19_⟩
                  have n20_ : Aside0 (gb400 ≠ gb438) := ⟨h20_⟩
                  have n21_ : Aside0 (gb438 ≠ gb400) := ⟨h21_⟩
                  have n22_ : Aside0 (gb418 ≠ gb438) := ⟨h22_⟩
                  have n23_ : Aside0 (gb438 ≠ gb418) := ⟨h23_⟩
                  have n24_ : Aside0 (Below w.heap.size w w207) := ⟨h24_⟩
                  clear BK325
                  clear BK326
                  clear BK344
                  clear BK362
                  clear BK381
                  clear BK400
                  clear BK418
                  clear HB
                  clear h0_ h1_ h2_ h3_ h4_ h5_ h6_ h7_ h8_ h9_ h10_ h11_ h12_ h13_ h14_ h15_ h16_ h17_ h18_ h19_ h20_ h21_ h22_ h23_ h24_
                  have BK325 := n0_
                  have BK326 := n1_
                  have BK344 := n2_
                  have BK362 := n3_
                  have BK381 := n4_
                  have BK400 := n5_
                  have BK418 := n6_
                  have BK438 := n7_
                  have GW438 := n8_
                  have GE438 := n9_
                  have NB325_438 := n10_
                  have NB438_325 := n11_
                  have NB326_438 := n12_
                  have NB438_326 := n13_
                  have NB344_438 := n14_
                  have NB438_344 := n15_
                  have NB362_438 := n16_
                  have NB438_362 := n17_
                  have NB381_438 := n18_
                  have NB438_381 := n19_
                  have NB400_438 := n20_
                  have NB438_400 := n21_
                  have NB418_438 := n22_
                  have NB438_418 := n23_
                  have HB := n24_
                  clear n0_ n1_ n2_ n3_ n4_ n5_ n6_ n7_ n8_ n9_ n10_ n11_ n12_ n13_ n14_ n15_ n16_ n17_ n18_ n19_ n20_ n21_ n22_ n23_ n24_
                  have hHeld : w207.cell? ⟨gb325, 0, none⟩ = some (.int .i64 a0_0) ∧ w207.cell? ⟨gb325, 1, none⟩ = some (.int .i64 a0_1) ∧ w207.cell? ⟨gb325, 2, none⟩ = some (.int .i64 a0_2) ∧ w207.cell? ⟨gb325, 3, none⟩ = some (.int .i64 a0_3) ∧ w207.cell? ⟨gb325, 4, none⟩ = some (.int .i64 a0_4) ∧ w207.cell? ⟨gb325, 5, none⟩ = some (.int .i64 a0_5) ∧ w207.cell? ⟨gb325, 6, none⟩ = some (.bool a0_6) ∧ w207.cell? ⟨gb325, 7, none⟩ = some (.int .i64 a0_7) ∧ w207.cell? ⟨gb325, 8, none⟩ = some (.int .i64 a0_8) ∧ w207.cell? ⟨gb325, 9, none⟩ = some (.int .i64 a0_9) ∧ w207.cell? ⟨gb325, 10, none⟩ = some (.int .i64 a0_10) ∧ w207.cell? ⟨gb325, 11, none⟩ = some (.int .i64 a0_11) ∧ w207.cell? ⟨gb325, 12, none⟩ = some (.int .i64 a0_12) := hS_
                  refine norm_ (a' := ?_) ?_ ?_
                  rotate_left
                  · simp only [putAll, Act.put, List.setIfInBounds_toArray, List.set_cons_zero, List.set_cons_succ]
                    rfl
                  refine one_ (i := 10) (N := none) #[true, true, true, true, true, true, true, true, true, true, true, false, false] rfl rfl (one_of HT_.out (by kernel_rfl)) (by decide) (fun K hK => ?_)
                  have hs208 : w207.cell? ⟨gb438, 0, none⟩ = some (.int .i64 0) := (blk_cell BK438.out 0).trans rfl
                  have hfs208 := blk_frozen BK438.out 0
                  have hns208_0 := NB325_438.out
                  have hns208_1 := NB326_438.out
                  have hns208_2 := NB344_438.out
                  have hns208_3 := NB362_438.out
                  have hns208_4 := NB381_438.out
                  have hns208_5 := NB400_438.out
                  have hns208_6 := NB418_438.out
                  have hms208_0 := NB438_325.out
                  have hms208_1 := NB438_326.out
                  have hms208_2 := NB438_344.out
                  have hms208_3 := NB438_362.out
                  have hms208_4 := NB438_381.out
                  have hms208_5 := NB438_400.out
                  have hms208_6 := NB438_418.out
                  have hs209 : w207.cell? ⟨gb438, 1, none⟩ = some (.int .i64 0) := (blk_cell BK438.out 1).trans rfl
                  have hfs209 := blk_frozen BK438.out 1
                  have hns209_0 := NB325_438.out
                  have hns209_1 := NB326_438.out
                  have hns209_2 := NB344_438.out
                  have hns209_3 := NB362_438.out
                  have hns209_4 := NB381_438.out
                  have hns209_5 := NB400_438.out
                  have hns209_6 := NB418_438.out
                  have hms209_0 := NB438_325.out
                  have hms209_1 := NB438_326.out
                  have hms209_2 := NB438_344.out
                  have hms209_3 := NB438_362.out
                  have hms209_4 := NB438_381.out
                  have hms209_5 := NB438_400.out
                  have hms209_6 := NB438_418.out
                  have hs210 : w207.cell? ⟨gb438, 2, none⟩ = some (.int .i64 0) := (blk_cell BK438.out 2).trans rfl
                  have hfs210 := blk_frozen BK438.out 2
                  have hns210_0 := NB325_438.out
                  have hns210_1 := NB326_438.out
                  have hns210_2 := NB344_438.out
                  have hns210_3 := NB362_438.out
                  have hns210_4 := NB381_438.out
                  have hns210_5 := NB400_438.out
                  have hns210_6 := NB418_438.out
                  have hms210_0 := NB438_325.out
                  have hms210_1 := NB438_326.out
                  have hms210_2 := NB438_344.out
                  have hms210_3 := NB438_362.out
                  have hms210_4 := NB438_381.out
                  have hms210_5 := NB438_400.out
                  have hms210_6 := NB438_418.out
                  have hs211 : w207.cell? ⟨gb438, 3, none⟩ = some (.int .i64 0) := (blk_cell BK438.out 3).trans rfl
                  have hfs211 := blk_frozen BK438.out 3
                  have hns211_0 := NB325_438.out
                  have hns211_1 := NB326_438.out
                  have hns211_2 := NB344_438.out
                  have hns211_3 := NB362_438.out
                  have hns211_4 := NB381_438.out
                  have hns211_5 := NB400_438.out
                  have hns211_6 := NB418_438.out
                  have hms211_0 := NB438_325.out
                  have hms211_1 := NB438_326.out
                  have hms211_2 := NB438_344.out
                  have hms211_3 := NB438_362.out
                  have hms211_4 := NB438_381.out
                  have hms211_5 := NB438_400.out
                  have hms211_6 := NB438_418.out
                  have hs212 : w207.cell? ⟨gb438, 4, none⟩ = some (.int .i64 0) := (blk_cell BK438.out 4).trans rfl
                  have hfs212 := blk_frozen BK438.out 4
                  have hns212_0 := NB325_438.out
                  have hns212_1 := NB326_438.out
                  have hns212_2 := NB344_438.out
                  have hns212_3 := NB362_438.out
                  have hns212_4 := NB381_438.out
                  have hns212_5 := NB400_438.out
                  have hns212_6 := NB418_438.out
                  have hms212_0 := NB438_325.out
                  have hms212_1 := NB438_326.out
                  have hms212_2 := NB438_344.out
                  have hms212_3 := NB438_362.out
                  have hms212_4 := NB438_381.out
                  have hms212_5 := NB438_400.out
                  have hms212_6 := NB438_418.out
                  have hs213 : w207.cell? ⟨gb438, 5, none⟩ = some (.int .i64 0) := (blk_cell BK438.out 5).trans rfl
                  have hfs213 := blk_frozen BK438.out 5
                  have hns213_0 := NB325_438.out
                  have hns213_1 := NB326_438.out
                  have hns213_2 := NB344_438.out
                  have hns213_3 := NB362_438.out
                  have hns213_4 := NB381_438.out
                  have hns213_5 := NB400_438.out
                  have hns213_6 := NB418_438.out
                  have hms213_0 := NB438_325.out
                  have hms213_1 := NB438_326.out
                  have hms213_2 := NB438_344.out
                  have hms213_3 := NB438_362.out
                  have hms213_4 := NB438_381.out
                  have hms213_5 := NB438_400.out
                  have hms213_6 := NB438_418.out
                  have hs214 : w207.cell? ⟨gb438, 6, none⟩ = some (.bool false) := (blk_cell BK438.out 6).trans rfl
                  have hfs214 := blk_frozen BK438.out 6
                  have hns214_0 := NB325_438.out
                  have hns214_1 := NB326_438.out
                  have hns214_2 := NB344_438.out
                  have hns214_3 := NB362_438.out
                  have hns214_4 := NB381_438.out
                  have hns214_5 := NB400_438.out
                  have hns214_6 := NB418_438.out
                  have hms214_0 := NB438_325.out
                  have hms214_1 := NB438_326.out
                  have hms214_2 := NB438_344.out
                  have hms214_3 := NB438_362.out
                  have hms214_4 := NB438_381.out
                  have hms214_5 := NB438_400.out
                  have hms214_6 := NB438_418.out
                  have hs215 : w207.cell? ⟨gb438, 7, none⟩ = some (.int .i64 0) := (blk_cell BK438.out 7).trans rfl
                  have hfs215 := blk_frozen BK438.out 7
                  have hns215_0 := NB325_438.out
                  have hns215_1 := NB326_438.out
                  have hns215_2 := NB344_438.out
                  have hns215_3 := NB362_438.out
                  have hns215_4 := NB381_438.out
                  have hns215_5 := NB400_438.out
                  have hns215_6 := NB418_438.out
                  have hms215_0 := NB438_325.out
                  have hms215_1 := NB438_326.out
                  have hms215_2 := NB438_344.out
                  have hms215_3 := NB438_362.out
                  have hms215_4 := NB438_381.out
                  have hms215_5 := NB438_400.out
                  have hms215_6 := NB438_418.out
                  have hs216 : w207.cell? ⟨gb438, 8, none⟩ = some (.int .i64 0) := (blk_cell BK438.out 8).trans rfl
                  have hfs216 := blk_frozen BK438.out 8
                  have hns216_0 := NB325_438.out
                  have hns216_1 := NB326_438.out
                  have hns216_2 := NB344_438.out
                  have hns216_3 := NB362_438.out
                  have hns216_4 := NB381_438.out
                  have hns216_5 := NB400_438.out
                  have hns216_6 := NB418_438.out
                  have hms216_0 := NB438_325.out
                  have hms216_1 := NB438_326.out
                  have hms216_2 := NB438_344.out
                  have hms216_3 := NB438_362.out
                  have hms216_4 := NB438_381.out
                  have hms216_5 := NB438_400.out
                  have hms216_6 := NB438_418.out
                  have hs217 : w207.cell? ⟨gb438, 9, none⟩ = some (.int .i64 0) := (blk_cell BK438.out 9).trans rfl
                  have hfs217 := blk_frozen BK438.out 9
                  have hns217_0 := NB325_438.out
                  have hns217_1 := NB326_438.out
                  have hns217_2 := NB344_438.out
                  have hns217_3 := NB362_438.out
                  have hns217_4 := NB381_438.out
                  have hns217_5 := NB400_438.out
                  have hns217_6 := NB418_438.out
                  have hms217_0 := NB438_325.out
                  have hms217_1 := NB438_326.out
                  have hms217_2 := NB438_344.out
                  have hms217_3 := NB438_362.out
                  have hms217_4 := NB438_381.out
                  have hms217_5 := NB438_400.out
                  have hms217_6 := NB438_418.out
                  have hs218 : w207.cell? ⟨gb438, 10, none⟩ = some (.int .i64 0) := (blk_cell BK438.out 10).trans rfl
                  have hfs218 := blk_frozen BK438.out 10
                  have hns218_0 := NB325_438.out
                  have hns218_1 := NB326_438.out
                  have hns218_2 := NB344_438.out
                  have hns218_3 := NB362_438.out
                  have hns218_4 := NB381_438.out
                  have hns218_5 := NB400_438.out
                  have hns218_6 := NB418_438.out
                  have hms218_0 := NB438_325.out
                  have hms218_1 := NB438_326.out
                  have hms218_2 := NB438_344.out
                  have hms218_3 := NB438_362.out
                  have hms218_4 := NB438_381.out
                  have hms218_5 := NB438_400.out
                  have hms218_6 := NB438_418.out
                  have hs219 : w207.cell? ⟨gb438, 11, none⟩ = some (.int .i64 0) := (blk_cell BK438.out 11).trans rfl
                  have hfs219 := blk_frozen BK438.out 11
                  have hns219_0 := NB325_438.out
                  have hns219_1 := NB326_438.out
                  have hns219_2 := NB344_438.out
                  have hns219_3 := NB362_438.out
                  have hns219_4 := NB381_438.out
                  have hns219_5 := NB400_438.out
                  have hns219_6 := NB418_438.out
                  have hms219_0 := NB438_325.out
                  have hms219_1 := NB438_326.out
                  have hms219_2 := NB438_344.out
                  have hms219_3 := NB438_362.out
                  have hms219_4 := NB438_381.out
                  have hms219_5 := NB438_400.out
                  have hms219_6 := NB438_418.out
                  have hs220 : w207.cell? ⟨gb438, 12, none⟩ = some (.int .i64 0) := (blk_cell BK438.out 12).trans rfl
                  have hfs220 := blk_frozen BK438.out 12
                  have hns220_0 := NB325_438.out
                  have hns220_1 := NB326_438.out
                  have hns220_2 := NB344_438.out
                  have hns220_3 := NB362_438.out
                  have hns220_4 := NB381_438.out
                  have hns220_5 := NB400_438.out
                  have hns220_6 := NB418_438.out
                  have hms220_0 := NB438_325.out
                  have hms220_1 := NB438_326.out
                  have hms220_2 := NB438_344.out
                  have hms220_3 := NB438_362.out
                  have hms220_4 := NB438_381.out
                  have hms220_5 := NB438_400.out
                  have hms220_6 := NB438_418.out
                  refine skip_ (w1 := ?_) (by rfl) rfl ?_ ?_
                  rotate_left
                  · go_simp
                    rfl
                  refine hK.out _ _ ⟨((cell_far (p := ⟨gb438, _, none⟩) NB325_438.out _).trans (((cell_far (p := ⟨gb438, _, none⟩) NB325_438.out _).trans (((cell_far (p := ⟨gb438, _, none⟩) NB325_438.out _).trans (((cell_far (p := ⟨gb438, _, none⟩) NB325_438.out _).trans (((cell_far (p := ⟨gb438, _, none⟩) NB325_438.out _).trans (((cell_far (p := ⟨gb438, _, none⟩) NB325_438.out _).trans (((cell_far (p := ⟨gb438, _, none⟩) NB325_438.out _).trans (((cell_far (p := ⟨gb438, _, none⟩) NB325_438.out _).trans (((cell_far (p := ⟨gb438, _, none⟩) NB325_438.out _).trans (((cell_far (p := ⟨gb438, _, none⟩) NB325_438.out _).trans (((cell_far (p := ⟨gb438, _, none⟩) NB325_438.out _).trans (((cell_far (p := ⟨gb438, _, none⟩) NB325_438.out _).trans (((cell_far (p := ⟨gb438, _, none⟩) NB325_438.out _).trans (hHeld.1)))))))))))))))))))))))))), ((cell_far (p := ⟨gb438, _, none⟩) NB325_438.out _).trans (((cell_far (p := ⟨gb438, _, none⟩) NB325_438.out _).trans (((cell_far (p := ⟨gb438, _, none⟩) NB325_438.out _).trans (((cell_far (p := ⟨gb438, _, none⟩) NB325_438.out _).trans (((cell_far (p := ⟨gb438, _, none⟩) NB325_438.out _).trans (((cell_far (p := ⟨gb438, _, none⟩) NB325_438.out _).trans (((cell_far (p := ⟨gb438, _, none⟩) NB325_438.out _).trans (((cell_far (p := ⟨gb438, _, none⟩) NB325_438.out _).trans (((cell_far (p := ⟨gb438, _, none⟩) NB325_438.out _).trans (((cell_far (p := ⟨gb438, _, none⟩) NB325_438.out _).trans (((cell_far (p := ⟨gb438, _, none⟩) NB325_438.out _).trans (((cell_far (p := ⟨gb438, _, none⟩) NB325_438.out _).trans (((cell_far (p := ⟨gb438, _, none⟩) NB325_438.out _).trans (hHeld.2.1)))))))))))))))))))))))))), ((cell_far (p := ⟨gb438, _, none⟩) NB325_438.out _).trans (((cell_far (p := ⟨gb438, _, none⟩) NB325_438.out _).trans (((cell_far (p := ⟨gb438, _, none⟩) NB325_438.out _).trans (((cell_far (p := ⟨gb438, _, none⟩) NB325_438.out _).trans (((cell_far (p := ⟨gb438, _, none⟩) NB325_438.out _).trans (((cell_far (p := ⟨gb438, _, none⟩) NB325_438.out _).trans (((cell_far (p := ⟨gb438, _, none⟩) NB325_438.out _).trans (((cell_far (p := ⟨gb438, _, none⟩) NB325_438.out _).trans (((cell_far (p := ⟨gb438, _, none⟩) NB325_438.out _).trans (((cell_far (p := ⟨gb438, _, none⟩) NB325_438.out _).trans (((cell_far (p := ⟨gb438, _, none⟩) NB325_438.out _).trans (((cell_far (p := ⟨gb438, _, none⟩) NB325_438.out _).trans (((cell_far (p := ⟨gb438, _, none⟩) NB325_438.out _).trans (hHeld.2.2.1)))))))))))))))))))))))))), ((cell_far (p := ⟨gb438, _, none⟩) NB325_438.out _).trans (((cell_far (p := ⟨gb438, _, none⟩) NB325_438.out _).trans (((cell_far (p := ⟨gb438, _, none⟩) NB325_438.out _).trans (((cell_far (p := ⟨gb438, _, none⟩) NB325_438.out _).trans (((cell_far (p := ⟨gb438, _, none⟩) NB325_438.out _).trans (((cell_far (p := ⟨gb438, _, none⟩) NB325_438.out _).trans (((cell_far (p := ⟨gb438, _, none⟩) NB325_438.out _).trans (((cell_far (p := ⟨gb438, _, none⟩) NB325_438.out _).trans (((cell_far (p := ⟨gb438, _, none⟩) NB325_438.out _).trans (((cell_far (p := ⟨gb438, _, none⟩) NB325_438.out _).trans (((cell_far (p := ⟨gb438, _, none⟩) NB325_438.out _).trans (((cell_far (p := ⟨gb438, _, none⟩) NB325_438.out _).trans (((cell_far (p := ⟨gb438, _, none⟩) NB325_438.out _).trans (hHeld.2.2.2.1)))))))))))))))))))))))))), ((cell_far (p := ⟨gb438, _, none⟩) NB325_438.out _).trans (((cell_far (p := ⟨gb438, _, none⟩) NB325_438.out _).trans (((cell_far (p := ⟨gb438, _, none⟩) NB325_438.out _).trans (((cell_far (p := ⟨gb438, _, none⟩) NB325_438.out _).trans (((cell_far (p := ⟨gb438, _, none⟩) NB325_438.out _).trans (((cell_far (p := ⟨gb438, _, none⟩) NB325_438.out _).trans (((cell_far (p := ⟨gb438, _, none⟩) NB325_438.out _).trans (((cell_far (p := ⟨gb438, _, none⟩) NB325_438.out _).trans (((cell_far (p := ⟨gb438, _, none⟩) NB325_438.out _).trans (((cell_far (p := ⟨gb438, _, none⟩) NB325_438.out _).trans (((cell_far (p := ⟨gb438, _, none⟩) NB325_438.out _).trans (((cell_far (p := ⟨gb438, _, none⟩) NB325_438.out _).trans (((cell_far (p := ⟨gb438, _, none⟩) NB325_438.out _).trans (hHeld.2.2.2.2.1)))))))))))))))))))))))))), ((cell_far (p := ⟨gb438, _, none⟩) NB325_438.out _).trans (((cell_far (p := ⟨gb438, _, none⟩) NB325_438.out _).trans (((cell_far (p := ⟨gb438, _, none⟩) NB325_438.out _).trans (((cell_far (p := ⟨gb438, _, none⟩) NB325_438.out _).trans (((cell_far (p := ⟨gb438, _, none⟩) NB325_438.out _).trans (((cell_far (p := ⟨gb438, _, none⟩) NB325_438.out _).trans (((cell_far (p := ⟨gb438, _, none⟩) NB325_438.out _).trans (((cell_far (p := ⟨gb438, _, none⟩) NB325_438.out _).trans (((cell_far (p := ⟨gb438, _, none⟩) NB325_438.out _).trans (((cell_far (p := ⟨gb438, _, none⟩) NB325_438.out _).trans (((cell_far (p := ⟨gb438, _, none⟩) NB325_438.out _).trans (((cell_far (p := ⟨gb438, _, none⟩) NB325_438.out _).trans (((cell_far (p := ⟨gb438, _, none⟩) NB325_438.out _).trans (hHeld.2.2.2.2.2.1)))))))))))))))))))))))))), ((cell_far (p := ⟨gb438, _, none⟩) NB325_438.out _).trans (((cell_far (p := ⟨gb438, _, none⟩) NB325_438.out _).trans (((cell_far (p := ⟨gb438, _, none⟩) NB325_438.out _).trans (((cell_far (p := ⟨gb438, _, none⟩) NB325_438.out _).trans (((cell_far (p := ⟨gb438, _, none⟩) NB325_438.out _).trans (((cell_far (p := ⟨gb438, _, none⟩) NB325_438.out _).trans (((cell_far (p := ⟨gb438, _, none⟩) NB325_438.out _).trans (((cell_far (p := ⟨gb438, _, none⟩) NB325_438.out _).trans (((cell_far (p := ⟨gb438, _, none⟩) NB325_438.out _).trans (((cell_far (p := ⟨gb438, _, none⟩) NB325_438.out _).trans (((cell_far (p := ⟨gb438, _, none⟩) NB325_438.out _).trans (((cell_far (p := ⟨gb438, _, none⟩) NB325_438.out _).trans (((cell_far (p := ⟨gb438, _, none⟩) NB325_438.out _).trans (hHeld.2.2.2.2.2.2.1)))))))))))))))))))))))))), ((cell_far (p := ⟨gb438, _, none⟩) NB325_438.out _).trans (((cell_far (p := ⟨gb438, _, none⟩) NB325_438.out _).trans (((cell_far (p := ⟨gb438, _, none⟩) NB325_438.out _).trans (((cell_far (p := ⟨gb438, _, none⟩) NB325_438.out _).trans (((cell_far (p := ⟨gb438, _, none⟩) NB325_438.out _).trans (((cell_far (p := ⟨gb438, _, none⟩) NB325_438.out _).trans (((cell_far (p := ⟨gb438, _, none⟩) NB325_438.out _).trans (((cell_far (p := ⟨gb438, _, none⟩) NB325_438.out _).trans (((cell_far (p := ⟨gb438, _, none⟩) NB325_438.out _).trans (((cell_far (p := ⟨gb438, _, none⟩) NB325_438.out _).trans (((cell_far (p := ⟨gb438, _, none⟩) NB325_438.out _).trans (((cell_far (p := ⟨gb438, _, none⟩) NB325_438.out _).trans (((cell_far (p := ⟨gb438, _, none⟩) NB325_438.out _).trans (hHeld.2.2.2.2.2.2.2.1)))))))))))))))))))))))))), ((cell_far (p := ⟨gb438, _, none⟩) NB325_438.out _).trans (((cell_far (p := ⟨gb438, _, none⟩) NB325_438.out _).trans (((cell_far (p := ⟨gb438, _, none⟩) NB325_438.out _).trans (((cell_far (p := ⟨gb438, _, none⟩) NB325_438.out _).trans (((cell_far (p := ⟨gb438, _, none⟩) NB325_438.out _).trans (((cell_far (p := ⟨gb438, _, none⟩) NB325_438.out _).trans (((cell_far (p := ⟨gb438, _, none⟩) NB325_438.out _).trans (((cell_far (p := ⟨gb438, _, none⟩) NB325_438.out _).trans (((cell_far (p := ⟨gb438, _, none⟩) NB325_438.out _).trans (((cell_far (p := ⟨gb438, _, none⟩) NB325_438.out _).trans (((cell_far (p := ⟨gb438, _, none⟩) NB325_438.out _).trans (((cell_far (p := ⟨gb438, _, none⟩) NB325_438.out _).trans (((cell_far (p := ⟨gb438, _, none⟩) NB325_438.out _).trans (hHeld.2.2.2.2.2.2.2.2.1)))))))))))))))))))))))))), ((cell_far (p := ⟨gb438, _, none⟩) NB325_438.out _).trans (((cell_far (p := ⟨gb438, _, none⟩) NB325_438.out _).trans (((cell_far (p := ⟨gb438, _, none⟩) NB325_438.out _).trans (((cell_far (p := ⟨gb438, _, none⟩) NB325_438.out _).trans (((cell_far (p := ⟨gb438, _, none⟩) NB325_438.out _).trans (((cell_far (p := ⟨gb438, _, none⟩) NB325_438.out _).trans (((cell_far (p := ⟨gb438, _, none⟩) NB325_438.out _).trans (((cell_far (p := ⟨gb438, _, none⟩) NB325_438.out _).trans (((cell_far (p := ⟨gb438, _, none⟩) NB325_438.out _).trans (((cell_far (p := ⟨gb438, _, none⟩) NB325_438.out _).trans (((cell_far (p := ⟨gb438, _, none⟩) NB325_438.out _).trans (((cell_far (p := ⟨gb438, _, none⟩) NB325_438.out _).trans (((cell_far (p := ⟨gb438, _, none⟩) NB325_438.out _).trans (hHeld.2.2.2.2.2.2.2.2.2.1)))))))))))))))))))))))))), ((cell_far (p := ⟨gb438, _, none⟩) NB325_438.out _).trans (((cell_far (p := ⟨gb438, _, none⟩) NB325_438.out _).trans (((cell_far (p := ⟨gb438, _, none⟩) NB325_438.out _).trans (((cell_far (p := ⟨gb438, _, none⟩) NB325_438.out _).trans (((cell_far (p := ⟨gb438, _, none⟩) NB325_438.out _).trans (((cell_far (p := ⟨gb438, _, none⟩) NB325_438.out _).trans (((cell_far (p := ⟨gb438, _, none⟩) NB325_438.out _).trans (((cell_far (p := ⟨gb438, _, none⟩) NB325_438.out _).trans (((cell_far (p := ⟨gb438, _, none⟩) NB325_438.out _).trans (((cell_far (p := ⟨gb438, _, none⟩) NB325_438.out _).trans (((cell_far (p := ⟨gb438, _, none⟩) NB325_438.out _).trans (((cell_far (p := ⟨gb438, _, none⟩) NB325_438.out _).trans (((cell_far (p := ⟨gb438, _, none⟩) NB325_438.out _).trans (hHeld.2.2.2.2.2.2.2.2.2.2.1)))))))))))))))))))))))))), ((cell_far (p := ⟨gb438, _, none⟩) NB325_438.out _).trans (((cell_far (p := ⟨gb438, _, none⟩) NB325_438.out _).trans (((cell_far (p := ⟨gb438, _, none⟩) NB325_438.out _).trans (((cell_far (p := ⟨gb438, _, none⟩) NB325_438.out _).trans (((cell_far (p := ⟨gb438, _, none⟩) NB325_438.out _).trans (((cell_far (p := ⟨gb438, _, none⟩) NB325_438.out _).trans (((cell_far (p := ⟨gb438, _, none⟩) NB325_438.out _).trans (((cell_far (p := ⟨gb438, _, none⟩) NB325_438.out _).trans (((cell_far (p := ⟨gb438, _, none⟩) NB325_438.out _).trans (((cell_far (p := ⟨gb438, _, none⟩) NB325_438.out _).trans (((cell_far (p := ⟨gb438, _, none⟩) NB325_438.out _).trans (((cell_far (p := ⟨gb438, _, none⟩) NB325_438.out _).trans (((cell_far (p := ⟨gb438, _, none⟩) NB325_438.out _).trans (hHeld.2.2.2.2.2.2.2.2.2.2.2.1)))))))))))))))))))))))))), ((cell_far (p := ⟨gb438, _, none⟩) NB325_438.out _).trans (((cell_far (p := ⟨gb438, _, none⟩) NB325_438.out _).trans (((cell_far (p := ⟨gb438, _, none⟩) NB325_438.out _).trans (((cell_far (p := ⟨gb438, _, none⟩) NB325_438.out _).trans (((cell_far (p := ⟨gb438, _, none⟩) NB325_438.out _).trans (((cell_far (p := ⟨gb438, _, none⟩) NB325_438.out _).trans (((cell_far (p := ⟨gb438, _, none⟩) NB325_438.out _).trans (((cell_far (p := ⟨gb438, _, none⟩) NB325_438.out _).trans (((cell_far (p := ⟨gb438, _, none⟩) NB325_438.out _).trans (((cell_far (p := ⟨gb438, _, none⟩) NB325_438.out _).trans (((cell_far (p := ⟨gb438, _, none⟩) NB325_438.out _).trans (((cell_far (p := ⟨gb438, _, none⟩) NB325_438.out _).trans (((cell_far (p := ⟨gb438, _, none⟩) NB325_438.out _).trans (hHeld.2.2.2.2.2.2.2.2.2.2.2.2))))))))))))))))))))))))))⟩ (fun hHeld => ?_)
                  clear hK K
                  refine pure_ (i := 11) (N := some 30) (v := ?_) (a' := ?_) #[true, true, true, true, true, true, true, true, true, true, true, true, false] rfl rfl (any_of HT_.out (by kernel_rfl)) (fun _ _ _ h => h) (Or.inl ⟨by rfl, ?_⟩) ?_ ?_
                  rotate_left
                  · intro w'
                    go_simp
                    with_reducible rfl
                  rotate_left
                  · simp only [Act.put, List.setIfInBounds_toArray, List.set_cons_zero, List.set_cons_succ, i64_w, i32_w]
                    rfl
                  refine pure_ (i := 12) (N := some 31) (v := ?_) (a' := ?_) #[true, true, true, true, true, true, true, true, true, true, true, true, true] rfl rfl (any_of HT_.out (by kernel_rfl)) (fun _ _ _ h => h) (Or.inl ⟨by rfl, ?_⟩) ?_ ?_
                  rotate_left
                  · intro w'
                    go_simp
                    with_reducible rfl
                  rotate_left
                  · simp only [Act.put, List.setIfInBounds_toArray, List.set_cons_zero, List.set_cons_succ, i64_w, i32_w]
                    rfl
                  refine done_ (done_of HT_.out (by kernel_rfl)) ?_
                  have hnb221 := NB325_326.out
                  have hnc221 := NB326_325.out
                  have hnb222 := NB325_344.out
                  have hnc222 := NB344_325.out
                  have hnb223 := NB325_362.out
                  have hnc223 := NB362_325.out
                  have hnb224 := NB325_381.out
                  have hnc224 := NB381_325.out
                  have hnb225 := NB325_400.out
                  have hnc225 := NB400_325.out
                  have hnb226 := NB325_418.out
                  have hnc226 := NB418_325.out
                  have hnb227 := NB325_438.out
                  have hnc227 := NB438_325.out
                  obtain ⟨hcz228_0, hcz228_1, hcz228_2, hcz228_3, hcz228_4, hcz228_5, hcz228_6, hcz228_7, hcz228_8, hcz228_9, hcz228_10, hcz228_11, hcz228_12, hfz228_0, hfz228_1, hfz228_2, hfz228_3, hfz228_4, hfz228_5, hfz228_6, hfz228_7, hfz228_8, hfz228_9, hfz228_10, hfz228_11, hfz228_12⟩ := lc13 BK325.out
                  have hnb229 := NB438_326.out
                  have hnc229 := NB326_438.out
                  have hnb230 := NB438_344.out
                  have hnc230 := NB344_438.out
                  have hnb231 := NB438_362.out
                  have hnc231 := NB362_438.out
                  have hnb232 := NB438_381.out
                  have hnc232 := NB381_438.out
                  have hnb233 := NB438_400.out
                  have hnc233 := NB400_438.out
                  have hnb234 := NB438_418.out
                  have hnc234 := NB418_438.out
                  obtain ⟨hcz235_0, hcz235_1, hcz235_2, hcz235_3, hcz235_4, hcz235_5, hcz235_6, hcz235_7, hcz235_8, hcz235_9, hcz235_10, hcz235_11, hcz235_12, hfz235_0, hfz235_1, hfz235_2, hfz235_3, hfz235_4, hfz235_5, hfz235_6, hfz235_7, hfz235_8, hfz235_9, hfz235_10, hfz235_11, hfz235_12⟩ := lc13 BK438.out
                  try go_wp2_with (first | ((with_reducible refine gate_callee (f := 16) rfl ?_); refine goesL_ (some 230) rfl rfl Try.func16 (by kernel_rfl) rfl #[.agg #[.int .i64 t423, .int .i64 t424, .int .i64 t425, .int .i64 t426, .int .i64 t427, .int .i64 t428, .bool t429, .int .i64 t430, .int .i64 t431, .int .i64 t432, .int .i64 t433, .int .i64 t434, .int .i64 t435]] rfl (by (try simp only [List.map_toArray, List.map_cons, List.map_nil]); first | done | rfl | (simp only [List.length_drop, List.length_take]; rfl)) ?_; (with_reducible refine (loan_Owes.calls kj156 t423 t424 t425 t426 t427 t428 t429 t430 t431 t432 t433 t434 t435 t440 t441 _ A194.out).mono ?_); rintro e w236 ⟨rfl, hb⟩; refine ⟨_, rfl, ?_⟩; have n0_ := Aside0.mk (blk_below (g := gb325) (o := .cells #[.int .i64 a0_0, .int .i64 a0_1, .int .i64 a0_2, .int .i64 a0_3, .int .i64 a0_4, .int .i64 a0_5, .bool a0_6, .int .i64 a0_7, .int .i64 a0_8, .int .i64 a0_9, .int .i64 a0_10, .int .i64 a0_11, .int .i64 a0_12] 23 (0, 0)) (by (iterate 13 ((with_reducible repeat (first | refine blk_drewN ?_ _ | refine blk_drew ?_ | refine blk_alloc ?_ _)); refine blk_far ?_ NB325_438.out _)); (with_reducible repeat (first | refine blk_drewN ?_ _ | refine blk_drew ?_ | refine blk_alloc ?_ _)); exact BK325.out) hb); have n1_ := Aside0.mk (blk_below (g := gb326) (o := .cells #[.int .i64 a1_0, .int .i64 a1_1, .int .i64 a1_2, .int .i64 a1_3] 35 (0, 0)) (by (iterate 13 ((with_reducible repeat (first | refine blk_drewN ?_ _ | refine blk_drew ?_ | refine blk_alloc ?_ _)); refine blk_far ?_ NB326_438.out _)); (with_reducible repeat (first | refine blk_drewN ?_ _ | refine blk_drew ?_ | refine blk_alloc ?_ _)); exact BK326.out) hb); have n2_ := Aside0.mk (blk_below (g := gb344) (o := .cells #[.int .i64 t330, .int .i64 t331, .int .i64 t332, .int .i64 t333, .int .i64 t334, .int .i64 t335, .bool t336, .int .i64 t337, .int .i64 t338, .int .i64 t339, .int .i64 t340, .int .i64 t341, .int .i64 t342] 23 (0, 0)) (by (iterate 13 ((with_reducible repeat (first | refine blk_drewN ?_ _ | refine blk_drew ?_ | refine blk_alloc ?_ _)); refine blk_far ?_ NB344_438.out _)); (with_reducible repeat (first | refine blk_drewN ?_ _ | refine blk_drew ?_ | refine blk_alloc ?_ _)); exact BK344.out) hb); have n3_ := Aside0.mk (blk_below (g := gb362) (o := .cells #[.int .i64 t348, .int .i64 t349, .int .i64 t350, .int .i64 t351, .int .i64 t352, .int .i64 t353, .bool t354, .int .i64 t355, .int .i64 t356, .int .i64 t357, .int .i64 t358, .int .i64 t359, .int .i64 t360] 23 (0, 0)) (by (iterate 13 ((with_reducible repeat (first | refine blk_drewN ?_ _ | refine blk_drew ?_ | refine blk_alloc ?_ _)); refine blk_far ?_ NB362_438.out _)); (with_reducible repeat (first | refine blk_drewN ?_ _ | refine blk_drew ?_ | refine blk_alloc ?_ _)); exact BK362.out) hb); have n4_ := Aside0.mk (blk_below (g := gb381) (o := .cells #[.int .i64 t367, .int .i64 t368, .int .i64 t369, .int .i64 t370, .int .i64 t371, .int .i64 t372, .bool t373, .int .i64 t374, .int .i64 t375, .int .i64 t376, .int .i64 t377, .int .i64 t378, .int .i64 t379] 23 (0, 0)) (by (iterate 13 ((with_reducible repeat (first | refine blk_drewN ?_ _ | refine blk_drew ?_ | refine blk_alloc ?_ _)); refine blk_far ?_ NB381_438.out _)); (with_reducible repeat (first | refine blk_drewN ?_ _ | refine blk_drew ?_ | refine blk_alloc ?_ _)); exact BK381.out) hb); have n5_ := Aside0.mk (blk_below (g := gb400) (o := .cells #[.int .i64 t386, .int .i64 t387, .int .i64 t388, .int .i64 t389, .int .i64 t390, .int .i64 t391, .bool t392, .int .i64 t393, .int .i64 t394, .int .i64 t395, .int .i64 t396, .int .i64 t397, .int .i64 t398] 23 (0, 0)) (by (iterate 13 ((with_reducible repeat (first | refine blk_drewN ?_ _ | refine blk_drew ?_ | refine blk_alloc ?_ _)); refine blk_far ?_ NB400_438.out _)); (with_reducible repeat (first | refine blk_drewN ?_ _ | refine blk_drew ?_ | refine blk_alloc ?_ _)); exact BK400.out) hb); have n6_ := Aside0.mk (blk_below (g := gb418) (o := .cells #[.int .i64 t404, .int .i64 t405, .int .i64 t406, .int .i64 t407, .int .i64 t408, .int .i64 t409, .bool t410, .int .i64 t411, .int .i64 t412, .int .i64 t413, .int .i64 t414, .int .i64 t415, .int .i64 t416] 23 (0, 0)) (by (iterate 13 ((with_reducible repeat (first | refine blk_drewN ?_ _ | refine blk_drew ?_ | refine blk_alloc ?_ _)); refine blk_far ?_ NB418_438.out _)); (with_reducible repeat (first | refine blk_drewN ?_ _ | refine blk_drew ?_ | refine blk_alloc ?_ _)); exact BK418.out) hb); have n7_ := Aside0.mk (blk_below (g := gb438) (o := .cells #[.int .i64 t423, .int .i64 t424, .int .i64 t425, .int .i64 t426, .int .i64 t427, .int .i64 t428, .bool t429, .int .i64 t430, .int .i64 t431, .int .i64 t432, .int .i64 t433, .int .i64 t434, .int .i64 t435] 23 (0, 0)) (by (with_reducible repeat (first | refine blk_drewN ?_ _ | refine blk_drew ?_ | refine blk_alloc ?_ _)); refine blk_put (cs := #[.int .i64 t423, .int .i64 t424, .int .i64 t425, .int .i64 t426, .int .i64 t427, .int .i64 t428, .bool t429, .int .i64 t430, .int .i64 t431, .int .i64 t432, .int .i64 t433, .int .i64 t434, .int .i64 0]) ?_ 12 _ rfl; (with_reducible repeat (first | refine blk_drewN ?_ _ | refine blk_drew ?_ | refine blk_alloc ?_ _)); refine blk_put (cs := #[.int .i64 t423, .int .i64 t424, .int .i64 t425, .int .i64 t426, .int .i64 t427, .int .i64 t428, .bool t429, .int .i64 t430, .int .i64 t431, .int .i64 t432, .int .i64 t433, .int .i64 0, .int .i64 0]) ?_ 11 _ rfl; (with_reducible repeat (first | refine blk_drewN ?_ _ | refine blk_drew ?_ | refine blk_alloc ?_ _)); refine blk_put (cs := #[.int .i64 t423, .int .i64 t424, .int .i64 t425, .int .i64 t426, .int .i64 t427, .int .i64 t428, .bool t429, .int .i64 t430, .int .i64 t431, .int .i64 t432, .int .i64 0, .int .i64 0, .int .i64 0]) ?_ 10 _ rfl; (with_reducible repeat (first | refine blk_drewN ?_ _ | refine blk_drew ?_ | refine blk_alloc ?_ _)); refine blk_put (cs := #[.int .i64 t423, .int .i64 t424, .int .i64 t425, .int .i64 t426, .int .i64 t427, .int .i64 t428, .bool t429, .int .i64 t430, .int .i64 t431, .int .i64 0, .int .i64 0, .int .i64 0, .int .i64 0]) ?_ 9 _ rfl; (with_reducible repeat (first | refine blk_drewN ?_ _ | refine blk_drew ?_ | refine blk_alloc ?_ _)); refine blk_put (cs := #[.int .i64 t423, .int .i64 t424, .int .i64 t425, .int .i64 t426, .int .i64 t427, .int .i64 t428, .bool t429, .int .i64 t430, .int .i64 0, .int .i64 0, .int .i64 0, .int .i64 0, .int .i64 0]) ?_ 8 _ rfl; (with_reducible repeat (first | refine blk_drewN ?_ _ | refine blk_drew ?_ | refine blk_alloc ?_ _)); refine blk_put (cs := #[.int .i64 t423, .int .i64 t424, .int .i64 t425, .int .i64 t426, .int .i64 t427, .int .i64 t428, .bool t429, .int .i64 0, .int .i64 0, .int .i64 0, .int .i64 0, .int .i64 0, .int .i64 0]) ?_ 7 _ rfl; (with_reducible repeat (first | refine blk_drewN ?_ _ | refine blk_drew ?_ | refine blk_alloc ?_ _)); refine blk_put (cs := #[.int .i64 t423, .int .i64 t424, .int .i64 t425, .int .i64 t426, .int .i64 t427, .int .i64 t428, .bool false, .int .i64 0, .int .i64 0, .int .i64 0, .int .i64 0, .int .i64 0, .int .i64 0]) ?_ 6 _ rfl; (with_reducible repeat (first | refine blk_drewN ?_ _ | refine blk_drew ?_ | refine blk_alloc ?_ _)); refine blk_put (cs := #[.int .i64 t423, .int .i64 t424, .int .i64 t425, .int .i64 t426, .int .i64 t427, .int .i64 0, .bool false, .int .i64 0, .int .i64 0, .int .i64 0, .int .i64 0, .int .i64 0, .int .i64 0]) ?_ 5 _ rfl; (with_reducible repeat (first | refine blk_drewN ?_ _ | refine blk_drew ?_ | refine blk_alloc ?_ _)); refine blk_put (cs := #[.int .i64 t423, .int .i64 t424, .int .i64 t425, .int .i64 t426, .int .i64 0, .int .i64 0, .bool false, .int .i64 0, .int .i64 0, .int .i64 0, .int .i64 0, .int .i64 0, .int .i64 0]) ?_ 4 _ rfl; (with_reducible repeat (first | refine blk_drewN ?_ _ | refine blk_drew ?_ | refine blk_alloc ?_ _)); refine blk_put (cs := #[.int .i64 t423, .int .i64 t424, .int .i64 t425, .int .i64 0, .int .i64 0, .int .i64 0, .bool false, .int .i64 0, .int .i64 0, .int .i64 0, .int .i64 0, .int .i64 0, .int .i64 0]) ?_ 3 _ rfl; (with_reducible repeat (first | refine blk_drewN ?_ _ | refine blk_drew ?_ | refine blk_alloc ?_ _)); refine blk_put (cs := #[.int .i64 t423, .int .i64 t424, .int .i64 0, .int .i64 0, .int .i64 0, .int .i64 0, .bool false, .int .i64 0, .int .i64 0, .int .i64 0, .int .i64 0, .int .i64 0, .int .i64 0]) ?_ 2 _ rfl; (with_reducible repeat (first | refine blk_drewN ?_ _ | refine blk_drew ?_ | refine blk_alloc ?_ _)); refine blk_put (cs := #[.int .i64 t423, .int .i64 0, .int .i64 0, .int .i64 0, .int .i64 0, .int .i64 0, .bool false, .int .i64 0, .int .i64 0, .int .i64 0, .int .i64 0, .int .i64 0, .int .i64 0]) ?_ 1 _ rfl; (with_reducible repeat (first | refine blk_drewN ?_ _ | refine blk_drew ?_ | refine blk_alloc ?_ _)); refine blk_put (cs := #[.int .i64 0, .int .i64 0, .int .i64 0, .int .i64 0, .int .i64 0, .int .i64 0, .bool false, .int .i64 0, .int .i64 0, .int .i64 0, .int .i64 0, .int .i64 0, .int .i64 0]) ?_ 0 _ rfl; (with_reducible repeat (first | refine blk_drewN ?_ _ | refine blk_drew ?_ | refine blk_alloc ?_ _)); exact BK438.out) hb); have n8_ := Aside0.mk (below_step (by repeat (first | (with_reducible first | exact HB.out | apply below_alloc | apply pw_below_drewN | apply below_drew1 | refine below_set ?_ GE325.out | refine below_set ?_ GE326.out | refine below_set ?_ GE344.out | refine below_set ?_ GE362.out | refine below_set ?_ GE381.out | refine below_set ?_ GE400.out | refine below_set ?_ GE418.out | refine below_set ?_ GE438.out) | exact HB.out)) hb); clear BK325; clear BK326; clear BK344; clear BK362; clear BK381; clear BK400; clear BK418; clear BK438; clear HB; have BK325 := n0_; have BK326 := n1_; have BK344 := n2_; have BK362 := n3_; have BK381 := n4_; have BK400 := n5_; have BK418 := n6_; have BK438 := n7_; have HB := n8_; clear n0_ n1_ n2_ n3_ n4_ n5_ n6_ n7_ n8_; (try clear hb); (try clear hb2); (try clear hk); (try clear hi)))
                  have n0_ := Aside0.mk (blk_drew BK325.out)
                  have n1_ := Aside0.mk (blk_drew BK326.out)
                  have n2_ := Aside0.mk (blk_drew BK344.out)
                  have n3_ := Aside0.mk (blk_drew BK362.out)
                  have n4_ := Aside0.mk (blk_drew BK381.out)
                  have n5_ := Aside0.mk (blk_drew BK400.out)
                  have n6_ := Aside0.mk (blk_drew BK418.out)
                  have n7_ := Aside0.mk (blk_drew BK438.out)
                  have n8_ := Aside0.mk (below_drew1 HB.out)
                  clear BK325
                  clear BK326
                  clear BK344
                  clear BK362
                  clear BK381
                  clear BK400
                  clear BK418
                  clear BK438
                  clear HB
                  have BK325 := n0_
                  have BK326 := n1_
                  have BK344 := n2_
                  have BK362 := n3_
                  have BK381 := n4_
                  have BK400 := n5_
                  have BK418 := n6_
                  have BK438 := n7_
                  have HB := n8_
                  clear n0_ n1_ n2_ n3_ n4_ n5_ n6_ n7_ n8_
                  refine start_ (n := 31) (S := fun w' => w'.cell? ⟨gb438, 0, none⟩ = some (.int .i64 t423) ∧ w'.cell? ⟨gb438, 1, none⟩ = some (.int .i64 t424) ∧ w'.cell? ⟨gb438, 2, none⟩ = some (.int .i64 t425) ∧ w'.cell? ⟨gb438, 3, none⟩ = some (.int .i64 t426) ∧ w'.cell? ⟨gb438, 4, none⟩ = some (.int .i64 t427) ∧ w'.cell? ⟨gb438, 5, none⟩ = some (.int .i64 t428) ∧ w'.cell? ⟨gb438, 6, none⟩ = some (.bool t429) ∧ w'.cell? ⟨gb438, 7, none⟩ = some (.int .i64 t430) ∧ w'.cell? ⟨gb438, 8, none⟩ = some (.int .i64 t431) ∧ w'.cell? ⟨gb438, 9, none⟩ = some (.int .i64 t432) ∧ w'.cell? ⟨gb438, 10, none⟩ = some (.int .i64 t433) ∧ w'.cell? ⟨gb438, 11, none⟩ = some (.int .i64 t434) ∧ w'.cell? ⟨gb438, 12, none⟩ = some (.int .i64 t435)) (ds := []) #[false, false, false, false, false, false, false, false, false, false, false, false, false, false, false, false, false, false, false, false, false, false, false, false, false, false, false, false, false, false, false] (by kernel_rfl) rfl rfl ⟨(blk_cell BK438.out 0).trans rfl, (blk_cell BK438.out 1).trans rfl, (blk_cell BK438.out 2).trans rfl, (blk_cell BK438.out 3).trans rfl, (blk_cell BK438.out 4).trans rfl, (blk_cell BK438.out 5).trans rfl, (blk_cell BK438.out 6).trans rfl, (blk_cell BK438.out 7).trans rfl, (blk_cell BK438.out 8).trans rfl, (blk_cell BK438.out 9).trans rfl, (blk_cell BK438.out 10).trans rfl, (blk_cell BK438.out 11).trans rfl, (blk_cell BK438.out 12).trans rfl⟩ (fun hHeld => ?_); refine with_tabW annuitylaw14_LoanOwes.tab33 annuitylaw14_LoanOwes.bits33 (fun HT_ HW_ => ?_)
                  generalize w236.drew = w237 at BK325 BK326 BK344 BK362 BK381 BK400 BK418 BK438 HB hHeld ⊢
                  refine pure_ (i := 0) (N := some 233) (v := ?_) (a' := ?_) #[true, false, false, false, false, false, false, false, false, false, false, false, false, false, false, false, false, false, false, false, false, false, false, false, false, false, false, false, false, false, false] rfl rfl (any_of HT_.out (by kernel_rfl)) (fun _ _ _ h => h) (Or.inl ⟨by rfl, ?_⟩) ?_ ?_
                  rotate_left
                  · intro w'
                    go_simp
                    with_reducible rfl
                  rotate_left
                  · simp only [Act.put, List.setIfInBounds_toArray, List.set_cons_zero, List.set_cons_succ, i64_w, i32_w]
                    rfl
                  refine pure_ (i := 1) (N := some 234) (v := ?_) (a' := ?_) #[true, true, false, false, false, false, false, false, false, false, false, false, false, false, false, false, false, false, false, false, false, false, false, false, false, false, false, false, false, false, false] rfl rfl (any_of HT_.out (by kernel_rfl)) (fun _ _ _ h => h) (Or.inl ⟨by rfl, ?_⟩) ?_ ?_
                  rotate_left
                  · intro w'
                    go_simp
                    with_reducible rfl
                  rotate_left
                  · simp only [Act.put, List.setIfInBounds_toArray, List.set_cons_zero, List.set_cons_succ, i64_w, i32_w]
                    rfl
                  refine pure_ (i := 2) (N := some 235) (v := ?_) (a' := ?_) #[true, true, true, false, false, false, false, false, false, false, false, false, false, false, false, false, false, false, false, false, false, false, false, false, false, false, false, false, false, false, false] rfl rfl (any_of HT_.out (by kernel_rfl)) (fun _ _ _ h => h) (Or.inl ⟨by rfl, ?_⟩) ?_ ?_
                  rotate_left
                  · intro w'
                    go_simp
                    with_reducible rfl
                  rotate_left
                  · simp only [Act.put, List.setIfInBounds_toArray, List.set_cons_zero, List.set_cons_succ, i64_w, i32_w]
                    rfl
                  refine pure_ (i := 3) (N := some 236) (v := ?_) (a' := ?_) #[true, true, true, true, false, false, false, false, false, false, false, false, false, false, false, false, false, false, false, false, false, false, false, false, false, false, false, false, false, false, false] rfl rfl (any_of HT_.out (by kernel_rfl)) (fun _ _ _ h => h) (Or.inl ⟨by rfl, ?_⟩) ?_ ?_
                  rotate_left
                  · intro w'
                    go_simp
                    with_reducible rfl
                  rotate_left
                  · simp only [Act.put, List.setIfInBounds_toArray, List.set_cons_zero, List.set_cons_succ, i64_w, i32_w]
                    rfl
                  refine pure_ (i := 4) (N := some 237) (v := ?_) (a' := ?_) #[true, true, true, true, true, false, false, false, false, false, false, false, false, false, false, false, false, false, false, false, false, false, false, false, false, false, false, false, false, false, false] rfl rfl (any_of HT_.out (by kernel_rfl)) (fun _ _ _ h => h) (Or.inl ⟨by rfl, ?_⟩) ?_ ?_
                  rotate_left
                  · intro w'
                    go_simp
                    with_reducible rfl
                  rotate_left
                  · simp only [Act.put, List.setIfInBounds_toArray, List.set_cons_zero, List.set_cons_succ, i64_w, i32_w]
                    rfl
                  refine pure_ (i := 5) (N := some 238) (v := ?_) (a' := ?_) #[true, true, true, true, true, true, false, false, false, false, false, false, false, false, false, false, false, false, false, false, false, false, false, false, false, false, false, false, false, false, false] rfl rfl (any_of HT_.out (by kernel_rfl)) (fun _ _ _ h => h) (Or.inl ⟨by rfl, ?_⟩) ?_ ?_
                  rotate_left
                  · intro w'
                    go_simp
                    with_reducible rfl
                  rotate_left
                  · simp only [Act.put, List.setIfInBounds_toArray, List.set_cons_zero, List.set_cons_succ, i64_w, i32_w]
                    rfl
                  refine pure_ (i := 6) (N := some 239) (v := ?_) (a' := ?_) #[true, true, true, true, true, true, true, false, false, false, false, false, false, false, false, false, false, false, false, false, false, false, false, false, false, false, false, false, false, false, false] rfl rfl (any_of HT_.out (by kernel_rfl)) (fun _ _ _ h => h) (Or.inl ⟨by rfl, ?_⟩) ?_ ?_
                  rotate_left
                  · intro w'
                    go_simp
                    with_reducible rfl
                  rotate_left
                  · simp only [Act.put, List.setIfInBounds_toArray, List.set_cons_zero, List.set_cons_succ, i64_w, i32_w]
                    rfl
                  refine pure_ (i := 7) (N := some 240) (v := ?_) (a' := ?_) #[true, true, true, true, true, true, true, true, false, false, false, false, false, false, false, false, false, false, false, false, false, false, false, false, false, false, false, false, false, false, false] rfl rfl (any_of HT_.out (by kernel_rfl)) (fun _ _ _ h => h) (Or.inl ⟨by rfl, ?_⟩) ?_ ?_
                  rotate_left
                  · intro w'
                    go_simp
                    with_reducible rfl
                  rotate_left
                  · simp only [Act.put, List.setIfInBounds_toArray, List.set_cons_zero, List.set_cons_succ, i64_w, i32_w]
                    rfl
                  refine pure_ (i := 8) (N := some 241) (v := ?_) (a' := ?_) #[true, true, true, true, true, true, true, true, true, false, false, false, false, false, false, false, false, false, false, false, false, false, false, false, false, false, false, false, false, false, false] rfl rfl (any_of HT_.out (by kernel_rfl)) (fun _ _ _ h => h) (Or.inl ⟨by rfl, ?_⟩) ?_ ?_
                  rotate_left
                  · intro w'
                    go_simp
                    with_reducible rfl
                  rotate_left
                  · simp only [Act.put, List.setIfInBounds_toArray, List.set_cons_zero, List.set_cons_succ, i64_w, i32_w]
                    rfl
                  refine pure_ (i := 9) (N := some 242) (v := ?_) (a' := ?_) #[true, true, true, true, true, true, true, true, true, true, false, false, false, false, false, false, false, false, false, false, false, false, false, false, false, false, false, false, false, false, false] rfl rfl (any_of HT_.out (by kernel_rfl)) (fun _ _ _ h => h) (Or.inl ⟨by rfl, ?_⟩) ?_ ?_
                  rotate_left
                  · intro w'
                    go_simp
                    with_reducible rfl
                  rotate_left
                  · simp only [Act.put, List.setIfInBounds_toArray, List.set_cons_zero, List.set_cons_succ, i64_w, i32_w]
                    rfl
                  refine pure_ (i := 10) (N := some 243) (v := ?_) (a' := ?_) #[true, true, true, true, true, true, true, true, true, true, true, false, false, false, false, false, false, false, false, false, false, false, false, false, false, false, false, false, false, false, false] rfl rfl (any_of HT_.out (by kernel_rfl)) (fun _ _ _ h => h) (Or.inl ⟨by rfl, ?_⟩) ?_ ?_
                  rotate_left
                  · intro w'
                    go_simp
                    with_reducible rfl
                  rotate_left
                  · simp only [Act.put, List.setIfInBounds_toArray, List.set_cons_zero, List.set_cons_succ, i64_w, i32_w]
                    rfl
                  refine pure_ (i := 11) (N := some 244) (v := ?_) (a' := ?_) #[true, true, true, true, true, true, true, true, true, true, true, true, false, false, false, false, false, false, false, false, false, false, false, false, false, false, false, false, false, false, false] rfl rfl (any_of HT_.out (by kernel_rfl)) (fun _ _ _ h => h) (Or.inl ⟨by rfl, ?_⟩) ?_ ?_
                  rotate_left
                  · intro w'
                    go_simp
                    with_reducible rfl
                  rotate_left
                  · simp only [Act.put, List.setIfInBounds_toArray, List.set_cons_zero, List.set_cons_succ, i64_w, i32_w]
                    rfl
                  refine pure_ (i := 12) (N := some 245) (v := ?_) (a' := ?_) #[true, true, true, true, true, true, true, true, true, true, true, true, true, false, false, false, false, false, false, false, false, false, false, false, false, false, false, false, false, false, false] rfl rfl (any_of HT_.out (by kernel_rfl)) (fun _ _ _ h => h) (Or.inl ⟨by rfl, ?_⟩) ?_ ?_
                  rotate_left
                  · intro w'
                    go_simp
                    with_reducible rfl
                  rotate_left
                  · simp only [Act.put, List.setIfInBounds_toArray, List.set_cons_zero, List.set_cons_succ, i64_w, i32_w]
                    rfl
                  refine pure_ (i := 13) (N := some 246) (v := ?_) (a' := ?_) #[true, true, true, true, true, true, true, true, true, true, true, true, true, true, false, false, false, false, false, false, false, false, false, false, false, false, false, false, false, false, false] rfl rfl (any_of HT_.out (by kernel_rfl)) (fun _ _ _ h => h) (Or.inl ⟨by rfl, ?_⟩) ?_ ?_
                  rotate_left
                  · intro w'
                    go_simp
                    with_reducible rfl
                  rotate_left
                  · simp only [Act.put, List.setIfInBounds_toArray, List.set_cons_zero, List.set_cons_succ, i64_w, i32_w]
                    rfl
                  refine pure_ (i := 14) (N := some 247) (v := ?_) (a' := ?_) #[true, true, true, true, true, true, true, true, true, true, true, true, true, true, true, false, false, false, false, false, false, false, false, false, false, false, false, false, false, false, false] rfl rfl (any_of HT_.out (by kernel_rfl)) (fun _ _ _ h => h) (Or.inl ⟨by rfl, ?_⟩) ?_ ?_
                  rotate_left
                  · intro w'
                    go_simp
                    with_reducible rfl
                  rotate_left
                  · simp only [Act.put, List.setIfInBounds_toArray, List.set_cons_zero, List.set_cons_succ, i64_w, i32_w]
                    rfl
                  refine pure_ (i := 15) (N := some 248) (v := ?_) (a' := ?_) #[true, true, true, true, true, true, true, true, true, true, true, true, true, true, true, true, false, false, false, false, false, false, false, false, false, false, false, false, false, false, false] rfl rfl (any_of HT_.out (by kernel_rfl)) (fun _ _ _ h => h) (Or.inl ⟨by rfl, ?_⟩) ?_ ?_
                  rotate_left
                  · intro w'
                    go_simp
                    with_reducible rfl
                  rotate_left
                  · simp only [Act.put, List.setIfInBounds_toArray, List.set_cons_zero, List.set_cons_succ, i64_w, i32_w]
                    rfl
                  refine take_ (i := 16) (N := some 249) (v := ?_) (a' := ?_) #[true, true, true, true, true, true, true, true, true, true, true, true, true, true, true, true, true, false, false, false, false, false, false, false, false, false, false, false, false, false, false] rfl rfl (take_ofW HT_.out HW_.out (by kernel_rfl)) (fun _ _ _ h => h) (Or.inl ⟨by rfl, ?_⟩) hHeld ?_ ?_
                  rotate_left
                  · rintro w' ⟨s0, s1, s2, s3, s4, s5, s6, s7, s8, s9, s10, s11, s12⟩
                    go_simp
                    with_reducible rfl
                  rotate_left
                  · simp only [Act.put, List.setIfInBounds_toArray, List.set_cons_zero, List.set_cons_succ, i64_w, i32_w]
                    rfl
                  refine one_ (i := 17) (N := some 250) #[true, true, true, true, true, true, true, true, true, true, true, true, true, true, true, true, true, true, false, false, false, false, false, false, false, false, false, false, false, false, false] rfl rfl (one_of HT_.out (by kernel_rfl)) (by decide) (fun K hK => ?_)
                  refine goes_ Try.func18 (by kernel_rfl) rfl #[.agg #[.int .i64 t423, .int .i64 t424, .int .i64 t425, .int .i64 t426, .int .i64 t427, .int .i64 t428, .bool t429, .int .i64 t430, .int .i64 t431, .int .i64 t432, .int .i64 t433, .int .i64 t434, .int .i64 t435]] (by rfl) rfl rfl (by (try simp only [List.map_toArray, List.map_cons, List.map_nil]); first | done | rfl | (simp only [List.length_drop, List.length_take]; rfl)) ?_
                  with_reducible refine (annuityref14_Good.calls t423 t424 t425 t426 t427 t428 t429 t430 t431 t432 t433 t434 t435 true _ A199.out).mono ?_
                  rintro e w238 ⟨rfl, hb⟩
                  refine ⟨_, rfl, ?_⟩
                  have n0_ := Aside0.mk (blk_below (g := gb325) (Up.up BK325.out) hb)
                  have n1_ := Aside0.mk (blk_below (g := gb326) (Up.up BK326.out) hb)
                  have n2_ := Aside0.mk (blk_below (g := gb344) (Up.up BK344.out) hb)
                  have n3_ := Aside0.mk (blk_below (g := gb362) (Up.up BK362.out) hb)
                  have n4_ := Aside0.mk (blk_below (g := gb381) (Up.up BK381.out) hb)
                  have n5_ := Aside0.mk (blk_below (g := gb400) (Up.up BK400.out) hb)
                  have n6_ := Aside0.mk (blk_below (g := gb418) (Up.up BK418.out) hb)
                  have n7_ := Aside0.mk (blk_below (g := gb438) (Up.up BK438.out) hb)
                  have n8_ := Aside0.mk (below_step (by repeat (first | (with_reducible first | exact HB.out | apply below_alloc | apply pw_below_drewN | apply below_drew1 | refine below_set ?_ GE325.out | refine below_set ?_ GE326.out | refine below_set ?_ GE344.out | refine below_set ?_ GE362.out | refine below_set ?_ GE381.out | refine below_set ?_ GE400.out | refine below_set ?_ GE418.out | refine below_set ?_ GE438.out) | exact HB.out)) hb)
                  clear BK325
                  clear BK326
                  clear BK344
                  clear BK362
                  clear BK381
                  clear BK400
                  clear BK418
                  clear BK438
                  clear HB
                  have BK325 := n0_
                  have BK326 := n1_
                  have BK344 := n2_
                  have BK362 := n3_
                  have BK381 := n4_
                  have BK400 := n5_
                  have BK418 := n6_
                  have BK438 := n7_
                  have HB := n8_
                  clear n0_ n1_ n2_ n3_ n4_ n5_ n6_ n7_ n8_
                  (try clear hb)
                  (try clear hb2)
                  (try clear hk)
                  (try clear hi)
                  refine hK.out _ _ ⟨(blk_cell BK438.out 0).trans rfl, (blk_cell BK438.out 1).trans rfl, (blk_cell BK438.out 2).trans rfl, (blk_cell BK438.out 3).trans rfl, (blk_cell BK438.out 4).trans rfl, (blk_cell BK438.out 5).trans rfl, (blk_cell BK438.out 6).trans rfl, (blk_cell BK438.out 7).trans rfl, (blk_cell BK438.out 8).trans rfl, (blk_cell BK438.out 9).trans rfl, (blk_cell BK438.out 10).trans rfl, (blk_cell BK438.out 11).trans rfl, (blk_cell BK438.out 12).trans rfl⟩ (fun hHeld => ?_)
                  clear hK K
                  refine norm_ (a' := ?_) ?_ ?_
                  rotate_left
                  · show Act.put _ (some 250) _ = _
                    simp only [Act.put, List.setIfInBounds_toArray, List.set_cons_zero, List.set_cons_succ, i64_w, i32_w]
                    rfl
                  refine pure_ (i := 18) (N := some 251) (v := ?_) (a' := ?_) #[true, true, true, true, true, true, true, true, true, true, true, true, true, true, true, true, true, true, true, false, false, false, false, false, false, false, false, false, false, false, false] rfl rfl (any_of HT_.out (by kernel_rfl)) (fun _ _ _ h => h) (Or.inl ⟨by rfl, ?_⟩) ?_ ?_
                  rotate_left
                  · intro w'
                    go_simp
                    with_reducible rfl
                  rotate_left
                  · simp only [Act.put, List.setIfInBounds_toArray, List.set_cons_zero, List.set_cons_succ, i64_w, i32_w]
                    rfl
                  refine pure_ (i := 19) (N := some 252) (v := ?_) (a' := ?_) #[true, true, true, true, true, true, true, true, true, true, true, true, true, true, true, true, true, true, true, true, false, false, false, false, false, false, false, false, false, false, false] rfl rfl (any_of HT_.out (by kernel_rfl)) (fun _ _ _ h => h) (Or.inl ⟨by rfl, ?_⟩) ?_ ?_
                  rotate_left
                  · intro w'
                    go_simp
                    with_reducible rfl
                  rotate_left
                  · simp only [Act.put, List.setIfInBounds_toArray, List.set_cons_zero, List.set_cons_succ, i64_w, i32_w]
                    rfl
                  refine pure_ (i := 20) (N := some 253) (v := ?_) (a' := ?_) #[true, true, true, true, true, true, true, true, true, true, true, true, true, true, true, true, true, true, true, true, true, false, false, false, false, false, false, false, false, false, false] rfl rfl (any_of HT_.out (by kernel_rfl)) (fun _ _ _ h => h) (Or.inl ⟨by rfl, ?_⟩) ?_ ?_
                  rotate_left
                  · intro w'
                    go_simp
                    with_reducible rfl
                  rotate_left
                  · simp only [Act.put, List.setIfInBounds_toArray, List.set_cons_zero, List.set_cons_succ, i64_w, i32_w]
                    rfl
                  refine pure_ (i := 22) (N := some 255) (v := ?_) (a' := ?_) #[true, true, true, true, true, true, true, true, true, true, true, true, true, true, true, true, true, true, true, true, true, false, true, false, false, false, false, false, false, false, false] rfl rfl (any_of HT_.out (by kernel_rfl)) (fun _ _ _ h => h) (Or.inl ⟨by rfl, ?_⟩) ?_ ?_
                  rotate_left
                  · intro w'
                    go_simp
                    with_reducible rfl
                  rotate_left
                  · simp only [Act.put, List.setIfInBounds_toArray, List.set_cons_zero, List.set_cons_succ, i64_w, i32_w]
                    rfl
                  refine take_ (i := 21) (N := some 254) (v := ?_) (a' := ?_) #[true, true, true, true, true, true, true, true, true, true, true, true, true, true, true, true, true, true, true, true, true, true, true, false, false, false, false, false, false, false, false] rfl rfl (take_ofW HT_.out HW_.out (by kernel_rfl)) (fun _ _ _ h => h) (Or.inl ⟨by rfl, ?_⟩) hHeld ?_ ?_
                  rotate_left
                  · rintro w' ⟨s0, s1, s2, s3, s4, s5, s6, s7, s8, s9, s10, s11, s12⟩
                    go_simp
                    with_reducible rfl
                  rotate_left
                  · simp only [Act.put, List.setIfInBounds_toArray, List.set_cons_zero, List.set_cons_succ, i64_w, i32_w]
                    rfl
                  refine one_ (i := 23) (N := some 256) #[true, true, true, true, true, true, true, true, true, true, true, true, true, true, true, true, true, true, true, true, true, true, true, true, false, false, false, false, false, false, false] rfl rfl (one_of HT_.out (by kernel_rfl)) (by decide) (fun K hK => ?_)
                  refine goes_ Try.func21 (by kernel_rfl) rfl #[.int .i64 a2, .int .i64 4] (by rfl) rfl rfl (by (try simp only [List.map_toArray, List.map_cons, List.map_nil]); first | done | rfl | (simp only [List.length_drop, List.length_take]; rfl)) ?_
                  with_reducible refine (annuitykeep_Mod.calls a2 4 t443 _ A201.out).mono ?_
                  rintro e w' ⟨rfl, ⟨nd, rfl⟩⟩
                  refine ⟨_, rfl, ?_⟩
                  refine hK.out _ _ ⟨(blk_cell BK438.out 0).trans rfl, (blk_cell BK438.out 1).trans rfl, (blk_cell BK438.out 2).trans rfl, (blk_cell BK438.out 3).trans rfl, (blk_cell BK438.out 4).trans rfl, (blk_cell BK438.out 5).trans rfl, (blk_cell BK438.out 6).trans rfl, (blk_cell BK438.out 7).trans rfl, (blk_cell BK438.out 8).trans rfl, (blk_cell BK438.out 9).trans rfl, (blk_cell BK438.out 10).trans rfl, (blk_cell BK438.out 11).trans rfl, (blk_cell BK438.out 12).trans rfl⟩ (fun hHeld => ?_)
                  clear hK K
                  refine norm_ (a' := ?_) ?_ ?_
                  rotate_left
                  · show Act.put _ (some 256) _ = _
                    simp only [Act.put, List.setIfInBounds_toArray, List.set_cons_zero, List.set_cons_succ, i64_w, i32_w]
                    rfl
                  refine pure_ (i := 24) (N := some 257) (v := ?_) (a' := ?_) #[true, true, true, true, true, true, true, true, true, true, true, true, true, true, true, true, true, true, true, true, true, true, true, true, true, false, false, false, false, false, false] rfl rfl (any_of HT_.out (by kernel_rfl)) (fun _ _ _ h => h) (Or.inl ⟨by rfl, ?_⟩) ?_ ?_
                  rotate_left
                  · intro w'
                    go_simp
                    with_reducible rfl
                  rotate_left
                  · simp only [Act.put, List.setIfInBounds_toArray, List.set_cons_zero, List.set_cons_succ, i64_w, i32_w]
                    rfl
                  refine pure_ (i := 25) (N := some 258) (v := ?_) (a' := ?_) #[true, true, true, true, true, true, true, true, true, true, true, true, true, true, true, true, true, true, true, true, true, true, true, true, true, true, false, false, false, false, false] rfl rfl (any_of HT_.out (by kernel_rfl)) (fun _ _ _ h => h) (Or.inl ⟨by rfl, ?_⟩) ?_ ?_
                  rotate_left
                  · intro w'
                    go_simp
                    with_reducible rfl
                  rotate_left
                  · simp only [Act.put, List.setIfInBounds_toArray, List.set_cons_zero, List.set_cons_succ, i64_w, i32_w]
                    rfl
                  refine pure_ (i := 26) (N := some 259) (v := ?_) (a' := ?_) #[true, true, true, true, true, true, true, true, true, true, true, true, true, true, true, true, true, true, true, true, true, true, true, true, true, true, true, false, false, false, false] rfl rfl (any_of HT_.out (by kernel_rfl)) (fun _ _ _ h => h) (Or.inl ⟨by rfl, ?_⟩) ?_ ?_
                  rotate_left
                  · intro w'
                    go_simp
                    with_reducible rfl
                  rotate_left
                  · simp only [Act.put, List.setIfInBounds_toArray, List.set_cons_zero, List.set_cons_succ, i64_w, i32_w]
                    rfl
                  refine pure_ (i := 27) (N := some 260) (v := ?_) (a' := ?_) #[true, true, true, true, true, true, true, true, true, true, true, true, true, true, true, true, true, true, true, true, true, true, true, true, true, true, true, true, false, false, false] rfl rfl (any_of HT_.out (by kernel_rfl)) (fun _ _ _ h => h) (Or.inl ⟨by rfl, ?_⟩) ?_ ?_
                  rotate_left
                  · intro w'
                    go_simp
                    with_reducible rfl
                  rotate_left
                  · simp only [Act.put, List.setIfInBounds_toArray, List.set_cons_zero, List.set_cons_succ, i64_w, i32_w]
                    rfl
                  refine one_ (i := 28) (N := some 261) #[true, true, true, true, true, true, true, true, true, true, true, true, true, true, true, true, true, true, true, true, true, true, true, true, true, true, true, true, true, false, false] rfl rfl (one_of HT_.out (by kernel_rfl)) (by decide) (fun K hK => ?_)
                  refine goes_ Try.func15 (by kernel_rfl) rfl #[] (by rfl) rfl rfl (by (try simp only [List.map_toArray, List.map_cons, List.map_nil]); first | done | rfl | (simp only [List.length_drop, List.length_take]; rfl)) ?_
                  with_reducible refine (annuitylaw14_wakes.calls kj156  t444 _ A203.out).mono ?_
                  rintro e w239 ⟨rfl, hb⟩
                  refine ⟨_, rfl, ?_⟩
                  have n0_ := Aside0.mk (blk_below (g := gb325) (Up.up BK325.out) hb)
                  have n1_ := Aside0.mk (blk_below (g := gb326) (Up.up BK326.out) hb)
                  have n2_ := Aside0.mk (blk_below (g := gb344) (Up.up BK344.out) hb)
                  have n3_ := Aside0.mk (blk_below (g := gb362) (Up.up BK362.out) hb)
                  have n4_ := Aside0.mk (blk_below (g := gb381) (Up.up BK381.out) hb)
                  have n5_ := Aside0.mk (blk_below (g := gb400) (Up.up BK400.out) hb)
                  have n6_ := Aside0.mk (blk_below (g := gb418) (Up.up BK418.out) hb)
                  have n7_ := Aside0.mk (blk_below (g := gb438) (Up.up BK438.out) hb)
                  have n8_ := Aside0.mk (below_step (by repeat (first | (with_reducible first | exact HB.out | apply below_alloc | apply pw_below_drewN | apply below_drew1 | refine below_set ?_ GE325.out | refine below_set ?_ GE326.out | refine below_set ?_ GE344.out | refine below_set ?_ GE362.out | refine below_set ?_ GE381.out | refine below_set ?_ GE400.out | refine below_set ?_ GE418.out | refine below_set ?_ GE438.out) | exact HB.out)) hb)
                  clear BK325
                  clear BK326
                  clear BK344
                  clear BK362
                  clear BK381
                  clear BK400
                  clear BK418
                  clear BK438
                  clear HB
                  have BK325 := n0_
                  have BK326 := n1_
                  have BK344 := n2_
                  have BK362 := n3_
                  have BK381 := n4_
                  have BK400 := n5_
                  have BK418 := n6_
                  have BK438 := n7_
                  have HB := n8_
                  clear n0_ n1_ n2_ n3_ n4_ n5_ n6_ n7_ n8_
                  (try clear hb)
                  (try clear hb2)
                  (try clear hk)
                  (try clear hi)
                  refine hK.out _ _ ⟨(blk_cell BK438.out 0).trans rfl, (blk_cell BK438.out 1).trans rfl, (blk_cell BK438.out 2).trans rfl, (blk_cell BK438.out 3).trans rfl, (blk_cell BK438.out 4).trans rfl, (blk_cell BK438.out 5).trans rfl, (blk_cell BK438.out 6).trans rfl, (blk_cell BK438.out 7).trans rfl, (blk_cell BK438.out 8).trans rfl, (blk_cell BK438.out 9).trans rfl, (blk_cell BK438.out 10).trans rfl, (blk_cell BK438.out 11).trans rfl, (blk_cell BK438.out 12).trans rfl⟩ (fun hHeld => ?_)
                  clear hK K
                  refine norm_ (a' := ?_) ?_ ?_
                  rotate_left
                  · show Act.put _ (some 261) _ = _
                    simp only [Act.put, List.setIfInBounds_toArray, List.set_cons_zero, List.set_cons_succ, i64_w, i32_w]
                    rfl
                  refine pure_ (i := 29) (N := some 262) (v := ?_) (a' := ?_) #[true, true, true, true, true, true, true, true, true, true, true, true, true, true, true, true, true, true, true, true, true, true, true, true, true, true, true, true, true, true, false] rfl rfl (any_of HT_.out (by kernel_rfl)) (fun _ _ _ h => h) (Or.inl ⟨by rfl, ?_⟩) ?_ ?_
                  rotate_left
                  · intro w'
                    go_simp
                    with_reducible rfl
                  rotate_left
                  · simp only [Act.put, List.setIfInBounds_toArray, List.set_cons_zero, List.set_cons_succ, i64_w, i32_w]
                    rfl
                  refine pure_ (i := 30) (N := some 6) (v := ?_) (a' := ?_) #[true, true, true, true, true, true, true, true, true, true, true, true, true, true, true, true, true, true, true, true, true, true, true, true, true, true, true, true, true, true, true] rfl rfl (any_of HT_.out (by kernel_rfl)) (fun _ _ _ h => h) (Or.inl ⟨by rfl, ?_⟩) ?_ ?_
                  rotate_left
                  · intro w'
                    go_simp
                    with_reducible rfl
                  rotate_left
                  · simp only [Act.put, List.setIfInBounds_toArray, List.set_cons_zero, List.set_cons_succ, i64_w, i32_w]
                    rfl
                  refine done_ (done_of HT_.out (by kernel_rfl)) ?_
                  try go_wp2
                  go_ret
                  exact ⟨by first | rfl | (simp [errW_none, errW_some] <;> rfl) | (simp [*, errW_none, errW_some] <;> rfl), by repeat (first | (with_reducible first | exact HB.out | apply below_alloc | apply pw_below_drewN | apply below_drew1 | refine below_set ?_ GE325.out | refine below_set ?_ GE326.out | refine below_set ?_ GE344.out | refine below_set ?_ GE362.out | refine below_set ?_ GE381.out | refine below_set ?_ GE400.out | refine below_set ?_ GE418.out | refine below_set ?_ GE438.out) | exact HB.out)⟩
                · rw [if_neg c202] at H
                  have c202b0 : (t431 == (wrap64 (1 + t443))) = false := beq_eq_false_iff_ne.mpr c202
                  have c202b1 : (t431 != (wrap64 (1 + t443))) = true := bne_iff_ne.mpr c202
                  exact absurd H (by simp)
              · replace c200 := Bool.eq_false_iff.mpr c200
                subst c200
                have H1 : (none) = some r := by rw [if_neg (show ¬ (false = true) by decide)] at H; exact H
                clear H
                have H := H1
                clear H1
                exact absurd H (by simp)
            · rw [if_neg c198] at H
              have c198b0 : (t440 == 0) = false := beq_eq_false_iff_ne.mpr c198
              have c198b1 : (t440 != 0) = true := bne_iff_ne.mpr c198
              exact absurd H (by simp)
          · rw [if_neg c197] at H
            have c197b0 : (t441 == 0) = false := beq_eq_false_iff_ne.mpr c197
            have c197b1 : (t441 != 0) = true := bne_iff_ne.mpr c197
            exact absurd H (by simp)
        · rw [if_neg c196] at H
          have c196b0 : (t436 == t327) = false := beq_eq_false_iff_ne.mpr c196
          have c196b1 : (t436 != t327) = true := bne_iff_ne.mpr c196
          exact absurd H (by simp)
      · rw [if_neg c195] at H
        have c195b0 : (t437 == 0) = false := beq_eq_false_iff_ne.mpr c195
        have c195b1 : (t437 != 0) = true := bne_iff_ne.mpr c195
        exact absurd H (by simp)
    · rw [if_neg c193] at H
      have c193b0 : (a0_8 == 0) = false := beq_eq_false_iff_ne.mpr c193
      have c193b1 : (a0_8 != 0) = true := bne_iff_ne.mpr c193
      by_cases c240 : t437 = 61
      · rw [if_pos c240] at H
        have c240b0 : (t437 == 61) = true := beq_iff_eq.mpr c240
        have c240b1 : (t437 != 61) = false := bne_eq_false_iff_eq.mpr c240
        clear c240
        by_cases c241 : t327 = 0
        · rw [if_pos c241] at H
          have c241b0 : (t327 == 0) = true := beq_iff_eq.mpr c241
          have c241b1 : (t327 != 0) = false := bne_eq_false_iff_eq.mpr c241
          clear c241
          replace H := Option.bind_eq_some_iff.mp H
          obtain ⟨t439, A2420, H⟩ := H
          replace H : (some t439) = some r := H
          have A242 := Aside0.mk A2420
          clear A2420
          obtain rfl := Option.some.inj H
          try go_wp2
          have n0_ := Aside0.mk (blk_drew BK325.out)
          have n1_ := Aside0.mk (blk_drew BK326.out)
          have n2_ := Aside0.mk (blk_drew BK344.out)
          have n3_ := Aside0.mk (blk_drew BK362.out)
          have n4_ := Aside0.mk (blk_drew BK381.out)
          have n5_ := Aside0.mk (blk_drew BK400.out)
          have n6_ := Aside0.mk (blk_drew BK418.out)
          have n7_ := Aside0.mk (below_drew1 HB.out)
          clear BK325
          clear BK326
          clear BK344
          clear BK362
          clear BK381
          clear BK400
          clear BK418
          clear HB
          have BK325 := n0_
          have BK326 := n1_
          have BK344 := n2_
          have BK362 := n3_
          have BK381 := n4_
          have BK400 := n5_
          have BK418 := n6_
          have HB := n7_
          clear n0_ n1_ n2_ n3_ n4_ n5_ n6_ n7_
          refine start_ (n := 13) (S := fun w' => w'.cell? ⟨gb325, 0, none⟩ = some (.int .i64 a0_0) ∧ w'.cell? ⟨gb325, 1, none⟩ = some (.int .i64 a0_1) ∧ w'.cell? ⟨gb325, 2, none⟩ = some (.int .i64 a0_2) ∧ w'.cell? ⟨gb325, 3, none⟩ = some (.int .i64 a0_3) ∧ w'.cell? ⟨gb325, 4, none⟩ = some (.int .i64 a0_4) ∧ w'.cell? ⟨gb325, 5, none⟩ = some (.int .i64 a0_5) ∧ w'.cell? ⟨gb325, 6, none⟩ = some (.bool a0_6) ∧ w'.cell? ⟨gb325, 7, none⟩ = some (.int .i64 a0_7) ∧ w'.cell? ⟨gb325, 8, none⟩ = some (.int .i64 a0_8) ∧ w'.cell? ⟨gb325, 9, none⟩ = some (.int .i64 a0_9) ∧ w'.cell? ⟨gb325, 10, none⟩ = some (.int .i64 a0_10) ∧ w'.cell? ⟨gb325, 11, none⟩ = some (.int .i64 a0_11) ∧ w'.cell? ⟨gb325, 12, none⟩ = some (.int .i64 a0_12)) (ds := []) #[false, false, false, false, false, false, false, false, false, false, false, false, false] (by kernel_rfl) rfl rfl ⟨(blk_cell BK325.out 0).trans rfl, (blk_cell BK325.out 1).trans rfl, (blk_cell BK325.out 2).trans rfl, (blk_cell BK325.out 3).trans rfl, (blk_cell BK325.out 4).trans rfl, (blk_cell BK325.out 5).trans rfl, (blk_cell BK325.out 6).trans rfl, (blk_cell BK325.out 7).trans rfl, (blk_cell BK325.out 8).trans rfl, (blk_cell BK325.out 9).trans rfl, (blk_cell BK325.out 10).trans rfl, (blk_cell BK325.out 11).trans rfl, (blk_cell BK325.out 12).trans rfl⟩ (fun hHeld => ?_); refine with_tabW annuitylaw14_LoanOwes.tab29 annuitylaw14_LoanOwes.bits29 (fun HT_ HW_ => ?_)
          generalize wc.drew = w243 at BK325 BK326 BK344 BK362 BK381 BK400 BK418 HB hHeld ⊢
          refine pure_ (i := 1) (N := some 209) (v := ?_) (a' := ?_) #[false, true, false, false, false, false, false, false, false, false, false, false, false] rfl rfl (any_of HT_.out (by kernel_rfl)) (fun _ _ _ h => h) (Or.inl ⟨by rfl, ?_⟩) ?_ ?_
          rotate_left
          · intro w'
            go_simp
            with_reducible rfl
          rotate_left
          · simp only [Act.put, List.setIfInBounds_toArray, List.set_cons_zero, List.set_cons_succ, i64_w, i32_w]
            rfl
          refine take_ (i := 0) (N := some 208) (v := ?_) (a' := ?_) #[true, true, false, false, false, false, false, false, false, false, false, false, false] rfl rfl (take_ofW HT_.out HW_.out (by kernel_rfl)) (fun _ _ _ h => h) (Or.inl ⟨by rfl, ?_⟩) hHeld ?_ ?_
          rotate_left
          · rintro w' ⟨s0, s1, s2, s3, s4, s5, s6, s7, s8, s9, s10, s11, s12⟩
            go_simp
            with_reducible rfl
          rotate_left
          · simp only [Act.put, List.setIfInBounds_toArray, List.set_cons_zero, List.set_cons_succ, i64_w, i32_w]
            rfl
          refine join_ (σ := Nat) 3 #[true, true, true, true, true, true, true, true, true, true, false, false, false] (fun s_ => [(210, .int .i64 t422), (212, .tuple #[.agg #[.int .i64 t423, .int .i64 t424, .int .i64 t425, .int .i64 t426, .int .i64 t427, .int .i64 t428, .bool t429, .int .i64 t430, .int .i64 t431, .int .i64 t432, .int .i64 t433, .int .i64 t434, .int .i64 t435], .int .i64 t436, .int .i64 t437]), (29, .pointer (some ⟨s_, 0, none⟩)), (211, .int .i64 (wrap64 (1 + t422))), (207, .tuple #[.agg #[.int .i64 t423, .int .i64 t424, .int .i64 t425, .int .i64 t426, .int .i64 t427, .int .i64 t428, .bool t429, .int .i64 t430, .int .i64 t431, .int .i64 t432, .int .i64 t433, .int .i64 t434, .int .i64 t435], .int .i64 t436, .int .i64 t437]), (213, .agg #[.int .i64 t423, .int .i64 t424, .int .i64 t425, .int .i64 t426, .int .i64 t427, .int .i64 t428, .bool t429, .int .i64 t430, .int .i64 t431, .int .i64 t432, .int .i64 t433, .int .i64 t434, .int .i64 t435]), (214, .int .i64 t436), (215, .int .i64 t437)]) (fun s_ w' => (w'.cell? ⟨gb325, 0, none⟩ = some (.int .i64 a0_0) ∧ w'.cell? ⟨gb325, 1, none⟩ = some (.int .i64 a0_1) ∧ w'.cell? ⟨gb325, 2, none⟩ = some (.int .i64 a0_2) ∧ w'.cell? ⟨gb325, 3, none⟩ = some (.int .i64 a0_3) ∧ w'.cell? ⟨gb325, 4, none⟩ = some (.int .i64 a0_4) ∧ w'.cell? ⟨gb325, 5, none⟩ = some (.int .i64 a0_5) ∧ w'.cell? ⟨gb325, 6, none⟩ = some (.bool a0_6) ∧ w'.cell? ⟨gb325, 7, none⟩ = some (.int .i64 a0_7) ∧ w'.cell? ⟨gb325, 8, none⟩ = some (.int .i64 a0_8) ∧ w'.cell? ⟨gb325, 9, none⟩ = some (.int .i64 a0_9) ∧ w'.cell? ⟨gb325, 10, none⟩ = some (.int .i64 a0_10) ∧ w'.cell? ⟨gb325, 11, none⟩ = some (.int .i64 a0_11) ∧ w'.cell? ⟨gb325, 12, none⟩ = some (.int .i64 a0_12)) ∧ (w'.heap[gb325]? = some (.cells #[.int .i64 a0_0, .int .i64 a0_1, .int .i64 a0_2, .int .i64 a0_3, .int .i64 a0_4, .int .i64 a0_5, .bool a0_6, .int .i64 a0_7, .int .i64 a0_8, .int .i64 a0_9, .int .i64 a0_10, .int .i64 a0_11, .int .i64 a0_12] 23 (0, 0))) ∧ (w'.heap[gb326]? = some (.cells #[.int .i64 a1_0, .int .i64 a1_1, .int .i64 a1_2, .int .i64 a1_3] 35 (0, 0))) ∧ (w'.heap[gb344]? = some (.cells #[.int .i64 t330, .int .i64 t331, .int .i64 t332, .int .i64 t333, .int .i64 t334, .int .i64 t335, .bool t336, .int .i64 t337, .int .i64 t338, .int .i64 t339, .int .i64 t340, .int .i64 t341, .int .i64 t342] 23 (0, 0))) ∧ (w'.heap[gb362]? = some (.cells #[.int .i64 t348, .int .i64 t349, .int .i64 t350, .int .i64 t351, .int .i64 t352, .int .i64 t353, .bool t354, .int .i64 t355, .int .i64 t356, .int .i64 t357, .int .i64 t358, .int .i64 t359, .int .i64 t360] 23 (0, 0))) ∧ (w'.heap[gb381]? = some (.cells #[.int .i64 t367, .int .i64 t368, .int .i64 t369, .int .i64 t370, .int .i64 t371, .int .i64 t372, .bool t373, .int .i64 t374, .int .i64 t375, .int .i64 t376, .int .i64 t377, .int .i64 t378, .int .i64 t379] 23 (0, 0))) ∧ (w'.heap[gb400]? = some (.cells #[.int .i64 t386, .int .i64 t387, .int .i64 t388, .int .i64 t389, .int .i64 t390, .int .i64 t391, .bool t392, .int .i64 t393, .int .i64 t394, .int .i64 t395, .int .i64 t396, .int .i64 t397, .int .i64 t398] 23 (0, 0))) ∧ (w'.heap[gb418]? = some (.cells #[.int .i64 t404, .int .i64 t405, .int .i64 t406, .int .i64 t407, .int .i64 t408, .int .i64 t409, .bool t410, .int .i64 t411, .int .i64 t412, .int .i64 t413, .int .i64 t414, .int .i64 t415, .int .i64 t416] 23 (0, 0))) ∧ (w'.heap[s_]? = some (.cells #[.int .i64 0, .int .i64 0, .int .i64 0, .int .i64 0, .int .i64 0, .int .i64 0, .bool false, .int .i64 0, .int .i64 0, .int .i64 0, .int .i64 0, .int .i64 0, .int .i64 0] 23 (0, 0))) ∧ (w.heap.size ≤ s_) ∧ (w.heap.size ≤ s_) ∧ (gb325 ≠ s_) ∧ (s_ ≠ gb325) ∧ (gb326 ≠ s_) ∧ (s_ ≠ gb326) ∧ (gb344 ≠ s_) ∧ (s_ ≠ gb344) ∧ (gb362 ≠ s_) ∧ (s_ ≠ gb362) ∧ (gb381 ≠ s_) ∧ (s_ ≠ gb381) ∧ (gb400 ≠ s_) ∧ (s_ ≠ gb400) ∧ (gb418 ≠ s_) ∧ (s_ ≠ gb418) ∧ (Below w.heap.size w w')) ?_ ?_
          rotate_left
          · intro hCont
            refine two_ (i := 2) (j := 9) (Ni := some 210) (Nj := some 29) #[true, true, true, false, false, false, false, false, false, false, false, false, false] #[true, true, false, false, false, false, false, false, false, true, false, false, false] rfl rfl rfl rfl (two_of HT_.out (by kernel_rfl)) (by decide) (by decide) (fun K hK => ?_) (fun K hK => ?_)
            · skip
              refine goes_ Try.func21 (by kernel_rfl) rfl #[.int .i64 a2, .int .i64 4] (by rfl) rfl rfl (by (try simp only [List.map_toArray, List.map_cons, List.map_nil]); first | done | rfl | (simp only [List.length_drop, List.length_take]; rfl)) ?_
              with_reducible refine (annuitykeep_Mod.calls a2 4 t422 _ A191.out).mono ?_
              rintro e w' ⟨rfl, ⟨nd, rfl⟩⟩
              refine ⟨_, rfl, ?_⟩
              refine hK.out _ _ ⟨(blk_cell BK325.out 0).trans rfl, (blk_cell BK325.out 1).trans rfl, (blk_cell BK325.out 2).trans rfl, (blk_cell BK325.out 3).trans rfl, (blk_cell BK325.out 4).trans rfl, (blk_cell BK325.out 5).trans rfl, (blk_cell BK325.out 6).trans rfl, (blk_cell BK325.out 7).trans rfl, (blk_cell BK325.out 8).trans rfl, (blk_cell BK325.out 9).trans rfl, (blk_cell BK325.out 10).trans rfl, (blk_cell BK325.out 11).trans rfl, (blk_cell BK325.out 12).trans rfl⟩ (fun hHeld => ?_)
              clear hK K
              refine norm_ (a' := ?_) ?_ ?_
              rotate_left
              · show Act.put _ (some 210) _ = _
                simp only [Act.put, List.setIfInBounds_toArray, List.set_cons_zero, List.set_cons_succ, i64_w, i32_w]
                rfl
              refine pure_ (i := 3) (N := some 211) (v := ?_) (a' := ?_) #[true, true, true, true, false, false, false, false, false, false, false, false, false] rfl rfl (any_of HT_.out (by kernel_rfl)) (fun _ _ _ h => h) (Or.inl ⟨by rfl, ?_⟩) ?_ ?_
              rotate_left
              · intro w'
                go_simp
                with_reducible rfl
              rotate_left
              · simp only [Act.put, List.setIfInBounds_toArray, List.set_cons_zero, List.set_cons_succ, i64_w, i32_w]
                rfl
              refine two_ (i := 4) (j := 9) (Ni := some 212) (Nj := some 29) #[true, true, true, true, true, false, false, false, false, false, false, false, false] #[true, true, true, true, false, false, false, false, false, true, false, false, false] rfl rfl rfl rfl (two_of HT_.out (by kernel_rfl)) (by decide) (by decide) (fun K hK => ?_) (fun K hK => ?_)
              · skip
                refine goes_ Try.func20 (by kernel_rfl) rfl #[.agg #[.int .i64 a0_0, .int .i64 a0_1, .int .i64 a0_2, .int .i64 a0_3, .int .i64 a0_4, .int .i64 a0_5, .bool a0_6, .int .i64 a0_7, .int .i64 a0_8, .int .i64 a0_9, .int .i64 a0_10, .int .i64 a0_11, .int .i64 a0_12], .int .i64 (wrap64 (1 + t422))] (by rfl) rfl rfl (by (try simp only [List.map_toArray, List.map_cons, List.map_nil]); first | done | rfl | (simp only [List.length_drop, List.length_take]; rfl)) ?_
                with_reducible refine (loan_Close.calls kj156 a0_0 a0_1 a0_2 a0_3 a0_4 a0_5 a0_6 a0_7 a0_8 a0_9 a0_10 a0_11 a0_12 (wrap64 (1 + t422)) t423 t424 t425 t426 t427 t428 t429 t430 t431 t432 t433 t434 t435 t436 t437 _ A192.out).mono ?_
                rintro e w244 ⟨rfl, hb⟩
                refine ⟨_, rfl, ?_⟩
                have n0_ := Aside0.mk (blk_below (g := gb325) (Up.up BK325.out) hb)
                have n1_ := Aside0.mk (blk_below (g := gb326) (Up.up BK326.out) hb)
                have n2_ := Aside0.mk (blk_below (g := gb344) (Up.up BK344.out) hb)
                have n3_ := Aside0.mk (blk_below (g := gb362) (Up.up BK362.out) hb)
                have n4_ := Aside0.mk (blk_below (g := gb381) (Up.up BK381.out) hb)
                have n5_ := Aside0.mk (blk_below (g := gb400) (Up.up BK400.out) hb)
                have n6_ := Aside0.mk (blk_below (g := gb418) (Up.up BK418.out) hb)
                have n7_ := Aside0.mk (below_step (by repeat (first | (with_reducible first | exact HB.out | apply below_alloc | apply pw_below_drewN | apply below_drew1 | refine below_set ?_ GE325.out | refine below_set ?_ GE326.out | refine below_set ?_ GE344.out | refine below_set ?_ GE362.out | refine below_set ?_ GE381.out | refine below_set ?_ GE400.out | refine below_set ?_ GE418.out) | exact HB.out)) hb)
                clear BK325
                clear BK326
                clear BK344
                clear BK362
                clear BK381
                clear BK400
                clear BK418
                clear HB
                have BK325 := n0_
                have BK326 := n1_
                have BK344 := n2_
                have BK362 := n3_
                have BK381 := n4_
                have BK400 := n5_
                have BK418 := n6_
                have HB := n7_
                clear n0_ n1_ n2_ n3_ n4_ n5_ n6_ n7_
                (try clear hb)
                (try clear hb2)
                (try clear hk)
                (try clear hi)
                refine hK.out _ _ ⟨(blk_cell BK325.out 0).trans rfl, (blk_cell BK325.out 1).trans rfl, (blk_cell BK325.out 2).trans rfl, (blk_cell BK325.out 3).trans rfl, (blk_cell BK325.out 4).trans rfl, (blk_cell BK325.out 5).trans rfl, (blk_cell BK325.out 6).trans rfl, (blk_cell BK325.out 7).trans rfl, (blk_cell BK325.out 8).trans rfl, (blk_cell BK325.out 9).trans rfl, (blk_cell BK325.out 10).trans rfl, (blk_cell BK325.out 11).trans rfl, (blk_cell BK325.out 12).trans rfl⟩ (fun hHeld => ?_)
                clear hK K
                refine norm_ (a' := ?_) ?_ ?_
                rotate_left
                · show Act.put _ (some 212) _ = _
                  simp only [Act.put, List.setIfInBounds_toArray, List.set_cons_zero, List.set_cons_succ, i64_w, i32_w]
                  rfl
                refine pure_ (i := 5) (N := some 207) (v := ?_) (a' := ?_) #[true, true, true, true, true, true, false, false, false, false, false, false, false] rfl rfl (any_of HT_.out (by kernel_rfl)) (fun _ _ _ h => h) (Or.inl ⟨by rfl, ?_⟩) ?_ ?_
                rotate_left
                · intro w'
                  go_simp
                  with_reducible rfl
                rotate_left
                · simp only [Act.put, List.setIfInBounds_toArray, List.set_cons_zero, List.set_cons_succ, i64_w, i32_w]
                  rfl
                refine pure_ (i := 6) (N := some 213) (v := ?_) (a' := ?_) #[true, true, true, true, true, true, true, false, false, false, false, false, false] rfl rfl (any_of HT_.out (by kernel_rfl)) (fun _ _ _ h => h) (Or.inl ⟨by rfl, ?_⟩) ?_ ?_
                rotate_left
                · intro w'
                  go_simp
                  with_reducible rfl
                rotate_left
                · simp only [Act.put, List.setIfInBounds_toArray, List.set_cons_zero, List.set_cons_succ, i64_w, i32_w]
                  rfl
                refine pure_ (i := 7) (N := some 214) (v := ?_) (a' := ?_) #[true, true, true, true, true, true, true, true, false, false, false, false, false] rfl rfl (any_of HT_.out (by kernel_rfl)) (fun _ _ _ h => h) (Or.inl ⟨by rfl, ?_⟩) ?_ ?_
                rotate_left
                · intro w'
                  go_simp
                  with_reducible rfl
                rotate_left
                · simp only [Act.put, List.setIfInBounds_toArray, List.set_cons_zero, List.set_cons_succ, i64_w, i32_w]
                  rfl
                refine pure_ (i := 8) (N := some 215) (v := ?_) (a' := ?_) #[true, true, true, true, true, true, true, true, true, false, false, false, false] rfl rfl (any_of HT_.out (by kernel_rfl)) (fun _ _ _ h => h) (Or.inl ⟨by rfl, ?_⟩) ?_ ?_
                rotate_left
                · intro w'
                  go_simp
                  with_reducible rfl
                rotate_left
                · simp only [Act.put, List.setIfInBounds_toArray, List.set_cons_zero, List.set_cons_succ, i64_w, i32_w]
                  rfl
                refine one_ (i := 9) (N := some 29) #[true, true, true, true, true, true, true, true, true, true, false, false, false] rfl rfl (one_of HT_.out (by kernel_rfl)) (by decide) (fun K hK => ?_)
                refine box_step ?hg (N := 29) ?hd (cs := #[.int .i64 0, .int .i64 0, .int .i64 0, .int .i64 0, .int .i64 0, .int .i64 0, .bool false, .int .i64 0, .int .i64 0, .int .i64 0, .int .i64 0, .int .i64 0, .int .i64 0]) (t := 23) ?hr ?_; (case hd => rfl); (case hg => rfl); (case hr => first | (go_simp; done) | (go_simp; rfl))
                intro gb438 hg w245 hbox hb
                have n0_ := Aside0.mk (blk_below (g := gb325) (Up.up BK325.out) hb)
                have n1_ := Aside0.mk (blk_below (g := gb326) (Up.up BK326.out) hb)
                have n2_ := Aside0.mk (blk_below (g := gb344) (Up.up BK344.out) hb)
                have n3_ := Aside0.mk (blk_below (g := gb362) (Up.up BK362.out) hb)
                have n4_ := Aside0.mk (blk_below (g := gb381) (Up.up BK381.out) hb)
                have n5_ := Aside0.mk (blk_below (g := gb400) (Up.up BK400.out) hb)
                have n6_ := Aside0.mk (blk_below (g := gb418) (Up.up BK418.out) hb)
                have n7_ := Aside0.mk (below_step (by repeat (first | (with_reducible first | exact HB.out | apply below_alloc | apply pw_below_drewN | apply below_drew1 | refine below_set ?_ GE325.out | refine below_set ?_ GE326.out | refine below_set ?_ GE344.out | refine below_set ?_ GE362.out | refine below_set ?_ GE381.out | refine below_set ?_ GE400.out | refine below_set ?_ GE418.out) | exact HB.out)) hb)
                have n8_ := Aside0.mk (hbox)
                have n9_ := Aside0.mk ((by rw [hg]; exact (below_size (by repeat (first | (with_reducible first | exact HB.out | apply below_alloc | apply pw_below_drewN | apply below_drew1 | refine below_set ?_ GE325.out | refine below_set ?_ GE326.out | refine below_set ?_ GE344.out | refine below_set ?_ GE362.out | refine below_set ?_ GE381.out | refine below_set ?_ GE400.out | refine below_set ?_ GE418.out) | exact HB.out))) : w.heap.size ≤ gb438))
                have n10_ := Aside0.mk ((by rw [hg]; exact (below_size (by repeat (first | (with_reducible first | exact HB.out | apply below_alloc | apply pw_below_drewN | apply below_drew1 | refine below_set ?_ GE325.out | refine below_set ?_ GE326.out | refine below_set ?_ GE344.out | refine below_set ?_ GE362.out | refine below_set ?_ GE381.out | refine below_set ?_ GE400.out | refine below_set ?_ GE418.out) | exact HB.out))) : w.heap.size ≤ gb438))
                have n11_ := Aside0.mk ((by rw [hg]; exact Nat.ne_of_lt (blk_lt (g := gb325) (Up.up BK325.out)) : gb325 ≠ gb438))
                have n12_ := Aside0.mk ((by rw [hg]; exact Nat.ne_of_gt (blk_lt (g := gb325) (Up.up BK325.out)) : gb438 ≠ gb325))
                have n13_ := Aside0.mk ((by rw [hg]; exact Nat.ne_of_lt (blk_lt (g := gb326) (Up.up BK326.out)) : gb326 ≠ gb438))
                have n14_ := Aside0.mk ((by rw [hg]; exact Nat.ne_of_gt (blk_lt (g := gb326) (Up.up BK326.out)) : gb438 ≠ gb326))
                have n15_ := Aside0.mk ((by rw [hg]; exact Nat.ne_of_lt (blk_lt (g := gb344) (Up.up BK344.out)) : gb344 ≠ gb438))
                have n16_ := Aside0.mk ((by rw [hg]; exact Nat.ne_of_gt (blk_lt (g := gb344) (Up.up BK344.out)) : gb438 ≠ gb344))
                have n17_ := Aside0.mk ((by rw [hg]; exact Nat.ne_of_lt (blk_lt (g := gb362) (Up.up BK362.out)) : gb362 ≠ gb438))
                have n18_ := Aside0.mk ((by rw [hg]; exact Nat.ne_of_gt (blk_lt (g := gb362) (Up.up BK362.out)) : gb438 ≠ gb362))
                have n19_ := Aside0.mk ((by rw [hg]; exact Nat.ne_of_lt (blk_lt (g := gb381) (Up.up BK381.out)) : gb381 ≠ gb438))
                have n20_ := Aside0.mk ((by rw [hg]; exact Nat.ne_of_gt (blk_lt (g := gb381) (Up.up BK381.out)) : gb438 ≠ gb381))
                have n21_ := Aside0.mk ((by rw [hg]; exact Nat.ne_of_lt (blk_lt (g := gb400) (Up.up BK400.out)) : gb400 ≠ gb438))
                have n22_ := Aside0.mk ((by rw [hg]; exact Nat.ne_of_gt (blk_lt (g := gb400) (Up.up BK400.out)) : gb438 ≠ gb400))
                have n23_ := Aside0.mk ((by rw [hg]; exact Nat.ne_of_lt (blk_lt (g := gb418) (Up.up BK418.out)) : gb418 ≠ gb438))
                have n24_ := Aside0.mk ((by rw [hg]; exact Nat.ne_of_gt (blk_lt (g := gb418) (Up.up BK418.out)) : gb438 ≠ gb418))
                clear BK325
                clear BK326
                clear BK344
                clear BK362
                clear BK381
                clear BK400
                clear BK418
                clear HB
                have BK325 := n0_
                have BK326 := n1_
                have BK344 := n2_
                have BK362 := n3_
                have BK381 := n4_
                have BK400 := n5_
                have BK418 := n6_
                have HB := n7_
                have BK438 := n8_
                have GW438 := n9_
                have GE438 := n10_
                have NB325_438 := n11_
                have NB438_325 := n12_
                have NB326_438 := n13_
                have NB438_326 := n14_
                have NB344_438 := n15_
                have NB438_344 := n16_
                have NB362_438 := n17_
                have NB438_362 := n18_
                have NB381_438 := n19_
                have NB438_381 := n20_
                have NB400_438 := n21_
                have NB438_400 := n22_
                have NB418_438 := n23_
                have NB438_418 := n24_
                clear n0_ n1_ n2_ n3_ n4_ n5_ n6_ n7_ n8_ n9_ n10_ n11_ n12_ n13_ n14_ n15_ n16_ n17_ n18_ n19_ n20_ n21_ n22_ n23_ n24_
                clear hb hbox hg
                refine hK.out _ _ ⟨(blk_cell BK325.out 0).trans rfl, (blk_cell BK325.out 1).trans rfl, (blk_cell BK325.out 2).trans rfl, (blk_cell BK325.out 3).trans rfl, (blk_cell BK325.out 4).trans rfl, (blk_cell BK325.out 5).trans rfl, (blk_cell BK325.out 6).trans rfl, (blk_cell BK325.out 7).trans rfl, (blk_cell BK325.out 8).trans rfl, (blk_cell BK325.out 9).trans rfl, (blk_cell BK325.out 10).trans rfl, (blk_cell BK325.out 11).trans rfl, (blk_cell BK325.out 12).trans rfl⟩ (fun hHeld => ?_)
                clear hK K
                refine norm_ (a' := ?_) ?_ ?_
                rotate_left
                · show Act.put _ (some 29) _ = _
                  simp only [Act.put, List.setIfInBounds_toArray, List.set_cons_zero, List.set_cons_succ, i64_w, i32_w]
                  rfl
                exact norm_ (by simp only [putAll, Act.put, List.setIfInBounds_toArray, List.set_cons_zero, List.set_cons_succ]) (hCont (gb438) _ ⟨hHeld, (Up.up BK325.out), (Up.up BK326.out), (Up.up BK344.out), (Up.up BK362.out), (Up.up BK381.out), (Up.up BK400.out), (Up.up BK418.out), (Up.up BK438.out), GW438.out, GE438.out, NB325_438.out, NB438_325.out, NB326_438.out, NB438_326.out, NB344_438.out, NB438_344.out, NB362_438.out, NB438_362.out, NB381_438.out, NB438_381.out, NB400_438.out, NB438_400.out, NB418_438.out, NB438_418.out, (by repeat (first | (with_reducible first | exact HB.out | apply below_alloc | apply pw_below_drewN | apply below_drew1 | refine below_set ?_ GE325.out | refine below_set ?_ GE326.out | refine below_set ?_ GE344.out | refine below_set ?_ GE362.out | refine below_set ?_ GE381.out | refine below_set ?_ GE400.out | refine below_set ?_ GE418.out | refine below_set ?_ GE438.out) | exact HB.out))⟩)
              · skip
                refine box_step ?hg (N := 29) ?hd (cs := #[.int .i64 0, .int .i64 0, .int .i64 0, .int .i64 0, .int .i64 0, .int .i64 0, .bool false, .int .i64 0, .int .i64 0, .int .i64 0, .int .i64 0, .int .i64 0, .int .i64 0]) (t := 23) ?hr ?_; (case hd => rfl); (case hg => rfl); (case hr => first | (go_simp; done) | (go_simp; rfl))
                intro gb438 hg w244 hbox hb
                have n0_ := Aside0.mk (blk_below (g := gb325) (Up.up BK325.out) hb)
                have n1_ := Aside0.mk (blk_below (g := gb326) (Up.up BK326.out) hb)
                have n2_ := Aside0.mk (blk_below (g := gb344) (Up.up BK344.out) hb)
                have n3_ := Aside0.mk (blk_below (g := gb362) (Up.up BK362.out) hb)
                have n4_ := Aside0.mk (blk_below (g := gb381) (Up.up BK381.out) hb)
                have n5_ := Aside0.mk (blk_below (g := gb400) (Up.up BK400.out) hb)
                have n6_ := Aside0.mk (blk_below (g := gb418) (Up.up BK418.out) hb)
                have n7_ := Aside0.mk (below_step (by repeat (first | (with_reducible first | exact HB.out | apply below_alloc | apply pw_below_drewN | apply below_drew1 | refine below_set ?_ GE325.out | refine below_set ?_ GE326.out | refine below_set ?_ GE344.out | refine below_set ?_ GE362.out | refine below_set ?_ GE381.out | refine below_set ?_ GE400.out | refine below_set ?_ GE418.out) | exact HB.out)) hb)
                have n8_ := Aside0.mk (hbox)
                have n9_ := Aside0.mk ((by rw [hg]; exact (below_size (by repeat (first | (with_reducible first | exact HB.out | apply below_alloc | apply pw_below_drewN | apply below_drew1 | refine below_set ?_ GE325.out | refine below_set ?_ GE326.out | refine below_set ?_ GE344.out | refine below_set ?_ GE362.out | refine below_set ?_ GE381.out | refine below_set ?_ GE400.out | refine below_set ?_ GE418.out) | exact HB.out))) : w.heap.size ≤ gb438))
                have n10_ := Aside0.mk ((by rw [hg]; exact (below_size (by repeat (first | (with_reducible first | exact HB.out | apply below_alloc | apply pw_below_drewN | apply below_drew1 | refine below_set ?_ GE325.out | refine below_set ?_ GE326.out | refine below_set ?_ GE344.out | refine below_set ?_ GE362.out | refine below_set ?_ GE381.out | refine below_set ?_ GE400.out | refine below_set ?_ GE418.out) | exact HB.out))) : w.heap.size ≤ gb438))
                have n11_ := Aside0.mk ((by rw [hg]; exact Nat.ne_of_lt (blk_lt (g := gb325) (Up.up BK325.out)) : gb325 ≠ gb438))
                have n12_ := Aside0.mk ((by rw [hg]; exact Nat.ne_of_gt (blk_lt (g := gb325) (Up.up BK325.out)) : gb438 ≠ gb325))
                have n13_ := Aside0.mk ((by rw [hg]; exact Nat.ne_of_lt (blk_lt (g := gb326) (Up.up BK326.out)) : gb326 ≠ gb438))
                have n14_ := Aside0.mk ((by rw [hg]; exact Nat.ne_of_gt (blk_lt (g := gb326) (Up.up BK326.out)) : gb438 ≠ gb326))
                have n15_ := Aside0.mk ((by rw [hg]; exact Nat.ne_of_lt (blk_lt (g := gb344) (Up.up BK344.out)) : gb344 ≠ gb438))
                have n16_ := Aside0.mk ((by rw [hg]; exact Nat.ne_of_gt (blk_lt (g := gb344) (Up.up BK344.out)) : gb438 ≠ gb344))
                have n17_ := Aside0.mk ((by rw [hg]; exact Nat.ne_of_lt (blk_lt (g := gb362) (Up.up BK362.out)) : gb362 ≠ gb438))
                have n18_ := Aside0.mk ((by rw [hg]; exact Nat.ne_of_gt (blk_lt (g := gb362) (Up.up BK362.out)) : gb438 ≠ gb362))
                have n19_ := Aside0.mk ((by rw [hg]; exact Nat.ne_of_lt (blk_lt (g := gb381) (Up.up BK381.out)) : gb381 ≠ gb438))
                have n20_ := Aside0.mk ((by rw [hg]; exact Nat.ne_of_gt (blk_lt (g := gb381) (Up.up BK381.out)) : gb438 ≠ gb381))
                have n21_ := Aside0.mk ((by rw [hg]; exact Nat.ne_of_lt (blk_lt (g := gb400) (Up.up BK400.out)) : gb400 ≠ gb438))
                have n22_ := Aside0.mk ((by rw [hg]; exact Nat.ne_of_gt (blk_lt (g := gb400) (Up.up BK400.out)) : gb438 ≠ gb400))
                have n23_ := Aside0.mk ((by rw [hg]; exact Nat.ne_of_lt (blk_lt (g := gb418) (Up.up BK418.out)) : gb418 ≠ gb438))
                have n24_ := Aside0.mk ((by rw [hg]; exact Nat.ne_of_gt (blk_lt (g := gb418) (Up.up BK418.out)) : gb438 ≠ gb418))
                clear BK325
                clear BK326
                clear BK344
                clear BK362
                clear BK381
                clear BK400
                clear BK418
                clear HB
                have BK325 := n0_
                have BK326 := n1_
                have BK344 := n2_
                have BK362 := n3_
                have BK381 := n4_
                have BK400 := n5_
                have BK418 := n6_
                have HB := n7_
                have BK438 := n8_
                have GW438 := n9_
                have GE438 := n10_
                have NB325_438 := n11_
                have NB438_325 := n12_
                have NB326_438 := n13_
                have NB438_326 := n14_
                have NB344_438 := n15_
                have NB438_344 := n16_
                have NB362_438 := n17_
                have NB438_362 := n18_
                have NB381_438 := n19_
                have NB438_381 := n20_
                have NB400_438 := n21_
                have NB438_400 := n22_
                have NB418_438 := n23_
                have NB438_418 := n24_
                clear n0_ n1_ n2_ n3_ n4_ n5_ n6_ n7_ n8_ n9_ n10_ n11_ n12_ n13_ n14_ n15_ n16_ n17_ n18_ n19_ n20_ n21_ n22_ n23_ n24_
                clear hb hbox hg
                refine hK.out _ _ ⟨(blk_cell BK325.out 0).trans rfl, (blk_cell BK325.out 1).trans rfl, (blk_cell BK325.out 2).trans rfl, (blk_cell BK325.out 3).trans rfl, (blk_cell BK325.out 4).trans rfl, (blk_cell BK325.out 5).trans rfl, (blk_cell BK325.out 6).trans rfl, (blk_cell BK325.out 7).trans rfl, (blk_cell BK325.out 8).trans rfl, (blk_cell BK325.out 9).trans rfl, (blk_cell BK325.out 10).trans rfl, (blk_cell BK325.out 11).trans rfl, (blk_cell BK325.out 12).trans rfl⟩ (fun hHeld => ?_)
                clear hK K
                refine norm_ (a' := ?_) ?_ ?_
                rotate_left
                · show Act.put _ (some 29) _ = _
                  simp only [Act.put, List.setIfInBounds_toArray, List.set_cons_zero, List.set_cons_succ, i64_w, i32_w]
                  rfl
                refine one_ (i := 4) (N := some 212) #[true, true, true, true, true, false, false, false, false, true, false, false, false] rfl rfl (one_of HT_.out (by kernel_rfl)) (by decide) (fun K hK => ?_)
                refine goes_ Try.func20 (by kernel_rfl) rfl #[.agg #[.int .i64 a0_0, .int .i64 a0_1, .int .i64 a0_2, .int .i64 a0_3, .int .i64 a0_4, .int .i64 a0_5, .bool a0_6, .int .i64 a0_7, .int .i64 a0_8, .int .i64 a0_9, .int .i64 a0_10, .int .i64 a0_11, .int .i64 a0_12], .int .i64 (wrap64 (1 + t422))] (by rfl) rfl rfl (by (try simp only [List.map_toArray, List.map_cons, List.map_nil]); first | done | rfl | (simp only [List.length_drop, List.length_take]; rfl)) ?_
                with_reducible refine (loan_Close.calls kj156 a0_0 a0_1 a0_2 a0_3 a0_4 a0_5 a0_6 a0_7 a0_8 a0_9 a0_10 a0_11 a0_12 (wrap64 (1 + t422)) t423 t424 t425 t426 t427 t428 t429 t430 t431 t432 t433 t434 t435 t436 t437 _ A192.out).mono ?_
                rintro e w245 ⟨rfl, hb⟩
                refine ⟨_, rfl, ?_⟩
                have n0_ := Aside0.mk (blk_below (g := gb325) (Up.up BK325.out) hb)
                have n1_ := Aside0.mk (blk_below (g := gb326) (Up.up BK326.out) hb)
                have n2_ := Aside0.mk (blk_below (g := gb344) (Up.up BK344.out) hb)
                have n3_ := Aside0.mk (blk_below (g := gb362) (Up.up BK362.out) hb)
                have n4_ := Aside0.mk (blk_below (g := gb381) (Up.up BK381.out) hb)
                have n5_ := Aside0.mk (blk_below (g := gb400) (Up.up BK400.out) hb)
                have n6_ := Aside0.mk (blk_below (g := gb418) (Up.up BK418.out) hb)
                have n7_ := Aside0.mk (blk_below (g := gb438) (Up.up BK438.out) hb)
                have n8_ := Aside0.mk (below_step (by repeat (first | (with_reducible first | exact HB.out | apply below_alloc | apply pw_below_drewN | apply below_drew1 | refine below_set ?_ GE325.out | refine below_set ?_ GE326.out | refine below_set ?_ GE344.out | refine below_set ?_ GE362.out | refine below_set ?_ GE381.out | refine below_set ?_ GE400.out | refine below_set ?_ GE418.out | refine below_set ?_ GE438.out) | exact HB.out)) hb)
                clear BK325
                clear BK326
                clear BK344
                clear BK362
                clear BK381
                clear BK400
                clear BK418
                clear BK438
                clear HB
                have BK325 := n0_
                have BK326 := n1_
                have BK344 := n2_
                have BK362 := n3_
                have BK381 := n4_
                have BK400 := n5_
                have BK418 := n6_
                have BK438 := n7_
                have HB := n8_
                clear n0_ n1_ n2_ n3_ n4_ n5_ n6_ n7_ n8_
                (try clear hb)
                (try clear hb2)
                (try clear hk)
                (try clear hi)
                refine hK.out _ _ ⟨(blk_cell BK325.out 0).trans rfl, (blk_cell BK325.out 1).trans rfl, (blk_cell BK325.out 2).trans rfl, (blk_cell BK325.out 3).trans rfl, (blk_cell BK325.out 4).trans rfl, (blk_cell BK325.out 5).trans rfl, (blk_cell BK325.out 6).trans rfl, (blk_cell BK325.out 7).trans rfl, (blk_cell BK325.out 8).trans rfl, (blk_cell BK325.out 9).trans rfl, (blk_cell BK325.out 10).trans rfl, (blk_cell BK325.out 11).trans rfl, (blk_cell BK325.out 12).trans rfl⟩ (fun hHeld => ?_)
                clear hK K
                refine norm_ (a' := ?_) ?_ ?_
                rotate_left
                · show Act.put _ (some 212) _ = _
                  simp only [Act.put, List.setIfInBounds_toArray, List.set_cons_zero, List.set_cons_succ, i64_w, i32_w]
                  rfl
                refine pure_ (i := 5) (N := some 207) (v := ?_) (a' := ?_) #[true, true, true, true, true, true, false, false, false, true, false, false, false] rfl rfl (any_of HT_.out (by kernel_rfl)) (fun _ _ _ h => h) (Or.inl ⟨by rfl, ?_⟩) ?_ ?_
                rotate_left
                · intro w'
                  go_simp
                  with_reducible rfl
                rotate_left
                · simp only [Act.put, List.setIfInBounds_toArray, List.set_cons_zero, List.set_cons_succ, i64_w, i32_w]
                  rfl
                refine pure_ (i := 6) (N := some 213) (v := ?_) (a' := ?_) #[true, true, true, true, true, true, true, false, false, true, false, false, false] rfl rfl (any_of HT_.out (by kernel_rfl)) (fun _ _ _ h => h) (Or.inl ⟨by rfl, ?_⟩) ?_ ?_
                rotate_left
                · intro w'
                  go_simp
                  with_reducible rfl
                rotate_left
                · simp only [Act.put, List.setIfInBounds_toArray, List.set_cons_zero, List.set_cons_succ, i64_w, i32_w]
                  rfl
                refine pure_ (i := 7) (N := some 214) (v := ?_) (a' := ?_) #[true, true, true, true, true, true, true, true, false, true, false, false, false] rfl rfl (any_of HT_.out (by kernel_rfl)) (fun _ _ _ h => h) (Or.inl ⟨by rfl, ?_⟩) ?_ ?_
                rotate_left
                · intro w'
                  go_simp
                  with_reducible rfl
                rotate_left
                · simp only [Act.put, List.setIfInBounds_toArray, List.set_cons_zero, List.set_cons_succ, i64_w, i32_w]
                  rfl
                refine pure_ (i := 8) (N := some 215) (v := ?_) (a' := ?_) #[true, true, true, true, true, true, true, true, true, true, false, false, false] rfl rfl (any_of HT_.out (by kernel_rfl)) (fun _ _ _ h => h) (Or.inl ⟨by rfl, ?_⟩) ?_ ?_
                rotate_left
                · intro w'
                  go_simp
                  with_reducible rfl
                rotate_left
                · simp only [Act.put, List.setIfInBounds_toArray, List.set_cons_zero, List.set_cons_succ, i64_w, i32_w]
                  rfl
                exact norm_ (by simp only [putAll, Act.put, List.setIfInBounds_toArray, List.set_cons_zero, List.set_cons_succ]) (hCont (gb438) _ ⟨hHeld, (Up.up BK325.out), (Up.up BK326.out), (Up.up BK344.out), (Up.up BK362.out), (Up.up BK381.out), (Up.up BK400.out), (Up.up BK418.out), (Up.up BK438.out), GW438.out, GE438.out, NB325_438.out, NB438_325.out, NB326_438.out, NB438_326.out, NB344_438.out, NB438_344.out, NB362_438.out, NB438_362.out, NB381_438.out, NB438_381.out, NB400_438.out, NB438_400.out, NB418_438.out, NB438_418.out, (by repeat (first | (with_reducible first | exact HB.out | apply below_alloc | apply pw_below_drewN | apply below_drew1 | refine below_set ?_ GE325.out | refine below_set ?_ GE326.out | refine below_set ?_ GE344.out | refine below_set ?_ GE362.out | refine below_set ?_ GE381.out | refine below_set ?_ GE400.out | refine below_set ?_ GE418.out | refine below_set ?_ GE438.out) | exact HB.out))⟩)
            · skip
              refine box_step ?hg (N := 29) ?hd (cs := #[.int .i64 0, .int .i64 0, .int .i64 0, .int .i64 0, .int .i64 0, .int .i64 0, .bool false, .int .i64 0, .int .i64 0, .int .i64 0, .int .i64 0, .int .i64 0, .int .i64 0]) (t := 23) ?hr ?_; (case hd => rfl); (case hg => rfl); (case hr => first | (go_simp; done) | (go_simp; rfl))
              intro gb438 hg w244 hbox hb
              have n0_ := Aside0.mk (blk_below (g := gb325) (Up.up BK325.out) hb)
              have n1_ := Aside0.mk (blk_below (g := gb326) (Up.up BK326.out) hb)
              have n2_ := Aside0.mk (blk_below (g := gb344) (Up.up BK344.out) hb)
              have n3_ := Aside0.mk (blk_below (g := gb362) (Up.up BK362.out) hb)
              have n4_ := Aside0.mk (blk_below (g := gb381) (Up.up BK381.out) hb)
              have n5_ := Aside0.mk (blk_below (g := gb400) (Up.up BK400.out) hb)
              have n6_ := Aside0.mk (blk_below (g := gb418) (Up.up BK418.out) hb)
              have n7_ := Aside0.mk (below_step (by repeat (first | (with_reducible first | exact HB.out | apply below_alloc | apply pw_below_drewN | apply below_drew1 | refine below_set ?_ GE325.out | refine below_set ?_ GE326.out | refine below_set ?_ GE344.out | refine below_set ?_ GE362.out | refine below_set ?_ GE381.out | refine below_set ?_ GE400.out | refine below_set ?_ GE418.out) | exact HB.out)) hb)
              have n8_ := Aside0.mk (hbox)
              have n9_ := Aside0.mk ((by rw [hg]; exact (below_size (by repeat (first | (with_reducible first | exact HB.out | apply below_alloc | apply pw_below_drewN | apply below_drew1 | refine below_set ?_ GE325.out | refine below_set ?_ GE326.out | refine below_set ?_ GE344.out | refine below_set ?_ GE362.out | refine below_set ?_ GE381.out | refine below_set ?_ GE400.out | refine below_set ?_ GE418.out) | exact HB.out))) : w.heap.size ≤ gb438))
              have n10_ := Aside0.mk ((by rw [hg]; exact (below_size (by repeat (first | (with_reducible first | exact HB.out | apply below_alloc | apply pw_below_drewN | apply below_drew1 | refine below_set ?_ GE325.out | refine below_set ?_ GE326.out | refine below_set ?_ GE344.out | refine below_set ?_ GE362.out | refine below_set ?_ GE381.out | refine below_set ?_ GE400.out | refine below_set ?_ GE418.out) | exact HB.out))) : w.heap.size ≤ gb438))
              have n11_ := Aside0.mk ((by rw [hg]; exact Nat.ne_of_lt (blk_lt (g := gb325) (Up.up BK325.out)) : gb325 ≠ gb438))
              have n12_ := Aside0.mk ((by rw [hg]; exact Nat.ne_of_gt (blk_lt (g := gb325) (Up.up BK325.out)) : gb438 ≠ gb325))
              have n13_ := Aside0.mk ((by rw [hg]; exact Nat.ne_of_lt (blk_lt (g := gb326) (Up.up BK326.out)) : gb326 ≠ gb438))
              have n14_ := Aside0.mk ((by rw [hg]; exact Nat.ne_of_gt (blk_lt (g := gb326) (Up.up BK326.out)) : gb438 ≠ gb326))
              have n15_ := Aside0.mk ((by rw [hg]; exact Nat.ne_of_lt (blk_lt (g := gb344) (Up.up BK344.out)) : gb344 ≠ gb438))
              have n16_ := Aside0.mk ((by rw [hg]; exact Nat.ne_of_gt (blk_lt (g := gb344) (Up.up BK344.out)) : gb438 ≠ gb344))
              have n17_ := Aside0.mk ((by rw [hg]; exact Nat.ne_of_lt (blk_lt (g := gb362) (Up.up BK362.out)) : gb362 ≠ gb438))
              have n18_ := Aside0.mk ((by rw [hg]; exact Nat.ne_of_gt (blk_lt (g := gb362) (Up.up BK362.out)) : gb438 ≠ gb362))
              have n19_ := Aside0.mk ((by rw [hg]; exact Nat.ne_of_lt (blk_lt (g := gb381) (Up.up BK381.out)) : gb381 ≠ gb438))
              have n20_ := Aside0.mk ((by rw [hg]; exact Nat.ne_of_gt (blk_lt (g := gb381) (Up.up BK381.out)) : gb438 ≠ gb381))
              have n21_ := Aside0.mk ((by rw [hg]; exact Nat.ne_of_lt (blk_lt (g := gb400) (Up.up BK400.out)) : gb400 ≠ gb438))
              have n22_ := Aside0.mk ((by rw [hg]; exact Nat.ne_of_gt (blk_lt (g := gb400) (Up.up BK400.out)) : gb438 ≠ gb400))
              have n23_ := Aside0.mk ((by rw [hg]; exact Nat.ne_of_lt (blk_lt (g := gb418) (Up.up BK418.out)) : gb418 ≠ gb438))
              have n24_ := Aside0.mk ((by rw [hg]; exact Nat.ne_of_gt (blk_lt (g := gb418) (Up.up BK418.out)) : gb438 ≠ gb418))
              clear BK325
              clear BK326
              clear BK344
              clear BK362
              clear BK381
              clear BK400
              clear BK418
              clear HB
              have BK325 := n0_
              have BK326 := n1_
              have BK344 := n2_
              have BK362 := n3_
              have BK381 := n4_
              have BK400 := n5_
              have BK418 := n6_
              have HB := n7_
              have BK438 := n8_
              have GW438 := n9_
              have GE438 := n10_
              have NB325_438 := n11_
              have NB438_325 := n12_
              have NB326_438 := n13_
              have NB438_326 := n14_
              have NB344_438 := n15_
              have NB438_344 := n16_
              have NB362_438 := n17_
              have NB438_362 := n18_
              have NB381_438 := n19_
              have NB438_381 := n20_
              have NB400_438 := n21_
              have NB438_400 := n22_
              have NB418_438 := n23_
              have NB438_418 := n24_
              clear n0_ n1_ n2_ n3_ n4_ n5_ n6_ n7_ n8_ n9_ n10_ n11_ n12_ n13_ n14_ n15_ n16_ n17_ n18_ n19_ n20_ n21_ n22_ n23_ n24_
              clear hb hbox hg
              refine hK.out _ _ ⟨(blk_cell BK325.out 0).trans rfl, (blk_cell BK325.out 1).trans rfl, (blk_cell BK325.out 2).trans rfl, (blk_cell BK325.out 3).trans rfl, (blk_cell BK325.out 4).trans rfl, (blk_cell BK325.out 5).trans rfl, (blk_cell BK325.out 6).trans rfl, (blk_cell BK325.out 7).trans rfl, (blk_cell BK325.out 8).trans rfl, (blk_cell BK325.out 9).trans rfl, (blk_cell BK325.out 10).trans rfl, (blk_cell BK325.out 11).trans rfl, (blk_cell BK325.out 12).trans rfl⟩ (fun hHeld => ?_)
              clear hK K
              refine norm_ (a' := ?_) ?_ ?_
              rotate_left
              · show Act.put _ (some 29) _ = _
                simp only [Act.put, List.setIfInBounds_toArray, List.set_cons_zero, List.set_cons_succ, i64_w, i32_w]
                rfl
              refine one_ (i := 2) (N := some 210) #[true, true, true, false, false, false, false, false, false, true, false, false, false] rfl rfl (one_of HT_.out (by kernel_rfl)) (by decide) (fun K hK => ?_)
              refine goes_ Try.func21 (by kernel_rfl) rfl #[.int .i64 a2, .int .i64 4] (by rfl) rfl rfl (by (try simp only [List.map_toArray, List.map_cons, List.map_nil]); first | done | rfl | (simp only [List.length_drop, List.length_take]; rfl)) ?_
              with_reducible refine (annuitykeep_Mod.calls a2 4 t422 _ A191.out).mono ?_
              rintro e w' ⟨rfl, ⟨nd, rfl⟩⟩
              refine ⟨_, rfl, ?_⟩
              refine hK.out _ _ ⟨(blk_cell BK325.out 0).trans rfl, (blk_cell BK325.out 1).trans rfl, (blk_cell BK325.out 2).trans rfl, (blk_cell BK325.out 3).trans rfl, (blk_cell BK325.out 4).trans rfl, (blk_cell BK325.out 5).trans rfl, (blk_cell BK325.out 6).trans rfl, (blk_cell BK325.out 7).trans rfl, (blk_cell BK325.out 8).trans rfl, (blk_cell BK325.out 9).trans rfl, (blk_cell BK325.out 10).trans rfl, (blk_cell BK325.out 11).trans rfl, (blk_cell BK325.out 12).trans rfl⟩ (fun hHeld => ?_)
              clear hK K
              refine norm_ (a' := ?_) ?_ ?_
              rotate_left
              · show Act.put _ (some 210) _ = _
                simp only [Act.put, List.setIfInBounds_toArray, List.set_cons_zero, List.set_cons_succ, i64_w, i32_w]
                rfl
              refine pure_ (i := 3) (N := some 211) (v := ?_) (a' := ?_) #[true, true, true, true, false, false, false, false, false, true, false, false, false] rfl rfl (any_of HT_.out (by kernel_rfl)) (fun _ _ _ h => h) (Or.inl ⟨by rfl, ?_⟩) ?_ ?_
              rotate_left
              · intro w'
                go_simp
                with_reducible rfl
              rotate_left
              · simp only [Act.put, List.setIfInBounds_toArray, List.set_cons_zero, List.set_cons_succ, i64_w, i32_w]
                rfl
              refine one_ (i := 4) (N := some 212) #[true, true, true, true, true, false, false, false, false, true, false, false, false] rfl rfl (one_of HT_.out (by kernel_rfl)) (by decide) (fun K hK => ?_)
              refine goes_ Try.func20 (by kernel_rfl) rfl #[.agg #[.int .i64 a0_0, .int .i64 a0_1, .int .i64 a0_2, .int .i64 a0_3, .int .i64 a0_4, .int .i64 a0_5, .bool a0_6, .int .i64 a0_7, .int .i64 a0_8, .int .i64 a0_9, .int .i64 a0_10, .int .i64 a0_11, .int .i64 a0_12], .int .i64 (wrap64 (1 + t422))] (by rfl) rfl rfl (by (try simp only [List.map_toArray, List.map_cons, List.map_nil]); first | done | rfl | (simp only [List.length_drop, List.length_take]; rfl)) ?_
              with_reducible refine (loan_Close.calls kj156 a0_0 a0_1 a0_2 a0_3 a0_4 a0_5 a0_6 a0_7 a0_8 a0_9 a0_10 a0_11 a0_12 (wrap64 (1 + t422)) t423 t424 t425 t426 t427 t428 t429 t430 t431 t432 t433 t434 t435 t436 t437 _ A192.out).mono ?_
              rintro e w245 ⟨rfl, hb⟩
              refine ⟨_, rfl, ?_⟩
              have n0_ := Aside0.mk (blk_below (g := gb325) (Up.up BK325.out) hb)
              have n1_ := Aside0.mk (blk_below (g := gb326) (Up.up BK326.out) hb)
              have n2_ := Aside0.mk (blk_below (g := gb344) (Up.up BK344.out) hb)
              have n3_ := Aside0.mk (blk_below (g := gb362) (Up.up BK362.out) hb)
              have n4_ := Aside0.mk (blk_below (g := gb381) (Up.up BK381.out) hb)
              have n5_ := Aside0.mk (blk_below (g := gb400) (Up.up BK400.out) hb)
              have n6_ := Aside0.mk (blk_below (g := gb418) (Up.up BK418.out) hb)
              have n7_ := Aside0.mk (blk_below (g := gb438) (Up.up BK438.out) hb)
              have n8_ := Aside0.mk (below_step (by repeat (first | (with_reducible first | exact HB.out | apply below_alloc | apply pw_below_drewN | apply below_drew1 | refine below_set ?_ GE325.out | refine below_set ?_ GE326.out | refine below_set ?_ GE344.out | refine below_set ?_ GE362.out | refine below_set ?_ GE381.out | refine below_set ?_ GE400.out | refine below_set ?_ GE418.out | refine below_set ?_ GE438.out) | exact HB.out)) hb)
              clear BK325
              clear BK326
              clear BK344
              clear BK362
              clear BK381
              clear BK400
              clear BK418
              clear BK438
              clear HB
              have BK325 := n0_
              have BK326 := n1_
              have BK344 := n2_
              have BK362 := n3_
              have BK381 := n4_
              have BK400 := n5_
              have BK418 := n6_
              have BK438 := n7_
              have HB := n8_
              clear n0_ n1_ n2_ n3_ n4_ n5_ n6_ n7_ n8_
              (try clear hb)
              (try clear hb2)
              (try clear hk)
              (try clear hi)
              refine hK.out _ _ ⟨(blk_cell BK325.out 0).trans rfl, (blk_cell BK325.out 1).trans rfl, (blk_cell BK325.out 2).trans rfl, (blk_cell BK325.out 3).trans rfl, (blk_cell BK325.out 4).trans rfl, (blk_cell BK325.out 5).trans rfl, (blk_cell BK325.out 6).trans rfl, (blk_cell BK325.out 7).trans rfl, (blk_cell BK325.out 8).trans rfl, (blk_cell BK325.out 9).trans rfl, (blk_cell BK325.out 10).trans rfl, (blk_cell BK325.out 11).trans rfl, (blk_cell BK325.out 12).trans rfl⟩ (fun hHeld => ?_)
              clear hK K
              refine norm_ (a' := ?_) ?_ ?_
              rotate_left
              · show Act.put _ (some 212) _ = _
                simp only [Act.put, List.setIfInBounds_toArray, List.set_cons_zero, List.set_cons_succ, i64_w, i32_w]
                rfl
              refine pure_ (i := 5) (N := some 207) (v := ?_) (a' := ?_) #[true, true, true, true, true, true, false, false, false, true, false, false, false] rfl rfl (any_of HT_.out (by kernel_rfl)) (fun _ _ _ h => h) (Or.inl ⟨by rfl, ?_⟩) ?_ ?_
              rotate_left
              · intro w'
                go_simp
                with_reducible rfl
              rotate_left
              · simp only [Act.put, List.setIfInBounds_toArray, List.set_cons_zero, List.set_cons_succ, i64_w, i32_w]
                rfl
              refine pure_ (i := 6) (N := some 213) (v := ?_) (a' := ?_) #[true, true, true, true, true, true, true, false, false, true, false, false, false] rfl rfl (any_of HT_.out (by kernel_rfl)) (fun _ _ _ h => h) (Or.inl ⟨by rfl, ?_⟩) ?_ ?_
              rotate_left
              · intro w'
                go_simp
                with_reducible rfl
              rotate_left
              · simp only [Act.put, List.setIfInBounds_toArray, List.set_cons_zero, List.set_cons_succ, i64_w, i32_w]
                rfl
              refine pure_ (i := 7) (N := some 214) (v := ?_) (a' := ?_) #[true, true, true, true, true, true, true, true, false, true, false, false, false] rfl rfl (any_of HT_.out (by kernel_rfl)) (fun _ _ _ h => h) (Or.inl ⟨by rfl, ?_⟩) ?_ ?_
              rotate_left
              · intro w'
                go_simp
                with_reducible rfl
              rotate_left
              · simp only [Act.put, List.setIfInBounds_toArray, List.set_cons_zero, List.set_cons_succ, i64_w, i32_w]
                rfl
              refine pure_ (i := 8) (N := some 215) (v := ?_) (a' := ?_) #[true, true, true, true, true, true, true, true, true, true, false, false, false] rfl rfl (any_of HT_.out (by kernel_rfl)) (fun _ _ _ h => h) (Or.inl ⟨by rfl, ?_⟩) ?_ ?_
              rotate_left
              · intro w'
                go_simp
                with_reducible rfl
              rotate_left
              · simp only [Act.put, List.setIfInBounds_toArray, List.set_cons_zero, List.set_cons_succ, i64_w, i32_w]
                rfl
              exact norm_ (by simp only [putAll, Act.put, List.setIfInBounds_toArray, List.set_cons_zero, List.set_cons_succ]) (hCont (gb438) _ ⟨hHeld, (Up.up BK325.out), (Up.up BK326.out), (Up.up BK344.out), (Up.up BK362.out), (Up.up BK381.out), (Up.up BK400.out), (Up.up BK418.out), (Up.up BK438.out), GW438.out, GE438.out, NB325_438.out, NB438_325.out, NB326_438.out, NB438_326.out, NB344_438.out, NB438_344.out, NB362_438.out, NB438_362.out, NB381_438.out, NB438_381.out, NB400_438.out, NB438_400.out, NB418_438.out, NB438_418.out, (by repeat (first | (with_reducible first | exact HB.out | apply below_alloc | apply pw_below_drewN | apply below_drew1 | refine below_set ?_ GE325.out | refine below_set ?_ GE326.out | refine below_set ?_ GE344.out | refine below_set ?_ GE362.out | refine below_set ?_ GE381.out | refine below_set ?_ GE400.out | refine below_set ?_ GE418.out | refine below_set ?_ GE438.out) | exact HB.out))⟩)
          rintro gb438 w246 ⟨hS_, h0_, h1_, h2_, h3_, h4_, h5_, h6_, h7_, h8_, h9_, h10_, h11_, h12_, h13_, h14_, h15_, h16_, h17_, h18_, h19_, h20_, h21_, h22_, h23_, h24_⟩
          have n0_ : Aside0 (w246.heap[gb325]? = some (.cells #[.int .i64 a0_0, .int .i64 a0_1, .int .i64 a0_2, .int .i64 a0_3, .int .i64 a0_4, .int .i64 a0_5, .bool a0_6, .int .i64 a0_7, .int .i64 a0_8, .int .i64 a0_9, .int .i64 a0_10, .int .i64 a0_11, .int .i64 a0_12] 23 (0, 0))) := ⟨h0_⟩
          have n1_ : Aside0 (w246.heap[gb326]? = some (.cells #[.int .i64 a1_0, .int .i64 a1_1, .int .i64 a1_2, .int .i64 a1_3] 35 (0, 0))) := ⟨h1_⟩
          have n2_ : Aside0 (w246.heap[gb344]? = some (.cells #[.int .i64 t330, .int .i64 t331, .int .i64 t332, .int .i64 t333, .int .i64 t334, .int .i64 t335, .bool t336, .int .i64 t337, .int .i64 t338, .int .i64 t339, .int .i64 t340, .int .i64 t341, .int .i64 t342] 23 (0, 0))) := ⟨h2_⟩
          have n3_ : Aside0 (w246.heap[gb362]? = some (.cells #[.int .i64 t348, .int .i64 t349, .int .i64 t350, .int .i64 t351, .int .i64 t352, .int .i64 t353, .bool t354, .int .i64 t355, .int .i64 t356, .int .i64 t357, .int .i64 t358, .int .i64 t359, .int .i64 t360] 23 (0, 0))) := ⟨h3_⟩
          have n4_ : Aside0 (w246.heap[gb381]? = some (.cells #[.int .i64 t367, .int .i64 t368, .int .i64 t369, .int .i64 t370, .int .i64 t371, .int .i64 t372, .bool t373, .int .i64 t374, .int .i64 t375, .int .i64 t376, .int .i64 t377, .int .i64 t378, .int .i64 t379] 23 (0, 0))) := ⟨h4_⟩
          have n5_ : Aside0 (w246.heap[gb400]? = some (.cells #[.int .i64 t386, .int .i64 t387, .int .i64 t388, .int .i64 t389, .int .i64 t390, .int .i64 t391, .bool t392, .int .i64 t393, .int .i64 t394, .int .i64 t395, .int .i64 t396, .int .i64 t397, .int .i64 t398] 23 (0, 0))) := ⟨h5_⟩
          have n6_ : Aside0 (w246.heap[gb418]? = some (.cells #[.int .i64 t404, .int .i64 t405, .int .i64 t406, .int .i64 t407, .int .i64 t408, .int .i64 t409, .bool t410, .int .i64 t411, .int .i64 t412, .int .i64 t413, .int .i64 t414, .int .i64 t415, .int .i64 t416] 23 (0, 0))) := ⟨h6_⟩
          have n7_ : Aside0 (w246.heap[gb438]? = some (.cells #[.int .i64 0, .int .i64 0, .int .i64 0, .int .i64 0, .int .i64 0, .int .i64 0, .bool false, .int .i64 0, .int .i64 0, .int .i64 0, .int .i64 0, .int .i64 0, .int .i64 0] 23 (0, 0))) := ⟨h7_⟩
          have n8_ : Aside0 (w.heap.size ≤ gb438) := ⟨h8_⟩
          have n9_ : Aside0 (w.heap.size ≤ gb438) := ⟨h9_⟩
          have n10_ : Aside0 (gb325 ≠ gb438) := ⟨h10_⟩
          have n11_ : Aside0 (gb438 ≠ gb325) := ⟨h11_⟩
          have n12_ : Aside0 (gb326 ≠ gb438) := ⟨h12_⟩
          have n13_ : Aside0 (gb438 ≠ gb326) := ⟨h13_⟩
          have n14_ : Aside0 (gb344 ≠ gb438) := ⟨h14_⟩
          have n15_ : Aside0 (gb438 ≠ gb344) := ⟨h15_⟩
          have n16_ : Aside0 (gb362 ≠ gb438) := ⟨h16_⟩
          have n17_ : Aside0 (gb438 ≠ gb362) := ⟨h17_⟩
          have n18_ : Aside0 (gb381 ≠ gb438) := ⟨h18_⟩
          have n19_ : Aside0 (gb438 ≠ gb381) := ⟨h19_⟩
          have n20_ : Aside0 (gb400 ≠ gb438) := ⟨h20_⟩
          have n21_ : Aside0 (gb438 ≠ gb400) := ⟨h21_⟩
          have n22_ : Aside0 (gb418 ≠ gb438) := ⟨h22_⟩
          have n23_ : Aside0 (gb438 ≠ gb418) := ⟨h23_⟩
          have n24_ : Aside0 (Below w.heap.size w w246) := ⟨h24_⟩
          clear BK325
          clear BK326
          clear BK344
          clear BK362
          clear BK381
          clear BK400
          clear BK418
          clear HB
          clear h0_ h1_ h2_ h3_ h4_ h5_ h6_ h7_ h8_ h9_ h10_ h11_ h12_ h13_ h14_ h15_ h16_ h17_ h18_ h19_ h20_ h21_ h22_ h23_ h24_
          have BK325 := n0_
          have BK326 := n1_
          have BK344 := n2_
          have BK362 := n3_
          have BK381 := n4_
          have BK400 := n5_
          have BK418 := n6_
          have BK438 := n7_
          have GW438 := n8_
          have GE438 := n9_
          have NB325_438 := n10_
          have NB438_325 := n11_
          have NB326_438 := n12_
          have NB438_326 := n13_
          have NB344_438 := n14_
          have NB438_344 := n15_
          have NB362_438 := n16_
          have NB438_362 := n17_
          have NB381_438 := n18_
          have NB438_381 := n19_
          have NB400_438 := n20_
          have NB438_400 := n21_
          have NB418_438 := n22_
          have NB438_418 := n23_
          have HB := n24_
          clear n0_ n1_ n2_ n3_ n4_ n5_ n6_ n7_ n8_ n9_ n10_ n11_ n12_ n13_ n14_ n15_ n16_ n17_ n18_ n19_ n20_ n21_ n22_ n23_ n24_
          have hHeld : w246.cell? ⟨gb325, 0, none⟩ = some (.int .i64 a0_0) ∧ w246.cell? ⟨gb325, 1, none⟩ = some (.int .i64 a0_1) ∧ w246.cell? ⟨gb325, 2, none⟩ = some (.int .i64 a0_2) ∧ w246.cell? ⟨gb325, 3, none⟩ = some (.int .i64 a0_3) ∧ w246.cell? ⟨gb325, 4, none⟩ = some (.int .i64 a0_4) ∧ w246.cell? ⟨gb325, 5, none⟩ = some (.int .i64 a0_5) ∧ w246.cell? ⟨gb325, 6, none⟩ = some (.bool a0_6) ∧ w246.cell? ⟨gb325, 7, none⟩ = some (.int .i64 a0_7) ∧ w246.cell? ⟨gb325, 8, none⟩ = some (.int .i64 a0_8) ∧ w246.cell? ⟨gb325, 9, none⟩ = some (.int .i64 a0_9) ∧ w246.cell? ⟨gb325, 10, none⟩ = some (.int .i64 a0_10) ∧ w246.cell? ⟨gb325, 11, none⟩ = some (.int .i64 a0_11) ∧ w246.cell? ⟨gb325, 12, none⟩ = some (.int .i64 a0_12) := hS_
          refine norm_ (a' := ?_) ?_ ?_
          rotate_left
          · simp only [putAll, Act.put, List.setIfInBounds_toArray, List.set_cons_zero, List.set_cons_succ]
            rfl
          refine one_ (i := 10) (N := none) #[true, true, true, true, true, true, true, true, true, true, true, false, false] rfl rfl (one_of HT_.out (by kernel_rfl)) (by decide) (fun K hK => ?_)
          have hs247 : w246.cell? ⟨gb438, 0, none⟩ = some (.int .i64 0) := (blk_cell BK438.out 0).trans rfl
          have hfs247 := blk_frozen BK438.out 0
          have hns247_0 := NB325_438.out
          have hns247_1 := NB326_438.out
          have hns247_2 := NB344_438.out
          have hns247_3 := NB362_438.out
          have hns247_4 := NB381_438.out
          have hns247_5 := NB400_438.out
          have hns247_6 := NB418_438.out
          have hms247_0 := NB438_325.out
          have hms247_1 := NB438_326.out
          have hms247_2 := NB438_344.out
          have hms247_3 := NB438_362.out
          have hms247_4 := NB438_381.out
          have hms247_5 := NB438_400.out
          have hms247_6 := NB438_418.out
          have hs248 : w246.cell? ⟨gb438, 1, none⟩ = some (.int .i64 0) := (blk_cell BK438.out 1).trans rfl
          have hfs248 := blk_frozen BK438.out 1
          have hns248_0 := NB325_438.out
          have hns248_1 := NB326_438.out
          have hns248_2 := NB344_438.out
          have hns248_3 := NB362_438.out
          have hns248_4 := NB381_438.out
          have hns248_5 := NB400_438.out
          have hns248_6 := NB418_438.out
          have hms248_0 := NB438_325.out
          have hms248_1 := NB438_326.out
          have hms248_2 := NB438_344.out
          have hms248_3 := NB438_362.out
          have hms248_4 := NB438_381.out
          have hms248_5 := NB438_400.out
          have hms248_6 := NB438_418.out
          have hs249 : w246.cell? ⟨gb438, 2, none⟩ = some (.int .i64 0) := (blk_cell BK438.out 2).trans rfl
          have hfs249 := blk_frozen BK438.out 2
          have hns249_0 := NB325_438.out
          have hns249_1 := NB326_438.out
          have hns249_2 := NB344_438.out
          have hns249_3 := NB362_438.out
          have hns249_4 := NB381_438.out
          have hns249_5 := NB400_438.out
          have hns249_6 := NB418_438.out
          have hms249_0 := NB438_325.out
          have hms249_1 := NB438_326.out
          have hms249_2 := NB438_344.out
          have hms249_3 := NB438_362.out
          have hms249_4 := NB438_381.out
          have hms249_5 := NB438_400.out
          have hms249_6 := NB438_418.out
          have hs250 : w246.cell? ⟨gb438, 3, none⟩ = some (.int .i64 0) := (blk_cell BK438.out 3).trans rfl
          have hfs250 := blk_frozen BK438.out 3
          have hns250_0 := NB325_438.out
          have hns250_1 := NB326_438.out
          have hns250_2 := NB344_438.out
          have hns250_3 := NB362_438.out
          have hns250_4 := NB381_438.out
          have hns250_5 := NB400_438.out
          have hns250_6 := NB418_438.out
          have hms250_0 := NB438_325.out
          have hms250_1 := NB438_326.out
          have hms250_2 := NB438_344.out
          have hms250_3 := NB438_362.out
          have hms250_4 := NB438_381.out
          have hms250_5 := NB438_400.out
          have hms250_6 := NB438_418.out
          have hs251 : w246.cell? ⟨gb438, 4, none⟩ = some (.int .i64 0) := (blk_cell BK438.out 4).trans rfl
          have hfs251 := blk_frozen BK438.out 4
          have hns251_0 := NB325_438.out
          have hns251_1 := NB326_438.out
          have hns251_2 := NB344_438.out
          have hns251_3 := NB362_438.out
          have hns251_4 := NB381_438.out
          have hns251_5 := NB400_438.out
          have hns251_6 := NB418_438.out
          have hms251_0 := NB438_325.out
          have hms251_1 := NB438_326.out
          have hms251_2 := NB438_344.out
          have hms251_3 := NB438_362.out
          have hms251_4 := NB438_381.out
          have hms251_5 := NB438_400.out
          have hms251_6 := NB438_418.out
          have hs252 : w246.cell? ⟨gb438, 5, none⟩ = some (.int .i64 0) := (blk_cell BK438.out 5).trans rfl
          have hfs252 := blk_frozen BK438.out 5
          have hns252_0 := NB325_438.out
          have hns252_1 := NB326_438.out
          have hns252_2 := NB344_438.out
          have hns252_3 := NB362_438.out
          have hns252_4 := NB381_438.out
          have hns252_5 := NB400_438.out
          have hns252_6 := NB418_438.out
          have hms252_0 := NB438_325.out
          have hms252_1 := NB438_326.out
          have hms252_2 := NB438_344.out
          have hms252_3 := NB438_362.out
          have hms252_4 := NB438_381.out
          have hms252_5 := NB438_400.out
          have hms252_6 := NB438_418.out
          have hs253 : w246.cell? ⟨gb438, 6, none⟩ = some (.bool false) := (blk_cell BK438.out 6).trans rfl
          have hfs253 := blk_frozen BK438.out 6
          have hns253_0 := NB325_438.out
          have hns253_1 := NB326_438.out
          have hns253_2 := NB344_438.out
          have hns253_3 := NB362_438.out
          have hns253_4 := NB381_438.out
          have hns253_5 := NB400_438.out
          have hns253_6 := NB418_438.out
          have hms253_0 := NB438_325.out
          have hms253_1 := NB438_326.out
          have hms253_2 := NB438_344.out
          have hms253_3 := NB438_362.out
          have hms253_4 := NB438_381.out
          have hms253_5 := NB438_400.out
          have hms253_6 := NB438_418.out
          have hs254 : w246.cell? ⟨gb438, 7, none⟩ = some (.int .i64 0) := (blk_cell BK438.out 7).trans rfl
          have hfs254 := blk_frozen BK438.out 7
          have hns254_0 := NB325_438.out
          have hns254_1 := NB326_438.out
          have hns254_2 := NB344_438.out
          have hns254_3 := NB362_438.out
          have hns254_4 := NB381_438.out
          have hns254_5 := NB400_438.out
          have hns254_6 := NB418_438.out
          have hms254_0 := NB438_325.out
          have hms254_1 := NB438_326.out
          have hms254_2 := NB438_344.out
          have hms254_3 := NB438_362.out
          have hms254_4 := NB438_381.out
          have hms254_5 := NB438_400.out
          have hms254_6 := NB438_418.out
          have hs255 : w246.cell? ⟨gb438, 8, none⟩ = some (.int .i64 0) := (blk_cell BK438.out 8).trans rfl
          have hfs255 := blk_frozen BK438.out 8
          have hns255_0 := NB325_438.out
          have hns255_1 := NB326_438.out
          have hns255_2 := NB344_438.out
          have hns255_3 := NB362_438.out
          have hns255_4 := NB381_438.out
          have hns255_5 := NB400_438.out
          have hns255_6 := NB418_438.out
          have hms255_0 := NB438_325.out
          have hms255_1 := NB438_326.out
          have hms255_2 := NB438_344.out
          have hms255_3 := NB438_362.out
          have hms255_4 := NB438_381.out
          have hms255_5 := NB438_400.out
          have hms255_6 := NB438_418.out
          have hs256 : w246.cell? ⟨gb438, 9, none⟩ = some (.int .i64 0) := (blk_cell BK438.out 9).trans rfl
          have hfs256 := blk_frozen BK438.out 9
          have hns256_0 := NB325_438.out
          have hns256_1 := NB326_438.out
          have hns256_2 := NB344_438.out
          have hns256_3 := NB362_438.out
          have hns256_4 := NB381_438.out
          have hns256_5 := NB400_438.out
          have hns256_6 := NB418_438.out
          have hms256_0 := NB438_325.out
          have hms256_1 := NB438_326.out
          have hms256_2 := NB438_344.out
          have hms256_3 := NB438_362.out
          have hms256_4 := NB438_381.out
          have hms256_5 := NB438_400.out
          have hms256_6 := NB438_418.out
          have hs257 : w246.cell? ⟨gb438, 10, none⟩ = some (.int .i64 0) := (blk_cell BK438.out 10).trans rfl
          have hfs257 := blk_frozen BK438.out 10
          have hns257_0 := NB325_438.out
          have hns257_1 := NB326_438.out
          have hns257_2 := NB344_438.out
          have hns257_3 := NB362_438.out
          have hns257_4 := NB381_438.out
          have hns257_5 := NB400_438.out
          have hns257_6 := NB418_438.out
          have hms257_0 := NB438_325.out
          have hms257_1 := NB438_326.out
          have hms257_2 := NB438_344.out
          have hms257_3 := NB438_362.out
          have hms257_4 := NB438_381.out
          have hms257_5 := NB438_400.out
          have hms257_6 := NB438_418.out
          have hs258 : w246.cell? ⟨gb438, 11, none⟩ = some (.int .i64 0) := (blk_cell BK438.out 11).trans rfl
          have hfs258 := blk_frozen BK438.out 11
          have hns258_0 := NB325_438.out
          have hns258_1 := NB326_438.out
          have hns258_2 := NB344_438.out
          have hns258_3 := NB362_438.out
          have hns258_4 := NB381_438.out
          have hns258_5 := NB400_438.out
          have hns258_6 := NB418_438.out
          have hms258_0 := NB438_325.out
          have hms258_1 := NB438_326.out
          have hms258_2 := NB438_344.out
          have hms258_3 := NB438_362.out
          have hms258_4 := NB438_381.out
          have hms258_5 := NB438_400.out
          have hms258_6 := NB438_418.out
          have hs259 : w246.cell? ⟨gb438, 12, none⟩ = some (.int .i64 0) := (blk_cell BK438.out 12).trans rfl
          have hfs259 := blk_frozen BK438.out 12
          have hns259_0 := NB325_438.out
          have hns259_1 := NB326_438.out
          have hns259_2 := NB344_438.out
          have hns259_3 := NB362_438.out
          have hns259_4 := NB381_438.out
          have hns259_5 := NB400_438.out
          have hns259_6 := NB418_438.out
          have hms259_0 := NB438_325.out
          have hms259_1 := NB438_326.out
          have hms259_2 := NB438_344.out
          have hms259_3 := NB438_362.out
          have hms259_4 := NB438_381.out
          have hms259_5 := NB438_400.out
          have hms259_6 := NB438_418.out
          refine skip_ (w1 := ?_) (by rfl) rfl ?_ ?_
          rotate_left
          · go_simp
            rfl
          refine hK.out _ _ ⟨((cell_far (p := ⟨gb438, _, none⟩) NB325_438.out _).trans (((cell_far (p := ⟨gb438, _, none⟩) NB325_438.out _).trans (((cell_far (p := ⟨gb438, _, none⟩) NB325_438.out _).trans (((cell_far (p := ⟨gb438, _, none⟩) NB325_438.out _).trans (((cell_far (p := ⟨gb438, _, none⟩) NB325_438.out _).trans (((cell_far (p := ⟨gb438, _, none⟩) NB325_438.out _).trans (((cell_far (p := ⟨gb438, _, none⟩) NB325_438.out _).trans (((cell_far (p := ⟨gb438, _, none⟩) NB325_438.out _).trans (((cell_far (p := ⟨gb438, _, none⟩) NB325_438.out _).trans (((cell_far (p := ⟨gb438, _, none⟩) NB325_438.out _).trans (((cell_far (p := ⟨gb438, _, none⟩) NB325_438.out _).trans (((cell_far (p := ⟨gb438, _, none⟩) NB325_438.out _).trans (((cell_far (p := ⟨gb438, _, none⟩) NB325_438.out _).trans (hHeld.1)))))))))))))))))))))))))), ((cell_far (p := ⟨gb438, _, none⟩) NB325_438.out _).trans (((cell_far (p := ⟨gb438, _, none⟩) NB325_438.out _).trans (((cell_far (p := ⟨gb438, _, none⟩) NB325_438.out _).trans (((cell_far (p := ⟨gb438, _, none⟩) NB325_438.out _).trans (((cell_far (p := ⟨gb438, _, none⟩) NB325_438.out _).trans (((cell_far (p := ⟨gb438, _, none⟩) NB325_438.out _).trans (((cell_far (p := ⟨gb438, _, none⟩) NB325_438.out _).trans (((cell_far (p := ⟨gb438, _, none⟩) NB325_438.out _).trans (((cell_far (p := ⟨gb438, _, none⟩) NB325_438.out _).trans (((cell_far (p := ⟨gb438, _, none⟩) NB325_438.out _).trans (((cell_far (p := ⟨gb438, _, none⟩) NB325_438.out _).trans (((cell_far (p := ⟨gb438, _, none⟩) NB325_438.out _).trans (((cell_far (p := ⟨gb438, _, none⟩) NB325_438.out _).trans (hHeld.2.1)))))))))))))))))))))))))), ((cell_far (p := ⟨gb438, _, none⟩) NB325_438.out _).trans (((cell_far (p := ⟨gb438, _, none⟩) NB325_438.out _).trans (((cell_far (p := ⟨gb438, _, none⟩) NB325_438.out _).trans (((cell_far (p := ⟨gb438, _, none⟩) NB325_438.out _).trans (((cell_far (p := ⟨gb438, _, none⟩) NB325_438.out _).trans (((cell_far (p := ⟨gb438, _, none⟩) NB325_438.out _).trans (((cell_far (p := ⟨gb438, _, none⟩) NB325_438.out _).trans (((cell_far (p := ⟨gb438, _, none⟩) NB325_438.out _).trans (((cell_far (p := ⟨gb438, _, none⟩) NB325_438.out _).trans (((cell_far (p := ⟨gb438, _, none⟩) NB325_438.out _).trans (((cell_far (p := ⟨gb438, _, none⟩) NB325_438.out _).trans (((cell_far (p := ⟨gb438, _, none⟩) NB325_438.out _).trans (((cell_far (p := ⟨gb438, _, none⟩) NB325_438.out _).trans (hHeld.2.2.1)))))))))))))))))))))))))), ((cell_far (p := ⟨gb438, _, none⟩) NB325_438.out _).trans (((cell_far (p := ⟨gb438, _, none⟩) NB325_438.out _).trans (((cell_far (p := ⟨gb438, _, none⟩) NB325_438.out _).trans (((cell_far (p := ⟨gb438, _, none⟩) NB325_438.out _).trans (((cell_far (p := ⟨gb438, _, none⟩) NB325_438.out _).trans (((cell_far (p := ⟨gb438, _, none⟩) NB325_438.out _).trans (((cell_far (p := ⟨gb438, _, none⟩) NB325_438.out _).trans (((cell_far (p := ⟨gb438, _, none⟩) NB325_438.out _).trans (((cell_far (p := ⟨gb438, _, none⟩) NB325_438.out _).trans (((cell_far (p := ⟨gb438, _, none⟩) NB325_438.out _).trans (((cell_far (p := ⟨gb438, _, none⟩) NB325_438.out _).trans (((cell_far (p := ⟨gb438, _, none⟩) NB325_438.out _).trans (((cell_far (p := ⟨gb438, _, none⟩) NB325_438.out _).trans (hHeld.2.2.2.1)))))))))))))))))))))))))), ((cell_far (p := ⟨gb438, _, none⟩) NB325_438.out _).trans (((cell_far (p := ⟨gb438, _, none⟩) NB325_438.out _).trans (((cell_far (p := ⟨gb438, _, none⟩) NB325_438.out _).trans (((cell_far (p := ⟨gb438, _, none⟩) NB325_438.out _).trans (((cell_far (p := ⟨gb438, _, none⟩) NB325_438.out _).trans (((cell_far (p := ⟨gb438, _, none⟩) NB325_438.out _).trans (((cell_far (p := ⟨gb438, _, none⟩) NB325_438.out _).trans (((cell_far (p := ⟨gb438, _, none⟩) NB325_438.out _).trans (((cell_far (p := ⟨gb438, _, none⟩) NB325_438.out _).trans (((cell_far (p := ⟨gb438, _, none⟩) NB325_438.out _).trans (((cell_far (p := ⟨gb438, _, none⟩) NB325_438.out _).trans (((cell_far (p := ⟨gb438, _, none⟩) NB325_438.out _).trans (((cell_far (p := ⟨gb438, _, none⟩) NB325_438.out _).trans (hHeld.2.2.2.2.1)))))))))))))))))))))))))), ((cell_far (p := ⟨gb438, _, none⟩) NB325_438.out _).trans (((cell_far (p := ⟨gb438, _, none⟩) NB325_438.out _).trans (((cell_far (p := ⟨gb438, _, none⟩) NB325_438.out _).trans (((cell_far (p := ⟨gb438, _, none⟩) NB325_438.out _).trans (((cell_far (p := ⟨gb438, _, none⟩) NB325_438.out _).trans (((cell_far (p := ⟨gb438, _, none⟩) NB325_438.out _).trans (((cell_far (p := ⟨gb438, _, none⟩) NB325_438.out _).trans (((cell_far (p := ⟨gb438, _, none⟩) NB325_438.out _).trans (((cell_far (p := ⟨gb438, _, none⟩) NB325_438.out _).trans (((cell_far (p := ⟨gb438, _, none⟩) NB325_438.out _).trans (((cell_far (p := ⟨gb438, _, none⟩) NB325_438.out _).trans (((cell_far (p := ⟨gb438, _, none⟩) NB325_438.out _).trans (((cell_far (p := ⟨gb438, _, none⟩) NB325_438.out _).trans (hHeld.2.2.2.2.2.1)))))))))))))))))))))))))), ((cell_far (p := ⟨gb438, _, none⟩) NB325_438.out _).trans (((cell_far (p := ⟨gb438, _, none⟩) NB325_438.out _).trans (((cell_far (p := ⟨gb438, _, none⟩) NB325_438.out _).trans (((cell_far (p := ⟨gb438, _, none⟩) NB325_438.out _).trans (((cell_far (p := ⟨gb438, _, none⟩) NB325_438.out _).trans (((cell_far (p := ⟨gb438, _, none⟩) NB325_438.out _).trans (((cell_far (p := ⟨gb438, _, none⟩) NB325_438.out _).trans (((cell_far (p := ⟨gb438, _, none⟩) NB325_438.out _).trans (((cell_far (p := ⟨gb438, _, none⟩) NB325_438.out _).trans (((cell_far (p := ⟨gb438, _, none⟩) NB325_438.out _).trans (((cell_far (p := ⟨gb438, _, none⟩) NB325_438.out _).trans (((cell_far (p := ⟨gb438, _, none⟩) NB325_438.out _).trans (((cell_far (p := ⟨gb438, _, none⟩) NB325_438.out _).trans (hHeld.2.2.2.2.2.2.1)))))))))))))))))))))))))), ((cell_far (p := ⟨gb438, _, none⟩) NB325_438.out _).trans (((cell_far (p := ⟨gb438, _, none⟩) NB325_438.out _).trans (((cell_far (p := ⟨gb438, _, none⟩) NB325_438.out _).trans (((cell_far (p := ⟨gb438, _, none⟩) NB325_438.out _).trans (((cell_far (p := ⟨gb438, _, none⟩) NB325_438.out _).trans (((cell_far (p := ⟨gb438, _, none⟩) NB325_438.out _).trans (((cell_far (p := ⟨gb438, _, none⟩) NB325_438.out _).trans (((cell_far (p := ⟨gb438, _, none⟩) NB325_438.out _).trans (((cell_far (p := ⟨gb438, _, none⟩) NB325_438.out _).trans (((cell_far (p := ⟨gb438, _, none⟩) NB325_438.out _).trans (((cell_far (p := ⟨gb438, _, none⟩) NB325_438.out _).trans (((cell_far (p := ⟨gb438, _, none⟩) NB325_438.out _).trans (((cell_far (p := ⟨gb438, _, none⟩) NB325_438.out _).trans (hHeld.2.2.2.2.2.2.2.1)))))))))))))))))))))))))), ((cell_far (p := ⟨gb438, _, none⟩) NB325_438.out _).trans (((cell_far (p := ⟨gb438, _, none⟩) NB325_438.out _).trans (((cell_far (p := ⟨gb438, _, none⟩) NB325_438.out _).trans (((cell_far (p := ⟨gb438, _, none⟩) NB325_438.out _).trans (((cell_far (p := ⟨gb438, _, none⟩) NB325_438.out _).trans (((cell_far (p := ⟨gb438, _, none⟩) NB325_438.out _).trans (((cell_far (p := ⟨gb438, _, none⟩) NB325_438.out _).trans (((cell_far (p := ⟨gb438, _, none⟩) NB325_438.out _).trans (((cell_far (p := ⟨gb438, _, none⟩) NB325_438.out _).trans (((cell_far (p := ⟨gb438, _, none⟩) NB325_438.out _).trans (((cell_far (p := ⟨gb438, _, none⟩) NB325_438.out _).trans (((cell_far (p := ⟨gb438, _, none⟩) NB325_438.out _).trans (((cell_far (p := ⟨gb438, _, none⟩) NB325_438.out _).trans (hHeld.2.2.2.2.2.2.2.2.1)))))))))))))))))))))))))), ((cell_far (p := ⟨gb438, _, none⟩) NB325_438.out _).trans (((cell_far (p := ⟨gb438, _, none⟩) NB325_438.out _).trans (((cell_far (p := ⟨gb438, _, none⟩) NB325_438.out _).trans (((cell_far (p := ⟨gb438, _, none⟩) NB325_438.out _).trans (((cell_far (p := ⟨gb438, _, none⟩) NB325_438.out _).trans (((cell_far (p := ⟨gb438, _, none⟩) NB325_438.out _).trans (((cell_far (p := ⟨gb438, _, none⟩) NB325_438.out _).trans (((cell_far (p := ⟨gb438, _, none⟩) NB325_438.out _).trans (((cell_far (p := ⟨gb438, _, none⟩) NB325_438.out _).trans (((cell_far (p := ⟨gb438, _, none⟩) NB325_438.out _).trans (((cell_far (p := ⟨gb438, _, none⟩) NB325_438.out _).trans (((cell_far (p := ⟨gb438, _, none⟩) NB325_438.out _).trans (((cell_far (p := ⟨gb438, _, none⟩) NB325_438.out _).trans (hHeld.2.2.2.2.2.2.2.2.2.1)))))))))))))))))))))))))), ((cell_far (p := ⟨gb438, _, none⟩) NB325_438.out _).trans (((cell_far (p := ⟨gb438, _, none⟩) NB325_438.out _).trans (((cell_far (p := ⟨gb438, _, none⟩) NB325_438.out _).trans (((cell_far (p := ⟨gb438, _, none⟩) NB325_438.out _).trans (((cell_far (p := ⟨gb438, _, none⟩) NB325_438.out _).trans (((cell_far (p := ⟨gb438, _, none⟩) NB325_438.out _).trans (((cell_far (p := ⟨gb438, _, none⟩) NB325_438.out _).trans (((cell_far (p := ⟨gb438, _, none⟩) NB325_438.out _).trans (((cell_far (p := ⟨gb438, _, none⟩) NB325_438.out _).trans (((cell_far (p := ⟨gb438, _, none⟩) NB325_438.out _).trans (((cell_far (p := ⟨gb438, _, none⟩) NB325_438.out _).trans (((cell_far (p := ⟨gb438, _, none⟩) NB325_438.out _).trans (((cell_far (p := ⟨gb438, _, none⟩) NB325_438.out _).trans (hHeld.2.2.2.2.2.2.2.2.2.2.1)))))))))))))))))))))))))), ((cell_far (p := ⟨gb438, _, none⟩) NB325_438.out _).trans (((cell_far (p := ⟨gb438, _, none⟩) NB325_438.out _).trans (((cell_far (p := ⟨gb438, _, none⟩) NB325_438.out _).trans (((cell_far (p := ⟨gb438, _, none⟩) NB325_438.out _).trans (((cell_far (p := ⟨gb438, _, none⟩) NB325_438.out _).trans (((cell_far (p := ⟨gb438, _, none⟩) NB325_438.out _).trans (((cell_far (p := ⟨gb438, _, none⟩) NB325_438.out _).trans (((cell_far (p := ⟨gb438, _, none⟩) NB325_438.out _).trans (((cell_far (p := ⟨gb438, _, none⟩) NB325_438.out _).trans (((cell_far (p := ⟨gb438, _, none⟩) NB325_438.out _).trans (((cell_far (p := ⟨gb438, _, none⟩) NB325_438.out _).trans (((cell_far (p := ⟨gb438, _, none⟩) NB325_438.out _).trans (((cell_far (p := ⟨gb438, _, none⟩) NB325_438.out _).trans (hHeld.2.2.2.2.2.2.2.2.2.2.2.1)))))))))))))))))))))))))), ((cell_far (p := ⟨gb438, _, none⟩) NB325_438.out _).trans (((cell_far (p := ⟨gb438, _, none⟩) NB325_438.out _).trans (((cell_far (p := ⟨gb438, _, none⟩) NB325_438.out _).trans (((cell_far (p := ⟨gb438, _, none⟩) NB325_438.out _).trans (((cell_far (p := ⟨gb438, _, none⟩) NB325_438.out _).trans (((cell_far (p := ⟨gb438, _, none⟩) NB325_438.out _).trans (((cell_far (p := ⟨gb438, _, none⟩) NB325_438.out _).trans (((cell_far (p := ⟨gb438, _, none⟩) NB325_438.out _).trans (((cell_far (p := ⟨gb438, _, none⟩) NB325_438.out _).trans (((cell_far (p := ⟨gb438, _, none⟩) NB325_438.out _).trans (((cell_far (p := ⟨gb438, _, none⟩) NB325_438.out _).trans (((cell_far (p := ⟨gb438, _, none⟩) NB325_438.out _).trans (((cell_far (p := ⟨gb438, _, none⟩) NB325_438.out _).trans (hHeld.2.2.2.2.2.2.2.2.2.2.2.2))))))))))))))))))))))))))⟩ (fun hHeld => ?_)
          clear hK K
          refine pure_ (i := 11) (N := some 30) (v := ?_) (a' := ?_) #[true, true, true, true, true, true, true, true, true, true, true, true, false] rfl rfl (any_of HT_.out (by kernel_rfl)) (fun _ _ _ h => h) (Or.inl ⟨by rfl, ?_⟩) ?_ ?_
          rotate_left
          · intro w'
            go_simp
            with_reducible rfl
          rotate_left
          · simp only [Act.put, List.setIfInBounds_toArray, List.set_cons_zero, List.set_cons_succ, i64_w, i32_w]
            rfl
          refine pure_ (i := 12) (N := some 31) (v := ?_) (a' := ?_) #[true, true, true, true, true, true, true, true, true, true, true, true, true] rfl rfl (any_of HT_.out (by kernel_rfl)) (fun _ _ _ h => h) (Or.inl ⟨by rfl, ?_⟩) ?_ ?_
          rotate_left
          · intro w'
            go_simp
            with_reducible rfl
          rotate_left
          · simp only [Act.put, List.setIfInBounds_toArray, List.set_cons_zero, List.set_cons_succ, i64_w, i32_w]
            rfl
          refine done_ (done_of HT_.out (by kernel_rfl)) ?_
          have hnb260 := NB325_326.out
          have hnc260 := NB326_325.out
          have hnb261 := NB325_344.out
          have hnc261 := NB344_325.out
          have hnb262 := NB325_362.out
          have hnc262 := NB362_325.out
          have hnb263 := NB325_381.out
          have hnc263 := NB381_325.out
          have hnb264 := NB325_400.out
          have hnc264 := NB400_325.out
          have hnb265 := NB325_418.out
          have hnc265 := NB418_325.out
          have hnb266 := NB325_438.out
          have hnc266 := NB438_325.out
          obtain ⟨hcz267_0, hcz267_1, hcz267_2, hcz267_3, hcz267_4, hcz267_5, hcz267_6, hcz267_7, hcz267_8, hcz267_9, hcz267_10, hcz267_11, hcz267_12, hfz267_0, hfz267_1, hfz267_2, hfz267_3, hfz267_4, hfz267_5, hfz267_6, hfz267_7, hfz267_8, hfz267_9, hfz267_10, hfz267_11, hfz267_12⟩ := lc13 BK325.out
          try go_wp2_with (first | (go_at_call 15; (with_reducible refine (annuitylaw14_wakes.calls kj156  t439 _ A242.out).mono ?_); rintro e w268 ⟨rfl, hb⟩; have n0_ := Aside0.mk (blk_below (g := gb325) (o := .cells #[.int .i64 a0_0, .int .i64 a0_1, .int .i64 a0_2, .int .i64 a0_3, .int .i64 a0_4, .int .i64 a0_5, .bool a0_6, .int .i64 a0_7, .int .i64 a0_8, .int .i64 a0_9, .int .i64 a0_10, .int .i64 a0_11, .int .i64 a0_12] 23 (0, 0)) (by (iterate 13 ((with_reducible repeat (first | refine blk_drewN ?_ _ | refine blk_drew ?_ | refine blk_alloc ?_ _)); refine blk_far ?_ NB325_438.out _)); (with_reducible repeat (first | refine blk_drewN ?_ _ | refine blk_drew ?_ | refine blk_alloc ?_ _)); exact BK325.out) hb); have n1_ := Aside0.mk (blk_below (g := gb326) (o := .cells #[.int .i64 a1_0, .int .i64 a1_1, .int .i64 a1_2, .int .i64 a1_3] 35 (0, 0)) (by (iterate 13 ((with_reducible repeat (first | refine blk_drewN ?_ _ | refine blk_drew ?_ | refine blk_alloc ?_ _)); refine blk_far ?_ NB326_438.out _)); (with_reducible repeat (first | refine blk_drewN ?_ _ | refine blk_drew ?_ | refine blk_alloc ?_ _)); exact BK326.out) hb); have n2_ := Aside0.mk (blk_below (g := gb344) (o := .cells #[.int .i64 t330, .int .i64 t331, .int .i64 t332, .int .i64 t333, .int .i64 t334, .int .i64 t335, .bool t336, .int .i64 t337, .int .i64 t338, .int .i64 t339, .int .i64 t340, .int .i64 t341, .int .i64 t342] 23 (0, 0)) (by (iterate 13 ((with_reducible repeat (first | refine blk_drewN ?_ _ | refine blk_drew ?_ | refine blk_alloc ?_ _)); refine blk_far ?_ NB344_438.out _)); (with_reducible repeat (first | refine blk_drewN ?_ _ | refine blk_drew ?_ | refine blk_alloc ?_ _)); exact BK344.out) hb); have n3_ := Aside0.mk (blk_below (g := gb362) (o := .cells #[.int .i64 t348, .int .i64 t349, .int .i64 t350, .int .i64 t351, .int .i64 t352, .int .i64 t353, .bool t354, .int .i64 t355, .int .i64 t356, .int .i64 t357, .int .i64 t358, .int .i64 t359, .int .i64 t360] 23 (0, 0)) (by (iterate 13 ((with_reducible repeat (first | refine blk_drewN ?_ _ | refine blk_drew ?_ | refine blk_alloc ?_ _)); refine blk_far ?_ NB362_438.out _)); (with_reducible repeat (first | refine blk_drewN ?_ _ | refine blk_drew ?_ | refine blk_alloc ?_ _)); exact BK362.out) hb); have n4_ := Aside0.mk (blk_below (g := gb381) (o := .cells #[.int .i64 t367, .int .i64 t368, .int .i64 t369, .int .i64 t370, .int .i64 t371, .int .i64 t372, .bool t373, .int .i64 t374, .int .i64 t375, .int .i64 t376, .int .i64 t377, .int .i64 t378, .int .i64 t379] 23 (0, 0)) (by (iterate 13 ((with_reducible repeat (first | refine blk_drewN ?_ _ | refine blk_drew ?_ | refine blk_alloc ?_ _)); refine blk_far ?_ NB381_438.out _)); (with_reducible repeat (first | refine blk_drewN ?_ _ | refine blk_drew ?_ | refine blk_alloc ?_ _)); exact BK381.out) hb); have n5_ := Aside0.mk (blk_below (g := gb400) (o := .cells #[.int .i64 t386, .int .i64 t387, .int .i64 t388, .int .i64 t389, .int .i64 t390, .int .i64 t391, .bool t392, .int .i64 t393, .int .i64 t394, .int .i64 t395, .int .i64 t396, .int .i64 t397, .int .i64 t398] 23 (0, 0)) (by (iterate 13 ((with_reducible repeat (first | refine blk_drewN ?_ _ | refine blk_drew ?_ | refine blk_alloc ?_ _)); refine blk_far ?_ NB400_438.out _)); (with_reducible repeat (first | refine blk_drewN ?_ _ | refine blk_drew ?_ | refine blk_alloc ?_ _)); exact BK400.out) hb); have n6_ := Aside0.mk (blk_below (g := gb418) (o := .cells #[.int .i64 t404, .int .i64 t405, .int .i64 t406, .int .i64 t407, .int .i64 t408, .int .i64 t409, .bool t410, .int .i64 t411, .int .i64 t412, .int .i64 t413, .int .i64 t414, .int .i64 t415, .int .i64 t416] 23 (0, 0)) (by (iterate 13 ((with_reducible repeat (first | refine blk_drewN ?_ _ | refine blk_drew ?_ | refine blk_alloc ?_ _)); refine blk_far ?_ NB418_438.out _)); (with_reducible repeat (first | refine blk_drewN ?_ _ | refine blk_drew ?_ | refine blk_alloc ?_ _)); exact BK418.out) hb); have n7_ := Aside0.mk (blk_below (g := gb438) (o := .cells #[.int .i64 t423, .int .i64 t424, .int .i64 t425, .int .i64 t426, .int .i64 t427, .int .i64 t428, .bool t429, .int .i64 t430, .int .i64 t431, .int .i64 t432, .int .i64 t433, .int .i64 t434, .int .i64 t435] 23 (0, 0)) (by (with_reducible repeat (first | refine blk_drewN ?_ _ | refine blk_drew ?_ | refine blk_alloc ?_ _)); refine blk_put (cs := #[.int .i64 t423, .int .i64 t424, .int .i64 t425, .int .i64 t426, .int .i64 t427, .int .i64 t428, .bool t429, .int .i64 t430, .int .i64 t431, .int .i64 t432, .int .i64 t433, .int .i64 t434, .int .i64 0]) ?_ 12 _ rfl; (with_reducible repeat (first | refine blk_drewN ?_ _ | refine blk_drew ?_ | refine blk_alloc ?_ _)); refine blk_put (cs := #[.int .i64 t423, .int .i64 t424, .int .i64 t425, .int .i64 t426, .int .i64 t427, .int .i64 t428, .bool t429, .int .i64 t430, .int .i64 t431, .int .i64 t432, .int .i64 t433, .int .i64 0, .int .i64 0]) ?_ 11 _ rfl; (with_reducible repeat (first | refine blk_drewN ?_ _ | refine blk_drew ?_ | refine blk_alloc ?_ _)); refine blk_put (cs := #[.int .i64 t423, .int .i64 t424, .int .i64 t425, .int .i64 t426, .int .i64 t427, .int .i64 t428, .bool t429, .int .i64 t430, .int .i64 t431, .int .i64 t432, .int .i64 0, .int .i64 0, .int .i64 0]) ?_ 10 _ rfl; (with_reducible repeat (first | refine blk_drewN ?_ _ | refine blk_drew ?_ | refine blk_alloc ?_ _)); refine blk_put (cs := #[.int .i64 t423, .int .i64 t424, .int .i64 t425, .int .i64 t426, .int .i64 t427, .int .i64 t428, .bool t429, .int .i64 t430, .int .i64 t431, .int .i64 0, .int .i64 0, .int .i64 0, .int .i64 0]) ?_ 9 _ rfl; (with_reducible repeat (first | refine blk_drewN ?_ _ | refine blk_drew ?_ | refine blk_alloc ?_ _)); refine blk_put (cs := #[.int .i64 t423, .int .i64 t424, .int .i64 t425, .int .i64 t426, .int .i64 t427, .int .i64 t428, .bool t429, .int .i64 t430, .int .i64 0, .int .i64 0, .int .i64 0, .int .i64 0, .int .i64 0]) ?_ 8 _ rfl; (with_reducible repeat (first | refine blk_drewN ?_ _ | refine blk_drew ?_ | refine blk_alloc ?_ _)); refine blk_put (cs := #[.int .i64 t423, .int .i64 t424, .int .i64 t425, .int .i64 t426, .int .i64 t427, .int .i64 t428, .bool t429, .int .i64 0, .int .i64 0, .int .i64 0, .int .i64 0, .int .i64 0, .int .i64 0]) ?_ 7 _ rfl; (with_reducible repeat (first | refine blk_drewN ?_ _ | refine blk_drew ?_ | refine blk_alloc ?_ _)); refine blk_put (cs := #[.int .i64 t423, .int .i64 t424, .int .i64 t425, .int .i64 t426, .int .i64 t427, .int .i64 t428, .bool false, .int .i64 0, .int .i64 0, .int .i64 0, .int .i64 0, .int .i64 0, .int .i64 0]) ?_ 6 _ rfl; (with_reducible repeat (first | refine blk_drewN ?_ _ | refine blk_drew ?_ | refine blk_alloc ?_ _)); refine blk_put (cs := #[.int .i64 t423, .int .i64 t424, .int .i64 t425, .int .i64 t426, .int .i64 t427, .int .i64 0, .bool false, .int .i64 0, .int .i64 0, .int .i64 0, .int .i64 0, .int .i64 0, .int .i64 0]) ?_ 5 _ rfl; (with_reducible repeat (first | refine blk_drewN ?_ _ | refine blk_drew ?_ | refine blk_alloc ?_ _)); refine blk_put (cs := #[.int .i64 t423, .int .i64 t424, .int .i64 t425, .int .i64 t426, .int .i64 0, .int .i64 0, .bool false, .int .i64 0, .int .i64 0, .int .i64 0, .int .i64 0, .int .i64 0, .int .i64 0]) ?_ 4 _ rfl; (with_reducible repeat (first | refine blk_drewN ?_ _ | refine blk_drew ?_ | refine blk_alloc ?_ _)); refine blk_put (cs := #[.int .i64 t423, .int .i64 t424, .int .i64 t425, .int .i64 0, .int .i64 0, .int .i64 0, .bool false, .int .i64 0, .int .i64 0, .int .i64 0, .int .i64 0, .int .i64 0, .int .i64 0]) ?_ 3 _ rfl; (with_reducible repeat (first | refine blk_drewN ?_ _ | refine blk_drew ?_ | refine blk_alloc ?_ _)); refine blk_put (cs := #[.int .i64 t423, .int .i64 t424, .int .i64 0, .int .i64 0, .int .i64 0, .int .i64 0, .bool false, .int .i64 0, .int .i64 0, .int .i64 0, .int .i64 0, .int .i64 0, .int .i64 0]) ?_ 2 _ rfl; (with_reducible repeat (first | refine blk_drewN ?_ _ | refine blk_drew ?_ | refine blk_alloc ?_ _)); refine blk_put (cs := #[.int .i64 t423, .int .i64 0, .int .i64 0, .int .i64 0, .int .i64 0, .int .i64 0, .bool false, .int .i64 0, .int .i64 0, .int .i64 0, .int .i64 0, .int .i64 0, .int .i64 0]) ?_ 1 _ rfl; (with_reducible repeat (first | refine blk_drewN ?_ _ | refine blk_drew ?_ | refine blk_alloc ?_ _)); refine blk_put (cs := #[.int .i64 0, .int .i64 0, .int .i64 0, .int .i64 0, .int .i64 0, .int .i64 0, .bool false, .int .i64 0, .int .i64 0, .int .i64 0, .int .i64 0, .int .i64 0, .int .i64 0]) ?_ 0 _ rfl; (with_reducible repeat (first | refine blk_drewN ?_ _ | refine blk_drew ?_ | refine blk_alloc ?_ _)); exact BK438.out) hb); have n8_ := Aside0.mk (below_step (by repeat (first | (with_reducible first | exact HB.out | apply below_alloc | apply pw_below_drewN | apply below_drew1 | refine below_set ?_ GE325.out | refine below_set ?_ GE326.out | refine below_set ?_ GE344.out | refine below_set ?_ GE362.out | refine below_set ?_ GE381.out | refine below_set ?_ GE400.out | refine below_set ?_ GE418.out | refine below_set ?_ GE438.out) | exact HB.out)) hb); clear BK325; clear BK326; clear BK344; clear BK362; clear BK381; clear BK400; clear BK418; clear BK438; clear HB; have BK325 := n0_; have BK326 := n1_; have BK344 := n2_; have BK362 := n3_; have BK381 := n4_; have BK400 := n5_; have BK418 := n6_; have BK438 := n7_; have HB := n8_; clear n0_ n1_ n2_ n3_ n4_ n5_ n6_ n7_ n8_; (try clear hb); (try clear hb2); (try clear hk); (try clear hi)))
          go_ret
          exact ⟨by first | rfl | (simp [errW_none, errW_some] <;> rfl) | (simp [*, errW_none, errW_some] <;> rfl), by repeat (first | (with_reducible first | exact HB.out | apply below_alloc | apply pw_below_drewN | apply below_drew1 | refine below_set ?_ GE325.out | refine below_set ?_ GE326.out | refine below_set ?_ GE344.out | refine below_set ?_ GE362.out | refine below_set ?_ GE381.out | refine below_set ?_ GE400.out | refine below_set ?_ GE418.out | refine below_set ?_ GE438.out) | exact HB.out)⟩
        · rw [if_neg c241] at H
          exact absurd H (by simp)
      · rw [if_neg c240] at H
        exact absurd H (by simp)
end Go.Proofs.Ytmbenmiakjhgeaa.P
