/- Proved: stillroomlaw24.AnswerCut returns true, as its tied card says it. Conditions: the three tables that the row lists hold what the program lays, which the card ties to the program's text; none else. -/
import Derived.Test.YtljckklenkcnnaaDoorCards
import Derived.Test.YtljckklenkcnnaaDoorTie
import Derived.WalkKit
import Derived.ProofKit
import Derived.OpenShut
import Derived.Deep.DeepHandedRow
import Derived.KernelRfl
import Derived.Test.YtljckklenkcnnaaDoorT
import Derived.Test.YtljckklenkcnnaaDoorR0
import Derived.Test.YtljckklenkcnnaaDoorR1
import Derived.Test.YtljckklenkcnnaaDoorR2
import Derived.Test.YtljckklenkcnnaaDoorR3
import Derived.Test.YtljckklenkcnnaaDoorAnswerCutC
namespace Go.Proofs.YtljckklenkcnnaaDoor.answerCut
open Go.Ev Go.Ev.YtljckklenkcnnaaDoor Go.ChangeShapes Go.WideShapes Go.ChangeAt Go.RowKit
set_option maxRecDepth 100000
set_option linter.unusedVariables false
theorem own : ownKnob Tryd.prog.godebug = none := by kernel_rfl
theorem mixed : Tryd.prog.follows .mixedOrders = true := by kernel_rfl
theorem run_neg : rTrue (call2 tab 100 (fnKey 5) [.oth (.iv .i64 9223372036854775808 18446744073709551615), .oth (.iv .i64 0 18446744073709551615)] hempty n00) = true := by kernel_rfl
theorem run_lo : rTrue (call2 tab 100 (fnKey 5) [.oth (.iv .i64 0 99), .oth (.iv .i64 0 18446744073709551615)] hempty n00) = true := by kernel_rfl
theorem run_hi : rTrue (call2 tab 100 (fnKey 5) [.oth (.iv .i64 1000 9223372036854775807), .oth (.iv .i64 0 18446744073709551615)] hempty n00) = true := by kernel_rfl
theorem at_ {gl : GlF} (hT : HT gl) (s M : Nat) (hs : s < 1000) (hM : M < 1000) (h : cutB s M = true) (a1 : Int) (w1 : (Lit.int .i64 a1).wf = true) (w : World) (hgl : GlAt (rhoS gl) w) : Calls Tryd.prog 5 #[.int .i64 (s : Int), .int .i64 a1] w fun e w' => e = .returned (.bool true) ∧ Below w.heap.size w w' := by
  obtain ⟨q1, h⟩ := br_tt h
  obtain ⟨q2, h⟩ := br_tt h
  obtain ⟨q3, q4⟩ := br_tt h
  have hb := wf_i64 w1
  by_cases h0 : a1 < 0
  · exact law2_call oneS mixed (tab_ok hT) Tryd.func5 (by kernel_rfl) (by kernel_rfl) q1 (rels_cons.2 ⟨_, _, rfl, rel_i64 (by omega), rels_cons.2 ⟨_, _, rfl, rel_iv_neg h0 hb.1, rels_nil.2 rfl⟩⟩) w hgl
  by_cases h1 : a1 ≤ 0
  · exact law2_call oneS mixed (tab_ok hT) Tryd.func5 (by kernel_rfl) (by kernel_rfl) q2 (rels_cons.2 ⟨_, _, rfl, rel_i64 (by omega), rels_cons.2 ⟨_, _, rfl, rel_iv_mid (by omega) h1 (by decide), rels_nil.2 rfl⟩⟩) w hgl
  by_cases h2 : ((M + 1 : Nat) : Int) ≤ a1
  · exact law2_call oneS mixed (tab_ok hT) Tryd.func5 (by kernel_rfl) (by kernel_rfl) q3 (rels_cons.2 ⟨_, _, rfl, rel_i64 (by omega), rels_cons.2 ⟨_, _, rfl, rel_iv_hi h2 hb.2, rels_nil.2 rfl⟩⟩) w hgl
  obtain ⟨i, rfl⟩ : ∃ i : Nat, a1 = ((Nat.succ i : Nat) : Int) := ⟨a1.toNat - 1, by omega⟩
  exact law2_call oneS mixed (tab_ok hT) Tryd.func5 (by kernel_rfl) (by kernel_rfl) (allN_at q4 i (by omega)) (rels_cons.2 ⟨_, _, rfl, rel_i64 (by omega), rels_cons.2 ⟨_, _, rfl, rel_i64 (by omega), rels_nil.2 rfl⟩⟩) w hgl
theorem cutN_at {s M k : Nat} (h : cutN s M k = true) (j : Nat) (hj : j < k) : cutB (s + j) M = true := by
  have := allN_at h j hj
  rw [forceN_eq] at this
  exact this
theorem walk {gl : GlF} (hT : HT gl) (a0 : Int) (w0 : (Lit.int .i64 a0).wf = true) (a1 : Int) (w1 : (Lit.int .i64 a1).wf = true) (w : World) (hgl : GlAt (rhoS gl) w) : Calls Tryd.prog 5 #[.int .i64 a0, .int .i64 a1] w fun e w' => e = .returned (.bool true) ∧ Below w.heap.size w w' := by
  have hb0 := wf_i64 w0
  have hb1 := wf_i64 w1
  by_cases h0 : a0 < 0
  · exact law2_call oneS mixed (tab_ok hT) Tryd.func5 (by kernel_rfl) (by kernel_rfl) run_neg (rels_cons.2 ⟨_, _, rfl, rel_iv_neg h0 hb0.1, rels_cons.2 ⟨_, _, rfl, rel_iv_any hb1.1 hb1.2, rels_nil.2 rfl⟩⟩) w hgl
  by_cases h1 : a0 ≤ 99
  · exact law2_call oneS mixed (tab_ok hT) Tryd.func5 (by kernel_rfl) (by kernel_rfl) run_lo (rels_cons.2 ⟨_, _, rfl, rel_iv_mid (by omega) h1 (by decide), rels_cons.2 ⟨_, _, rfl, rel_iv_any hb1.1 hb1.2, rels_nil.2 rfl⟩⟩) w hgl
  by_cases h2 : 1000 ≤ a0
  · exact law2_call oneS mixed (tab_ok hT) Tryd.func5 (by kernel_rfl) (by kernel_rfl) run_hi (rels_cons.2 ⟨_, _, rfl, rel_iv_hi h2 hb0.2, rels_cons.2 ⟨_, _, rfl, rel_iv_any hb1.1 hb1.2, rels_nil.2 rfl⟩⟩) w hgl
  obtain ⟨i, rfl⟩ : ∃ i : Nat, a0 = i := ⟨a0.toNat, by omega⟩
  by_cases c100 : i < 109
  · obtain ⟨j, rfl⟩ : ∃ j, i = 100 + j := ⟨i - 100, by omega⟩
    exact at_ hT _ 76 (by omega) (by omega) (cutN_at cut100 j (by omega)) a1 w1 w hgl
  by_cases c109 : i < 118
  · obtain ⟨j, rfl⟩ : ∃ j, i = 109 + j := ⟨i - 109, by omega⟩
    exact at_ hT _ 76 (by omega) (by omega) (cutN_at cut109 j (by omega)) a1 w1 w hgl
  by_cases c118 : i < 127
  · obtain ⟨j, rfl⟩ : ∃ j, i = 118 + j := ⟨i - 118, by omega⟩
    exact at_ hT _ 76 (by omega) (by omega) (cutN_at cut118 j (by omega)) a1 w1 w hgl
  by_cases c127 : i < 136
  · obtain ⟨j, rfl⟩ : ∃ j, i = 127 + j := ⟨i - 127, by omega⟩
    exact at_ hT _ 76 (by omega) (by omega) (cutN_at cut127 j (by omega)) a1 w1 w hgl
  by_cases c136 : i < 145
  · obtain ⟨j, rfl⟩ : ∃ j, i = 136 + j := ⟨i - 136, by omega⟩
    exact at_ hT _ 76 (by omega) (by omega) (cutN_at cut136 j (by omega)) a1 w1 w hgl
  by_cases c145 : i < 154
  · obtain ⟨j, rfl⟩ : ∃ j, i = 145 + j := ⟨i - 145, by omega⟩
    exact at_ hT _ 76 (by omega) (by omega) (cutN_at cut145 j (by omega)) a1 w1 w hgl
  by_cases c154 : i < 163
  · obtain ⟨j, rfl⟩ : ∃ j, i = 154 + j := ⟨i - 154, by omega⟩
    exact at_ hT _ 76 (by omega) (by omega) (cutN_at cut154 j (by omega)) a1 w1 w hgl
  by_cases c163 : i < 172
  · obtain ⟨j, rfl⟩ : ∃ j, i = 163 + j := ⟨i - 163, by omega⟩
    exact at_ hT _ 76 (by omega) (by omega) (cutN_at cut163 j (by omega)) a1 w1 w hgl
  by_cases c172 : i < 181
  · obtain ⟨j, rfl⟩ : ∃ j, i = 172 + j := ⟨i - 172, by omega⟩
    exact at_ hT _ 76 (by omega) (by omega) (cutN_at cut172 j (by omega)) a1 w1 w hgl
  by_cases c181 : i < 190
  · obtain ⟨j, rfl⟩ : ∃ j, i = 181 + j := ⟨i - 181, by omega⟩
    exact at_ hT _ 76 (by omega) (by omega) (cutN_at cut181 j (by omega)) a1 w1 w hgl
  by_cases c190 : i < 199
  · obtain ⟨j, rfl⟩ : ∃ j, i = 190 + j := ⟨i - 190, by omega⟩
    exact at_ hT _ 76 (by omega) (by omega) (cutN_at cut190 j (by omega)) a1 w1 w hgl
  by_cases c199 : i < 208
  · obtain ⟨j, rfl⟩ : ∃ j, i = 199 + j := ⟨i - 199, by omega⟩
    exact at_ hT _ 99 (by omega) (by omega) (cutN_at cut199 j (by omega)) a1 w1 w hgl
  by_cases c208 : i < 217
  · obtain ⟨j, rfl⟩ : ∃ j, i = 208 + j := ⟨i - 208, by omega⟩
    exact at_ hT _ 76 (by omega) (by omega) (cutN_at cut208 j (by omega)) a1 w1 w hgl
  by_cases c217 : i < 226
  · obtain ⟨j, rfl⟩ : ∃ j, i = 217 + j := ⟨i - 217, by omega⟩
    exact at_ hT _ 76 (by omega) (by omega) (cutN_at cut217 j (by omega)) a1 w1 w hgl
  by_cases c226 : i < 235
  · obtain ⟨j, rfl⟩ : ∃ j, i = 226 + j := ⟨i - 226, by omega⟩
    exact at_ hT _ 76 (by omega) (by omega) (cutN_at cut226 j (by omega)) a1 w1 w hgl
  by_cases c235 : i < 244
  · obtain ⟨j, rfl⟩ : ∃ j, i = 235 + j := ⟨i - 235, by omega⟩
    exact at_ hT _ 76 (by omega) (by omega) (cutN_at cut235 j (by omega)) a1 w1 w hgl
  by_cases c244 : i < 253
  · obtain ⟨j, rfl⟩ : ∃ j, i = 244 + j := ⟨i - 244, by omega⟩
    exact at_ hT _ 76 (by omega) (by omega) (cutN_at cut244 j (by omega)) a1 w1 w hgl
  by_cases c253 : i < 262
  · obtain ⟨j, rfl⟩ : ∃ j, i = 253 + j := ⟨i - 253, by omega⟩
    exact at_ hT _ 76 (by omega) (by omega) (cutN_at cut253 j (by omega)) a1 w1 w hgl
  by_cases c262 : i < 271
  · obtain ⟨j, rfl⟩ : ∃ j, i = 262 + j := ⟨i - 262, by omega⟩
    exact at_ hT _ 76 (by omega) (by omega) (cutN_at cut262 j (by omega)) a1 w1 w hgl
  by_cases c271 : i < 280
  · obtain ⟨j, rfl⟩ : ∃ j, i = 271 + j := ⟨i - 271, by omega⟩
    exact at_ hT _ 76 (by omega) (by omega) (cutN_at cut271 j (by omega)) a1 w1 w hgl
  by_cases c280 : i < 289
  · obtain ⟨j, rfl⟩ : ∃ j, i = 280 + j := ⟨i - 280, by omega⟩
    exact at_ hT _ 76 (by omega) (by omega) (cutN_at cut280 j (by omega)) a1 w1 w hgl
  by_cases c289 : i < 298
  · obtain ⟨j, rfl⟩ : ∃ j, i = 289 + j := ⟨i - 289, by omega⟩
    exact at_ hT _ 76 (by omega) (by omega) (cutN_at cut289 j (by omega)) a1 w1 w hgl
  by_cases c298 : i < 307
  · obtain ⟨j, rfl⟩ : ∃ j, i = 298 + j := ⟨i - 298, by omega⟩
    exact at_ hT _ 87 (by omega) (by omega) (cutN_at cut298 j (by omega)) a1 w1 w hgl
  by_cases c307 : i < 316
  · obtain ⟨j, rfl⟩ : ∃ j, i = 307 + j := ⟨i - 307, by omega⟩
    exact at_ hT _ 76 (by omega) (by omega) (cutN_at cut307 j (by omega)) a1 w1 w hgl
  by_cases c316 : i < 325
  · obtain ⟨j, rfl⟩ : ∃ j, i = 316 + j := ⟨i - 316, by omega⟩
    exact at_ hT _ 76 (by omega) (by omega) (cutN_at cut316 j (by omega)) a1 w1 w hgl
  by_cases c325 : i < 334
  · obtain ⟨j, rfl⟩ : ∃ j, i = 325 + j := ⟨i - 325, by omega⟩
    exact at_ hT _ 76 (by omega) (by omega) (cutN_at cut325 j (by omega)) a1 w1 w hgl
  by_cases c334 : i < 343
  · obtain ⟨j, rfl⟩ : ∃ j, i = 334 + j := ⟨i - 334, by omega⟩
    exact at_ hT _ 76 (by omega) (by omega) (cutN_at cut334 j (by omega)) a1 w1 w hgl
  by_cases c343 : i < 352
  · obtain ⟨j, rfl⟩ : ∃ j, i = 343 + j := ⟨i - 343, by omega⟩
    exact at_ hT _ 76 (by omega) (by omega) (cutN_at cut343 j (by omega)) a1 w1 w hgl
  by_cases c352 : i < 361
  · obtain ⟨j, rfl⟩ : ∃ j, i = 352 + j := ⟨i - 352, by omega⟩
    exact at_ hT _ 76 (by omega) (by omega) (cutN_at cut352 j (by omega)) a1 w1 w hgl
  by_cases c361 : i < 370
  · obtain ⟨j, rfl⟩ : ∃ j, i = 361 + j := ⟨i - 361, by omega⟩
    exact at_ hT _ 76 (by omega) (by omega) (cutN_at cut361 j (by omega)) a1 w1 w hgl
  by_cases c370 : i < 379
  · obtain ⟨j, rfl⟩ : ∃ j, i = 370 + j := ⟨i - 370, by omega⟩
    exact at_ hT _ 76 (by omega) (by omega) (cutN_at cut370 j (by omega)) a1 w1 w hgl
  by_cases c379 : i < 388
  · obtain ⟨j, rfl⟩ : ∃ j, i = 379 + j := ⟨i - 379, by omega⟩
    exact at_ hT _ 76 (by omega) (by omega) (cutN_at cut379 j (by omega)) a1 w1 w hgl
  by_cases c388 : i < 397
  · obtain ⟨j, rfl⟩ : ∃ j, i = 388 + j := ⟨i - 388, by omega⟩
    exact at_ hT _ 76 (by omega) (by omega) (cutN_at cut388 j (by omega)) a1 w1 w hgl
  by_cases c397 : i < 406
  · obtain ⟨j, rfl⟩ : ∃ j, i = 397 + j := ⟨i - 397, by omega⟩
    exact at_ hT _ 88 (by omega) (by omega) (cutN_at cut397 j (by omega)) a1 w1 w hgl
  by_cases c406 : i < 415
  · obtain ⟨j, rfl⟩ : ∃ j, i = 406 + j := ⟨i - 406, by omega⟩
    exact at_ hT _ 99 (by omega) (by omega) (cutN_at cut406 j (by omega)) a1 w1 w hgl
  by_cases c415 : i < 424
  · obtain ⟨j, rfl⟩ : ∃ j, i = 415 + j := ⟨i - 415, by omega⟩
    exact at_ hT _ 76 (by omega) (by omega) (cutN_at cut415 j (by omega)) a1 w1 w hgl
  by_cases c424 : i < 433
  · obtain ⟨j, rfl⟩ : ∃ j, i = 424 + j := ⟨i - 424, by omega⟩
    exact at_ hT _ 76 (by omega) (by omega) (cutN_at cut424 j (by omega)) a1 w1 w hgl
  by_cases c433 : i < 442
  · obtain ⟨j, rfl⟩ : ∃ j, i = 433 + j := ⟨i - 433, by omega⟩
    exact at_ hT _ 76 (by omega) (by omega) (cutN_at cut433 j (by omega)) a1 w1 w hgl
  by_cases c442 : i < 451
  · obtain ⟨j, rfl⟩ : ∃ j, i = 442 + j := ⟨i - 442, by omega⟩
    exact at_ hT _ 76 (by omega) (by omega) (cutN_at cut442 j (by omega)) a1 w1 w hgl
  by_cases c451 : i < 460
  · obtain ⟨j, rfl⟩ : ∃ j, i = 451 + j := ⟨i - 451, by omega⟩
    exact at_ hT _ 76 (by omega) (by omega) (cutN_at cut451 j (by omega)) a1 w1 w hgl
  by_cases c460 : i < 469
  · obtain ⟨j, rfl⟩ : ∃ j, i = 460 + j := ⟨i - 460, by omega⟩
    exact at_ hT _ 76 (by omega) (by omega) (cutN_at cut460 j (by omega)) a1 w1 w hgl
  by_cases c469 : i < 478
  · obtain ⟨j, rfl⟩ : ∃ j, i = 469 + j := ⟨i - 469, by omega⟩
    exact at_ hT _ 76 (by omega) (by omega) (cutN_at cut469 j (by omega)) a1 w1 w hgl
  by_cases c478 : i < 487
  · obtain ⟨j, rfl⟩ : ∃ j, i = 478 + j := ⟨i - 478, by omega⟩
    exact at_ hT _ 76 (by omega) (by omega) (cutN_at cut478 j (by omega)) a1 w1 w hgl
  by_cases c487 : i < 496
  · obtain ⟨j, rfl⟩ : ∃ j, i = 487 + j := ⟨i - 487, by omega⟩
    exact at_ hT _ 76 (by omega) (by omega) (cutN_at cut487 j (by omega)) a1 w1 w hgl
  by_cases c496 : i < 505
  · obtain ⟨j, rfl⟩ : ∃ j, i = 496 + j := ⟨i - 496, by omega⟩
    exact at_ hT _ 89 (by omega) (by omega) (cutN_at cut496 j (by omega)) a1 w1 w hgl
  by_cases c505 : i < 514
  · obtain ⟨j, rfl⟩ : ∃ j, i = 505 + j := ⟨i - 505, by omega⟩
    exact at_ hT _ 76 (by omega) (by omega) (cutN_at cut505 j (by omega)) a1 w1 w hgl
  by_cases c514 : i < 523
  · obtain ⟨j, rfl⟩ : ∃ j, i = 514 + j := ⟨i - 514, by omega⟩
    exact at_ hT _ 76 (by omega) (by omega) (cutN_at cut514 j (by omega)) a1 w1 w hgl
  by_cases c523 : i < 532
  · obtain ⟨j, rfl⟩ : ∃ j, i = 523 + j := ⟨i - 523, by omega⟩
    exact at_ hT _ 76 (by omega) (by omega) (cutN_at cut523 j (by omega)) a1 w1 w hgl
  by_cases c532 : i < 541
  · obtain ⟨j, rfl⟩ : ∃ j, i = 532 + j := ⟨i - 532, by omega⟩
    exact at_ hT _ 76 (by omega) (by omega) (cutN_at cut532 j (by omega)) a1 w1 w hgl
  by_cases c541 : i < 550
  · obtain ⟨j, rfl⟩ : ∃ j, i = 541 + j := ⟨i - 541, by omega⟩
    exact at_ hT _ 76 (by omega) (by omega) (cutN_at cut541 j (by omega)) a1 w1 w hgl
  by_cases c550 : i < 559
  · obtain ⟨j, rfl⟩ : ∃ j, i = 550 + j := ⟨i - 550, by omega⟩
    exact at_ hT _ 76 (by omega) (by omega) (cutN_at cut550 j (by omega)) a1 w1 w hgl
  by_cases c559 : i < 568
  · obtain ⟨j, rfl⟩ : ∃ j, i = 559 + j := ⟨i - 559, by omega⟩
    exact at_ hT _ 76 (by omega) (by omega) (cutN_at cut559 j (by omega)) a1 w1 w hgl
  by_cases c568 : i < 577
  · obtain ⟨j, rfl⟩ : ∃ j, i = 568 + j := ⟨i - 568, by omega⟩
    exact at_ hT _ 76 (by omega) (by omega) (cutN_at cut568 j (by omega)) a1 w1 w hgl
  by_cases c577 : i < 586
  · obtain ⟨j, rfl⟩ : ∃ j, i = 577 + j := ⟨i - 577, by omega⟩
    exact at_ hT _ 76 (by omega) (by omega) (cutN_at cut577 j (by omega)) a1 w1 w hgl
  by_cases c586 : i < 595
  · obtain ⟨j, rfl⟩ : ∃ j, i = 586 + j := ⟨i - 586, by omega⟩
    exact at_ hT _ 76 (by omega) (by omega) (cutN_at cut586 j (by omega)) a1 w1 w hgl
  by_cases c595 : i < 604
  · obtain ⟨j, rfl⟩ : ∃ j, i = 595 + j := ⟨i - 595, by omega⟩
    exact at_ hT _ 76 (by omega) (by omega) (cutN_at cut595 j (by omega)) a1 w1 w hgl
  by_cases c604 : i < 613
  · obtain ⟨j, rfl⟩ : ∃ j, i = 604 + j := ⟨i - 604, by omega⟩
    exact at_ hT _ 76 (by omega) (by omega) (cutN_at cut604 j (by omega)) a1 w1 w hgl
  by_cases c613 : i < 622
  · obtain ⟨j, rfl⟩ : ∃ j, i = 613 + j := ⟨i - 613, by omega⟩
    exact at_ hT _ 76 (by omega) (by omega) (cutN_at cut613 j (by omega)) a1 w1 w hgl
  by_cases c622 : i < 631
  · obtain ⟨j, rfl⟩ : ∃ j, i = 622 + j := ⟨i - 622, by omega⟩
    exact at_ hT _ 76 (by omega) (by omega) (cutN_at cut622 j (by omega)) a1 w1 w hgl
  by_cases c631 : i < 640
  · obtain ⟨j, rfl⟩ : ∃ j, i = 631 + j := ⟨i - 631, by omega⟩
    exact at_ hT _ 76 (by omega) (by omega) (cutN_at cut631 j (by omega)) a1 w1 w hgl
  by_cases c640 : i < 649
  · obtain ⟨j, rfl⟩ : ∃ j, i = 640 + j := ⟨i - 640, by omega⟩
    exact at_ hT _ 76 (by omega) (by omega) (cutN_at cut640 j (by omega)) a1 w1 w hgl
  by_cases c649 : i < 658
  · obtain ⟨j, rfl⟩ : ∃ j, i = 649 + j := ⟨i - 649, by omega⟩
    exact at_ hT _ 76 (by omega) (by omega) (cutN_at cut649 j (by omega)) a1 w1 w hgl
  by_cases c658 : i < 667
  · obtain ⟨j, rfl⟩ : ∃ j, i = 658 + j := ⟨i - 658, by omega⟩
    exact at_ hT _ 76 (by omega) (by omega) (cutN_at cut658 j (by omega)) a1 w1 w hgl
  by_cases c667 : i < 676
  · obtain ⟨j, rfl⟩ : ∃ j, i = 667 + j := ⟨i - 667, by omega⟩
    exact at_ hT _ 76 (by omega) (by omega) (cutN_at cut667 j (by omega)) a1 w1 w hgl
  by_cases c676 : i < 685
  · obtain ⟨j, rfl⟩ : ∃ j, i = 676 + j := ⟨i - 676, by omega⟩
    exact at_ hT _ 76 (by omega) (by omega) (cutN_at cut676 j (by omega)) a1 w1 w hgl
  by_cases c685 : i < 694
  · obtain ⟨j, rfl⟩ : ∃ j, i = 685 + j := ⟨i - 685, by omega⟩
    exact at_ hT _ 76 (by omega) (by omega) (cutN_at cut685 j (by omega)) a1 w1 w hgl
  by_cases c694 : i < 703
  · obtain ⟨j, rfl⟩ : ∃ j, i = 694 + j := ⟨i - 694, by omega⟩
    exact at_ hT _ 76 (by omega) (by omega) (cutN_at cut694 j (by omega)) a1 w1 w hgl
  by_cases c703 : i < 712
  · obtain ⟨j, rfl⟩ : ∃ j, i = 703 + j := ⟨i - 703, by omega⟩
    exact at_ hT _ 76 (by omega) (by omega) (cutN_at cut703 j (by omega)) a1 w1 w hgl
  by_cases c712 : i < 721
  · obtain ⟨j, rfl⟩ : ∃ j, i = 712 + j := ⟨i - 712, by omega⟩
    exact at_ hT _ 76 (by omega) (by omega) (cutN_at cut712 j (by omega)) a1 w1 w hgl
  by_cases c721 : i < 730
  · obtain ⟨j, rfl⟩ : ∃ j, i = 721 + j := ⟨i - 721, by omega⟩
    exact at_ hT _ 76 (by omega) (by omega) (cutN_at cut721 j (by omega)) a1 w1 w hgl
  by_cases c730 : i < 739
  · obtain ⟨j, rfl⟩ : ∃ j, i = 730 + j := ⟨i - 730, by omega⟩
    exact at_ hT _ 76 (by omega) (by omega) (cutN_at cut730 j (by omega)) a1 w1 w hgl
  by_cases c739 : i < 748
  · obtain ⟨j, rfl⟩ : ∃ j, i = 739 + j := ⟨i - 739, by omega⟩
    exact at_ hT _ 76 (by omega) (by omega) (cutN_at cut739 j (by omega)) a1 w1 w hgl
  by_cases c748 : i < 757
  · obtain ⟨j, rfl⟩ : ∃ j, i = 748 + j := ⟨i - 748, by omega⟩
    exact at_ hT _ 76 (by omega) (by omega) (cutN_at cut748 j (by omega)) a1 w1 w hgl
  by_cases c757 : i < 766
  · obtain ⟨j, rfl⟩ : ∃ j, i = 757 + j := ⟨i - 757, by omega⟩
    exact at_ hT _ 76 (by omega) (by omega) (cutN_at cut757 j (by omega)) a1 w1 w hgl
  by_cases c766 : i < 775
  · obtain ⟨j, rfl⟩ : ∃ j, i = 766 + j := ⟨i - 766, by omega⟩
    exact at_ hT _ 76 (by omega) (by omega) (cutN_at cut766 j (by omega)) a1 w1 w hgl
  by_cases c775 : i < 784
  · obtain ⟨j, rfl⟩ : ∃ j, i = 775 + j := ⟨i - 775, by omega⟩
    exact at_ hT _ 76 (by omega) (by omega) (cutN_at cut775 j (by omega)) a1 w1 w hgl
  by_cases c784 : i < 793
  · obtain ⟨j, rfl⟩ : ∃ j, i = 784 + j := ⟨i - 784, by omega⟩
    exact at_ hT _ 76 (by omega) (by omega) (cutN_at cut784 j (by omega)) a1 w1 w hgl
  by_cases c793 : i < 802
  · obtain ⟨j, rfl⟩ : ∃ j, i = 793 + j := ⟨i - 793, by omega⟩
    exact at_ hT _ 76 (by omega) (by omega) (cutN_at cut793 j (by omega)) a1 w1 w hgl
  by_cases c802 : i < 811
  · obtain ⟨j, rfl⟩ : ∃ j, i = 802 + j := ⟨i - 802, by omega⟩
    exact at_ hT _ 76 (by omega) (by omega) (cutN_at cut802 j (by omega)) a1 w1 w hgl
  by_cases c811 : i < 820
  · obtain ⟨j, rfl⟩ : ∃ j, i = 811 + j := ⟨i - 811, by omega⟩
    exact at_ hT _ 76 (by omega) (by omega) (cutN_at cut811 j (by omega)) a1 w1 w hgl
  by_cases c820 : i < 829
  · obtain ⟨j, rfl⟩ : ∃ j, i = 820 + j := ⟨i - 820, by omega⟩
    exact at_ hT _ 76 (by omega) (by omega) (cutN_at cut820 j (by omega)) a1 w1 w hgl
  by_cases c829 : i < 838
  · obtain ⟨j, rfl⟩ : ∃ j, i = 829 + j := ⟨i - 829, by omega⟩
    exact at_ hT _ 76 (by omega) (by omega) (cutN_at cut829 j (by omega)) a1 w1 w hgl
  by_cases c838 : i < 847
  · obtain ⟨j, rfl⟩ : ∃ j, i = 838 + j := ⟨i - 838, by omega⟩
    exact at_ hT _ 76 (by omega) (by omega) (cutN_at cut838 j (by omega)) a1 w1 w hgl
  by_cases c847 : i < 856
  · obtain ⟨j, rfl⟩ : ∃ j, i = 847 + j := ⟨i - 847, by omega⟩
    exact at_ hT _ 76 (by omega) (by omega) (cutN_at cut847 j (by omega)) a1 w1 w hgl
  by_cases c856 : i < 865
  · obtain ⟨j, rfl⟩ : ∃ j, i = 856 + j := ⟨i - 856, by omega⟩
    exact at_ hT _ 76 (by omega) (by omega) (cutN_at cut856 j (by omega)) a1 w1 w hgl
  by_cases c865 : i < 874
  · obtain ⟨j, rfl⟩ : ∃ j, i = 865 + j := ⟨i - 865, by omega⟩
    exact at_ hT _ 76 (by omega) (by omega) (cutN_at cut865 j (by omega)) a1 w1 w hgl
  by_cases c874 : i < 883
  · obtain ⟨j, rfl⟩ : ∃ j, i = 874 + j := ⟨i - 874, by omega⟩
    exact at_ hT _ 76 (by omega) (by omega) (cutN_at cut874 j (by omega)) a1 w1 w hgl
  by_cases c883 : i < 892
  · obtain ⟨j, rfl⟩ : ∃ j, i = 883 + j := ⟨i - 883, by omega⟩
    exact at_ hT _ 76 (by omega) (by omega) (cutN_at cut883 j (by omega)) a1 w1 w hgl
  by_cases c892 : i < 901
  · obtain ⟨j, rfl⟩ : ∃ j, i = 892 + j := ⟨i - 892, by omega⟩
    exact at_ hT _ 76 (by omega) (by omega) (cutN_at cut892 j (by omega)) a1 w1 w hgl
  by_cases c901 : i < 910
  · obtain ⟨j, rfl⟩ : ∃ j, i = 901 + j := ⟨i - 901, by omega⟩
    exact at_ hT _ 76 (by omega) (by omega) (cutN_at cut901 j (by omega)) a1 w1 w hgl
  by_cases c910 : i < 919
  · obtain ⟨j, rfl⟩ : ∃ j, i = 910 + j := ⟨i - 910, by omega⟩
    exact at_ hT _ 76 (by omega) (by omega) (cutN_at cut910 j (by omega)) a1 w1 w hgl
  by_cases c919 : i < 928
  · obtain ⟨j, rfl⟩ : ∃ j, i = 919 + j := ⟨i - 919, by omega⟩
    exact at_ hT _ 76 (by omega) (by omega) (cutN_at cut919 j (by omega)) a1 w1 w hgl
  by_cases c928 : i < 937
  · obtain ⟨j, rfl⟩ : ∃ j, i = 928 + j := ⟨i - 928, by omega⟩
    exact at_ hT _ 76 (by omega) (by omega) (cutN_at cut928 j (by omega)) a1 w1 w hgl
  by_cases c937 : i < 946
  · obtain ⟨j, rfl⟩ : ∃ j, i = 937 + j := ⟨i - 937, by omega⟩
    exact at_ hT _ 76 (by omega) (by omega) (cutN_at cut937 j (by omega)) a1 w1 w hgl
  by_cases c946 : i < 955
  · obtain ⟨j, rfl⟩ : ∃ j, i = 946 + j := ⟨i - 946, by omega⟩
    exact at_ hT _ 76 (by omega) (by omega) (cutN_at cut946 j (by omega)) a1 w1 w hgl
  by_cases c955 : i < 964
  · obtain ⟨j, rfl⟩ : ∃ j, i = 955 + j := ⟨i - 955, by omega⟩
    exact at_ hT _ 76 (by omega) (by omega) (cutN_at cut955 j (by omega)) a1 w1 w hgl
  by_cases c964 : i < 973
  · obtain ⟨j, rfl⟩ : ∃ j, i = 964 + j := ⟨i - 964, by omega⟩
    exact at_ hT _ 76 (by omega) (by omega) (cutN_at cut964 j (by omega)) a1 w1 w hgl
  by_cases c973 : i < 982
  · obtain ⟨j, rfl⟩ : ∃ j, i = 973 + j := ⟨i - 973, by omega⟩
    exact at_ hT _ 76 (by omega) (by omega) (cutN_at cut973 j (by omega)) a1 w1 w hgl
  by_cases c982 : i < 991
  · obtain ⟨j, rfl⟩ : ∃ j, i = 982 + j := ⟨i - 982, by omega⟩
    exact at_ hT _ 76 (by omega) (by omega) (cutN_at cut982 j (by omega)) a1 w1 w hgl
  by_cases c991 : i < 1000
  · obtain ⟨j, rfl⟩ : ∃ j, i = 991 + j := ⟨i - 991, by omega⟩
    exact at_ hT _ 76 (by omega) (by omega) (cutN_at cut991 j (by omega)) a1 w1 w hgl
  exact absurd h2 (by omega)
theorem gTab : Tryd.prog.globalNamed "internal/strconv.uint64pow10" = some 1 := by kernel_rfl
theorem gType : (Tryd.prog.globals[1]?).map (·.type) = some 77 := by kernel_rfl
theorem cellsA : Tryd.prog.cellsOf 77 = 20 := by kernel_rfl
theorem cellsE : Tryd.prog.cellsOf 66 = 1 := by kernel_rfl
theorem tabData_eq : (Rows.laid_internal_strconv_uint64pow10 : DataW Unit) = Lib.tabData .u64 Lib.pow10Tab := by kernel_rfl
theorem table {W : World} (h : laidMetH Tryd.prog Rows.answerCutRow.laid W) : Lib.TabIs Tryd.prog W "internal/strconv.uint64pow10" .u64 Lib.pow10Tab :=
  tabIs_of_mem (l := Rows.answerCutRow.laid) gTab gType Tryd.underlying77 Tryd.underlying66 cellsE cellsA (by rw [← tabData_eq]; exact .tail _ (.tail _ (.head _))) h
theorem maxlen {W : World} (h : W.ShapedOpen Tryd.prog) : ∃ m, W.cell? ⟨0, 0, none⟩ = some (.int .i64 m) :=
  Go.Proofs.cell_of_shapedOpen_int (t := 3) (zero := #[.int .i64 0]) h (of_decide_eq_true (by kernel_rfl)) (by kernel_rfl) rfl (by kernel_rfl) (by kernel_rfl) Tryd.underlying3
theorem contract (H : Type) (enc : TypeId × Value → H) (W : World) (base : Nat) (args : Array Value) (ds gs : List (DataW H)) (before : List MemPlace)
    (hval : ∀ (j : Nat) t v, Tryd.f5.params[j]? = some t → args[j]? = some v → Value.okWide Tryd.prog W .any base t v)
    (hW : DataW.Whole enc Tryd.prog Tryd.f5.params.toList Rows.answerCutSpec.vars false W args.toList ds gs before) (hL : laidMetH Tryd.prog Rows.answerCutRow.laid W) (hsh : W.ShapedOpen Tryd.prog) :
    Calls Tryd.prog 5 args W fun e W' => ∃ v, e = .returned v ∧ Rows.answerCutSpec.post enc Tryd.prog Tryd.f5 false true false false W args v W' := by
  have hW' := hW
  obtain ⟨p, q, hA0, hV, rfl, hfz, hnd⟩ := hW
  have hA : DataW.TrodAll enc Tryd.prog W 0 (fun _ => true) true Tryd.f5.params.toList args.toList ds p := hA0
  rw [Tryd.params5] at hA hval
  obtain ⟨v0, vs0, d0, ds0, p0, q0, hargs, rfl, rfl, h0, r0⟩ := trodAll_cons hA
  obtain ⟨v1, vs1, d1, ds1, p1, q1, rfl, rfl, rfl, h1, r1⟩ := trodAll_cons r0
  obtain ⟨rfl, rfl, rfl⟩ := trodAll_nil r1
  obtain rfl : args = #[v0, v1] := by cases args; simp_all
  obtain ⟨rfl, rfl⟩ := trodVars_none hV
  obtain ⟨a0, rfl, rfl, rfl, w0⟩ := open_int Tryd.underlying3 (hval 0 3 v0 rfl rfl) h0
  obtain ⟨a1, rfl, rfl, rfl, w1⟩ := open_int Tryd.underlying3 (hval 1 3 v1 rfl rfl) h1
  clear hA0
  simp only [List.append_nil] at hW'
  refine (walk ⟨TabG.of (l := [1, 0]) gTab (by simp) (table hL), NumG.of (by simp) (maxlen hsh)⟩ a0 w0 a1 w1 W glOf_at).mono fun e W' ⟨he, hg⟩ => ?_
  subst he
  exact ⟨_, rfl, post_of_fresh (pa := []) (pv := []) hW' (fun _ _ _ => (trodAll_cons_mk (shut_bool Tryd.underlying4 _) trodAll_mk0)) (fun sp _ => (trodAll_cons_mk (shut_int Tryd.underlying3 w0) (trodAll_cons_mk (shut_int Tryd.underlying3 w1) trodAll_mk0))) (fun _ _ => rfl) rfl hg (ok_one (by kernel_rfl) rfl (okWide_bool_mk Tryd.underlying4 _))⟩
noncomputable def laidWorld (os : Os) : World :=
  { World.holding Tryd.prog os ⟨#[], #[], []⟩ with heap := ((((((World.holding Tryd.prog os ⟨#[], #[], []⟩).heap.modify 4 fun
      | .cells _ t frozen => .cells #[.int .u8 0, .int .u8 1, .int .u8 28, .int .u8 2, .int .u8 29, .int .u8 14, .int .u8 24, .int .u8 3, .int .u8 30, .int .u8 22, .int .u8 20, .int .u8 15, .int .u8 25, .int .u8 17, .int .u8 4, .int .u8 8, .int .u8 31, .int .u8 27, .int .u8 13, .int .u8 23, .int .u8 21, .int .u8 19, .int .u8 16, .int .u8 7, .int .u8 26, .int .u8 12, .int .u8 18, .int .u8 6, .int .u8 11, .int .u8 5, .int .u8 10, .int .u8 9] t frozen
      | o => o).modify 5 fun
      | .cells _ t frozen => .cells #[.int .u8 0, .int .u8 1, .int .u8 56, .int .u8 2, .int .u8 57, .int .u8 49, .int .u8 28, .int .u8 3, .int .u8 61, .int .u8 58, .int .u8 42, .int .u8 50, .int .u8 38, .int .u8 29, .int .u8 17, .int .u8 4, .int .u8 62, .int .u8 47, .int .u8 59, .int .u8 36, .int .u8 45, .int .u8 43, .int .u8 51, .int .u8 22, .int .u8 53, .int .u8 39, .int .u8 33, .int .u8 30, .int .u8 24, .int .u8 18, .int .u8 12, .int .u8 5, .int .u8 63, .int .u8 55, .int .u8 48, .int .u8 27, .int .u8 60, .int .u8 41, .int .u8 37, .int .u8 16, .int .u8 46, .int .u8 35, .int .u8 44, .int .u8 21, .int .u8 52, .int .u8 32, .int .u8 23, .int .u8 11, .int .u8 54, .int .u8 26, .int .u8 40, .int .u8 15, .int .u8 34, .int .u8 20, .int .u8 31, .int .u8 10, .int .u8 25, .int .u8 14, .int .u8 19, .int .u8 9, .int .u8 13, .int .u8 8, .int .u8 7, .int .u8 6] t frozen
      | o => o).modify 1 fun
      | .cells _ t frozen => .cells #[.int .u64 1, .int .u64 10, .int .u64 100, .int .u64 1000, .int .u64 10000, .int .u64 100000, .int .u64 1000000, .int .u64 10000000, .int .u64 100000000, .int .u64 1000000000, .int .u64 10000000000, .int .u64 100000000000, .int .u64 1000000000000, .int .u64 10000000000000, .int .u64 100000000000000, .int .u64 1000000000000000, .int .u64 10000000000000000, .int .u64 100000000000000000, .int .u64 1000000000000000000, .int .u64 10000000000000000000] t frozen
      | o => o).modify 3 fun
      | .cells _ t frozen => .cells #[.int .u8 128, .int .u8 191, .int .u8 160, .int .u8 191, .int .u8 128, .int .u8 159, .int .u8 144, .int .u8 191, .int .u8 128, .int .u8 143, .int .u8 0, .int .u8 0, .int .u8 0, .int .u8 0, .int .u8 0, .int .u8 0, .int .u8 0, .int .u8 0, .int .u8 0, .int .u8 0, .int .u8 0, .int .u8 0, .int .u8 0, .int .u8 0, .int .u8 0, .int .u8 0, .int .u8 0, .int .u8 0, .int .u8 0, .int .u8 0, .int .u8 0, .int .u8 0] t frozen
      | o => o).modify 2 fun
      | .cells _ t frozen => .cells (Pinned.utf8FirstZ.map fun (n : Nat) => Value.int .u8 (n : Int)).toArray t frozen
      | o => o) }
theorem laid_met (os : Os) : laidMet Tryd.prog Rows.answerCutRow.laid ((laidWorld os).forCall (fun _ _ => 0) ⟨#[], #[.int .i64 0, .int .i64 0], []⟩).memory :=
  laidMet_of_run' 8 (by kernel_rfl) (by kernel_rfl)
theorem reads (os : Os) {H : Type} (enc : TypeId × Value → H) : ∃ places, DataW.whole enc Tryd.prog ((laidWorld os).forCall (fun _ _ => 0) ⟨#[], #[.int .i64 0, .int .i64 0], []⟩).memory Tryd.f5.params.toList Rows.answerCutSpec.vars false (#[.int .i64 0, .int .i64 0] : Array Value).toList 8 = some ([.lit (.int .i64 0), .lit (.int .i64 0)], [], places) :=
  ⟨[], by kernel_rfl⟩
theorem lifted (os : Os) (started : os.Started) (H : Type) (enc : TypeId × Value → H) (F : Stop.Interp) :
    ReturnsInHanded {} Tryd.checked os 5 .any ((OpenSpec.ofChange Rows.answerCutSpec).preRow enc Tryd.prog Tryd.f5 Rows.answerCutRow.domain false Rows.answerCutRow.laid) (((OpenSpec.ofChange Rows.answerCutSpec).at F).post enc Tryd.prog Tryd.f5 false true false false) := by
  obtain ⟨places, hx⟩ := reads os enc
  refine returnsInHanded_of_row (C := Tryd.checked) (s := OpenSpec.ofChange Rows.answerCutSpec) own started (by kernel_rfl) Tryd.func5
    (witness_row_at (enc := enc) (C := Tryd.checked) false (laidWorld os) #[.int .i64 0, .int .i64 0] rfl (by kernel_rfl) (by kernel_rfl) (by kernel_rfl)
      (OpenSpec.preRow_of_cond 8 hx (by kernel_rfl) (fun k hk => by cases hk) (by kernel_rfl) (laid_met os))) ?_
  intro W base args ds gs before hval hW _ _ _ hL hsh _
  exact contract H enc W base args ds gs before hval hW hL hsh
theorem said : Rows.AnswerCutSaid :=
  OpenClaim.holds_of_cond 5 Tryd.f5 rfl rfl rfl rfl rfl rfl rfl ⟨rfl, rfl, rfl, rfl, rfl⟩ rfl rfl rfl rfl rfl (by kernel_rfl) Tryd.func5 closed
    (of_decide_eq_true (by kernel_rfl)) (by unfold Func.isWrapper; first | (rw [if_pos (by decide +kernel)]; kernel_rfl) | (rw [if_neg (by decide +kernel)]; exact ⟨rfl, rfl⟩))
    (fun os started H enc _ F => by rw [OpenClaim.pre_eq_preRow]; exact lifted os started H enc F)
theorem plain (f : FuncId) (fn : Func) (hf : Tryd.pinned.checked.prog.funcNamed "stillroom/stillroomlaw24.AnswerCut" = some f) (hfn : Tryd.pinned.checked.prog.funcs[f]? = some fn) :
    false = Tryd.pinned.checked.prog.looks [] ∧ ∀ (j : Nat) t, fn.params[j]? = some t → Tryd.pinned.checked.prog.wantsStandIn t = false := by
  obtain rfl : f = 5 := Option.some.inj ((show Tryd.prog.funcNamed "stillroom/stillroomlaw24.AnswerCut" = some 5 by kernel_rfl).symm.trans hf) |>.symm
  obtain rfl : fn = Tryd.f5 := (Option.some.inj (Tryd.func5.symm.trans hfn)).symm
  refine ⟨by kernel_rfl, fun j t ht => ?_⟩
  rw [Tryd.params5] at ht
  rcases j with _ | _ | j
  · obtain rfl := (Option.some.inj ht : 3 = t)
    exact (show Tryd.pinned.checked.prog.wantsStandIn 3 = false by kernel_rfl)
  · obtain rfl := (Option.some.inj ht : 3 = t)
    exact (show Tryd.pinned.checked.prog.wantsStandIn 3 = false by kernel_rfl)
  · simp at ht
theorem g0 : ((Tryd.prog.funcs.toList).all fun fn => !fn.goes) = true := by kernel_rfl
theorem goes : false = Rows.answerCutRow.goesBy Tryd.pinned.checked.prog :=
  (goes_no (P := Tryd.pinned.checked.prog) (g0) _).symm
/-- ████ THE CARD ████ -/
theorem proved : Rows.AnswerCutCardSaid :=
  Claim7.holds_tied_plain_at .later [] _ _ _ _ said (fun _ h => by cases h) (by kernel_rfl) (fun _ h => by cases h) answerCut_row_tie rfl ⟨rfl, rfl⟩ (by kernel_rfl) rfl plain goes
#print axioms proved
end Go.Proofs.YtljckklenkcnnaaDoor.answerCut
