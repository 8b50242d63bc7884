/- Proved: stillroomlaw8.SegmentMany returns true, as its tied card says it. Conditions: the three tables that the row lists hold what the program lays, which the card ties to the program's text; none else. -/
import Derived.Test.YtddknjmlhbeabaaGreatDoorCards
import Derived.Test.YtddknjmlhbeabaaGreatDoorTie
import Derived.WalkKit
import Derived.ProofKit
import Derived.OpenShut
import Derived.Deep.DeepHandedRow
import Derived.KernelRfl
import Derived.Test.YtddknjmlhbeabaaGreatDoorT
import Derived.Test.YtddknjmlhbeabaaGreatDoorY0
import Derived.Test.YtddknjmlhbeabaaGreatDoorY1
import Derived.Test.YtddknjmlhbeabaaGreatDoorY2
import Derived.Test.YtddknjmlhbeabaaGreatDoorY3
import Derived.Test.YtddknjmlhbeabaaGreatDoorY4
import Derived.Test.YtddknjmlhbeabaaGreatDoorY5
import Derived.Test.YtddknjmlhbeabaaGreatDoorY6
import Derived.Test.YtddknjmlhbeabaaGreatDoorY7
import Derived.Test.YtddknjmlhbeabaaGreatDoorY8
import Derived.Test.YtddknjmlhbeabaaGreatDoorY9
import Derived.Test.YtddknjmlhbeabaaGreatDoorY10
import Derived.Test.YtddknjmlhbeabaaGreatDoorY11
import Derived.Test.YtddknjmlhbeabaaGreatDoorSegmentManyC
namespace Go.Proofs.YtddknjmlhbeabaaGreatDoor.segmentMany
open Go.Ev Go.Ev.YtddknjmlhbeabaaGreatDoor Go.ChangeShapes Go.WideShapes Go.ChangeAt Go.RowKit
set_option maxRecDepth 100000
set_option linter.unusedVariables false
theorem own : ownKnob Tryz.prog.godebug = none := by kernel_rfl
theorem mixed : Tryz.prog.follows .mixedOrders = true := by kernel_rfl
theorem run_n_neg : segQ (.oth (.iv .i64 9223372036854775808 18446744073709551615)) (.oth (.iv .i64 0 18446744073709551615)) = true := by kernel_rfl
theorem run_n_lo : segQ (.oth (.iv .i64 0 0)) (.oth (.iv .i64 0 18446744073709551615)) = true := by kernel_rfl
theorem run_n_hi : segQ (.oth (.iv .i64 61 9223372036854775807)) (.oth (.iv .i64 0 18446744073709551615)) = true := by kernel_rfl
theorem run_p_neg : segQ (.oth (.iv .i64 1 60)) (.oth (.iv .i64 9223372036854775808 18446744073709551615)) = true := by kernel_rfl
theorem run_p_lo : segQ (.oth (.iv .i64 1 60)) (.oth (.iv .i64 0 0)) = true := by kernel_rfl
theorem run_p_hi : segQ (.oth (.iv .i64 1 60)) (.oth (.iv .i64 11 9223372036854775807)) = true := by kernel_rfl
theorem walk {gl : GlF} (hT : HT gl) (a0 : Int) (w0 : (Lit.int .i64 a0).wf = true) (a1 : Int) (w1 : (Lit.int .i64 a1).wf = true) (w : World) (hgl : GlAt (rhoS gl) w) : Calls Tryz.prog 3 #[.int .i64 a0, .int .i64 a1] w fun e w' => e = .returned (.bool true) ∧ Below w.heap.size w w' := by
  have hb0 := wf_i64 w0
  have hb1 := wf_i64 w1
  by_cases h0 : a0 < 0
  · exact law2_call oneS mixed (tab_ok hT) Tryz.func3 (by kernel_rfl) (by kernel_rfl) run_n_neg (rels_cons.2 ⟨_, _, rfl, rel_iv_neg h0 hb0.1, rels_cons.2 ⟨_, _, rfl, rel_iv_any hb1.1 hb1.2, rels_nil.2 rfl⟩⟩) w hgl
  by_cases h1 : a0 ≤ 0
  · exact law2_call oneS mixed (tab_ok hT) Tryz.func3 (by kernel_rfl) (by kernel_rfl) run_n_lo (rels_cons.2 ⟨_, _, rfl, rel_iv_mid (by omega) (by omega) (by decide), rels_cons.2 ⟨_, _, rfl, rel_iv_any hb1.1 hb1.2, rels_nil.2 rfl⟩⟩) w hgl
  by_cases h2 : 61 ≤ a0
  · exact law2_call oneS mixed (tab_ok hT) Tryz.func3 (by kernel_rfl) (by kernel_rfl) run_n_hi (rels_cons.2 ⟨_, _, rfl, rel_iv_hi h2 hb0.2, rels_cons.2 ⟨_, _, rfl, rel_iv_any hb1.1 hb1.2, rels_nil.2 rfl⟩⟩) w hgl
  by_cases h3 : a1 < 0
  · exact law2_call oneS mixed (tab_ok hT) Tryz.func3 (by kernel_rfl) (by kernel_rfl) run_p_neg (rels_cons.2 ⟨_, _, rfl, rel_iv_mid (by omega) (by omega) (by decide), rels_cons.2 ⟨_, _, rfl, rel_iv_neg h3 hb1.1, rels_nil.2 rfl⟩⟩) w hgl
  by_cases h4 : a1 ≤ 0
  · exact law2_call oneS mixed (tab_ok hT) Tryz.func3 (by kernel_rfl) (by kernel_rfl) run_p_lo (rels_cons.2 ⟨_, _, rfl, rel_iv_mid (by omega) (by omega) (by decide), rels_cons.2 ⟨_, _, rfl, rel_iv_mid (by omega) (by omega) (by decide), rels_nil.2 rfl⟩⟩) w hgl
  by_cases h5 : 11 ≤ a1
  · exact law2_call oneS mixed (tab_ok hT) Tryz.func3 (by kernel_rfl) (by kernel_rfl) run_p_hi (rels_cons.2 ⟨_, _, rfl, rel_iv_mid (by omega) (by omega) (by decide), rels_cons.2 ⟨_, _, rfl, rel_iv_hi h5 hb1.2, rels_nil.2 rfl⟩⟩) w hgl
  obtain ⟨n, rfl⟩ : ∃ n : Nat, a0 = n := ⟨a0.toNat, by omega⟩
  obtain ⟨p, rfl⟩ : ∃ p : Nat, a1 = p := ⟨a1.toNat, by omega⟩
  have key : segQ (.int .i64 n) (.int .i64 p) = true := by
    by_cases c1 : n = 1
    · subst c1
      by_cases d1 : p < 3
      · exact seg_at y1_1 p (by omega) (by omega)
      by_cases d3 : p < 5
      · exact seg_at y1_3 p (by omega) (by omega)
      by_cases d5 : p < 7
      · exact seg_at y1_5 p (by omega) (by omega)
      by_cases d7 : p < 9
      · exact seg_at y1_7 p (by omega) (by omega)
      exact seg_at y1_9 p (by omega) (by omega)
    by_cases c2 : n = 2
    · subst c2
      by_cases d1 : p < 3
      · exact seg_at y2_1 p (by omega) (by omega)
      by_cases d3 : p < 5
      · exact seg_at y2_3 p (by omega) (by omega)
      by_cases d5 : p < 7
      · exact seg_at y2_5 p (by omega) (by omega)
      by_cases d7 : p < 9
      · exact seg_at y2_7 p (by omega) (by omega)
      exact seg_at y2_9 p (by omega) (by omega)
    by_cases c3 : n = 3
    · subst c3
      by_cases d1 : p < 3
      · exact seg_at y3_1 p (by omega) (by omega)
      by_cases d3 : p < 5
      · exact seg_at y3_3 p (by omega) (by omega)
      by_cases d5 : p < 7
      · exact seg_at y3_5 p (by omega) (by omega)
      by_cases d7 : p < 9
      · exact seg_at y3_7 p (by omega) (by omega)
      exact seg_at y3_9 p (by omega) (by omega)
    by_cases c4 : n = 4
    · subst c4
      by_cases d1 : p < 3
      · exact seg_at y4_1 p (by omega) (by omega)
      by_cases d3 : p < 5
      · exact seg_at y4_3 p (by omega) (by omega)
      by_cases d5 : p < 7
      · exact seg_at y4_5 p (by omega) (by omega)
      by_cases d7 : p < 9
      · exact seg_at y4_7 p (by omega) (by omega)
      exact seg_at y4_9 p (by omega) (by omega)
    by_cases c5 : n = 5
    · subst c5
      by_cases d1 : p < 3
      · exact seg_at y5_1 p (by omega) (by omega)
      by_cases d3 : p < 5
      · exact seg_at y5_3 p (by omega) (by omega)
      by_cases d5 : p < 7
      · exact seg_at y5_5 p (by omega) (by omega)
      by_cases d7 : p < 9
      · exact seg_at y5_7 p (by omega) (by omega)
      exact seg_at y5_9 p (by omega) (by omega)
    by_cases c6 : n = 6
    · subst c6
      by_cases d1 : p < 3
      · exact seg_at y6_1 p (by omega) (by omega)
      by_cases d3 : p < 5
      · exact seg_at y6_3 p (by omega) (by omega)
      by_cases d5 : p < 7
      · exact seg_at y6_5 p (by omega) (by omega)
      by_cases d7 : p < 9
      · exact seg_at y6_7 p (by omega) (by omega)
      exact seg_at y6_9 p (by omega) (by omega)
    by_cases c7 : n = 7
    · subst c7
      by_cases d1 : p < 3
      · exact seg_at y7_1 p (by omega) (by omega)
      by_cases d3 : p < 5
      · exact seg_at y7_3 p (by omega) (by omega)
      by_cases d5 : p < 7
      · exact seg_at y7_5 p (by omega) (by omega)
      by_cases d7 : p < 9
      · exact seg_at y7_7 p (by omega) (by omega)
      exact seg_at y7_9 p (by omega) (by omega)
    by_cases c8 : n = 8
    · subst c8
      by_cases d1 : p < 3
      · exact seg_at y8_1 p (by omega) (by omega)
      by_cases d3 : p < 5
      · exact seg_at y8_3 p (by omega) (by omega)
      by_cases d5 : p < 7
      · exact seg_at y8_5 p (by omega) (by omega)
      by_cases d7 : p < 9
      · exact seg_at y8_7 p (by omega) (by omega)
      exact seg_at y8_9 p (by omega) (by omega)
    by_cases c9 : n = 9
    · subst c9
      by_cases d1 : p < 3
      · exact seg_at y9_1 p (by omega) (by omega)
      by_cases d3 : p < 5
      · exact seg_at y9_3 p (by omega) (by omega)
      by_cases d5 : p < 7
      · exact seg_at y9_5 p (by omega) (by omega)
      by_cases d7 : p < 9
      · exact seg_at y9_7 p (by omega) (by omega)
      exact seg_at y9_9 p (by omega) (by omega)
    by_cases c10 : n = 10
    · subst c10
      by_cases d1 : p < 3
      · exact seg_at y10_1 p (by omega) (by omega)
      by_cases d3 : p < 5
      · exact seg_at y10_3 p (by omega) (by omega)
      by_cases d5 : p < 7
      · exact seg_at y10_5 p (by omega) (by omega)
      by_cases d7 : p < 9
      · exact seg_at y10_7 p (by omega) (by omega)
      exact seg_at y10_9 p (by omega) (by omega)
    by_cases c11 : n = 11
    · subst c11
      by_cases d1 : p < 3
      · exact seg_at y11_1 p (by omega) (by omega)
      by_cases d3 : p < 5
      · exact seg_at y11_3 p (by omega) (by omega)
      by_cases d5 : p < 7
      · exact seg_at y11_5 p (by omega) (by omega)
      by_cases d7 : p < 9
      · exact seg_at y11_7 p (by omega) (by omega)
      exact seg_at y11_9 p (by omega) (by omega)
    by_cases c12 : n = 12
    · subst c12
      by_cases d1 : p < 3
      · exact seg_at y12_1 p (by omega) (by omega)
      by_cases d3 : p < 5
      · exact seg_at y12_3 p (by omega) (by omega)
      by_cases d5 : p < 7
      · exact seg_at y12_5 p (by omega) (by omega)
      by_cases d7 : p < 9
      · exact seg_at y12_7 p (by omega) (by omega)
      exact seg_at y12_9 p (by omega) (by omega)
    by_cases c13 : n = 13
    · subst c13
      by_cases d1 : p < 3
      · exact seg_at y13_1 p (by omega) (by omega)
      by_cases d3 : p < 5
      · exact seg_at y13_3 p (by omega) (by omega)
      by_cases d5 : p < 7
      · exact seg_at y13_5 p (by omega) (by omega)
      by_cases d7 : p < 9
      · exact seg_at y13_7 p (by omega) (by omega)
      exact seg_at y13_9 p (by omega) (by omega)
    by_cases c14 : n = 14
    · subst c14
      by_cases d1 : p < 3
      · exact seg_at y14_1 p (by omega) (by omega)
      by_cases d3 : p < 5
      · exact seg_at y14_3 p (by omega) (by omega)
      by_cases d5 : p < 7
      · exact seg_at y14_5 p (by omega) (by omega)
      by_cases d7 : p < 9
      · exact seg_at y14_7 p (by omega) (by omega)
      exact seg_at y14_9 p (by omega) (by omega)
    by_cases c15 : n = 15
    · subst c15
      by_cases d1 : p < 3
      · exact seg_at y15_1 p (by omega) (by omega)
      by_cases d3 : p < 5
      · exact seg_at y15_3 p (by omega) (by omega)
      by_cases d5 : p < 7
      · exact seg_at y15_5 p (by omega) (by omega)
      by_cases d7 : p < 9
      · exact seg_at y15_7 p (by omega) (by omega)
      exact seg_at y15_9 p (by omega) (by omega)
    by_cases c16 : n = 16
    · subst c16
      by_cases d1 : p < 3
      · exact seg_at y16_1 p (by omega) (by omega)
      by_cases d3 : p < 5
      · exact seg_at y16_3 p (by omega) (by omega)
      by_cases d5 : p < 7
      · exact seg_at y16_5 p (by omega) (by omega)
      by_cases d7 : p < 9
      · exact seg_at y16_7 p (by omega) (by omega)
      exact seg_at y16_9 p (by omega) (by omega)
    by_cases c17 : n = 17
    · subst c17
      by_cases d1 : p < 3
      · exact seg_at y17_1 p (by omega) (by omega)
      by_cases d3 : p < 5
      · exact seg_at y17_3 p (by omega) (by omega)
      by_cases d5 : p < 7
      · exact seg_at y17_5 p (by omega) (by omega)
      by_cases d7 : p < 9
      · exact seg_at y17_7 p (by omega) (by omega)
      exact seg_at y17_9 p (by omega) (by omega)
    by_cases c18 : n = 18
    · subst c18
      by_cases d1 : p < 3
      · exact seg_at y18_1 p (by omega) (by omega)
      by_cases d3 : p < 5
      · exact seg_at y18_3 p (by omega) (by omega)
      by_cases d5 : p < 7
      · exact seg_at y18_5 p (by omega) (by omega)
      by_cases d7 : p < 9
      · exact seg_at y18_7 p (by omega) (by omega)
      exact seg_at y18_9 p (by omega) (by omega)
    by_cases c19 : n = 19
    · subst c19
      by_cases d1 : p < 3
      · exact seg_at y19_1 p (by omega) (by omega)
      by_cases d3 : p < 5
      · exact seg_at y19_3 p (by omega) (by omega)
      by_cases d5 : p < 7
      · exact seg_at y19_5 p (by omega) (by omega)
      by_cases d7 : p < 9
      · exact seg_at y19_7 p (by omega) (by omega)
      exact seg_at y19_9 p (by omega) (by omega)
    by_cases c20 : n = 20
    · subst c20
      by_cases d1 : p < 3
      · exact seg_at y20_1 p (by omega) (by omega)
      by_cases d3 : p < 5
      · exact seg_at y20_3 p (by omega) (by omega)
      by_cases d5 : p < 7
      · exact seg_at y20_5 p (by omega) (by omega)
      by_cases d7 : p < 9
      · exact seg_at y20_7 p (by omega) (by omega)
      exact seg_at y20_9 p (by omega) (by omega)
    by_cases c21 : n = 21
    · subst c21
      by_cases d1 : p < 3
      · exact seg_at y21_1 p (by omega) (by omega)
      by_cases d3 : p < 5
      · exact seg_at y21_3 p (by omega) (by omega)
      by_cases d5 : p < 7
      · exact seg_at y21_5 p (by omega) (by omega)
      by_cases d7 : p < 9
      · exact seg_at y21_7 p (by omega) (by omega)
      exact seg_at y21_9 p (by omega) (by omega)
    by_cases c22 : n = 22
    · subst c22
      by_cases d1 : p < 3
      · exact seg_at y22_1 p (by omega) (by omega)
      by_cases d3 : p < 5
      · exact seg_at y22_3 p (by omega) (by omega)
      by_cases d5 : p < 7
      · exact seg_at y22_5 p (by omega) (by omega)
      by_cases d7 : p < 9
      · exact seg_at y22_7 p (by omega) (by omega)
      exact seg_at y22_9 p (by omega) (by omega)
    by_cases c23 : n = 23
    · subst c23
      by_cases d1 : p < 3
      · exact seg_at y23_1 p (by omega) (by omega)
      by_cases d3 : p < 5
      · exact seg_at y23_3 p (by omega) (by omega)
      by_cases d5 : p < 7
      · exact seg_at y23_5 p (by omega) (by omega)
      by_cases d7 : p < 9
      · exact seg_at y23_7 p (by omega) (by omega)
      exact seg_at y23_9 p (by omega) (by omega)
    by_cases c24 : n = 24
    · subst c24
      by_cases d1 : p < 3
      · exact seg_at y24_1 p (by omega) (by omega)
      by_cases d3 : p < 5
      · exact seg_at y24_3 p (by omega) (by omega)
      by_cases d5 : p < 7
      · exact seg_at y24_5 p (by omega) (by omega)
      by_cases d7 : p < 9
      · exact seg_at y24_7 p (by omega) (by omega)
      exact seg_at y24_9 p (by omega) (by omega)
    by_cases c25 : n = 25
    · subst c25
      by_cases d1 : p < 3
      · exact seg_at y25_1 p (by omega) (by omega)
      by_cases d3 : p < 5
      · exact seg_at y25_3 p (by omega) (by omega)
      by_cases d5 : p < 7
      · exact seg_at y25_5 p (by omega) (by omega)
      by_cases d7 : p < 9
      · exact seg_at y25_7 p (by omega) (by omega)
      exact seg_at y25_9 p (by omega) (by omega)
    by_cases c26 : n = 26
    · subst c26
      by_cases d1 : p < 3
      · exact seg_at y26_1 p (by omega) (by omega)
      by_cases d3 : p < 5
      · exact seg_at y26_3 p (by omega) (by omega)
      by_cases d5 : p < 7
      · exact seg_at y26_5 p (by omega) (by omega)
      by_cases d7 : p < 9
      · exact seg_at y26_7 p (by omega) (by omega)
      exact seg_at y26_9 p (by omega) (by omega)
    by_cases c27 : n = 27
    · subst c27
      by_cases d1 : p < 3
      · exact seg_at y27_1 p (by omega) (by omega)
      by_cases d3 : p < 5
      · exact seg_at y27_3 p (by omega) (by omega)
      by_cases d5 : p < 7
      · exact seg_at y27_5 p (by omega) (by omega)
      by_cases d7 : p < 9
      · exact seg_at y27_7 p (by omega) (by omega)
      exact seg_at y27_9 p (by omega) (by omega)
    by_cases c28 : n = 28
    · subst c28
      by_cases d1 : p < 3
      · exact seg_at y28_1 p (by omega) (by omega)
      by_cases d3 : p < 5
      · exact seg_at y28_3 p (by omega) (by omega)
      by_cases d5 : p < 7
      · exact seg_at y28_5 p (by omega) (by omega)
      by_cases d7 : p < 9
      · exact seg_at y28_7 p (by omega) (by omega)
      exact seg_at y28_9 p (by omega) (by omega)
    by_cases c29 : n = 29
    · subst c29
      by_cases d1 : p < 3
      · exact seg_at y29_1 p (by omega) (by omega)
      by_cases d3 : p < 5
      · exact seg_at y29_3 p (by omega) (by omega)
      by_cases d5 : p < 7
      · exact seg_at y29_5 p (by omega) (by omega)
      by_cases d7 : p < 9
      · exact seg_at y29_7 p (by omega) (by omega)
      exact seg_at y29_9 p (by omega) (by omega)
    by_cases c30 : n = 30
    · subst c30
      by_cases d1 : p < 3
      · exact seg_at y30_1 p (by omega) (by omega)
      by_cases d3 : p < 5
      · exact seg_at y30_3 p (by omega) (by omega)
      by_cases d5 : p < 7
      · exact seg_at y30_5 p (by omega) (by omega)
      by_cases d7 : p < 9
      · exact seg_at y30_7 p (by omega) (by omega)
      exact seg_at y30_9 p (by omega) (by omega)
    by_cases c31 : n = 31
    · subst c31
      by_cases d1 : p < 3
      · exact seg_at y31_1 p (by omega) (by omega)
      by_cases d3 : p < 5
      · exact seg_at y31_3 p (by omega) (by omega)
      by_cases d5 : p < 7
      · exact seg_at y31_5 p (by omega) (by omega)
      by_cases d7 : p < 9
      · exact seg_at y31_7 p (by omega) (by omega)
      exact seg_at y31_9 p (by omega) (by omega)
    by_cases c32 : n = 32
    · subst c32
      by_cases d1 : p < 3
      · exact seg_at y32_1 p (by omega) (by omega)
      by_cases d3 : p < 5
      · exact seg_at y32_3 p (by omega) (by omega)
      by_cases d5 : p < 7
      · exact seg_at y32_5 p (by omega) (by omega)
      by_cases d7 : p < 9
      · exact seg_at y32_7 p (by omega) (by omega)
      exact seg_at y32_9 p (by omega) (by omega)
    by_cases c33 : n = 33
    · subst c33
      by_cases d1 : p < 3
      · exact seg_at y33_1 p (by omega) (by omega)
      by_cases d3 : p < 5
      · exact seg_at y33_3 p (by omega) (by omega)
      by_cases d5 : p < 7
      · exact seg_at y33_5 p (by omega) (by omega)
      by_cases d7 : p < 9
      · exact seg_at y33_7 p (by omega) (by omega)
      exact seg_at y33_9 p (by omega) (by omega)
    by_cases c34 : n = 34
    · subst c34
      by_cases d1 : p < 3
      · exact seg_at y34_1 p (by omega) (by omega)
      by_cases d3 : p < 5
      · exact seg_at y34_3 p (by omega) (by omega)
      by_cases d5 : p < 7
      · exact seg_at y34_5 p (by omega) (by omega)
      by_cases d7 : p < 9
      · exact seg_at y34_7 p (by omega) (by omega)
      exact seg_at y34_9 p (by omega) (by omega)
    by_cases c35 : n = 35
    · subst c35
      by_cases d1 : p < 3
      · exact seg_at y35_1 p (by omega) (by omega)
      by_cases d3 : p < 5
      · exact seg_at y35_3 p (by omega) (by omega)
      by_cases d5 : p < 7
      · exact seg_at y35_5 p (by omega) (by omega)
      by_cases d7 : p < 9
      · exact seg_at y35_7 p (by omega) (by omega)
      exact seg_at y35_9 p (by omega) (by omega)
    by_cases c36 : n = 36
    · subst c36
      by_cases d1 : p < 3
      · exact seg_at y36_1 p (by omega) (by omega)
      by_cases d3 : p < 5
      · exact seg_at y36_3 p (by omega) (by omega)
      by_cases d5 : p < 7
      · exact seg_at y36_5 p (by omega) (by omega)
      by_cases d7 : p < 9
      · exact seg_at y36_7 p (by omega) (by omega)
      exact seg_at y36_9 p (by omega) (by omega)
    by_cases c37 : n = 37
    · subst c37
      by_cases d1 : p < 3
      · exact seg_at y37_1 p (by omega) (by omega)
      by_cases d3 : p < 5
      · exact seg_at y37_3 p (by omega) (by omega)
      by_cases d5 : p < 7
      · exact seg_at y37_5 p (by omega) (by omega)
      by_cases d7 : p < 9
      · exact seg_at y37_7 p (by omega) (by omega)
      exact seg_at y37_9 p (by omega) (by omega)
    by_cases c38 : n = 38
    · subst c38
      by_cases d1 : p < 3
      · exact seg_at y38_1 p (by omega) (by omega)
      by_cases d3 : p < 5
      · exact seg_at y38_3 p (by omega) (by omega)
      by_cases d5 : p < 7
      · exact seg_at y38_5 p (by omega) (by omega)
      by_cases d7 : p < 9
      · exact seg_at y38_7 p (by omega) (by omega)
      exact seg_at y38_9 p (by omega) (by omega)
    by_cases c39 : n = 39
    · subst c39
      by_cases d1 : p < 3
      · exact seg_at y39_1 p (by omega) (by omega)
      by_cases d3 : p < 5
      · exact seg_at y39_3 p (by omega) (by omega)
      by_cases d5 : p < 7
      · exact seg_at y39_5 p (by omega) (by omega)
      by_cases d7 : p < 9
      · exact seg_at y39_7 p (by omega) (by omega)
      exact seg_at y39_9 p (by omega) (by omega)
    by_cases c40 : n = 40
    · subst c40
      by_cases d1 : p < 3
      · exact seg_at y40_1 p (by omega) (by omega)
      by_cases d3 : p < 5
      · exact seg_at y40_3 p (by omega) (by omega)
      by_cases d5 : p < 7
      · exact seg_at y40_5 p (by omega) (by omega)
      by_cases d7 : p < 9
      · exact seg_at y40_7 p (by omega) (by omega)
      exact seg_at y40_9 p (by omega) (by omega)
    by_cases c41 : n = 41
    · subst c41
      by_cases d1 : p < 3
      · exact seg_at y41_1 p (by omega) (by omega)
      by_cases d3 : p < 5
      · exact seg_at y41_3 p (by omega) (by omega)
      by_cases d5 : p < 7
      · exact seg_at y41_5 p (by omega) (by omega)
      by_cases d7 : p < 9
      · exact seg_at y41_7 p (by omega) (by omega)
      exact seg_at y41_9 p (by omega) (by omega)
    by_cases c42 : n = 42
    · subst c42
      by_cases d1 : p < 3
      · exact seg_at y42_1 p (by omega) (by omega)
      by_cases d3 : p < 5
      · exact seg_at y42_3 p (by omega) (by omega)
      by_cases d5 : p < 7
      · exact seg_at y42_5 p (by omega) (by omega)
      by_cases d7 : p < 9
      · exact seg_at y42_7 p (by omega) (by omega)
      exact seg_at y42_9 p (by omega) (by omega)
    by_cases c43 : n = 43
    · subst c43
      by_cases d1 : p < 3
      · exact seg_at y43_1 p (by omega) (by omega)
      by_cases d3 : p < 5
      · exact seg_at y43_3 p (by omega) (by omega)
      by_cases d5 : p < 7
      · exact seg_at y43_5 p (by omega) (by omega)
      by_cases d7 : p < 9
      · exact seg_at y43_7 p (by omega) (by omega)
      exact seg_at y43_9 p (by omega) (by omega)
    by_cases c44 : n = 44
    · subst c44
      by_cases d1 : p < 3
      · exact seg_at y44_1 p (by omega) (by omega)
      by_cases d3 : p < 5
      · exact seg_at y44_3 p (by omega) (by omega)
      by_cases d5 : p < 7
      · exact seg_at y44_5 p (by omega) (by omega)
      by_cases d7 : p < 9
      · exact seg_at y44_7 p (by omega) (by omega)
      exact seg_at y44_9 p (by omega) (by omega)
    by_cases c45 : n = 45
    · subst c45
      by_cases d1 : p < 3
      · exact seg_at y45_1 p (by omega) (by omega)
      by_cases d3 : p < 5
      · exact seg_at y45_3 p (by omega) (by omega)
      by_cases d5 : p < 7
      · exact seg_at y45_5 p (by omega) (by omega)
      by_cases d7 : p < 9
      · exact seg_at y45_7 p (by omega) (by omega)
      exact seg_at y45_9 p (by omega) (by omega)
    by_cases c46 : n = 46
    · subst c46
      by_cases d1 : p < 3
      · exact seg_at y46_1 p (by omega) (by omega)
      by_cases d3 : p < 5
      · exact seg_at y46_3 p (by omega) (by omega)
      by_cases d5 : p < 7
      · exact seg_at y46_5 p (by omega) (by omega)
      by_cases d7 : p < 9
      · exact seg_at y46_7 p (by omega) (by omega)
      exact seg_at y46_9 p (by omega) (by omega)
    by_cases c47 : n = 47
    · subst c47
      by_cases d1 : p < 3
      · exact seg_at y47_1 p (by omega) (by omega)
      by_cases d3 : p < 5
      · exact seg_at y47_3 p (by omega) (by omega)
      by_cases d5 : p < 7
      · exact seg_at y47_5 p (by omega) (by omega)
      by_cases d7 : p < 9
      · exact seg_at y47_7 p (by omega) (by omega)
      exact seg_at y47_9 p (by omega) (by omega)
    by_cases c48 : n = 48
    · subst c48
      by_cases d1 : p < 3
      · exact seg_at y48_1 p (by omega) (by omega)
      by_cases d3 : p < 5
      · exact seg_at y48_3 p (by omega) (by omega)
      by_cases d5 : p < 7
      · exact seg_at y48_5 p (by omega) (by omega)
      by_cases d7 : p < 9
      · exact seg_at y48_7 p (by omega) (by omega)
      exact seg_at y48_9 p (by omega) (by omega)
    by_cases c49 : n = 49
    · subst c49
      by_cases d1 : p < 3
      · exact seg_at y49_1 p (by omega) (by omega)
      by_cases d3 : p < 5
      · exact seg_at y49_3 p (by omega) (by omega)
      by_cases d5 : p < 7
      · exact seg_at y49_5 p (by omega) (by omega)
      by_cases d7 : p < 9
      · exact seg_at y49_7 p (by omega) (by omega)
      exact seg_at y49_9 p (by omega) (by omega)
    by_cases c50 : n = 50
    · subst c50
      by_cases d1 : p < 3
      · exact seg_at y50_1 p (by omega) (by omega)
      by_cases d3 : p < 5
      · exact seg_at y50_3 p (by omega) (by omega)
      by_cases d5 : p < 7
      · exact seg_at y50_5 p (by omega) (by omega)
      by_cases d7 : p < 9
      · exact seg_at y50_7 p (by omega) (by omega)
      exact seg_at y50_9 p (by omega) (by omega)
    by_cases c51 : n = 51
    · subst c51
      by_cases d1 : p < 3
      · exact seg_at y51_1 p (by omega) (by omega)
      by_cases d3 : p < 5
      · exact seg_at y51_3 p (by omega) (by omega)
      by_cases d5 : p < 7
      · exact seg_at y51_5 p (by omega) (by omega)
      by_cases d7 : p < 9
      · exact seg_at y51_7 p (by omega) (by omega)
      exact seg_at y51_9 p (by omega) (by omega)
    by_cases c52 : n = 52
    · subst c52
      by_cases d1 : p < 3
      · exact seg_at y52_1 p (by omega) (by omega)
      by_cases d3 : p < 5
      · exact seg_at y52_3 p (by omega) (by omega)
      by_cases d5 : p < 7
      · exact seg_at y52_5 p (by omega) (by omega)
      by_cases d7 : p < 9
      · exact seg_at y52_7 p (by omega) (by omega)
      exact seg_at y52_9 p (by omega) (by omega)
    by_cases c53 : n = 53
    · subst c53
      by_cases d1 : p < 3
      · exact seg_at y53_1 p (by omega) (by omega)
      by_cases d3 : p < 5
      · exact seg_at y53_3 p (by omega) (by omega)
      by_cases d5 : p < 7
      · exact seg_at y53_5 p (by omega) (by omega)
      by_cases d7 : p < 9
      · exact seg_at y53_7 p (by omega) (by omega)
      exact seg_at y53_9 p (by omega) (by omega)
    by_cases c54 : n = 54
    · subst c54
      by_cases d1 : p < 3
      · exact seg_at y54_1 p (by omega) (by omega)
      by_cases d3 : p < 5
      · exact seg_at y54_3 p (by omega) (by omega)
      by_cases d5 : p < 7
      · exact seg_at y54_5 p (by omega) (by omega)
      by_cases d7 : p < 9
      · exact seg_at y54_7 p (by omega) (by omega)
      exact seg_at y54_9 p (by omega) (by omega)
    by_cases c55 : n = 55
    · subst c55
      by_cases d1 : p < 3
      · exact seg_at y55_1 p (by omega) (by omega)
      by_cases d3 : p < 5
      · exact seg_at y55_3 p (by omega) (by omega)
      by_cases d5 : p < 7
      · exact seg_at y55_5 p (by omega) (by omega)
      by_cases d7 : p < 9
      · exact seg_at y55_7 p (by omega) (by omega)
      exact seg_at y55_9 p (by omega) (by omega)
    by_cases c56 : n = 56
    · subst c56
      by_cases d1 : p < 3
      · exact seg_at y56_1 p (by omega) (by omega)
      by_cases d3 : p < 5
      · exact seg_at y56_3 p (by omega) (by omega)
      by_cases d5 : p < 7
      · exact seg_at y56_5 p (by omega) (by omega)
      by_cases d7 : p < 9
      · exact seg_at y56_7 p (by omega) (by omega)
      exact seg_at y56_9 p (by omega) (by omega)
    by_cases c57 : n = 57
    · subst c57
      by_cases d1 : p < 3
      · exact seg_at y57_1 p (by omega) (by omega)
      by_cases d3 : p < 5
      · exact seg_at y57_3 p (by omega) (by omega)
      by_cases d5 : p < 7
      · exact seg_at y57_5 p (by omega) (by omega)
      by_cases d7 : p < 9
      · exact seg_at y57_7 p (by omega) (by omega)
      exact seg_at y57_9 p (by omega) (by omega)
    by_cases c58 : n = 58
    · subst c58
      by_cases d1 : p < 3
      · exact seg_at y58_1 p (by omega) (by omega)
      by_cases d3 : p < 5
      · exact seg_at y58_3 p (by omega) (by omega)
      by_cases d5 : p < 7
      · exact seg_at y58_5 p (by omega) (by omega)
      by_cases d7 : p < 9
      · exact seg_at y58_7 p (by omega) (by omega)
      exact seg_at y58_9 p (by omega) (by omega)
    by_cases c59 : n = 59
    · subst c59
      by_cases d1 : p < 3
      · exact seg_at y59_1 p (by omega) (by omega)
      by_cases d3 : p < 5
      · exact seg_at y59_3 p (by omega) (by omega)
      by_cases d5 : p < 7
      · exact seg_at y59_5 p (by omega) (by omega)
      by_cases d7 : p < 9
      · exact seg_at y59_7 p (by omega) (by omega)
      exact seg_at y59_9 p (by omega) (by omega)
    by_cases c60 : n = 60
    · subst c60
      by_cases d1 : p < 3
      · exact seg_at y60_1 p (by omega) (by omega)
      by_cases d3 : p < 5
      · exact seg_at y60_3 p (by omega) (by omega)
      by_cases d5 : p < 7
      · exact seg_at y60_5 p (by omega) (by omega)
      by_cases d7 : p < 9
      · exact seg_at y60_7 p (by omega) (by omega)
      exact seg_at y60_9 p (by omega) (by omega)
    exact absurd h2 (by omega)
  exact law2_call oneS mixed (tab_ok hT) Tryz.func3 (by kernel_rfl) (by kernel_rfl) key (rels_cons.2 ⟨_, _, rfl, rel_i64 (by omega), rels_cons.2 ⟨_, _, rfl, rel_i64 (by omega), rels_nil.2 rfl⟩⟩) w hgl
theorem gTab : Tryz.prog.globalNamed "internal/strconv.uint64pow10" = some 0 := by kernel_rfl
theorem gType : (Tryz.prog.globals[0]?).map (·.type) = some 328 := by kernel_rfl
theorem cellsA : Tryz.prog.cellsOf 328 = 20 := by kernel_rfl
theorem cellsE : Tryz.prog.cellsOf 32 = 1 := by kernel_rfl
theorem tabData_eq : (Rows.laid_internal_strconv_uint64pow10 : DataW Unit) = Lib.tabData .u64 Lib.pow10Tab := by kernel_rfl
theorem table {W : World} (h : laidMetH Tryz.prog Rows.segmentManyRow.laid W) : Lib.TabIs Tryz.prog W "internal/strconv.uint64pow10" .u64 Lib.pow10Tab :=
  tabIs_of_mem (l := Rows.segmentManyRow.laid) gTab gType Tryz.underlying328 Tryz.underlying32 cellsE cellsA (by rw [← tabData_eq]; exact .tail _ (.tail _ (.head _))) h
theorem contract (H : Type) (enc : TypeId × Value → H) (W : World) (base : Nat) (args : Array Value) (ds gs : List (DataW H)) (before : List MemPlace)
    (hval : ∀ (j : Nat) t v, Tryz.f3.params[j]? = some t → args[j]? = some v → Value.okWide Tryz.prog W .any base t v)
    (hW : DataW.Whole enc Tryz.prog Tryz.f3.params.toList Rows.segmentManySpec.vars false W args.toList ds gs before) (hL : laidMetH Tryz.prog Rows.segmentManyRow.laid W) :
    Calls Tryz.prog 3 args W fun e W' => ∃ v, e = .returned v ∧ Rows.segmentManySpec.post enc Tryz.prog Tryz.f3 false true false false W args v W' := by
  have hW' := hW
  obtain ⟨p, q, hA0, hV, rfl, hfz, hnd⟩ := hW
  have hA : DataW.TrodAll enc Tryz.prog W 0 (fun _ => true) true Tryz.f3.params.toList args.toList ds p := hA0
  rw [Tryz.params3] at hA hval
  obtain ⟨v0, vs0, d0, ds0, p0, q0, hargs, rfl, rfl, h0, r0⟩ := trodAll_cons hA
  obtain ⟨v1, vs1, d1, ds1, p1, q1, rfl, rfl, rfl, h1, r1⟩ := trodAll_cons r0
  obtain ⟨rfl, rfl, rfl⟩ := trodAll_nil r1
  obtain rfl : args = #[v0, v1] := by cases args; simp_all
  obtain ⟨rfl, rfl⟩ := trodVars_none hV
  obtain ⟨a0, rfl, rfl, rfl, w0⟩ := open_int Tryz.underlying3 (hval 0 3 v0 rfl rfl) h0
  obtain ⟨a1, rfl, rfl, rfl, w1⟩ := open_int Tryz.underlying3 (hval 1 3 v1 rfl rfl) h1
  clear hA0
  simp only [List.append_nil] at hW'
  refine (walk (TabG.of (l := [0]) gTab (by simp) (table hL)) a0 w0 a1 w1 W glOf_at).mono fun e W' ⟨he, hg⟩ => ?_
  subst he
  exact ⟨_, rfl, post_of_fresh (pa := []) (pv := []) hW' (fun _ _ _ => (trodAll_cons_mk (shut_bool Tryz.underlying4 _) trodAll_mk0)) (fun sp _ => (trodAll_cons_mk (shut_int Tryz.underlying3 w0) (trodAll_cons_mk (shut_int Tryz.underlying3 w1) trodAll_mk0))) (fun _ _ => rfl) rfl hg (ok_one (by kernel_rfl) rfl (okWide_bool_mk Tryz.underlying4 _))⟩
noncomputable def laidWorld (os : Os) : World :=
  { World.holding Tryz.prog os ⟨#[], #[], []⟩ with heap := ((((World.holding Tryz.prog os ⟨#[], #[], []⟩).heap.modify 1 fun
      | .cells _ t frozen => .cells #[.int .u8 0, .int .u8 1, .int .u8 28, .int .u8 2, .int .u8 29, .int .u8 14, .int .u8 24, .int .u8 3, .int .u8 30, .int .u8 22, .int .u8 20, .int .u8 15, .int .u8 25, .int .u8 17, .int .u8 4, .int .u8 8, .int .u8 31, .int .u8 27, .int .u8 13, .int .u8 23, .int .u8 21, .int .u8 19, .int .u8 16, .int .u8 7, .int .u8 26, .int .u8 12, .int .u8 18, .int .u8 6, .int .u8 11, .int .u8 5, .int .u8 10, .int .u8 9] t frozen
      | o => o).modify 2 fun
      | .cells _ t frozen => .cells #[.int .u8 0, .int .u8 1, .int .u8 56, .int .u8 2, .int .u8 57, .int .u8 49, .int .u8 28, .int .u8 3, .int .u8 61, .int .u8 58, .int .u8 42, .int .u8 50, .int .u8 38, .int .u8 29, .int .u8 17, .int .u8 4, .int .u8 62, .int .u8 47, .int .u8 59, .int .u8 36, .int .u8 45, .int .u8 43, .int .u8 51, .int .u8 22, .int .u8 53, .int .u8 39, .int .u8 33, .int .u8 30, .int .u8 24, .int .u8 18, .int .u8 12, .int .u8 5, .int .u8 63, .int .u8 55, .int .u8 48, .int .u8 27, .int .u8 60, .int .u8 41, .int .u8 37, .int .u8 16, .int .u8 46, .int .u8 35, .int .u8 44, .int .u8 21, .int .u8 52, .int .u8 32, .int .u8 23, .int .u8 11, .int .u8 54, .int .u8 26, .int .u8 40, .int .u8 15, .int .u8 34, .int .u8 20, .int .u8 31, .int .u8 10, .int .u8 25, .int .u8 14, .int .u8 19, .int .u8 9, .int .u8 13, .int .u8 8, .int .u8 7, .int .u8 6] t frozen
      | o => o).modify 0 fun
      | .cells _ t frozen => .cells #[.int .u64 1, .int .u64 10, .int .u64 100, .int .u64 1000, .int .u64 10000, .int .u64 100000, .int .u64 1000000, .int .u64 10000000, .int .u64 100000000, .int .u64 1000000000, .int .u64 10000000000, .int .u64 100000000000, .int .u64 1000000000000, .int .u64 10000000000000, .int .u64 100000000000000, .int .u64 1000000000000000, .int .u64 10000000000000000, .int .u64 100000000000000000, .int .u64 1000000000000000000, .int .u64 10000000000000000000] t frozen
      | o => o) }
theorem laid_met (os : Os) : laidMet Tryz.prog Rows.segmentManyRow.laid ((laidWorld os).forCall (fun _ _ => 0) ⟨#[], #[.int .i64 0, .int .i64 0], []⟩).memory :=
  laidMet_of_run' 8 (by kernel_rfl) (by kernel_rfl)
theorem reads (os : Os) {H : Type} (enc : TypeId × Value → H) : ∃ places, DataW.whole enc Tryz.prog ((laidWorld os).forCall (fun _ _ => 0) ⟨#[], #[.int .i64 0, .int .i64 0], []⟩).memory Tryz.f3.params.toList Rows.segmentManySpec.vars false (#[.int .i64 0, .int .i64 0] : Array Value).toList 8 = some ([.lit (.int .i64 0), .lit (.int .i64 0)], [], places) :=
  ⟨[], by kernel_rfl⟩
theorem lifted (os : Os) (started : os.Started) (H : Type) (enc : TypeId × Value → H) (F : Stop.Interp) :
    ReturnsInHanded {} Tryz.checked os 3 .any ((OpenSpec.ofChange Rows.segmentManySpec).preRow enc Tryz.prog Tryz.f3 Rows.segmentManyRow.domain false Rows.segmentManyRow.laid) (((OpenSpec.ofChange Rows.segmentManySpec).at F).post enc Tryz.prog Tryz.f3 false true false false) := by
  obtain ⟨places, hx⟩ := reads os enc
  refine returnsInHanded_of_row (C := Tryz.checked) (s := OpenSpec.ofChange Rows.segmentManySpec) own started (by kernel_rfl) Tryz.func3
    (witness_row_at (enc := enc) (C := Tryz.checked) false (laidWorld os) #[.int .i64 0, .int .i64 0] rfl (by kernel_rfl) (by kernel_rfl) (by kernel_rfl)
      (OpenSpec.preRow_of_cond 8 hx (by kernel_rfl) (fun k hk => by cases hk) (by kernel_rfl) (laid_met os))) ?_
  intro W base args ds gs before hval hW _ _ _ hL hsh _
  exact contract H enc W base args ds gs before hval hW hL
theorem said : Rows.SegmentManySaid :=
  OpenClaim.holds_of_cond 3 Tryz.f3 rfl rfl rfl rfl rfl rfl rfl ⟨rfl, rfl, rfl, rfl, rfl⟩ rfl rfl rfl rfl rfl (by kernel_rfl) Tryz.func3 closed
    (of_decide_eq_true (by kernel_rfl)) (by unfold Func.isWrapper; first | (rw [if_pos (by decide +kernel)]; kernel_rfl) | (rw [if_neg (by decide +kernel)]; exact ⟨rfl, rfl⟩))
    (fun os started H enc _ F => by rw [OpenClaim.pre_eq_preRow]; exact lifted os started H enc F)
theorem plain (f : FuncId) (fn : Func) (hf : Tryz.pinned.checked.prog.funcNamed "stillroom/stillroomlaw8.SegmentMany" = some f) (hfn : Tryz.pinned.checked.prog.funcs[f]? = some fn) :
    true = Tryz.pinned.checked.prog.looks [] ∧ ∀ (j : Nat) t, fn.params[j]? = some t → Tryz.pinned.checked.prog.wantsStandIn t = false := by
  obtain rfl : f = 3 := Option.some.inj ((show Tryz.prog.funcNamed "stillroom/stillroomlaw8.SegmentMany" = some 3 by kernel_rfl).symm.trans hf) |>.symm
  obtain rfl : fn = Tryz.f3 := (Option.some.inj (Tryz.func3.symm.trans hfn)).symm
  refine ⟨by kernel_rfl, fun j t ht => ?_⟩
  rw [Tryz.params3] at ht
  rcases j with _ | _ | j
  · obtain rfl := (Option.some.inj ht : 3 = t)
    exact (show Tryz.pinned.checked.prog.wantsStandIn 3 = false by kernel_rfl)
  · obtain rfl := (Option.some.inj ht : 3 = t)
    exact (show Tryz.pinned.checked.prog.wantsStandIn 3 = false by kernel_rfl)
  · simp at ht
theorem g0 : ((Tryz.prog.funcs.toList.take 140).all fun fn => !fn.goes) = true := by kernel_rfl
theorem g1 : (((Tryz.prog.funcs.toList.drop 140).take 140).all fun fn => !fn.goes) = true := by kernel_rfl
theorem g2 : (((Tryz.prog.funcs.toList.drop 280)).all fun fn => !fn.goes) = true := by kernel_rfl
theorem goes : false = Rows.segmentManyRow.goesBy Tryz.pinned.checked.prog :=
  (goes_no (P := Tryz.pinned.checked.prog) (any_no 140 g0 (any_no 140 g1 ((by rw [List.drop_drop]; exact g2)))) _).symm
/-- ████ THE CARD ████ -/
theorem proved : Rows.SegmentManyCardSaid :=
  Claim7.holds_tied_plain_at .later [] _ _ _ _ said (fun _ h => by cases h) (by kernel_rfl) (fun _ h => by cases h) segmentMany_row_tie rfl ⟨rfl, rfl⟩ (by kernel_rfl) rfl plain goes
#print axioms proved
end Go.Proofs.YtddknjmlhbeabaaGreatDoor.segmentMany
