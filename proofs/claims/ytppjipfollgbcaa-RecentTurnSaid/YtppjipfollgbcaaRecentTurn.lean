/- Proved: stillroomlaw12.RecentTurn returns true for every two ints, and its arguments read afterwards as before. Conditions: none beyond those of the given row. -/
import Derived.Test.YtppjipfollgbcaaRows
import Derived.WalkKit
import Derived.ProofKit
import Derived.OpenShut
import Derived.KernelRfl
import Derived.Test.YtppjipfollgbcaaY0
import Derived.Test.YtppjipfollgbcaaY1
import Derived.Test.YtppjipfollgbcaaY2
import Derived.Test.YtppjipfollgbcaaY3
import Derived.Test.YtppjipfollgbcaaY4
import Derived.Test.YtppjipfollgbcaaY5
import Derived.Test.YtppjipfollgbcaaY6
import Derived.Test.YtppjipfollgbcaaY7
import Derived.Test.YtppjipfollgbcaaY8
import Derived.Test.YtppjipfollgbcaaY9
import Derived.Test.YtppjipfollgbcaaY10
import Derived.Test.YtppjipfollgbcaaY11
namespace Go.Proofs.Ytppjipfollgbcaa.recentTurn
open Go.Ev Go.Ev.Ytppjipfollgbcaa Go.ChangeShapes Go.WideShapes Go.ChangeAt Go.RowKit
set_option maxRecDepth 100000
set_option linter.unusedVariables false      -- a walk need not use every 'w<i>' (that an integer argument fits its kind)

theorem own : ownKnob Try.prog.godebug = none := by kernel_rfl

/-! ### STEP 1: THE WALK: the Go text returns true. 'Grown w w'': the world has at most new blocks (Derived/RowKit3.lean). Part the cases AHEAD of 'go_enter' where a test parts the walk; take each callee by a contract of your own. -/
theorem mixed : Try.prog.follows .mixedOrders = true := by kernel_rfl
theorem run_n_neg : turQ (.oth (.iv .i64 9223372036854775808 18446744073709551615)) (.oth (.iv .i64 0 18446744073709551615)) = true := by kernel_rfl
theorem run_n_lo : turQ (.oth (.iv .i64 0 0)) (.oth (.iv .i64 0 18446744073709551615)) = true := by kernel_rfl
theorem run_n_hi : turQ (.oth (.iv .i64 31 9223372036854775807)) (.oth (.iv .i64 0 18446744073709551615)) = true := by kernel_rfl
theorem run_p_neg : turQ (.oth (.iv .i64 1 30)) (.oth (.iv .i64 9223372036854775808 18446744073709551615)) = true := by kernel_rfl
theorem run_p_hi : turQ (.oth (.iv .i64 1 30)) (.oth (.iv .i64 41 9223372036854775807)) = true := by kernel_rfl
/-! ### STEP 1: THE WALK -/
theorem walk (a0 : Int) (a1 : Int) (w0 : (Lit.int .i64 a0).wf = true) (w1 : (Lit.int .i64 a1).wf = true) (w : World) :
    Calls Try.prog 4 #[.int .i64 a0, .int .i64 a1] w fun e w' => e = .returned (.bool true) ∧ Below w.heap.size w w' := by
  have hb0 := wf_i64 w0
  have hb1 := wf_i64 w1
  by_cases h0 : a0 < 0
  · exact law2_call oneS mixed tab_ok Try.func4 (by kernel_rfl) (by kernel_rfl) run_n_neg (rels_cons.2 ⟨_, _, rfl, rel_iv_neg h0 hb0.1, rels_cons.2 ⟨_, _, rfl, rel_iv_any hb1.1 hb1.2, rels_nil.2 rfl⟩⟩) w
  by_cases h1 : a0 ≤ 0
  · exact law2_call oneS mixed tab_ok Try.func4 (by kernel_rfl) (by kernel_rfl) run_n_lo (rels_cons.2 ⟨_, _, rfl, rel_iv_mid (by omega) (by omega) (by decide), rels_cons.2 ⟨_, _, rfl, rel_iv_any hb1.1 hb1.2, rels_nil.2 rfl⟩⟩) w
  by_cases h2 : 31 ≤ a0
  · exact law2_call oneS mixed tab_ok Try.func4 (by kernel_rfl) (by kernel_rfl) run_n_hi (rels_cons.2 ⟨_, _, rfl, rel_iv_hi h2 hb0.2, rels_cons.2 ⟨_, _, rfl, rel_iv_any hb1.1 hb1.2, rels_nil.2 rfl⟩⟩) w
  by_cases h3 : a1 < 0
  · exact law2_call oneS mixed tab_ok Try.func4 (by kernel_rfl) (by kernel_rfl) run_p_neg (rels_cons.2 ⟨_, _, rfl, rel_iv_mid (by omega) (by omega) (by decide), rels_cons.2 ⟨_, _, rfl, rel_iv_neg h3 hb1.1, rels_nil.2 rfl⟩⟩) w
  by_cases h5 : 41 ≤ a1
  · exact law2_call oneS mixed tab_ok Try.func4 (by kernel_rfl) (by kernel_rfl) run_p_hi (rels_cons.2 ⟨_, _, rfl, rel_iv_mid (by omega) (by omega) (by decide), rels_cons.2 ⟨_, _, rfl, rel_iv_hi h5 hb1.2, rels_nil.2 rfl⟩⟩) w
  obtain ⟨n, rfl⟩ : ∃ n : Nat, a0 = n := ⟨a0.toNat, by omega⟩
  obtain ⟨p, rfl⟩ : ∃ p : Nat, a1 = p := ⟨a1.toNat, by omega⟩
  have key : turQ (.int .i64 n) (.int .i64 p) = true := by
    by_cases c1 : n = 1
    · subst c1
      by_cases d0 : p < 25
      · exact tur_at y1_0 p (by omega) (by omega)
      exact tur_at y1_25 p (by omega) (by omega)
    by_cases c2 : n = 2
    · subst c2
      by_cases d0 : p < 25
      · exact tur_at y2_0 p (by omega) (by omega)
      exact tur_at y2_25 p (by omega) (by omega)
    by_cases c3 : n = 3
    · subst c3
      by_cases d0 : p < 25
      · exact tur_at y3_0 p (by omega) (by omega)
      exact tur_at y3_25 p (by omega) (by omega)
    by_cases c4 : n = 4
    · subst c4
      by_cases d0 : p < 25
      · exact tur_at y4_0 p (by omega) (by omega)
      exact tur_at y4_25 p (by omega) (by omega)
    by_cases c5 : n = 5
    · subst c5
      by_cases d0 : p < 25
      · exact tur_at y5_0 p (by omega) (by omega)
      exact tur_at y5_25 p (by omega) (by omega)
    by_cases c6 : n = 6
    · subst c6
      by_cases d0 : p < 25
      · exact tur_at y6_0 p (by omega) (by omega)
      exact tur_at y6_25 p (by omega) (by omega)
    by_cases c7 : n = 7
    · subst c7
      by_cases d0 : p < 25
      · exact tur_at y7_0 p (by omega) (by omega)
      exact tur_at y7_25 p (by omega) (by omega)
    by_cases c8 : n = 8
    · subst c8
      by_cases d0 : p < 25
      · exact tur_at y8_0 p (by omega) (by omega)
      exact tur_at y8_25 p (by omega) (by omega)
    by_cases c9 : n = 9
    · subst c9
      by_cases d0 : p < 25
      · exact tur_at y9_0 p (by omega) (by omega)
      by_cases d25 : p < 39
      · exact tur_at y9_25 p (by omega) (by omega)
      exact tur_at y9_39 p (by omega) (by omega)
    by_cases c10 : n = 10
    · subst c10
      by_cases d0 : p < 25
      · exact tur_at y10_0 p (by omega) (by omega)
      by_cases d25 : p < 38
      · exact tur_at y10_25 p (by omega) (by omega)
      exact tur_at y10_38 p (by omega) (by omega)
    by_cases c11 : n = 11
    · subst c11
      by_cases d0 : p < 25
      · exact tur_at y11_0 p (by omega) (by omega)
      by_cases d25 : p < 36
      · exact tur_at y11_25 p (by omega) (by omega)
      exact tur_at y11_36 p (by omega) (by omega)
    by_cases c12 : n = 12
    · subst c12
      by_cases d0 : p < 25
      · exact tur_at y12_0 p (by omega) (by omega)
      by_cases d25 : p < 35
      · exact tur_at y12_25 p (by omega) (by omega)
      exact tur_at y12_35 p (by omega) (by omega)
    by_cases c13 : n = 13
    · subst c13
      by_cases d0 : p < 25
      · exact tur_at y13_0 p (by omega) (by omega)
      by_cases d25 : p < 34
      · exact tur_at y13_25 p (by omega) (by omega)
      exact tur_at y13_34 p (by omega) (by omega)
    by_cases c14 : n = 14
    · subst c14
      by_cases d0 : p < 25
      · exact tur_at y14_0 p (by omega) (by omega)
      by_cases d25 : p < 33
      · exact tur_at y14_25 p (by omega) (by omega)
      by_cases d33 : p < 39
      · exact tur_at y14_33 p (by omega) (by omega)
      exact tur_at y14_39 p (by omega) (by omega)
    by_cases c15 : n = 15
    · subst c15
      by_cases d0 : p < 24
      · exact tur_at y15_0 p (by omega) (by omega)
      by_cases d24 : p < 32
      · exact tur_at y15_24 p (by omega) (by omega)
      by_cases d32 : p < 38
      · exact tur_at y15_32 p (by omega) (by omega)
      exact tur_at y15_38 p (by omega) (by omega)
    by_cases c16 : n = 16
    · subst c16
      by_cases d0 : p < 23
      · exact tur_at y16_0 p (by omega) (by omega)
      by_cases d23 : p < 31
      · exact tur_at y16_23 p (by omega) (by omega)
      by_cases d31 : p < 36
      · exact tur_at y16_31 p (by omega) (by omega)
      by_cases d36 : p < 40
      · exact tur_at y16_36 p (by omega) (by omega)
      exact tur_at y16_40 p (by omega) (by omega)
    by_cases c17 : n = 17
    · subst c17
      by_cases d0 : p < 23
      · exact tur_at y17_0 p (by omega) (by omega)
      by_cases d23 : p < 30
      · exact tur_at y17_23 p (by omega) (by omega)
      by_cases d30 : p < 35
      · exact tur_at y17_30 p (by omega) (by omega)
      by_cases d35 : p < 39
      · exact tur_at y17_35 p (by omega) (by omega)
      exact tur_at y17_39 p (by omega) (by omega)
    by_cases c18 : n = 18
    · subst c18
      by_cases d0 : p < 22
      · exact tur_at y18_0 p (by omega) (by omega)
      by_cases d22 : p < 29
      · exact tur_at y18_22 p (by omega) (by omega)
      by_cases d29 : p < 34
      · exact tur_at y18_29 p (by omega) (by omega)
      by_cases d34 : p < 38
      · exact tur_at y18_34 p (by omega) (by omega)
      exact tur_at y18_38 p (by omega) (by omega)
    by_cases c19 : n = 19
    · subst c19
      by_cases d0 : p < 22
      · exact tur_at y19_0 p (by omega) (by omega)
      by_cases d22 : p < 29
      · exact tur_at y19_22 p (by omega) (by omega)
      by_cases d29 : p < 34
      · exact tur_at y19_29 p (by omega) (by omega)
      by_cases d34 : p < 38
      · exact tur_at y19_34 p (by omega) (by omega)
      exact tur_at y19_38 p (by omega) (by omega)
    by_cases c20 : n = 20
    · subst c20
      by_cases d0 : p < 21
      · exact tur_at y20_0 p (by omega) (by omega)
      by_cases d21 : p < 28
      · exact tur_at y20_21 p (by omega) (by omega)
      by_cases d28 : p < 33
      · exact tur_at y20_28 p (by omega) (by omega)
      by_cases d33 : p < 37
      · exact tur_at y20_33 p (by omega) (by omega)
      by_cases d37 : p < 40
      · exact tur_at y20_37 p (by omega) (by omega)
      exact tur_at y20_40 p (by omega) (by omega)
    by_cases c21 : n = 21
    · subst c21
      by_cases d0 : p < 20
      · exact tur_at y21_0 p (by omega) (by omega)
      by_cases d20 : p < 27
      · exact tur_at y21_20 p (by omega) (by omega)
      by_cases d27 : p < 32
      · exact tur_at y21_27 p (by omega) (by omega)
      by_cases d32 : p < 36
      · exact tur_at y21_32 p (by omega) (by omega)
      by_cases d36 : p < 39
      · exact tur_at y21_36 p (by omega) (by omega)
      exact tur_at y21_39 p (by omega) (by omega)
    by_cases c22 : n = 22
    · subst c22
      by_cases d0 : p < 20
      · exact tur_at y22_0 p (by omega) (by omega)
      by_cases d20 : p < 27
      · exact tur_at y22_20 p (by omega) (by omega)
      by_cases d27 : p < 32
      · exact tur_at y22_27 p (by omega) (by omega)
      by_cases d32 : p < 35
      · exact tur_at y22_32 p (by omega) (by omega)
      by_cases d35 : p < 38
      · exact tur_at y22_35 p (by omega) (by omega)
      exact tur_at y22_38 p (by omega) (by omega)
    by_cases c23 : n = 23
    · subst c23
      by_cases d0 : p < 19
      · exact tur_at y23_0 p (by omega) (by omega)
      by_cases d19 : p < 26
      · exact tur_at y23_19 p (by omega) (by omega)
      by_cases d26 : p < 31
      · exact tur_at y23_26 p (by omega) (by omega)
      by_cases d31 : p < 34
      · exact tur_at y23_31 p (by omega) (by omega)
      by_cases d34 : p < 37
      · exact tur_at y23_34 p (by omega) (by omega)
      by_cases d37 : p < 40
      · exact tur_at y23_37 p (by omega) (by omega)
      exact tur_at y23_40 p (by omega) (by omega)
    by_cases c24 : n = 24
    · subst c24
      by_cases d0 : p < 19
      · exact tur_at y24_0 p (by omega) (by omega)
      by_cases d19 : p < 26
      · exact tur_at y24_19 p (by omega) (by omega)
      by_cases d26 : p < 30
      · exact tur_at y24_26 p (by omega) (by omega)
      by_cases d30 : p < 34
      · exact tur_at y24_30 p (by omega) (by omega)
      by_cases d34 : p < 37
      · exact tur_at y24_34 p (by omega) (by omega)
      by_cases d37 : p < 39
      · exact tur_at y24_37 p (by omega) (by omega)
      exact tur_at y24_39 p (by omega) (by omega)
    by_cases c25 : n = 25
    · subst c25
      by_cases d0 : p < 18
      · exact tur_at y25_0 p (by omega) (by omega)
      by_cases d18 : p < 25
      · exact tur_at y25_18 p (by omega) (by omega)
      by_cases d25 : p < 29
      · exact tur_at y25_25 p (by omega) (by omega)
      by_cases d29 : p < 33
      · exact tur_at y25_29 p (by omega) (by omega)
      by_cases d33 : p < 36
      · exact tur_at y25_33 p (by omega) (by omega)
      by_cases d36 : p < 38
      · exact tur_at y25_36 p (by omega) (by omega)
      by_cases d38 : p < 40
      · exact tur_at y25_38 p (by omega) (by omega)
      exact tur_at y25_40 p (by omega) (by omega)
    by_cases c26 : n = 26
    · subst c26
      by_cases d0 : p < 18
      · exact tur_at y26_0 p (by omega) (by omega)
      by_cases d18 : p < 24
      · exact tur_at y26_18 p (by omega) (by omega)
      by_cases d24 : p < 28
      · exact tur_at y26_24 p (by omega) (by omega)
      by_cases d28 : p < 32
      · exact tur_at y26_28 p (by omega) (by omega)
      by_cases d32 : p < 35
      · exact tur_at y26_32 p (by omega) (by omega)
      by_cases d35 : p < 37
      · exact tur_at y26_35 p (by omega) (by omega)
      by_cases d37 : p < 39
      · exact tur_at y26_37 p (by omega) (by omega)
      exact tur_at y26_39 p (by omega) (by omega)
    by_cases c27 : n = 27
    · subst c27
      by_cases d0 : p < 18
      · exact tur_at y27_0 p (by omega) (by omega)
      by_cases d18 : p < 24
      · exact tur_at y27_18 p (by omega) (by omega)
      by_cases d24 : p < 28
      · exact tur_at y27_24 p (by omega) (by omega)
      by_cases d28 : p < 31
      · exact tur_at y27_28 p (by omega) (by omega)
      by_cases d31 : p < 34
      · exact tur_at y27_31 p (by omega) (by omega)
      by_cases d34 : p < 36
      · exact tur_at y27_34 p (by omega) (by omega)
      by_cases d36 : p < 38
      · exact tur_at y27_36 p (by omega) (by omega)
      by_cases d38 : p < 40
      · exact tur_at y27_38 p (by omega) (by omega)
      exact tur_at y27_40 p (by omega) (by omega)
    by_cases c28 : n = 28
    · subst c28
      by_cases d0 : p < 17
      · exact tur_at y28_0 p (by omega) (by omega)
      by_cases d17 : p < 23
      · exact tur_at y28_17 p (by omega) (by omega)
      by_cases d23 : p < 27
      · exact tur_at y28_23 p (by omega) (by omega)
      by_cases d27 : p < 30
      · exact tur_at y28_27 p (by omega) (by omega)
      by_cases d30 : p < 33
      · exact tur_at y28_30 p (by omega) (by omega)
      by_cases d33 : p < 35
      · exact tur_at y28_33 p (by omega) (by omega)
      by_cases d35 : p < 37
      · exact tur_at y28_35 p (by omega) (by omega)
      by_cases d37 : p < 39
      · exact tur_at y28_37 p (by omega) (by omega)
      exact tur_at y28_39 p (by omega) (by omega)
    by_cases c29 : n = 29
    · subst c29
      by_cases d0 : p < 17
      · exact tur_at y29_0 p (by omega) (by omega)
      by_cases d17 : p < 23
      · exact tur_at y29_17 p (by omega) (by omega)
      by_cases d23 : p < 27
      · exact tur_at y29_23 p (by omega) (by omega)
      by_cases d27 : p < 30
      · exact tur_at y29_27 p (by omega) (by omega)
      by_cases d30 : p < 33
      · exact tur_at y29_30 p (by omega) (by omega)
      by_cases d33 : p < 35
      · exact tur_at y29_33 p (by omega) (by omega)
      by_cases d35 : p < 37
      · exact tur_at y29_35 p (by omega) (by omega)
      by_cases d37 : p < 39
      · exact tur_at y29_37 p (by omega) (by omega)
      exact tur_at y29_39 p (by omega) (by omega)
    by_cases c30 : n = 30
    · subst c30
      by_cases d0 : p < 16
      · exact tur_at y30_0 p (by omega) (by omega)
      by_cases d16 : p < 22
      · exact tur_at y30_16 p (by omega) (by omega)
      by_cases d22 : p < 26
      · exact tur_at y30_22 p (by omega) (by omega)
      by_cases d26 : p < 29
      · exact tur_at y30_26 p (by omega) (by omega)
      by_cases d29 : p < 32
      · exact tur_at y30_29 p (by omega) (by omega)
      by_cases d32 : p < 34
      · exact tur_at y30_32 p (by omega) (by omega)
      by_cases d34 : p < 36
      · exact tur_at y30_34 p (by omega) (by omega)
      by_cases d36 : p < 38
      · exact tur_at y30_36 p (by omega) (by omega)
      by_cases d38 : p < 40
      · exact tur_at y30_38 p (by omega) (by omega)
      exact tur_at y30_40 p (by omega) (by omega)
    exact absurd h2 (by omega)
  exact law2_call oneS mixed tab_ok Try.func4 (by kernel_rfl) (by kernel_rfl) key (rels_cons.2 ⟨_, _, rfl, rel_i64 (by omega), rels_cons.2 ⟨_, _, rfl, rel_i64 (by omega), rels_nil.2 rfl⟩⟩) w

/-! ### THE ROW's STEP: WRITTEN OUT: LEAVE IT -/
set_option maxRecDepth 100000 in
theorem lifted (os : Os) (started : os.Started) (H : Type) (enc : TypeId × Value → H) :
    ReturnsInHanded {} Try.checked os 4 .any (Rows.recentTurnSpec.pre6 enc Try.prog Try.f4 Rows.recentTurnRow.domain false) (Rows.recentTurnSpec.post enc Try.prog Try.f4 false true false false) := by
  refine returnsInHanded_of_change (C := Try.checked) own started (by kernel_rfl) Try.func4
    (ChangeSpec.witness6 (enc := enc) (C := Try.checked) false ⟨#[], #[.int .i64 0, .int .i64 0], []⟩ 8 (by kernel_rfl) (by kernel_rfl) (by kernel_rfl) (by kernel_rfl)) ?_
  intro W base args ds gs before hval0 hW hcnd _
  have hval : ∀ (j : Nat) t v, Try.f4.params[j]? = some t → args[j]? = some v → Value.okWide Try.prog W .any base t v := hval0
  have hW' := hW
  obtain ⟨p, q, hA0, hV, rfl, hfz, hnd⟩ := hW
  have hA : DataW.TrodAll enc Try.prog W 0 (fun _ => true) true Try.f4.params.toList args.toList ds p := hA0
  rw [Try.params4] at hA hval
  obtain ⟨v0, vs0, d0, ds0, p0, q0, hargs, rfl, rfl, h0, r0⟩ := trodAll_cons hA
  obtain ⟨v1, vs1, d1, ds1, p1, q1, rfl, rfl, rfl, h1, r1⟩ := trodAll_cons r0
  obtain ⟨rfl, rfl, rfl⟩ := trodAll_nil r1
  obtain rfl : args = #[v0, v1] := by cases args; simp_all
  obtain ⟨rfl, rfl⟩ := trodVars_none hV
  obtain ⟨a0, rfl, rfl, rfl, w0⟩ := open_int Try.underlying3 (hval 0 3 v0 rfl rfl) h0
  obtain ⟨a1, rfl, rfl, rfl, w1⟩ := open_int Try.underlying3 (hval 1 3 v1 rfl rfl) h1
  clear hA0 hval0
  simp only [List.append_nil] at hW'
  refine (walk a0 a1 w0 w1 W).mono fun e W' ⟨he, hg⟩ => ?_
  subst he
  exact ⟨_, rfl, post_of_fresh (pa := []) (pv := []) hW' (fun _ _ _ => (trodAll_cons_mk (shut_bool Try.underlying4 _) trodAll_mk0)) (fun sp _ => (trodAll_cons_mk (shut_int Try.underlying3 w0) (trodAll_cons_mk (shut_int Try.underlying3 w1) trodAll_mk0))) (fun _ _ => rfl) rfl
    hg (ok_one (by kernel_rfl) rfl (okWide_bool_mk Try.underlying4 _))⟩

theorem over : Rows.recentTurnRow.holds Try.pinned (OpenSpec.ofChange Rows.recentTurnSpec) :=
  OpenClaim.holds_of_wide 4 Try.f4 rfl rfl rfl rfl rfl rfl rfl ⟨rfl, rfl, rfl, rfl, rfl⟩ rfl rfl rfl rfl rfl (by kernel_rfl) Try.func4 (by kernel_rfl)
    (of_decide_eq_true (by kernel_rfl)) (by unfold Func.isWrapper; first | (rw [if_pos (by decide +kernel)]; kernel_rfl) | (rw [if_neg (by decide +kernel)]; exact ⟨rfl, rfl⟩))
    (fun os started H enc _ => lifted os started H enc)

/-- ████ THE STATEMENT ████ -/
theorem proved : Rows.RecentTurnSaid :=
  over
#print axioms proved
end Go.Proofs.Ytppjipfollgbcaa.recentTurn
