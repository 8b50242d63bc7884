/- Proved: stillroomlaw11.IndexTenants returns true for every two ints, and its arguments read afterwards as before. Conditions: none beyond those of the given row. -/
import Derived.Test.YtddknjmlhbeabaaRows
import Derived.WalkKit
import Derived.ProofKit
import Derived.OpenShut
import Derived.KernelRfl
import Derived.Test.YtddknjmlhbeabaaY0
import Derived.Test.YtddknjmlhbeabaaY1
import Derived.Test.YtddknjmlhbeabaaY2
import Derived.Test.YtddknjmlhbeabaaY3
import Derived.Test.YtddknjmlhbeabaaY4
import Derived.Test.YtddknjmlhbeabaaY5
import Derived.Test.YtddknjmlhbeabaaY6
import Derived.Test.YtddknjmlhbeabaaY7
namespace Go.Proofs.Ytddknjmlhbeabaa.indexTenants
open Go.Ev Go.Ev.Ytddknjmlhbeabaa Go.ChangeShapes Go.WideShapes Go.ChangeAt Go.RowKit
set_option maxRecDepth 100000
set_option linter.unusedVariables false      -- a walk need not use every 'w<i>' (that an integer argument fits its kind)

theorem own : ownKnob Try.prog.godebug = none := by kernel_rfl

/-! ### STEP 1: THE WALK: the Go text returns true. 'Grown w w'': the world has at most new blocks (Derived/RowKit3.lean). Part the cases AHEAD of 'go_enter' where a test parts the walk; take each callee by a contract of your own. -/
theorem mixed : Try.prog.follows .mixedOrders = true := by kernel_rfl
theorem run_n_neg : tenQ (.oth (.iv .i64 9223372036854775808 18446744073709551615)) (.oth (.iv .i64 0 18446744073709551615)) = true := by kernel_rfl
theorem run_n_hi : tenQ (.oth (.iv .i64 31 9223372036854775807)) (.oth (.iv .i64 0 18446744073709551615)) = true := by kernel_rfl
theorem run_p_neg : tenQ (.oth (.iv .i64 0 30)) (.oth (.iv .i64 9223372036854775808 18446744073709551615)) = true := by kernel_rfl
theorem run_p_hi : tenQ (.oth (.iv .i64 0 30)) (.oth (.iv .i64 31 9223372036854775807)) = true := by kernel_rfl
/-! ### STEP 1: THE WALK -/
theorem walk (a0 : Int) (a1 : Int) (w0 : (Lit.int .i64 a0).wf = true) (w1 : (Lit.int .i64 a1).wf = true) (w : World) :
    Calls Try.prog 5 #[.int .i64 a0, .int .i64 a1] w fun e w' => e = .returned (.bool true) ∧ Below w.heap.size w w' := by
  have hb0 := wf_i64 w0
  have hb1 := wf_i64 w1
  by_cases h0 : a0 < 0
  · exact law2_call oneS mixed tab_ok Try.func5 (by kernel_rfl) (by kernel_rfl) run_n_neg (rels_cons.2 ⟨_, _, rfl, rel_iv_neg h0 hb0.1, rels_cons.2 ⟨_, _, rfl, rel_iv_any hb1.1 hb1.2, rels_nil.2 rfl⟩⟩) w
  by_cases h2 : 31 ≤ a0
  · exact law2_call oneS mixed tab_ok Try.func5 (by kernel_rfl) (by kernel_rfl) run_n_hi (rels_cons.2 ⟨_, _, rfl, rel_iv_hi h2 hb0.2, rels_cons.2 ⟨_, _, rfl, rel_iv_any hb1.1 hb1.2, rels_nil.2 rfl⟩⟩) w
  by_cases h3 : a1 < 0
  · exact law2_call oneS mixed tab_ok Try.func5 (by kernel_rfl) (by kernel_rfl) run_p_neg (rels_cons.2 ⟨_, _, rfl, rel_iv_mid (by omega) (by omega) (by decide), rels_cons.2 ⟨_, _, rfl, rel_iv_neg h3 hb1.1, rels_nil.2 rfl⟩⟩) w
  by_cases h5 : 31 ≤ a1
  · exact law2_call oneS mixed tab_ok Try.func5 (by kernel_rfl) (by kernel_rfl) run_p_hi (rels_cons.2 ⟨_, _, rfl, rel_iv_mid (by omega) (by omega) (by decide), rels_cons.2 ⟨_, _, rfl, rel_iv_hi h5 hb1.2, rels_nil.2 rfl⟩⟩) w
  obtain ⟨n, rfl⟩ : ∃ n : Nat, a0 = n := ⟨a0.toNat, by omega⟩
  obtain ⟨p, rfl⟩ : ∃ p : Nat, a1 = p := ⟨a1.toNat, by omega⟩
  have key : tenQ (.int .i64 n) (.int .i64 p) = true := by
    by_cases c0 : n = 0
    · subst c0
      by_cases d0 : p < 8
      · exact ten_at y0_0 p (by omega) (by omega)
      by_cases d8 : p < 16
      · exact ten_at y0_8 p (by omega) (by omega)
      by_cases d16 : p < 24
      · exact ten_at y0_16 p (by omega) (by omega)
      exact ten_at y0_24 p (by omega) (by omega)
    by_cases c1 : n = 1
    · subst c1
      by_cases d0 : p < 8
      · exact ten_at y1_0 p (by omega) (by omega)
      by_cases d8 : p < 16
      · exact ten_at y1_8 p (by omega) (by omega)
      by_cases d16 : p < 24
      · exact ten_at y1_16 p (by omega) (by omega)
      exact ten_at y1_24 p (by omega) (by omega)
    by_cases c2 : n = 2
    · subst c2
      by_cases d0 : p < 8
      · exact ten_at y2_0 p (by omega) (by omega)
      by_cases d8 : p < 16
      · exact ten_at y2_8 p (by omega) (by omega)
      by_cases d16 : p < 24
      · exact ten_at y2_16 p (by omega) (by omega)
      exact ten_at y2_24 p (by omega) (by omega)
    by_cases c3 : n = 3
    · subst c3
      by_cases d0 : p < 8
      · exact ten_at y3_0 p (by omega) (by omega)
      by_cases d8 : p < 16
      · exact ten_at y3_8 p (by omega) (by omega)
      by_cases d16 : p < 24
      · exact ten_at y3_16 p (by omega) (by omega)
      exact ten_at y3_24 p (by omega) (by omega)
    by_cases c4 : n = 4
    · subst c4
      by_cases d0 : p < 8
      · exact ten_at y4_0 p (by omega) (by omega)
      by_cases d8 : p < 16
      · exact ten_at y4_8 p (by omega) (by omega)
      by_cases d16 : p < 24
      · exact ten_at y4_16 p (by omega) (by omega)
      exact ten_at y4_24 p (by omega) (by omega)
    by_cases c5 : n = 5
    · subst c5
      by_cases d0 : p < 8
      · exact ten_at y5_0 p (by omega) (by omega)
      by_cases d8 : p < 16
      · exact ten_at y5_8 p (by omega) (by omega)
      by_cases d16 : p < 24
      · exact ten_at y5_16 p (by omega) (by omega)
      exact ten_at y5_24 p (by omega) (by omega)
    by_cases c6 : n = 6
    · subst c6
      by_cases d0 : p < 8
      · exact ten_at y6_0 p (by omega) (by omega)
      by_cases d8 : p < 16
      · exact ten_at y6_8 p (by omega) (by omega)
      by_cases d16 : p < 24
      · exact ten_at y6_16 p (by omega) (by omega)
      exact ten_at y6_24 p (by omega) (by omega)
    by_cases c7 : n = 7
    · subst c7
      by_cases d0 : p < 8
      · exact ten_at y7_0 p (by omega) (by omega)
      by_cases d8 : p < 16
      · exact ten_at y7_8 p (by omega) (by omega)
      by_cases d16 : p < 24
      · exact ten_at y7_16 p (by omega) (by omega)
      exact ten_at y7_24 p (by omega) (by omega)
    by_cases c8 : n = 8
    · subst c8
      by_cases d0 : p < 8
      · exact ten_at y8_0 p (by omega) (by omega)
      by_cases d8 : p < 16
      · exact ten_at y8_8 p (by omega) (by omega)
      by_cases d16 : p < 24
      · exact ten_at y8_16 p (by omega) (by omega)
      exact ten_at y8_24 p (by omega) (by omega)
    by_cases c9 : n = 9
    · subst c9
      by_cases d0 : p < 8
      · exact ten_at y9_0 p (by omega) (by omega)
      by_cases d8 : p < 16
      · exact ten_at y9_8 p (by omega) (by omega)
      by_cases d16 : p < 24
      · exact ten_at y9_16 p (by omega) (by omega)
      exact ten_at y9_24 p (by omega) (by omega)
    by_cases c10 : n = 10
    · subst c10
      by_cases d0 : p < 8
      · exact ten_at y10_0 p (by omega) (by omega)
      by_cases d8 : p < 16
      · exact ten_at y10_8 p (by omega) (by omega)
      by_cases d16 : p < 24
      · exact ten_at y10_16 p (by omega) (by omega)
      exact ten_at y10_24 p (by omega) (by omega)
    by_cases c11 : n = 11
    · subst c11
      by_cases d0 : p < 8
      · exact ten_at y11_0 p (by omega) (by omega)
      by_cases d8 : p < 16
      · exact ten_at y11_8 p (by omega) (by omega)
      by_cases d16 : p < 24
      · exact ten_at y11_16 p (by omega) (by omega)
      exact ten_at y11_24 p (by omega) (by omega)
    by_cases c12 : n = 12
    · subst c12
      by_cases d0 : p < 8
      · exact ten_at y12_0 p (by omega) (by omega)
      by_cases d8 : p < 16
      · exact ten_at y12_8 p (by omega) (by omega)
      by_cases d16 : p < 24
      · exact ten_at y12_16 p (by omega) (by omega)
      exact ten_at y12_24 p (by omega) (by omega)
    by_cases c13 : n = 13
    · subst c13
      by_cases d0 : p < 8
      · exact ten_at y13_0 p (by omega) (by omega)
      by_cases d8 : p < 16
      · exact ten_at y13_8 p (by omega) (by omega)
      by_cases d16 : p < 24
      · exact ten_at y13_16 p (by omega) (by omega)
      exact ten_at y13_24 p (by omega) (by omega)
    by_cases c14 : n = 14
    · subst c14
      by_cases d0 : p < 8
      · exact ten_at y14_0 p (by omega) (by omega)
      by_cases d8 : p < 16
      · exact ten_at y14_8 p (by omega) (by omega)
      by_cases d16 : p < 24
      · exact ten_at y14_16 p (by omega) (by omega)
      exact ten_at y14_24 p (by omega) (by omega)
    by_cases c15 : n = 15
    · subst c15
      by_cases d0 : p < 8
      · exact ten_at y15_0 p (by omega) (by omega)
      by_cases d8 : p < 16
      · exact ten_at y15_8 p (by omega) (by omega)
      by_cases d16 : p < 24
      · exact ten_at y15_16 p (by omega) (by omega)
      exact ten_at y15_24 p (by omega) (by omega)
    by_cases c16 : n = 16
    · subst c16
      by_cases d0 : p < 8
      · exact ten_at y16_0 p (by omega) (by omega)
      by_cases d8 : p < 16
      · exact ten_at y16_8 p (by omega) (by omega)
      by_cases d16 : p < 24
      · exact ten_at y16_16 p (by omega) (by omega)
      exact ten_at y16_24 p (by omega) (by omega)
    by_cases c17 : n = 17
    · subst c17
      by_cases d0 : p < 8
      · exact ten_at y17_0 p (by omega) (by omega)
      by_cases d8 : p < 16
      · exact ten_at y17_8 p (by omega) (by omega)
      by_cases d16 : p < 24
      · exact ten_at y17_16 p (by omega) (by omega)
      exact ten_at y17_24 p (by omega) (by omega)
    by_cases c18 : n = 18
    · subst c18
      by_cases d0 : p < 8
      · exact ten_at y18_0 p (by omega) (by omega)
      by_cases d8 : p < 16
      · exact ten_at y18_8 p (by omega) (by omega)
      by_cases d16 : p < 24
      · exact ten_at y18_16 p (by omega) (by omega)
      exact ten_at y18_24 p (by omega) (by omega)
    by_cases c19 : n = 19
    · subst c19
      by_cases d0 : p < 8
      · exact ten_at y19_0 p (by omega) (by omega)
      by_cases d8 : p < 16
      · exact ten_at y19_8 p (by omega) (by omega)
      by_cases d16 : p < 24
      · exact ten_at y19_16 p (by omega) (by omega)
      exact ten_at y19_24 p (by omega) (by omega)
    by_cases c20 : n = 20
    · subst c20
      by_cases d0 : p < 8
      · exact ten_at y20_0 p (by omega) (by omega)
      by_cases d8 : p < 16
      · exact ten_at y20_8 p (by omega) (by omega)
      by_cases d16 : p < 24
      · exact ten_at y20_16 p (by omega) (by omega)
      exact ten_at y20_24 p (by omega) (by omega)
    by_cases c21 : n = 21
    · subst c21
      by_cases d0 : p < 8
      · exact ten_at y21_0 p (by omega) (by omega)
      by_cases d8 : p < 16
      · exact ten_at y21_8 p (by omega) (by omega)
      by_cases d16 : p < 24
      · exact ten_at y21_16 p (by omega) (by omega)
      exact ten_at y21_24 p (by omega) (by omega)
    by_cases c22 : n = 22
    · subst c22
      by_cases d0 : p < 8
      · exact ten_at y22_0 p (by omega) (by omega)
      by_cases d8 : p < 16
      · exact ten_at y22_8 p (by omega) (by omega)
      by_cases d16 : p < 24
      · exact ten_at y22_16 p (by omega) (by omega)
      exact ten_at y22_24 p (by omega) (by omega)
    by_cases c23 : n = 23
    · subst c23
      by_cases d0 : p < 8
      · exact ten_at y23_0 p (by omega) (by omega)
      by_cases d8 : p < 16
      · exact ten_at y23_8 p (by omega) (by omega)
      by_cases d16 : p < 24
      · exact ten_at y23_16 p (by omega) (by omega)
      exact ten_at y23_24 p (by omega) (by omega)
    by_cases c24 : n = 24
    · subst c24
      by_cases d0 : p < 8
      · exact ten_at y24_0 p (by omega) (by omega)
      by_cases d8 : p < 16
      · exact ten_at y24_8 p (by omega) (by omega)
      by_cases d16 : p < 24
      · exact ten_at y24_16 p (by omega) (by omega)
      exact ten_at y24_24 p (by omega) (by omega)
    by_cases c25 : n = 25
    · subst c25
      by_cases d0 : p < 8
      · exact ten_at y25_0 p (by omega) (by omega)
      by_cases d8 : p < 16
      · exact ten_at y25_8 p (by omega) (by omega)
      by_cases d16 : p < 24
      · exact ten_at y25_16 p (by omega) (by omega)
      exact ten_at y25_24 p (by omega) (by omega)
    by_cases c26 : n = 26
    · subst c26
      by_cases d0 : p < 8
      · exact ten_at y26_0 p (by omega) (by omega)
      by_cases d8 : p < 16
      · exact ten_at y26_8 p (by omega) (by omega)
      by_cases d16 : p < 24
      · exact ten_at y26_16 p (by omega) (by omega)
      exact ten_at y26_24 p (by omega) (by omega)
    by_cases c27 : n = 27
    · subst c27
      by_cases d0 : p < 8
      · exact ten_at y27_0 p (by omega) (by omega)
      by_cases d8 : p < 16
      · exact ten_at y27_8 p (by omega) (by omega)
      by_cases d16 : p < 24
      · exact ten_at y27_16 p (by omega) (by omega)
      exact ten_at y27_24 p (by omega) (by omega)
    by_cases c28 : n = 28
    · subst c28
      by_cases d0 : p < 8
      · exact ten_at y28_0 p (by omega) (by omega)
      by_cases d8 : p < 16
      · exact ten_at y28_8 p (by omega) (by omega)
      by_cases d16 : p < 24
      · exact ten_at y28_16 p (by omega) (by omega)
      exact ten_at y28_24 p (by omega) (by omega)
    by_cases c29 : n = 29
    · subst c29
      by_cases d0 : p < 8
      · exact ten_at y29_0 p (by omega) (by omega)
      by_cases d8 : p < 16
      · exact ten_at y29_8 p (by omega) (by omega)
      by_cases d16 : p < 24
      · exact ten_at y29_16 p (by omega) (by omega)
      exact ten_at y29_24 p (by omega) (by omega)
    by_cases c30 : n = 30
    · subst c30
      by_cases d0 : p < 8
      · exact ten_at y30_0 p (by omega) (by omega)
      by_cases d8 : p < 16
      · exact ten_at y30_8 p (by omega) (by omega)
      by_cases d16 : p < 24
      · exact ten_at y30_16 p (by omega) (by omega)
      exact ten_at y30_24 p (by omega) (by omega)
    exact absurd h2 (by omega)
  exact law2_call oneS mixed tab_ok Try.func5 (by kernel_rfl) (by kernel_rfl) key (rels_cons.2 ⟨_, _, rfl, rel_i64 (by omega), rels_cons.2 ⟨_, _, rfl, rel_i64 (by omega), rels_nil.2 rfl⟩⟩) w

/-! ### THE ROW's STEP: WRITTEN OUT: LEAVE IT -/
set_option maxRecDepth 100000 in
theorem lifted (os : Os) (started : os.Started) (H : Type) (enc : TypeId × Value → H) :
    ReturnsInHanded {} Try.checked os 5 .any (Rows.indexTenantsSpec.pre6 enc Try.prog Try.f5 Rows.indexTenantsRow.domain false) (Rows.indexTenantsSpec.post enc Try.prog Try.f5 false true false false) := by
  refine returnsInHanded_of_change (C := Try.checked) own started (by kernel_rfl) Try.func5
    (ChangeSpec.witness6 (enc := enc) (C := Try.checked) false ⟨#[], #[.int .i64 0, .int .i64 0], []⟩ 8 (by kernel_rfl) (by kernel_rfl) (by kernel_rfl) (by kernel_rfl)) ?_
  intro W base args ds gs before hval0 hW hcnd _
  have hval : ∀ (j : Nat) t v, Try.f5.params[j]? = some t → args[j]? = some v → Value.okWide Try.prog W .any base t v := hval0
  have hW' := hW
  obtain ⟨p, q, hA0, hV, rfl, hfz, hnd⟩ := hW
  have hA : DataW.TrodAll enc Try.prog W 0 (fun _ => true) true Try.f5.params.toList args.toList ds p := hA0
  rw [Try.params5] at hA hval
  obtain ⟨v0, vs0, d0, ds0, p0, q0, hargs, rfl, rfl, h0, r0⟩ := trodAll_cons hA
  obtain ⟨v1, vs1, d1, ds1, p1, q1, rfl, rfl, rfl, h1, r1⟩ := trodAll_cons r0
  obtain ⟨rfl, rfl, rfl⟩ := trodAll_nil r1
  obtain rfl : args = #[v0, v1] := by cases args; simp_all
  obtain ⟨rfl, rfl⟩ := trodVars_none hV
  obtain ⟨a0, rfl, rfl, rfl, w0⟩ := open_int Try.underlying3 (hval 0 3 v0 rfl rfl) h0
  obtain ⟨a1, rfl, rfl, rfl, w1⟩ := open_int Try.underlying3 (hval 1 3 v1 rfl rfl) h1
  clear hA0 hval0
  simp only [List.append_nil] at hW'
  refine (walk a0 a1 w0 w1 W).mono fun e W' ⟨he, hg⟩ => ?_
  subst he
  exact ⟨_, rfl, post_of_fresh (pa := []) (pv := []) hW' (fun _ _ _ => (trodAll_cons_mk (shut_bool Try.underlying4 _) trodAll_mk0)) (fun sp _ => (trodAll_cons_mk (shut_int Try.underlying3 w0) (trodAll_cons_mk (shut_int Try.underlying3 w1) trodAll_mk0))) (fun _ _ => rfl) rfl
    hg (ok_one (by kernel_rfl) rfl (okWide_bool_mk Try.underlying4 _))⟩

theorem over : Rows.indexTenantsRow.holds Try.pinned (OpenSpec.ofChange Rows.indexTenantsSpec) :=
  OpenClaim.holds_of_wide 5 Try.f5 rfl rfl rfl rfl rfl rfl rfl ⟨rfl, rfl, rfl, rfl, rfl⟩ rfl rfl rfl rfl rfl (by kernel_rfl) Try.func5 (by kernel_rfl)
    (of_decide_eq_true (by kernel_rfl)) (by unfold Func.isWrapper; first | (rw [if_pos (by decide +kernel)]; kernel_rfl) | (rw [if_neg (by decide +kernel)]; exact ⟨rfl, rfl⟩))
    (fun os started H enc _ => lifted os started H enc)

/-- ████ THE STATEMENT ████ -/
theorem proved : Rows.IndexTenantsSaid :=
  over
#print axioms proved
end Go.Proofs.Ytddknjmlhbeabaa.indexTenants
