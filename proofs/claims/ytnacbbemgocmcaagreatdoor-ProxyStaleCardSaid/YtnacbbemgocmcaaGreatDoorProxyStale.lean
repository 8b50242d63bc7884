/- Proved: stillroomlaw27.ProxyStale returns true, as its tied card says it. Conditions: the three tables that the row lists hold what the program lays, which the card ties to the program's text; none else. -/
import Derived.Test.YtnacbbemgocmcaaGreatDoorCards
import Derived.Test.YtnacbbemgocmcaaGreatDoorTie
import Derived.WalkKit
import Derived.ProofKit
import Derived.OpenShut
import Derived.Deep.DeepHandedRow
import Derived.KernelRfl
import Derived.Test.YtnacbbemgocmcaaGreatDoorT
import Derived.Test.YtnacbbemgocmcaaGreatDoorY0
import Derived.Test.YtnacbbemgocmcaaGreatDoorY1
import Derived.Test.YtnacbbemgocmcaaGreatDoorY2
import Derived.Test.YtnacbbemgocmcaaGreatDoorY3
import Derived.Test.YtnacbbemgocmcaaGreatDoorY4
import Derived.Test.YtnacbbemgocmcaaGreatDoorY5
import Derived.Test.YtnacbbemgocmcaaGreatDoorY6
import Derived.Test.YtnacbbemgocmcaaGreatDoorY7
import Derived.Test.YtnacbbemgocmcaaGreatDoorY8
import Derived.Test.YtnacbbemgocmcaaGreatDoorY9
import Derived.Test.YtnacbbemgocmcaaGreatDoorY10
import Derived.Test.YtnacbbemgocmcaaGreatDoorY11
import Derived.Test.YtnacbbemgocmcaaGreatDoorY12
import Derived.Test.YtnacbbemgocmcaaGreatDoorY13
import Derived.Test.YtnacbbemgocmcaaGreatDoorY14
import Derived.Test.YtnacbbemgocmcaaGreatDoorY15
import Derived.Test.YtnacbbemgocmcaaGreatDoorY16
import Derived.Test.YtnacbbemgocmcaaGreatDoorY17
import Derived.Test.YtnacbbemgocmcaaGreatDoorY18
import Derived.Test.YtnacbbemgocmcaaGreatDoorY19
import Derived.Test.YtnacbbemgocmcaaGreatDoorY20
import Derived.Test.YtnacbbemgocmcaaGreatDoorY21
import Derived.Test.YtnacbbemgocmcaaGreatDoorY22
import Derived.Test.YtnacbbemgocmcaaGreatDoorY23
import Derived.Test.YtnacbbemgocmcaaGreatDoorY24
import Derived.Test.YtnacbbemgocmcaaGreatDoorY25
import Derived.Test.YtnacbbemgocmcaaGreatDoorY26
import Derived.Test.YtnacbbemgocmcaaGreatDoorY27
import Derived.Test.YtnacbbemgocmcaaGreatDoorY28
import Derived.Test.YtnacbbemgocmcaaGreatDoorY29
import Derived.Test.YtnacbbemgocmcaaGreatDoorY30
import Derived.Test.YtnacbbemgocmcaaGreatDoorY31
import Derived.Test.YtnacbbemgocmcaaGreatDoorY32
import Derived.Test.YtnacbbemgocmcaaGreatDoorY33
import Derived.Test.YtnacbbemgocmcaaGreatDoorY34
import Derived.Test.YtnacbbemgocmcaaGreatDoorY35
import Derived.Test.YtnacbbemgocmcaaGreatDoorProxyStaleC
namespace Go.Proofs.YtnacbbemgocmcaaGreatDoor.proxyStale
open Go.Ev Go.Ev.YtnacbbemgocmcaaGreatDoor Go.ChangeShapes Go.WideShapes Go.ChangeAt Go.RowKit
set_option maxRecDepth 100000
set_option linter.unusedVariables false
theorem own : ownKnob Tryz.prog.godebug = none := by kernel_rfl
theorem mixed : Tryz.prog.follows .mixedOrders = true := by kernel_rfl
theorem run_n_neg : staQ (.oth (.iv .i64 9223372036854775808 18446744073709551615)) (.oth (.iv .i64 0 18446744073709551615)) = true := by kernel_rfl
theorem run_n_lo : staQ (.oth (.iv .i64 0 0)) (.oth (.iv .i64 0 18446744073709551615)) = true := by kernel_rfl
theorem run_n_hi : staQ (.oth (.iv .i64 51 9223372036854775807)) (.oth (.iv .i64 0 18446744073709551615)) = true := by kernel_rfl
theorem run_p_neg : staQ (.oth (.iv .i64 1 50)) (.oth (.iv .i64 9223372036854775808 18446744073709551615)) = true := by kernel_rfl
theorem run_p_hi : staQ (.oth (.iv .i64 1 50)) (.oth (.iv .i64 61 9223372036854775807)) = true := by kernel_rfl
theorem walk {gl : GlF} (hT : HT gl) (a0 : Int) (w0 : (Lit.int .i64 a0).wf = true) (a1 : Int) (w1 : (Lit.int .i64 a1).wf = true) (w : World) (hgl : GlAt (rhoS gl) w) : Calls Tryz.prog 3 #[.int .i64 a0, .int .i64 a1] w fun e w' => e = .returned (.bool true) ∧ Below w.heap.size w w' := by
  have hb0 := wf_i64 w0
  have hb1 := wf_i64 w1
  by_cases h0 : a0 < 0
  · exact law2_call oneS mixed (tab_ok hT) Tryz.func3 (by kernel_rfl) (by kernel_rfl) run_n_neg (rels_cons.2 ⟨_, _, rfl, rel_iv_neg h0 hb0.1, rels_cons.2 ⟨_, _, rfl, rel_iv_any hb1.1 hb1.2, rels_nil.2 rfl⟩⟩) w hgl
  by_cases h1 : a0 ≤ 0
  · exact law2_call oneS mixed (tab_ok hT) Tryz.func3 (by kernel_rfl) (by kernel_rfl) run_n_lo (rels_cons.2 ⟨_, _, rfl, rel_iv_mid (by omega) (by omega) (by decide), rels_cons.2 ⟨_, _, rfl, rel_iv_any hb1.1 hb1.2, rels_nil.2 rfl⟩⟩) w hgl
  by_cases h2 : 51 ≤ a0
  · exact law2_call oneS mixed (tab_ok hT) Tryz.func3 (by kernel_rfl) (by kernel_rfl) run_n_hi (rels_cons.2 ⟨_, _, rfl, rel_iv_hi h2 hb0.2, rels_cons.2 ⟨_, _, rfl, rel_iv_any hb1.1 hb1.2, rels_nil.2 rfl⟩⟩) w hgl
  by_cases h3 : a1 < 0
  · exact law2_call oneS mixed (tab_ok hT) Tryz.func3 (by kernel_rfl) (by kernel_rfl) run_p_neg (rels_cons.2 ⟨_, _, rfl, rel_iv_mid (by omega) (by omega) (by decide), rels_cons.2 ⟨_, _, rfl, rel_iv_neg h3 hb1.1, rels_nil.2 rfl⟩⟩) w hgl
  by_cases h5 : 61 ≤ a1
  · exact law2_call oneS mixed (tab_ok hT) Tryz.func3 (by kernel_rfl) (by kernel_rfl) run_p_hi (rels_cons.2 ⟨_, _, rfl, rel_iv_mid (by omega) (by omega) (by decide), rels_cons.2 ⟨_, _, rfl, rel_iv_hi h5 hb1.2, rels_nil.2 rfl⟩⟩) w hgl
  obtain ⟨n, rfl⟩ : ∃ n : Nat, a0 = n := ⟨a0.toNat, by omega⟩
  obtain ⟨p, rfl⟩ : ∃ p : Nat, a1 = p := ⟨a1.toNat, by omega⟩
  have key : staQ (.int .i64 n) (.int .i64 p) = true := by
    by_cases c1 : n = 1
    · subst c1; exact sta_all y1_0 y1_7 y1_14 y1_21 y1_28 y1_35 y1_42 y1_49 y1_56 p (by omega)
    by_cases c2 : n = 2
    · subst c2; exact sta_all y2_0 y2_7 y2_14 y2_21 y2_28 y2_35 y2_42 y2_49 y2_56 p (by omega)
    by_cases c3 : n = 3
    · subst c3; exact sta_all y3_0 y3_7 y3_14 y3_21 y3_28 y3_35 y3_42 y3_49 y3_56 p (by omega)
    by_cases c4 : n = 4
    · subst c4; exact sta_all y4_0 y4_7 y4_14 y4_21 y4_28 y4_35 y4_42 y4_49 y4_56 p (by omega)
    by_cases c5 : n = 5
    · subst c5; exact sta_all y5_0 y5_7 y5_14 y5_21 y5_28 y5_35 y5_42 y5_49 y5_56 p (by omega)
    by_cases c6 : n = 6
    · subst c6; exact sta_all y6_0 y6_7 y6_14 y6_21 y6_28 y6_35 y6_42 y6_49 y6_56 p (by omega)
    by_cases c7 : n = 7
    · subst c7; exact sta_all y7_0 y7_7 y7_14 y7_21 y7_28 y7_35 y7_42 y7_49 y7_56 p (by omega)
    by_cases c8 : n = 8
    · subst c8; exact sta_all y8_0 y8_7 y8_14 y8_21 y8_28 y8_35 y8_42 y8_49 y8_56 p (by omega)
    by_cases c9 : n = 9
    · subst c9; exact sta_all y9_0 y9_7 y9_14 y9_21 y9_28 y9_35 y9_42 y9_49 y9_56 p (by omega)
    by_cases c10 : n = 10
    · subst c10; exact sta_all y10_0 y10_7 y10_14 y10_21 y10_28 y10_35 y10_42 y10_49 y10_56 p (by omega)
    by_cases c11 : n = 11
    · subst c11; exact sta_all y11_0 y11_7 y11_14 y11_21 y11_28 y11_35 y11_42 y11_49 y11_56 p (by omega)
    by_cases c12 : n = 12
    · subst c12; exact sta_all y12_0 y12_7 y12_14 y12_21 y12_28 y12_35 y12_42 y12_49 y12_56 p (by omega)
    by_cases c13 : n = 13
    · subst c13; exact sta_all y13_0 y13_7 y13_14 y13_21 y13_28 y13_35 y13_42 y13_49 y13_56 p (by omega)
    by_cases c14 : n = 14
    · subst c14; exact sta_all y14_0 y14_7 y14_14 y14_21 y14_28 y14_35 y14_42 y14_49 y14_56 p (by omega)
    by_cases c15 : n = 15
    · subst c15; exact sta_all y15_0 y15_7 y15_14 y15_21 y15_28 y15_35 y15_42 y15_49 y15_56 p (by omega)
    by_cases c16 : n = 16
    · subst c16; exact sta_all y16_0 y16_7 y16_14 y16_21 y16_28 y16_35 y16_42 y16_49 y16_56 p (by omega)
    by_cases c17 : n = 17
    · subst c17; exact sta_all y17_0 y17_7 y17_14 y17_21 y17_28 y17_35 y17_42 y17_49 y17_56 p (by omega)
    by_cases c18 : n = 18
    · subst c18; exact sta_all y18_0 y18_7 y18_14 y18_21 y18_28 y18_35 y18_42 y18_49 y18_56 p (by omega)
    by_cases c19 : n = 19
    · subst c19; exact sta_all y19_0 y19_7 y19_14 y19_21 y19_28 y19_35 y19_42 y19_49 y19_56 p (by omega)
    by_cases c20 : n = 20
    · subst c20; exact sta_all y20_0 y20_7 y20_14 y20_21 y20_28 y20_35 y20_42 y20_49 y20_56 p (by omega)
    by_cases c21 : n = 21
    · subst c21; exact sta_all y21_0 y21_7 y21_14 y21_21 y21_28 y21_35 y21_42 y21_49 y21_56 p (by omega)
    by_cases c22 : n = 22
    · subst c22; exact sta_all y22_0 y22_7 y22_14 y22_21 y22_28 y22_35 y22_42 y22_49 y22_56 p (by omega)
    by_cases c23 : n = 23
    · subst c23; exact sta_all y23_0 y23_7 y23_14 y23_21 y23_28 y23_35 y23_42 y23_49 y23_56 p (by omega)
    by_cases c24 : n = 24
    · subst c24; exact sta_all y24_0 y24_7 y24_14 y24_21 y24_28 y24_35 y24_42 y24_49 y24_56 p (by omega)
    by_cases c25 : n = 25
    · subst c25; exact sta_all y25_0 y25_7 y25_14 y25_21 y25_28 y25_35 y25_42 y25_49 y25_56 p (by omega)
    by_cases c26 : n = 26
    · subst c26; exact sta_all y26_0 y26_7 y26_14 y26_21 y26_28 y26_35 y26_42 y26_49 y26_56 p (by omega)
    by_cases c27 : n = 27
    · subst c27; exact sta_all y27_0 y27_7 y27_14 y27_21 y27_28 y27_35 y27_42 y27_49 y27_56 p (by omega)
    by_cases c28 : n = 28
    · subst c28; exact sta_all y28_0 y28_7 y28_14 y28_21 y28_28 y28_35 y28_42 y28_49 y28_56 p (by omega)
    by_cases c29 : n = 29
    · subst c29; exact sta_all y29_0 y29_7 y29_14 y29_21 y29_28 y29_35 y29_42 y29_49 y29_56 p (by omega)
    by_cases c30 : n = 30
    · subst c30; exact sta_all y30_0 y30_7 y30_14 y30_21 y30_28 y30_35 y30_42 y30_49 y30_56 p (by omega)
    by_cases c31 : n = 31
    · subst c31; exact sta_all y31_0 y31_7 y31_14 y31_21 y31_28 y31_35 y31_42 y31_49 y31_56 p (by omega)
    by_cases c32 : n = 32
    · subst c32; exact sta_all y32_0 y32_7 y32_14 y32_21 y32_28 y32_35 y32_42 y32_49 y32_56 p (by omega)
    by_cases c33 : n = 33
    · subst c33; exact sta_all y33_0 y33_7 y33_14 y33_21 y33_28 y33_35 y33_42 y33_49 y33_56 p (by omega)
    by_cases c34 : n = 34
    · subst c34; exact sta_all y34_0 y34_7 y34_14 y34_21 y34_28 y34_35 y34_42 y34_49 y34_56 p (by omega)
    by_cases c35 : n = 35
    · subst c35; exact sta_all y35_0 y35_7 y35_14 y35_21 y35_28 y35_35 y35_42 y35_49 y35_56 p (by omega)
    by_cases c36 : n = 36
    · subst c36; exact sta_all y36_0 y36_7 y36_14 y36_21 y36_28 y36_35 y36_42 y36_49 y36_56 p (by omega)
    by_cases c37 : n = 37
    · subst c37; exact sta_all y37_0 y37_7 y37_14 y37_21 y37_28 y37_35 y37_42 y37_49 y37_56 p (by omega)
    by_cases c38 : n = 38
    · subst c38; exact sta_all y38_0 y38_7 y38_14 y38_21 y38_28 y38_35 y38_42 y38_49 y38_56 p (by omega)
    by_cases c39 : n = 39
    · subst c39; exact sta_all y39_0 y39_7 y39_14 y39_21 y39_28 y39_35 y39_42 y39_49 y39_56 p (by omega)
    by_cases c40 : n = 40
    · subst c40; exact sta_all y40_0 y40_7 y40_14 y40_21 y40_28 y40_35 y40_42 y40_49 y40_56 p (by omega)
    by_cases c41 : n = 41
    · subst c41; exact sta_all y41_0 y41_7 y41_14 y41_21 y41_28 y41_35 y41_42 y41_49 y41_56 p (by omega)
    by_cases c42 : n = 42
    · subst c42; exact sta_all y42_0 y42_7 y42_14 y42_21 y42_28 y42_35 y42_42 y42_49 y42_56 p (by omega)
    by_cases c43 : n = 43
    · subst c43; exact sta_all y43_0 y43_7 y43_14 y43_21 y43_28 y43_35 y43_42 y43_49 y43_56 p (by omega)
    by_cases c44 : n = 44
    · subst c44; exact sta_all y44_0 y44_7 y44_14 y44_21 y44_28 y44_35 y44_42 y44_49 y44_56 p (by omega)
    by_cases c45 : n = 45
    · subst c45; exact sta_all y45_0 y45_7 y45_14 y45_21 y45_28 y45_35 y45_42 y45_49 y45_56 p (by omega)
    by_cases c46 : n = 46
    · subst c46; exact sta_all y46_0 y46_7 y46_14 y46_21 y46_28 y46_35 y46_42 y46_49 y46_56 p (by omega)
    by_cases c47 : n = 47
    · subst c47; exact sta_all y47_0 y47_7 y47_14 y47_21 y47_28 y47_35 y47_42 y47_49 y47_56 p (by omega)
    by_cases c48 : n = 48
    · subst c48; exact sta_all y48_0 y48_7 y48_14 y48_21 y48_28 y48_35 y48_42 y48_49 y48_56 p (by omega)
    by_cases c49 : n = 49
    · subst c49; exact sta_all y49_0 y49_7 y49_14 y49_21 y49_28 y49_35 y49_42 y49_49 y49_56 p (by omega)
    by_cases c50 : n = 50
    · subst c50; exact sta_all y50_0 y50_7 y50_14 y50_21 y50_28 y50_35 y50_42 y50_49 y50_56 p (by omega)
    exact absurd h2 (by omega)
  exact law2_call oneS mixed (tab_ok hT) Tryz.func3 (by kernel_rfl) (by kernel_rfl) key (rels_cons.2 ⟨_, _, rfl, rel_i64 (by omega), rels_cons.2 ⟨_, _, rfl, rel_i64 (by omega), rels_nil.2 rfl⟩⟩) w hgl
theorem gTab : Tryz.prog.globalNamed "internal/strconv.uint64pow10" = some 0 := by kernel_rfl
theorem gType : (Tryz.prog.globals[0]?).map (·.type) = some 470 := by kernel_rfl
theorem cellsA : Tryz.prog.cellsOf 470 = 20 := by kernel_rfl
theorem cellsE : Tryz.prog.cellsOf 146 = 1 := by kernel_rfl
theorem tabData_eq : (Rows.laid_internal_strconv_uint64pow10 : DataW Unit) = Lib.tabData .u64 Lib.pow10Tab := by kernel_rfl
theorem table {W : World} (h : laidMetH Tryz.prog Rows.proxyStaleRow.laid W) : Lib.TabIs Tryz.prog W "internal/strconv.uint64pow10" .u64 Lib.pow10Tab :=
  tabIs_of_mem (l := Rows.proxyStaleRow.laid) gTab gType Tryz.underlying470 Tryz.underlying146 cellsE cellsA (by rw [← tabData_eq]; exact .tail _ (.tail _ (.head _))) h
theorem contract (H : Type) (enc : TypeId × Value → H) (W : World) (base : Nat) (args : Array Value) (ds gs : List (DataW H)) (before : List MemPlace)
    (hval : ∀ (j : Nat) t v, Tryz.f3.params[j]? = some t → args[j]? = some v → Value.okWide Tryz.prog W .any base t v)
    (hW : DataW.Whole enc Tryz.prog Tryz.f3.params.toList Rows.proxyStaleSpec.vars false W args.toList ds gs before) (hL : laidMetH Tryz.prog Rows.proxyStaleRow.laid W) :
    Calls Tryz.prog 3 args W fun e W' => ∃ v, e = .returned v ∧ Rows.proxyStaleSpec.post enc Tryz.prog Tryz.f3 false true false false W args v W' := by
  have hW' := hW
  obtain ⟨p, q, hA0, hV, rfl, hfz, hnd⟩ := hW
  have hA : DataW.TrodAll enc Tryz.prog W 0 (fun _ => true) true Tryz.f3.params.toList args.toList ds p := hA0
  rw [Tryz.params3] at hA hval
  obtain ⟨v0, vs0, d0, ds0, p0, q0, hargs, rfl, rfl, h0, r0⟩ := trodAll_cons hA
  obtain ⟨v1, vs1, d1, ds1, p1, q1, rfl, rfl, rfl, h1, r1⟩ := trodAll_cons r0
  obtain ⟨rfl, rfl, rfl⟩ := trodAll_nil r1
  obtain rfl : args = #[v0, v1] := by cases args; simp_all
  obtain ⟨rfl, rfl⟩ := trodVars_none hV
  obtain ⟨a0, rfl, rfl, rfl, w0⟩ := open_int Tryz.underlying3 (hval 0 3 v0 rfl rfl) h0
  obtain ⟨a1, rfl, rfl, rfl, w1⟩ := open_int Tryz.underlying3 (hval 1 3 v1 rfl rfl) h1
  clear hA0
  simp only [List.append_nil] at hW'
  refine (walk (TabG.of (l := [0]) gTab (by simp) (table hL)) a0 w0 a1 w1 W glOf_at).mono fun e W' ⟨he, hg⟩ => ?_
  subst he
  exact ⟨_, rfl, post_of_fresh (pa := []) (pv := []) hW' (fun _ _ _ => (trodAll_cons_mk (shut_bool Tryz.underlying4 _) trodAll_mk0)) (fun sp _ => (trodAll_cons_mk (shut_int Tryz.underlying3 w0) (trodAll_cons_mk (shut_int Tryz.underlying3 w1) trodAll_mk0))) (fun _ _ => rfl) rfl hg (ok_one (by kernel_rfl) rfl (okWide_bool_mk Tryz.underlying4 _))⟩
noncomputable def laidWorld (os : Os) : World :=
  { World.holding Tryz.prog os ⟨#[], #[], []⟩ with heap := ((((((World.holding Tryz.prog os ⟨#[], #[], []⟩).heap.modify 2 fun
      | .cells _ t frozen => .cells #[.int .u8 0, .int .u8 1, .int .u8 28, .int .u8 2, .int .u8 29, .int .u8 14, .int .u8 24, .int .u8 3, .int .u8 30, .int .u8 22, .int .u8 20, .int .u8 15, .int .u8 25, .int .u8 17, .int .u8 4, .int .u8 8, .int .u8 31, .int .u8 27, .int .u8 13, .int .u8 23, .int .u8 21, .int .u8 19, .int .u8 16, .int .u8 7, .int .u8 26, .int .u8 12, .int .u8 18, .int .u8 6, .int .u8 11, .int .u8 5, .int .u8 10, .int .u8 9] t frozen
      | o => o).modify 3 fun
      | .cells _ t frozen => .cells #[.int .u8 0, .int .u8 1, .int .u8 56, .int .u8 2, .int .u8 57, .int .u8 49, .int .u8 28, .int .u8 3, .int .u8 61, .int .u8 58, .int .u8 42, .int .u8 50, .int .u8 38, .int .u8 29, .int .u8 17, .int .u8 4, .int .u8 62, .int .u8 47, .int .u8 59, .int .u8 36, .int .u8 45, .int .u8 43, .int .u8 51, .int .u8 22, .int .u8 53, .int .u8 39, .int .u8 33, .int .u8 30, .int .u8 24, .int .u8 18, .int .u8 12, .int .u8 5, .int .u8 63, .int .u8 55, .int .u8 48, .int .u8 27, .int .u8 60, .int .u8 41, .int .u8 37, .int .u8 16, .int .u8 46, .int .u8 35, .int .u8 44, .int .u8 21, .int .u8 52, .int .u8 32, .int .u8 23, .int .u8 11, .int .u8 54, .int .u8 26, .int .u8 40, .int .u8 15, .int .u8 34, .int .u8 20, .int .u8 31, .int .u8 10, .int .u8 25, .int .u8 14, .int .u8 19, .int .u8 9, .int .u8 13, .int .u8 8, .int .u8 7, .int .u8 6] t frozen
      | o => o).modify 0 fun
      | .cells _ t frozen => .cells #[.int .u64 1, .int .u64 10, .int .u64 100, .int .u64 1000, .int .u64 10000, .int .u64 100000, .int .u64 1000000, .int .u64 10000000, .int .u64 100000000, .int .u64 1000000000, .int .u64 10000000000, .int .u64 100000000000, .int .u64 1000000000000, .int .u64 10000000000000, .int .u64 100000000000000, .int .u64 1000000000000000, .int .u64 10000000000000000, .int .u64 100000000000000000, .int .u64 1000000000000000000, .int .u64 10000000000000000000] t frozen
      | o => o).modify 5 fun
      | .cells _ t frozen => .cells #[.int .u8 128, .int .u8 191, .int .u8 160, .int .u8 191, .int .u8 128, .int .u8 159, .int .u8 144, .int .u8 191, .int .u8 128, .int .u8 143, .int .u8 0, .int .u8 0, .int .u8 0, .int .u8 0, .int .u8 0, .int .u8 0, .int .u8 0, .int .u8 0, .int .u8 0, .int .u8 0, .int .u8 0, .int .u8 0, .int .u8 0, .int .u8 0, .int .u8 0, .int .u8 0, .int .u8 0, .int .u8 0, .int .u8 0, .int .u8 0, .int .u8 0, .int .u8 0] t frozen
      | o => o).modify 4 fun
      | .cells _ t frozen => .cells (Pinned.utf8FirstZ.map fun (n : Nat) => Value.int .u8 (n : Int)).toArray t frozen
      | o => o) }
theorem laid_met (os : Os) : laidMet Tryz.prog Rows.proxyStaleRow.laid ((laidWorld os).forCall (fun _ _ => 0) ⟨#[], #[.int .i64 0, .int .i64 0], []⟩).memory :=
  laidMet_of_run' 8 (by kernel_rfl) (by kernel_rfl)
theorem reads (os : Os) {H : Type} (enc : TypeId × Value → H) : ∃ places, DataW.whole enc Tryz.prog ((laidWorld os).forCall (fun _ _ => 0) ⟨#[], #[.int .i64 0, .int .i64 0], []⟩).memory Tryz.f3.params.toList Rows.proxyStaleSpec.vars false (#[.int .i64 0, .int .i64 0] : Array Value).toList 8 = some ([.lit (.int .i64 0), .lit (.int .i64 0)], [], places) :=
  ⟨[], by kernel_rfl⟩
theorem lifted (os : Os) (started : os.Started) (H : Type) (enc : TypeId × Value → H) (F : Stop.Interp) :
    ReturnsInHanded {} Tryz.checked os 3 .any ((OpenSpec.ofChange Rows.proxyStaleSpec).preRow enc Tryz.prog Tryz.f3 Rows.proxyStaleRow.domain false Rows.proxyStaleRow.laid) (((OpenSpec.ofChange Rows.proxyStaleSpec).at F).post enc Tryz.prog Tryz.f3 false true false false) := by
  obtain ⟨places, hx⟩ := reads os enc
  refine returnsInHanded_of_row (C := Tryz.checked) (s := OpenSpec.ofChange Rows.proxyStaleSpec) own started (by kernel_rfl) Tryz.func3
    (witness_row_at (enc := enc) (C := Tryz.checked) false (laidWorld os) #[.int .i64 0, .int .i64 0] rfl (by kernel_rfl) (by kernel_rfl) (by kernel_rfl)
      (OpenSpec.preRow_of_cond 8 hx (by kernel_rfl) (fun k hk => by cases hk) (by kernel_rfl) (laid_met os))) ?_
  intro W base args ds gs before hval hW _ _ _ hL hsh _
  exact contract H enc W base args ds gs before hval hW hL
theorem said : Rows.ProxyStaleSaid :=
  OpenClaim.holds_of_cond 3 Tryz.f3 rfl rfl rfl rfl rfl rfl rfl ⟨rfl, rfl, rfl, rfl, rfl⟩ rfl rfl rfl rfl rfl (by kernel_rfl) Tryz.func3 closed
    (of_decide_eq_true (by kernel_rfl)) (by unfold Func.isWrapper; first | (rw [if_pos (by decide +kernel)]; kernel_rfl) | (rw [if_neg (by decide +kernel)]; exact ⟨rfl, rfl⟩))
    (fun os started H enc _ F => by rw [OpenClaim.pre_eq_preRow]; exact lifted os started H enc F)
theorem plain (f : FuncId) (fn : Func) (hf : Tryz.pinned.checked.prog.funcNamed "stillroom/stillroomlaw27.ProxyStale" = some f) (hfn : Tryz.pinned.checked.prog.funcs[f]? = some fn) :
    true = Tryz.pinned.checked.prog.looks [] ∧ ∀ (j : Nat) t, fn.params[j]? = some t → Tryz.pinned.checked.prog.wantsStandIn t = false := by
  obtain rfl : f = 3 := Option.some.inj ((show Tryz.prog.funcNamed "stillroom/stillroomlaw27.ProxyStale" = some 3 by kernel_rfl).symm.trans hf) |>.symm
  obtain rfl : fn = Tryz.f3 := (Option.some.inj (Tryz.func3.symm.trans hfn)).symm
  refine ⟨by kernel_rfl, fun j t ht => ?_⟩
  rw [Tryz.params3] at ht
  rcases j with _ | _ | j
  · obtain rfl := (Option.some.inj ht : 3 = t)
    exact (show Tryz.pinned.checked.prog.wantsStandIn 3 = false by kernel_rfl)
  · obtain rfl := (Option.some.inj ht : 3 = t)
    exact (show Tryz.pinned.checked.prog.wantsStandIn 3 = false by kernel_rfl)
  · simp at ht
theorem g0 : ((Tryz.prog.funcs.toList.take 140).all fun fn => !fn.goes) = true := by kernel_rfl
theorem g1 : (((Tryz.prog.funcs.toList.drop 140).take 140).all fun fn => !fn.goes) = true := by kernel_rfl
theorem g2 : (((Tryz.prog.funcs.toList.drop 280).take 140).all fun fn => !fn.goes) = true := by kernel_rfl
theorem g3 : (((Tryz.prog.funcs.toList.drop 420).take 140).all fun fn => !fn.goes) = true := by kernel_rfl
theorem g4 : (((Tryz.prog.funcs.toList.drop 560)).all fun fn => !fn.goes) = true := by kernel_rfl
theorem goes : false = Rows.proxyStaleRow.goesBy Tryz.pinned.checked.prog :=
  (goes_no (P := Tryz.pinned.checked.prog) (any_no 140 g0 (any_no 140 g1 (any_no 140 (by rw [List.drop_drop]; exact g2) (any_no 140 (by rw [List.drop_drop, List.drop_drop]; exact g3) ((by rw [List.drop_drop, List.drop_drop, List.drop_drop]; exact g4)))))) _).symm
/-- ████ THE CARD ████ -/
theorem proved : Rows.ProxyStaleCardSaid :=
  Claim7.holds_tied_plain_at .later [] _ _ _ _ said (fun _ h => by cases h) (by kernel_rfl) (fun _ h => by cases h) proxyStale_row_tie rfl ⟨rfl, rfl⟩ (by kernel_rfl) rfl plain goes
#print axioms proved
end Go.Proofs.YtnacbbemgocmcaaGreatDoor.proxyStale
