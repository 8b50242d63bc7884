/- Proved: stillroomtop.TopKeys returns true, as its tied card says it. Conditions: the three tables that the row lists hold what the program lays, which the card ties to the program's text; none else. -/
import Derived.Test.YtcfcheeondafcaaGreatDoorCards
import Derived.Test.YtcfcheeondafcaaGreatDoorTie
import Derived.WalkKit
import Derived.ProofKit
import Derived.OpenShut
import Derived.Deep.DeepHandedRow
import Derived.KernelRfl
import Derived.Test.YtcfcheeondafcaaGreatDoorT
import Derived.Test.YtcfcheeondafcaaGreatDoorY0
import Derived.Test.YtcfcheeondafcaaGreatDoorY1
import Derived.Test.YtcfcheeondafcaaGreatDoorY2
import Derived.Test.YtcfcheeondafcaaGreatDoorY3
import Derived.Test.YtcfcheeondafcaaGreatDoorTopKeysC
namespace Go.Proofs.YtcfcheeondafcaaGreatDoor.topKeys
open Go.Ev Go.Ev.YtcfcheeondafcaaGreatDoor Go.ChangeShapes Go.WideShapes Go.ChangeAt Go.RowKit
set_option maxRecDepth 100000
set_option linter.unusedVariables false
theorem own : ownKnob Tryz.prog.godebug = none := by kernel_rfl
theorem mixed : Tryz.prog.follows .mixedOrders = true := by kernel_rfl
theorem one_way {gl : GlF} (hT : HT gl) {i j : Nat} (h : keyQ i j = true) (a0 a1 : Int) (h0 : -9223372036854775808 ≤ a0 ∧ a0 < 9223372036854775808) (h1 : -9223372036854775808 ≤ a1 ∧ a1 < 9223372036854775808) (e0 : a0.natAbs % 10 = i) (e1 : a1.natAbs % 10 = j) (w : World) (hgl : GlAt (rhoS gl) w) : Calls Tryz.prog 3 #[.int .i64 a0, .int .i64 a1] w fun e w' => e = .returned (.bool true) ∧ Below w.heap.size w w' :=
  law4_call oneS mixed (tab_ok hT) Tryz.func3 (by kernel_rfl) (by kernel_rfl) h (rels_cons.2 ⟨_, _, rfl, rel_rs (by decide) h0.1 h0.2 e0, rels_cons.2 ⟨_, _, rfl, rel_rs (by decide) h1.1 h1.2 e1, rels_nil.2 rfl⟩⟩) w hgl
theorem walk {gl : GlF} (hT : HT gl) (a0 : Int) (w0 : (Lit.int .i64 a0).wf = true) (a1 : Int) (w1 : (Lit.int .i64 a1).wf = true) (w : World) (hgl : GlAt (rhoS gl) w) : Calls Tryz.prog 3 #[.int .i64 a0, .int .i64 a1] w fun e w' => e = .returned (.bool true) ∧ Below w.heap.size w w' := by
  have hb0 := wf_i64 w0
  have hb1 := wf_i64 w1
  have hj : a0.natAbs % 10 < 10 := Nat.mod_lt _ (by decide)
  have hk : a1.natAbs % 10 < 10 := Nat.mod_lt _ (by decide)
  by_cases e0 : a0.natAbs % 10 = 0
  · by_cases f0 : a1.natAbs % 10 = 0
    · exact one_way hT y0_0 a0 a1 hb0 hb1 e0 f0 w hgl
    by_cases f1 : a1.natAbs % 10 = 1
    · exact one_way hT y0_1 a0 a1 hb0 hb1 e0 f1 w hgl
    by_cases f2 : a1.natAbs % 10 = 2
    · exact one_way hT y0_2 a0 a1 hb0 hb1 e0 f2 w hgl
    by_cases f3 : a1.natAbs % 10 = 3
    · exact one_way hT y0_3 a0 a1 hb0 hb1 e0 f3 w hgl
    by_cases f4 : a1.natAbs % 10 = 4
    · exact one_way hT y0_4 a0 a1 hb0 hb1 e0 f4 w hgl
    by_cases f5 : a1.natAbs % 10 = 5
    · exact one_way hT y0_5 a0 a1 hb0 hb1 e0 f5 w hgl
    by_cases f6 : a1.natAbs % 10 = 6
    · exact one_way hT y0_6 a0 a1 hb0 hb1 e0 f6 w hgl
    by_cases f7 : a1.natAbs % 10 = 7
    · exact one_way hT y0_7 a0 a1 hb0 hb1 e0 f7 w hgl
    by_cases f8 : a1.natAbs % 10 = 8
    · exact one_way hT y0_8 a0 a1 hb0 hb1 e0 f8 w hgl
    by_cases f9 : a1.natAbs % 10 = 9
    · exact one_way hT y0_9 a0 a1 hb0 hb1 e0 f9 w hgl
    exact absurd hk (by omega)
  by_cases e1 : a0.natAbs % 10 = 1
  · by_cases f0 : a1.natAbs % 10 = 0
    · exact one_way hT y1_0 a0 a1 hb0 hb1 e1 f0 w hgl
    by_cases f1 : a1.natAbs % 10 = 1
    · exact one_way hT y1_1 a0 a1 hb0 hb1 e1 f1 w hgl
    by_cases f2 : a1.natAbs % 10 = 2
    · exact one_way hT y1_2 a0 a1 hb0 hb1 e1 f2 w hgl
    by_cases f3 : a1.natAbs % 10 = 3
    · exact one_way hT y1_3 a0 a1 hb0 hb1 e1 f3 w hgl
    by_cases f4 : a1.natAbs % 10 = 4
    · exact one_way hT y1_4 a0 a1 hb0 hb1 e1 f4 w hgl
    by_cases f5 : a1.natAbs % 10 = 5
    · exact one_way hT y1_5 a0 a1 hb0 hb1 e1 f5 w hgl
    by_cases f6 : a1.natAbs % 10 = 6
    · exact one_way hT y1_6 a0 a1 hb0 hb1 e1 f6 w hgl
    by_cases f7 : a1.natAbs % 10 = 7
    · exact one_way hT y1_7 a0 a1 hb0 hb1 e1 f7 w hgl
    by_cases f8 : a1.natAbs % 10 = 8
    · exact one_way hT y1_8 a0 a1 hb0 hb1 e1 f8 w hgl
    by_cases f9 : a1.natAbs % 10 = 9
    · exact one_way hT y1_9 a0 a1 hb0 hb1 e1 f9 w hgl
    exact absurd hk (by omega)
  by_cases e2 : a0.natAbs % 10 = 2
  · by_cases f0 : a1.natAbs % 10 = 0
    · exact one_way hT y2_0 a0 a1 hb0 hb1 e2 f0 w hgl
    by_cases f1 : a1.natAbs % 10 = 1
    · exact one_way hT y2_1 a0 a1 hb0 hb1 e2 f1 w hgl
    by_cases f2 : a1.natAbs % 10 = 2
    · exact one_way hT y2_2 a0 a1 hb0 hb1 e2 f2 w hgl
    by_cases f3 : a1.natAbs % 10 = 3
    · exact one_way hT y2_3 a0 a1 hb0 hb1 e2 f3 w hgl
    by_cases f4 : a1.natAbs % 10 = 4
    · exact one_way hT y2_4 a0 a1 hb0 hb1 e2 f4 w hgl
    by_cases f5 : a1.natAbs % 10 = 5
    · exact one_way hT y2_5 a0 a1 hb0 hb1 e2 f5 w hgl
    by_cases f6 : a1.natAbs % 10 = 6
    · exact one_way hT y2_6 a0 a1 hb0 hb1 e2 f6 w hgl
    by_cases f7 : a1.natAbs % 10 = 7
    · exact one_way hT y2_7 a0 a1 hb0 hb1 e2 f7 w hgl
    by_cases f8 : a1.natAbs % 10 = 8
    · exact one_way hT y2_8 a0 a1 hb0 hb1 e2 f8 w hgl
    by_cases f9 : a1.natAbs % 10 = 9
    · exact one_way hT y2_9 a0 a1 hb0 hb1 e2 f9 w hgl
    exact absurd hk (by omega)
  by_cases e3 : a0.natAbs % 10 = 3
  · by_cases f0 : a1.natAbs % 10 = 0
    · exact one_way hT y3_0 a0 a1 hb0 hb1 e3 f0 w hgl
    by_cases f1 : a1.natAbs % 10 = 1
    · exact one_way hT y3_1 a0 a1 hb0 hb1 e3 f1 w hgl
    by_cases f2 : a1.natAbs % 10 = 2
    · exact one_way hT y3_2 a0 a1 hb0 hb1 e3 f2 w hgl
    by_cases f3 : a1.natAbs % 10 = 3
    · exact one_way hT y3_3 a0 a1 hb0 hb1 e3 f3 w hgl
    by_cases f4 : a1.natAbs % 10 = 4
    · exact one_way hT y3_4 a0 a1 hb0 hb1 e3 f4 w hgl
    by_cases f5 : a1.natAbs % 10 = 5
    · exact one_way hT y3_5 a0 a1 hb0 hb1 e3 f5 w hgl
    by_cases f6 : a1.natAbs % 10 = 6
    · exact one_way hT y3_6 a0 a1 hb0 hb1 e3 f6 w hgl
    by_cases f7 : a1.natAbs % 10 = 7
    · exact one_way hT y3_7 a0 a1 hb0 hb1 e3 f7 w hgl
    by_cases f8 : a1.natAbs % 10 = 8
    · exact one_way hT y3_8 a0 a1 hb0 hb1 e3 f8 w hgl
    by_cases f9 : a1.natAbs % 10 = 9
    · exact one_way hT y3_9 a0 a1 hb0 hb1 e3 f9 w hgl
    exact absurd hk (by omega)
  by_cases e4 : a0.natAbs % 10 = 4
  · by_cases f0 : a1.natAbs % 10 = 0
    · exact one_way hT y4_0 a0 a1 hb0 hb1 e4 f0 w hgl
    by_cases f1 : a1.natAbs % 10 = 1
    · exact one_way hT y4_1 a0 a1 hb0 hb1 e4 f1 w hgl
    by_cases f2 : a1.natAbs % 10 = 2
    · exact one_way hT y4_2 a0 a1 hb0 hb1 e4 f2 w hgl
    by_cases f3 : a1.natAbs % 10 = 3
    · exact one_way hT y4_3 a0 a1 hb0 hb1 e4 f3 w hgl
    by_cases f4 : a1.natAbs % 10 = 4
    · exact one_way hT y4_4 a0 a1 hb0 hb1 e4 f4 w hgl
    by_cases f5 : a1.natAbs % 10 = 5
    · exact one_way hT y4_5 a0 a1 hb0 hb1 e4 f5 w hgl
    by_cases f6 : a1.natAbs % 10 = 6
    · exact one_way hT y4_6 a0 a1 hb0 hb1 e4 f6 w hgl
    by_cases f7 : a1.natAbs % 10 = 7
    · exact one_way hT y4_7 a0 a1 hb0 hb1 e4 f7 w hgl
    by_cases f8 : a1.natAbs % 10 = 8
    · exact one_way hT y4_8 a0 a1 hb0 hb1 e4 f8 w hgl
    by_cases f9 : a1.natAbs % 10 = 9
    · exact one_way hT y4_9 a0 a1 hb0 hb1 e4 f9 w hgl
    exact absurd hk (by omega)
  by_cases e5 : a0.natAbs % 10 = 5
  · by_cases f0 : a1.natAbs % 10 = 0
    · exact one_way hT y5_0 a0 a1 hb0 hb1 e5 f0 w hgl
    by_cases f1 : a1.natAbs % 10 = 1
    · exact one_way hT y5_1 a0 a1 hb0 hb1 e5 f1 w hgl
    by_cases f2 : a1.natAbs % 10 = 2
    · exact one_way hT y5_2 a0 a1 hb0 hb1 e5 f2 w hgl
    by_cases f3 : a1.natAbs % 10 = 3
    · exact one_way hT y5_3 a0 a1 hb0 hb1 e5 f3 w hgl
    by_cases f4 : a1.natAbs % 10 = 4
    · exact one_way hT y5_4 a0 a1 hb0 hb1 e5 f4 w hgl
    by_cases f5 : a1.natAbs % 10 = 5
    · exact one_way hT y5_5 a0 a1 hb0 hb1 e5 f5 w hgl
    by_cases f6 : a1.natAbs % 10 = 6
    · exact one_way hT y5_6 a0 a1 hb0 hb1 e5 f6 w hgl
    by_cases f7 : a1.natAbs % 10 = 7
    · exact one_way hT y5_7 a0 a1 hb0 hb1 e5 f7 w hgl
    by_cases f8 : a1.natAbs % 10 = 8
    · exact one_way hT y5_8 a0 a1 hb0 hb1 e5 f8 w hgl
    by_cases f9 : a1.natAbs % 10 = 9
    · exact one_way hT y5_9 a0 a1 hb0 hb1 e5 f9 w hgl
    exact absurd hk (by omega)
  by_cases e6 : a0.natAbs % 10 = 6
  · by_cases f0 : a1.natAbs % 10 = 0
    · exact one_way hT y6_0 a0 a1 hb0 hb1 e6 f0 w hgl
    by_cases f1 : a1.natAbs % 10 = 1
    · exact one_way hT y6_1 a0 a1 hb0 hb1 e6 f1 w hgl
    by_cases f2 : a1.natAbs % 10 = 2
    · exact one_way hT y6_2 a0 a1 hb0 hb1 e6 f2 w hgl
    by_cases f3 : a1.natAbs % 10 = 3
    · exact one_way hT y6_3 a0 a1 hb0 hb1 e6 f3 w hgl
    by_cases f4 : a1.natAbs % 10 = 4
    · exact one_way hT y6_4 a0 a1 hb0 hb1 e6 f4 w hgl
    by_cases f5 : a1.natAbs % 10 = 5
    · exact one_way hT y6_5 a0 a1 hb0 hb1 e6 f5 w hgl
    by_cases f6 : a1.natAbs % 10 = 6
    · exact one_way hT y6_6 a0 a1 hb0 hb1 e6 f6 w hgl
    by_cases f7 : a1.natAbs % 10 = 7
    · exact one_way hT y6_7 a0 a1 hb0 hb1 e6 f7 w hgl
    by_cases f8 : a1.natAbs % 10 = 8
    · exact one_way hT y6_8 a0 a1 hb0 hb1 e6 f8 w hgl
    by_cases f9 : a1.natAbs % 10 = 9
    · exact one_way hT y6_9 a0 a1 hb0 hb1 e6 f9 w hgl
    exact absurd hk (by omega)
  by_cases e7 : a0.natAbs % 10 = 7
  · by_cases f0 : a1.natAbs % 10 = 0
    · exact one_way hT y7_0 a0 a1 hb0 hb1 e7 f0 w hgl
    by_cases f1 : a1.natAbs % 10 = 1
    · exact one_way hT y7_1 a0 a1 hb0 hb1 e7 f1 w hgl
    by_cases f2 : a1.natAbs % 10 = 2
    · exact one_way hT y7_2 a0 a1 hb0 hb1 e7 f2 w hgl
    by_cases f3 : a1.natAbs % 10 = 3
    · exact one_way hT y7_3 a0 a1 hb0 hb1 e7 f3 w hgl
    by_cases f4 : a1.natAbs % 10 = 4
    · exact one_way hT y7_4 a0 a1 hb0 hb1 e7 f4 w hgl
    by_cases f5 : a1.natAbs % 10 = 5
    · exact one_way hT y7_5 a0 a1 hb0 hb1 e7 f5 w hgl
    by_cases f6 : a1.natAbs % 10 = 6
    · exact one_way hT y7_6 a0 a1 hb0 hb1 e7 f6 w hgl
    by_cases f7 : a1.natAbs % 10 = 7
    · exact one_way hT y7_7 a0 a1 hb0 hb1 e7 f7 w hgl
    by_cases f8 : a1.natAbs % 10 = 8
    · exact one_way hT y7_8 a0 a1 hb0 hb1 e7 f8 w hgl
    by_cases f9 : a1.natAbs % 10 = 9
    · exact one_way hT y7_9 a0 a1 hb0 hb1 e7 f9 w hgl
    exact absurd hk (by omega)
  by_cases e8 : a0.natAbs % 10 = 8
  · by_cases f0 : a1.natAbs % 10 = 0
    · exact one_way hT y8_0 a0 a1 hb0 hb1 e8 f0 w hgl
    by_cases f1 : a1.natAbs % 10 = 1
    · exact one_way hT y8_1 a0 a1 hb0 hb1 e8 f1 w hgl
    by_cases f2 : a1.natAbs % 10 = 2
    · exact one_way hT y8_2 a0 a1 hb0 hb1 e8 f2 w hgl
    by_cases f3 : a1.natAbs % 10 = 3
    · exact one_way hT y8_3 a0 a1 hb0 hb1 e8 f3 w hgl
    by_cases f4 : a1.natAbs % 10 = 4
    · exact one_way hT y8_4 a0 a1 hb0 hb1 e8 f4 w hgl
    by_cases f5 : a1.natAbs % 10 = 5
    · exact one_way hT y8_5 a0 a1 hb0 hb1 e8 f5 w hgl
    by_cases f6 : a1.natAbs % 10 = 6
    · exact one_way hT y8_6 a0 a1 hb0 hb1 e8 f6 w hgl
    by_cases f7 : a1.natAbs % 10 = 7
    · exact one_way hT y8_7 a0 a1 hb0 hb1 e8 f7 w hgl
    by_cases f8 : a1.natAbs % 10 = 8
    · exact one_way hT y8_8 a0 a1 hb0 hb1 e8 f8 w hgl
    by_cases f9 : a1.natAbs % 10 = 9
    · exact one_way hT y8_9 a0 a1 hb0 hb1 e8 f9 w hgl
    exact absurd hk (by omega)
  by_cases e9 : a0.natAbs % 10 = 9
  · by_cases f0 : a1.natAbs % 10 = 0
    · exact one_way hT y9_0 a0 a1 hb0 hb1 e9 f0 w hgl
    by_cases f1 : a1.natAbs % 10 = 1
    · exact one_way hT y9_1 a0 a1 hb0 hb1 e9 f1 w hgl
    by_cases f2 : a1.natAbs % 10 = 2
    · exact one_way hT y9_2 a0 a1 hb0 hb1 e9 f2 w hgl
    by_cases f3 : a1.natAbs % 10 = 3
    · exact one_way hT y9_3 a0 a1 hb0 hb1 e9 f3 w hgl
    by_cases f4 : a1.natAbs % 10 = 4
    · exact one_way hT y9_4 a0 a1 hb0 hb1 e9 f4 w hgl
    by_cases f5 : a1.natAbs % 10 = 5
    · exact one_way hT y9_5 a0 a1 hb0 hb1 e9 f5 w hgl
    by_cases f6 : a1.natAbs % 10 = 6
    · exact one_way hT y9_6 a0 a1 hb0 hb1 e9 f6 w hgl
    by_cases f7 : a1.natAbs % 10 = 7
    · exact one_way hT y9_7 a0 a1 hb0 hb1 e9 f7 w hgl
    by_cases f8 : a1.natAbs % 10 = 8
    · exact one_way hT y9_8 a0 a1 hb0 hb1 e9 f8 w hgl
    by_cases f9 : a1.natAbs % 10 = 9
    · exact one_way hT y9_9 a0 a1 hb0 hb1 e9 f9 w hgl
    exact absurd hk (by omega)
  exact absurd hj (by omega)
theorem gTab : Tryz.prog.globalNamed "internal/strconv.uint64pow10" = some 1 := by kernel_rfl
theorem gType : (Tryz.prog.globals[1]?).map (·.type) = some 493 := by kernel_rfl
theorem cellsA : Tryz.prog.cellsOf 493 = 20 := by kernel_rfl
theorem cellsE : Tryz.prog.cellsOf 112 = 1 := by kernel_rfl
theorem tabData_eq : (Rows.laid_internal_strconv_uint64pow10 : DataW Unit) = Lib.tabData .u64 Lib.pow10Tab := by kernel_rfl
theorem table {W : World} (h : laidMetH Tryz.prog Rows.topKeysRow.laid W) : Lib.TabIs Tryz.prog W "internal/strconv.uint64pow10" .u64 Lib.pow10Tab :=
  tabIs_of_mem (l := Rows.topKeysRow.laid) gTab gType Tryz.underlying493 Tryz.underlying112 cellsE cellsA (by rw [← tabData_eq]; exact .tail _ (.tail _ (.head _))) h
theorem contract (H : Type) (enc : TypeId × Value → H) (W : World) (base : Nat) (args : Array Value) (ds gs : List (DataW H)) (before : List MemPlace)
    (hval : ∀ (j : Nat) t v, Tryz.f3.params[j]? = some t → args[j]? = some v → Value.okWide Tryz.prog W .any base t v)
    (hW : DataW.Whole enc Tryz.prog Tryz.f3.params.toList Rows.topKeysSpec.vars false W args.toList ds gs before) (hL : laidMetH Tryz.prog Rows.topKeysRow.laid W) :
    Calls Tryz.prog 3 args W fun e W' => ∃ v, e = .returned v ∧ Rows.topKeysSpec.post enc Tryz.prog Tryz.f3 false true false false W args v W' := by
  have hW' := hW
  obtain ⟨p, q, hA0, hV, rfl, hfz, hnd⟩ := hW
  have hA : DataW.TrodAll enc Tryz.prog W 0 (fun _ => true) true Tryz.f3.params.toList args.toList ds p := hA0
  rw [Tryz.params3] at hA hval
  obtain ⟨v0, vs0, d0, ds0, p0, q0, hargs, rfl, rfl, h0, r0⟩ := trodAll_cons hA
  obtain ⟨v1, vs1, d1, ds1, p1, q1, rfl, rfl, rfl, h1, r1⟩ := trodAll_cons r0
  obtain ⟨rfl, rfl, rfl⟩ := trodAll_nil r1
  obtain rfl : args = #[v0, v1] := by cases args; simp_all
  obtain ⟨rfl, rfl⟩ := trodVars_none hV
  obtain ⟨a0, rfl, rfl, rfl, w0⟩ := open_int Tryz.underlying3 (hval 0 3 v0 rfl rfl) h0
  obtain ⟨a1, rfl, rfl, rfl, w1⟩ := open_int Tryz.underlying3 (hval 1 3 v1 rfl rfl) h1
  clear hA0
  simp only [List.append_nil] at hW'
  refine (walk (TabG.of (l := [1]) gTab (by simp) (table hL)) a0 w0 a1 w1 W glOf_at).mono fun e W' ⟨he, hg⟩ => ?_
  subst he
  exact ⟨_, rfl, post_of_fresh (pa := []) (pv := []) hW' (fun _ _ _ => (trodAll_cons_mk (shut_bool Tryz.underlying4 _) trodAll_mk0)) (fun sp _ => (trodAll_cons_mk (shut_int Tryz.underlying3 w0) (trodAll_cons_mk (shut_int Tryz.underlying3 w1) trodAll_mk0))) (fun _ _ => rfl) rfl hg (ok_one (by kernel_rfl) rfl (okWide_bool_mk Tryz.underlying4 _))⟩
noncomputable def laidWorld (os : Os) : World :=
  { World.holding Tryz.prog os ⟨#[], #[], []⟩ with heap := ((((((World.holding Tryz.prog os ⟨#[], #[], []⟩).heap.modify 2 fun
      | .cells _ t frozen => .cells #[.int .u8 0, .int .u8 1, .int .u8 28, .int .u8 2, .int .u8 29, .int .u8 14, .int .u8 24, .int .u8 3, .int .u8 30, .int .u8 22, .int .u8 20, .int .u8 15, .int .u8 25, .int .u8 17, .int .u8 4, .int .u8 8, .int .u8 31, .int .u8 27, .int .u8 13, .int .u8 23, .int .u8 21, .int .u8 19, .int .u8 16, .int .u8 7, .int .u8 26, .int .u8 12, .int .u8 18, .int .u8 6, .int .u8 11, .int .u8 5, .int .u8 10, .int .u8 9] t frozen
      | o => o).modify 3 fun
      | .cells _ t frozen => .cells #[.int .u8 0, .int .u8 1, .int .u8 56, .int .u8 2, .int .u8 57, .int .u8 49, .int .u8 28, .int .u8 3, .int .u8 61, .int .u8 58, .int .u8 42, .int .u8 50, .int .u8 38, .int .u8 29, .int .u8 17, .int .u8 4, .int .u8 62, .int .u8 47, .int .u8 59, .int .u8 36, .int .u8 45, .int .u8 43, .int .u8 51, .int .u8 22, .int .u8 53, .int .u8 39, .int .u8 33, .int .u8 30, .int .u8 24, .int .u8 18, .int .u8 12, .int .u8 5, .int .u8 63, .int .u8 55, .int .u8 48, .int .u8 27, .int .u8 60, .int .u8 41, .int .u8 37, .int .u8 16, .int .u8 46, .int .u8 35, .int .u8 44, .int .u8 21, .int .u8 52, .int .u8 32, .int .u8 23, .int .u8 11, .int .u8 54, .int .u8 26, .int .u8 40, .int .u8 15, .int .u8 34, .int .u8 20, .int .u8 31, .int .u8 10, .int .u8 25, .int .u8 14, .int .u8 19, .int .u8 9, .int .u8 13, .int .u8 8, .int .u8 7, .int .u8 6] t frozen
      | o => o).modify 1 fun
      | .cells _ t frozen => .cells #[.int .u64 1, .int .u64 10, .int .u64 100, .int .u64 1000, .int .u64 10000, .int .u64 100000, .int .u64 1000000, .int .u64 10000000, .int .u64 100000000, .int .u64 1000000000, .int .u64 10000000000, .int .u64 100000000000, .int .u64 1000000000000, .int .u64 10000000000000, .int .u64 100000000000000, .int .u64 1000000000000000, .int .u64 10000000000000000, .int .u64 100000000000000000, .int .u64 1000000000000000000, .int .u64 10000000000000000000] t frozen
      | o => o).modify 5 fun
      | .cells _ t frozen => .cells #[.int .u8 128, .int .u8 191, .int .u8 160, .int .u8 191, .int .u8 128, .int .u8 159, .int .u8 144, .int .u8 191, .int .u8 128, .int .u8 143, .int .u8 0, .int .u8 0, .int .u8 0, .int .u8 0, .int .u8 0, .int .u8 0, .int .u8 0, .int .u8 0, .int .u8 0, .int .u8 0, .int .u8 0, .int .u8 0, .int .u8 0, .int .u8 0, .int .u8 0, .int .u8 0, .int .u8 0, .int .u8 0, .int .u8 0, .int .u8 0, .int .u8 0, .int .u8 0] t frozen
      | o => o).modify 4 fun
      | .cells _ t frozen => .cells (Pinned.utf8FirstZ.map fun (n : Nat) => Value.int .u8 (n : Int)).toArray t frozen
      | o => o) }
theorem laid_met (os : Os) : laidMet Tryz.prog Rows.topKeysRow.laid ((laidWorld os).forCall (fun _ _ => 0) ⟨#[], #[.int .i64 0, .int .i64 0], []⟩).memory :=
  laidMet_of_run' 8 (by kernel_rfl) (by kernel_rfl)
theorem reads (os : Os) {H : Type} (enc : TypeId × Value → H) : ∃ places, DataW.whole enc Tryz.prog ((laidWorld os).forCall (fun _ _ => 0) ⟨#[], #[.int .i64 0, .int .i64 0], []⟩).memory Tryz.f3.params.toList Rows.topKeysSpec.vars false (#[.int .i64 0, .int .i64 0] : Array Value).toList 8 = some ([.lit (.int .i64 0), .lit (.int .i64 0)], [], places) :=
  ⟨[], by kernel_rfl⟩
theorem lifted (os : Os) (started : os.Started) (H : Type) (enc : TypeId × Value → H) (F : Stop.Interp) :
    ReturnsInHanded {} Tryz.checked os 3 .any ((OpenSpec.ofChange Rows.topKeysSpec).preRow enc Tryz.prog Tryz.f3 Rows.topKeysRow.domain false Rows.topKeysRow.laid) (((OpenSpec.ofChange Rows.topKeysSpec).at F).post enc Tryz.prog Tryz.f3 false true false false) := by
  obtain ⟨places, hx⟩ := reads os enc
  refine returnsInHanded_of_row (C := Tryz.checked) (s := OpenSpec.ofChange Rows.topKeysSpec) own started (by kernel_rfl) Tryz.func3
    (witness_row_at (enc := enc) (C := Tryz.checked) false (laidWorld os) #[.int .i64 0, .int .i64 0] rfl (by kernel_rfl) (by kernel_rfl) (by kernel_rfl)
      (OpenSpec.preRow_of_cond 8 hx (by kernel_rfl) (fun k hk => by cases hk) (by kernel_rfl) (laid_met os))) ?_
  intro W base args ds gs before hval hW _ _ _ hL hsh _
  exact contract H enc W base args ds gs before hval hW hL
theorem said : Rows.TopKeysSaid :=
  OpenClaim.holds_of_cond 3 Tryz.f3 rfl rfl rfl rfl rfl rfl rfl ⟨rfl, rfl, rfl, rfl, rfl⟩ rfl rfl rfl rfl rfl (by kernel_rfl) Tryz.func3 closed
    (of_decide_eq_true (by kernel_rfl)) (by unfold Func.isWrapper; first | (rw [if_pos (by decide +kernel)]; kernel_rfl) | (rw [if_neg (by decide +kernel)]; exact ⟨rfl, rfl⟩))
    (fun os started H enc _ F => by rw [OpenClaim.pre_eq_preRow]; exact lifted os started H enc F)
theorem plain (f : FuncId) (fn : Func) (hf : Tryz.pinned.checked.prog.funcNamed "stillroom/stillroomtop.TopKeys" = some f) (hfn : Tryz.pinned.checked.prog.funcs[f]? = some fn) :
    true = Tryz.pinned.checked.prog.looks [] ∧ ∀ (j : Nat) t, fn.params[j]? = some t → Tryz.pinned.checked.prog.wantsStandIn t = false := by
  obtain rfl : f = 3 := Option.some.inj ((show Tryz.prog.funcNamed "stillroom/stillroomtop.TopKeys" = some 3 by kernel_rfl).symm.trans hf) |>.symm
  obtain rfl : fn = Tryz.f3 := (Option.some.inj (Tryz.func3.symm.trans hfn)).symm
  refine ⟨by kernel_rfl, fun j t ht => ?_⟩
  rw [Tryz.params3] at ht
  rcases j with _ | _ | j
  · obtain rfl := (Option.some.inj ht : 3 = t)
    exact (show Tryz.pinned.checked.prog.wantsStandIn 3 = false by kernel_rfl)
  · obtain rfl := (Option.some.inj ht : 3 = t)
    exact (show Tryz.pinned.checked.prog.wantsStandIn 3 = false by kernel_rfl)
  · simp at ht
theorem g0 : ((Tryz.prog.funcs.toList.take 140).all fun fn => !fn.goes) = true := by kernel_rfl
theorem g1 : (((Tryz.prog.funcs.toList.drop 140).take 140).all fun fn => !fn.goes) = true := by kernel_rfl
theorem g2 : (((Tryz.prog.funcs.toList.drop 280).take 140).all fun fn => !fn.goes) = true := by kernel_rfl
theorem g3 : (((Tryz.prog.funcs.toList.drop 420).take 140).all fun fn => !fn.goes) = true := by kernel_rfl
theorem g4 : (((Tryz.prog.funcs.toList.drop 560)).all fun fn => !fn.goes) = true := by kernel_rfl
theorem goes : false = Rows.topKeysRow.goesBy Tryz.pinned.checked.prog :=
  (goes_no (P := Tryz.pinned.checked.prog) (any_no 140 g0 (any_no 140 g1 (any_no 140 (by rw [List.drop_drop]; exact g2) (any_no 140 (by rw [List.drop_drop, List.drop_drop]; exact g3) ((by rw [List.drop_drop, List.drop_drop, List.drop_drop]; exact g4)))))) _).symm
/-- ████ THE CARD ████ -/
theorem proved : Rows.TopKeysCardSaid :=
  Claim7.holds_tied_plain_at .later [] _ _ _ _ said (fun _ h => by cases h) (by kernel_rfl) (fun _ h => by cases h) topKeys_row_tie rfl ⟨rfl, rfl⟩ (by kernel_rfl) rfl plain goes
#print axioms proved
end Go.Proofs.YtcfcheeondafcaaGreatDoor.topKeys
