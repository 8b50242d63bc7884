/- Proved: stillroomlaw14.StorePurge returns true, as its tied card says it. Conditions: the three tables that the row lists hold what the program lays, which the card ties to the program's text; none else. -/
import Derived.Test.YtddknjmlhbeabaaGreatDoorCards
import Derived.Test.YtddknjmlhbeabaaGreatDoorTie
import Derived.WalkKit
import Derived.ProofKit
import Derived.OpenShut
import Derived.Deep.DeepHandedRow
import Derived.KernelRfl
import Derived.Test.YtddknjmlhbeabaaGreatDoorT
import Derived.Test.YtddknjmlhbeabaaGreatDoorY0
import Derived.Test.YtddknjmlhbeabaaGreatDoorY1
import Derived.Test.YtddknjmlhbeabaaGreatDoorY2
import Derived.Test.YtddknjmlhbeabaaGreatDoorY3
import Derived.Test.YtddknjmlhbeabaaGreatDoorY4
import Derived.Test.YtddknjmlhbeabaaGreatDoorY5
import Derived.Test.YtddknjmlhbeabaaGreatDoorY6
import Derived.Test.YtddknjmlhbeabaaGreatDoorY7
import Derived.Test.YtddknjmlhbeabaaGreatDoorStorePurgeC
namespace Go.Proofs.YtddknjmlhbeabaaGreatDoor.storePurge
open Go.Ev Go.Ev.YtddknjmlhbeabaaGreatDoor Go.ChangeShapes Go.WideShapes Go.ChangeAt Go.RowKit
set_option maxRecDepth 100000
set_option linter.unusedVariables false
theorem own : ownKnob Tryz.prog.godebug = none := by kernel_rfl
theorem mixed : Tryz.prog.follows .mixedOrders = true := by kernel_rfl
theorem run_neg : purQ (.oth (.iv .i64 9223372036854775808 18446744073709551615)) (.oth .bl) (.oth .bl) = true := by kernel_rfl
theorem run_hi : purQ (.oth (.iv .i64 16 9223372036854775807)) (.oth .bl) (.oth .bl) = true := by kernel_rfl
theorem walk {gl : GlF} (hT : HT gl) (a0 : Int) (w0 : (Lit.int .i64 a0).wf = true) (a1 : Bool) (a2 : Bool) (w : World) (hgl : GlAt (rhoS gl) w) : Calls Tryz.prog 4 #[.int .i64 a0, .bool a1, .bool a2] w fun e w' => e = .returned (.bool true) ∧ Below w.heap.size w w' := by
  have hb0 := wf_i64 w0
  by_cases h0 : a0 < 0
  · exact law2_call oneS mixed (tab_ok hT) Tryz.func4 (by kernel_rfl) (by kernel_rfl) run_neg (rels_cons.2 ⟨_, _, rfl, rel_iv_neg h0 hb0.1, rels_cons.2 ⟨_, _, rfl, rel_bl a1, rels_cons.2 ⟨_, _, rfl, rel_bl a2, rels_nil.2 rfl⟩⟩⟩) w hgl
  by_cases h1 : 16 ≤ a0
  · exact law2_call oneS mixed (tab_ok hT) Tryz.func4 (by kernel_rfl) (by kernel_rfl) run_hi (rels_cons.2 ⟨_, _, rfl, rel_iv_hi h1 hb0.2, rels_cons.2 ⟨_, _, rfl, rel_bl a1, rels_cons.2 ⟨_, _, rfl, rel_bl a2, rels_nil.2 rfl⟩⟩⟩) w hgl
  obtain ⟨n, rfl⟩ : ∃ n : Nat, a0 = n := ⟨a0.toNat, by omega⟩
  have key : purQ (.int .i64 n) (.bool a1) (.bool a2) = true := by
    by_cases c0 : n = 0
    · subst c0
      cases a1 <;> cases a2
      · exact y0_false_false
      · exact y0_false_true
      · exact y0_true_false
      · exact y0_true_true
    by_cases c1 : n = 1
    · subst c1
      cases a1 <;> cases a2
      · exact y1_false_false
      · exact y1_false_true
      · exact y1_true_false
      · exact y1_true_true
    by_cases c2 : n = 2
    · subst c2
      cases a1 <;> cases a2
      · exact y2_false_false
      · exact y2_false_true
      · exact y2_true_false
      · exact y2_true_true
    by_cases c3 : n = 3
    · subst c3
      cases a1 <;> cases a2
      · exact y3_false_false
      · exact y3_false_true
      · exact y3_true_false
      · exact y3_true_true
    by_cases c4 : n = 4
    · subst c4
      cases a1 <;> cases a2
      · exact y4_false_false
      · exact y4_false_true
      · exact y4_true_false
      · exact y4_true_true
    by_cases c5 : n = 5
    · subst c5
      cases a1 <;> cases a2
      · exact y5_false_false
      · exact y5_false_true
      · exact y5_true_false
      · exact y5_true_true
    by_cases c6 : n = 6
    · subst c6
      cases a1 <;> cases a2
      · exact y6_false_false
      · exact y6_false_true
      · exact y6_true_false
      · exact y6_true_true
    by_cases c7 : n = 7
    · subst c7
      cases a1 <;> cases a2
      · exact y7_false_false
      · exact y7_false_true
      · exact y7_true_false
      · exact y7_true_true
    by_cases c8 : n = 8
    · subst c8
      cases a1 <;> cases a2
      · exact y8_false_false
      · exact y8_false_true
      · exact y8_true_false
      · exact y8_true_true
    by_cases c9 : n = 9
    · subst c9
      cases a1 <;> cases a2
      · exact y9_false_false
      · exact y9_false_true
      · exact y9_true_false
      · exact y9_true_true
    by_cases c10 : n = 10
    · subst c10
      cases a1 <;> cases a2
      · exact y10_false_false
      · exact y10_false_true
      · exact y10_true_false
      · exact y10_true_true
    by_cases c11 : n = 11
    · subst c11
      cases a1 <;> cases a2
      · exact y11_false_false
      · exact y11_false_true
      · exact y11_true_false
      · exact y11_true_true
    by_cases c12 : n = 12
    · subst c12
      cases a1 <;> cases a2
      · exact y12_false_false
      · exact y12_false_true
      · exact y12_true_false
      · exact y12_true_true
    by_cases c13 : n = 13
    · subst c13
      cases a1 <;> cases a2
      · exact y13_false_false
      · exact y13_false_true
      · exact y13_true_false
      · exact y13_true_true
    by_cases c14 : n = 14
    · subst c14
      cases a1 <;> cases a2
      · exact y14_false_false
      · exact y14_false_true
      · exact y14_true_false
      · exact y14_true_true
    by_cases c15 : n = 15
    · subst c15
      cases a1 <;> cases a2
      · exact y15_false_false
      · exact y15_false_true
      · exact y15_true_false
      · exact y15_true_true
    exact absurd h1 (by omega)
  exact law2_call oneS mixed (tab_ok hT) Tryz.func4 (by kernel_rfl) (by kernel_rfl) key (rels_cons.2 ⟨_, _, rfl, rel_i64 (by omega), rels_cons.2 ⟨_, _, rfl, rel_boolv _, rels_cons.2 ⟨_, _, rfl, rel_boolv _, rels_nil.2 rfl⟩⟩⟩) w hgl
theorem gTab : Tryz.prog.globalNamed "internal/strconv.uint64pow10" = some 0 := by kernel_rfl
theorem gType : (Tryz.prog.globals[0]?).map (·.type) = some 328 := by kernel_rfl
theorem cellsA : Tryz.prog.cellsOf 328 = 20 := by kernel_rfl
theorem cellsE : Tryz.prog.cellsOf 32 = 1 := by kernel_rfl
theorem tabData_eq : (Rows.laid_internal_strconv_uint64pow10 : DataW Unit) = Lib.tabData .u64 Lib.pow10Tab := by kernel_rfl
theorem table {W : World} (h : laidMetH Tryz.prog Rows.storePurgeRow.laid W) : Lib.TabIs Tryz.prog W "internal/strconv.uint64pow10" .u64 Lib.pow10Tab :=
  tabIs_of_mem (l := Rows.storePurgeRow.laid) gTab gType Tryz.underlying328 Tryz.underlying32 cellsE cellsA (by rw [← tabData_eq]; exact .tail _ (.tail _ (.head _))) h
theorem contract (H : Type) (enc : TypeId × Value → H) (W : World) (base : Nat) (args : Array Value) (ds gs : List (DataW H)) (before : List MemPlace)
    (hval : ∀ (j : Nat) t v, Tryz.f4.params[j]? = some t → args[j]? = some v → Value.okWide Tryz.prog W .any base t v)
    (hW : DataW.Whole enc Tryz.prog Tryz.f4.params.toList Rows.storePurgeSpec.vars false W args.toList ds gs before) (hL : laidMetH Tryz.prog Rows.storePurgeRow.laid W) :
    Calls Tryz.prog 4 args W fun e W' => ∃ v, e = .returned v ∧ Rows.storePurgeSpec.post enc Tryz.prog Tryz.f4 false true false false W args v W' := by
  have hW' := hW
  obtain ⟨p, q, hA0, hV, rfl, hfz, hnd⟩ := hW
  have hA : DataW.TrodAll enc Tryz.prog W 0 (fun _ => true) true Tryz.f4.params.toList args.toList ds p := hA0
  rw [Tryz.params4] at hA hval
  obtain ⟨v0, vs0, d0, ds0, p0, q0, hargs, rfl, rfl, h0, r0⟩ := trodAll_cons hA
  obtain ⟨v1, vs1, d1, ds1, p1, q1, rfl, rfl, rfl, h1, r1⟩ := trodAll_cons r0
  obtain ⟨v2, vs2, d2, ds2, p2, q2, rfl, rfl, rfl, h2, r2⟩ := trodAll_cons r1
  obtain ⟨rfl, rfl, rfl⟩ := trodAll_nil r2
  obtain rfl : args = #[v0, v1, v2] := by cases args; simp_all
  obtain ⟨rfl, rfl⟩ := trodVars_none hV
  obtain ⟨a0, rfl, rfl, rfl, w0⟩ := open_int Tryz.underlying3 (hval 0 3 v0 rfl rfl) h0
  obtain ⟨a1, rfl, rfl, rfl⟩ := open_bool Tryz.underlying4 (hval 1 4 v1 rfl rfl) h1
  obtain ⟨a2, rfl, rfl, rfl⟩ := open_bool Tryz.underlying4 (hval 2 4 v2 rfl rfl) h2
  clear hA0
  simp only [List.append_nil] at hW'
  refine (walk (TabG.of (l := [0]) gTab (by simp) (table hL)) a0 w0 a1 a2 W glOf_at).mono fun e W' ⟨he, hg⟩ => ?_
  subst he
  exact ⟨_, rfl, post_of_fresh (pa := []) (pv := []) hW' (fun _ _ _ => (trodAll_cons_mk (shut_bool Tryz.underlying4 _) trodAll_mk0)) (fun sp _ => (trodAll_cons_mk (shut_int Tryz.underlying3 w0) (trodAll_cons_mk (shut_bool Tryz.underlying4 _) (trodAll_cons_mk (shut_bool Tryz.underlying4 _) trodAll_mk0)))) (fun _ _ => rfl) rfl hg (ok_one (by kernel_rfl) rfl (okWide_bool_mk Tryz.underlying4 _))⟩
noncomputable def laidWorld (os : Os) : World :=
  { World.holding Tryz.prog os ⟨#[], #[], []⟩ with heap := ((((World.holding Tryz.prog os ⟨#[], #[], []⟩).heap.modify 1 fun
      | .cells _ t frozen => .cells #[.int .u8 0, .int .u8 1, .int .u8 28, .int .u8 2, .int .u8 29, .int .u8 14, .int .u8 24, .int .u8 3, .int .u8 30, .int .u8 22, .int .u8 20, .int .u8 15, .int .u8 25, .int .u8 17, .int .u8 4, .int .u8 8, .int .u8 31, .int .u8 27, .int .u8 13, .int .u8 23, .int .u8 21, .int .u8 19, .int .u8 16, .int .u8 7, .int .u8 26, .int .u8 12, .int .u8 18, .int .u8 6, .int .u8 11, .int .u8 5, .int .u8 10, .int .u8 9] t frozen
      | o => o).modify 2 fun
      | .cells _ t frozen => .cells #[.int .u8 0, .int .u8 1, .int .u8 56, .int .u8 2, .int .u8 57, .int .u8 49, .int .u8 28, .int .u8 3, .int .u8 61, .int .u8 58, .int .u8 42, .int .u8 50, .int .u8 38, .int .u8 29, .int .u8 17, .int .u8 4, .int .u8 62, .int .u8 47, .int .u8 59, .int .u8 36, .int .u8 45, .int .u8 43, .int .u8 51, .int .u8 22, .int .u8 53, .int .u8 39, .int .u8 33, .int .u8 30, .int .u8 24, .int .u8 18, .int .u8 12, .int .u8 5, .int .u8 63, .int .u8 55, .int .u8 48, .int .u8 27, .int .u8 60, .int .u8 41, .int .u8 37, .int .u8 16, .int .u8 46, .int .u8 35, .int .u8 44, .int .u8 21, .int .u8 52, .int .u8 32, .int .u8 23, .int .u8 11, .int .u8 54, .int .u8 26, .int .u8 40, .int .u8 15, .int .u8 34, .int .u8 20, .int .u8 31, .int .u8 10, .int .u8 25, .int .u8 14, .int .u8 19, .int .u8 9, .int .u8 13, .int .u8 8, .int .u8 7, .int .u8 6] t frozen
      | o => o).modify 0 fun
      | .cells _ t frozen => .cells #[.int .u64 1, .int .u64 10, .int .u64 100, .int .u64 1000, .int .u64 10000, .int .u64 100000, .int .u64 1000000, .int .u64 10000000, .int .u64 100000000, .int .u64 1000000000, .int .u64 10000000000, .int .u64 100000000000, .int .u64 1000000000000, .int .u64 10000000000000, .int .u64 100000000000000, .int .u64 1000000000000000, .int .u64 10000000000000000, .int .u64 100000000000000000, .int .u64 1000000000000000000, .int .u64 10000000000000000000] t frozen
      | o => o) }
theorem laid_met (os : Os) : laidMet Tryz.prog Rows.storePurgeRow.laid ((laidWorld os).forCall (fun _ _ => 0) ⟨#[], #[.int .i64 0, .bool false, .bool false], []⟩).memory :=
  laidMet_of_run' 8 (by kernel_rfl) (by kernel_rfl)
theorem reads (os : Os) {H : Type} (enc : TypeId × Value → H) : ∃ places, DataW.whole enc Tryz.prog ((laidWorld os).forCall (fun _ _ => 0) ⟨#[], #[.int .i64 0, .bool false, .bool false], []⟩).memory Tryz.f4.params.toList Rows.storePurgeSpec.vars false (#[.int .i64 0, .bool false, .bool false] : Array Value).toList 8 = some ([.lit (.int .i64 0), .lit (.bool false), .lit (.bool false)], [], places) :=
  ⟨[], by kernel_rfl⟩
theorem lifted (os : Os) (started : os.Started) (H : Type) (enc : TypeId × Value → H) (F : Stop.Interp) :
    ReturnsInHanded {} Tryz.checked os 4 .any ((OpenSpec.ofChange Rows.storePurgeSpec).preRow enc Tryz.prog Tryz.f4 Rows.storePurgeRow.domain false Rows.storePurgeRow.laid) (((OpenSpec.ofChange Rows.storePurgeSpec).at F).post enc Tryz.prog Tryz.f4 false true false false) := by
  obtain ⟨places, hx⟩ := reads os enc
  refine returnsInHanded_of_row (C := Tryz.checked) (s := OpenSpec.ofChange Rows.storePurgeSpec) own started (by kernel_rfl) Tryz.func4
    (witness_row_at (enc := enc) (C := Tryz.checked) false (laidWorld os) #[.int .i64 0, .bool false, .bool false] rfl (by kernel_rfl) (by kernel_rfl) (by kernel_rfl)
      (OpenSpec.preRow_of_cond 8 hx (by kernel_rfl) (fun k hk => by cases hk) (by kernel_rfl) (laid_met os))) ?_
  intro W base args ds gs before hval hW _ _ _ hL hsh _
  exact contract H enc W base args ds gs before hval hW hL
theorem said : Rows.StorePurgeSaid :=
  OpenClaim.holds_of_cond 4 Tryz.f4 rfl rfl rfl rfl rfl rfl rfl ⟨rfl, rfl, rfl, rfl, rfl⟩ rfl rfl rfl rfl rfl (by kernel_rfl) Tryz.func4 closed
    (of_decide_eq_true (by kernel_rfl)) (by unfold Func.isWrapper; first | (rw [if_pos (by decide +kernel)]; kernel_rfl) | (rw [if_neg (by decide +kernel)]; exact ⟨rfl, rfl⟩))
    (fun os started H enc _ F => by rw [OpenClaim.pre_eq_preRow]; exact lifted os started H enc F)
theorem plain (f : FuncId) (fn : Func) (hf : Tryz.pinned.checked.prog.funcNamed "stillroom/stillroomlaw14.StorePurge" = some f) (hfn : Tryz.pinned.checked.prog.funcs[f]? = some fn) :
    true = Tryz.pinned.checked.prog.looks [] ∧ ∀ (j : Nat) t, fn.params[j]? = some t → Tryz.pinned.checked.prog.wantsStandIn t = false := by
  obtain rfl : f = 4 := Option.some.inj ((show Tryz.prog.funcNamed "stillroom/stillroomlaw14.StorePurge" = some 4 by kernel_rfl).symm.trans hf) |>.symm
  obtain rfl : fn = Tryz.f4 := (Option.some.inj (Tryz.func4.symm.trans hfn)).symm
  refine ⟨by kernel_rfl, fun j t ht => ?_⟩
  rw [Tryz.params4] at ht
  rcases j with _ | _ | _ | j
  · obtain rfl := (Option.some.inj ht : 3 = t)
    exact (show Tryz.pinned.checked.prog.wantsStandIn 3 = false by kernel_rfl)
  · obtain rfl := (Option.some.inj ht : 4 = t)
    exact (show Tryz.pinned.checked.prog.wantsStandIn 4 = false by kernel_rfl)
  · obtain rfl := (Option.some.inj ht : 4 = t)
    exact (show Tryz.pinned.checked.prog.wantsStandIn 4 = false by kernel_rfl)
  · simp at ht
theorem g0 : ((Tryz.prog.funcs.toList.take 140).all fun fn => !fn.goes) = true := by kernel_rfl
theorem g1 : (((Tryz.prog.funcs.toList.drop 140).take 140).all fun fn => !fn.goes) = true := by kernel_rfl
theorem g2 : (((Tryz.prog.funcs.toList.drop 280)).all fun fn => !fn.goes) = true := by kernel_rfl
theorem goes : false = Rows.storePurgeRow.goesBy Tryz.pinned.checked.prog :=
  (goes_no (P := Tryz.pinned.checked.prog) (any_no 140 g0 (any_no 140 g1 ((by rw [List.drop_drop]; exact g2)))) _).symm
/-- ████ THE CARD ████ -/
theorem proved : Rows.StorePurgeCardSaid :=
  Claim7.holds_tied_plain_at .later [] _ _ _ _ said (fun _ h => by cases h) (by kernel_rfl) (fun _ h => by cases h) storePurge_row_tie rfl ⟨rfl, rfl⟩ (by kernel_rfl) rfl plain goes
#print axioms proved
end Go.Proofs.YtddknjmlhbeabaaGreatDoor.storePurge
