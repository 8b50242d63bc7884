/- Proved: stillroomtop.TopFull returns true, as its tied card says it. Conditions: the three tables that the row lists hold what the program lays, which the card ties to the program's text; none else. -/
import Derived.Test.YtnacbbemgocmcaaGreatDoorCards
import Derived.Test.YtnacbbemgocmcaaGreatDoorTie
import Derived.WalkKit
import Derived.ProofKit
import Derived.OpenShut
import Derived.Deep.DeepHandedRow
import Derived.KernelRfl
import Derived.Test.YtnacbbemgocmcaaGreatDoorQT
import Derived.Test.YtnacbbemgocmcaaGreatDoorQY0
import Derived.Test.YtnacbbemgocmcaaGreatDoorQY1
import Derived.Test.YtnacbbemgocmcaaGreatDoorQY2
import Derived.Test.YtnacbbemgocmcaaGreatDoorQY3
import Derived.Test.YtnacbbemgocmcaaGreatDoorTopFullC
namespace Go.Proofs.YtnacbbemgocmcaaGreatDoor.topFull
open Go.Ev Go.Ev.YtnacbbemgocmcaaGreatDoor Go.ChangeShapes Go.WideShapes Go.ChangeAt Go.RowKit
set_option maxRecDepth 100000
set_option linter.unusedVariables false
theorem own:ownKnob Tryz.prog.godebug=none := by kernel_rfl
theorem mixed:Tryz.prog.follows .mixedOrders=true := by kernel_rfl
theorem walk {gl:CJ} (hT:HT gl) (a0:Int) (w0:(Lit.int .i64 a0).wf=true) (w:World) (hgl:VC (rhoS gl) w):Calls Tryz.prog 4 #[.int .i64 a0] w fun e w' => e = .returned (.bool true)∧Below w.heap.size w w' := by
  have hb0 := WH w0
  have hj:a0.natAbs % 2000<2000 := Nat.mod_lt _ (by decide)
  by_cases e0:a0.natAbs % 2000≤192
  · exact DK oneS mixed (tab_ok hT) Tryz.func4 (by kernel_rfl) (by kernel_rfl) run_0 (Au.2 ⟨_, _, rfl, H3 (m := 2000) (lo := 0) (hi := 192) (by decide) (by decide) hb0.1 hb0.2 (by omega) e0, AH.2 rfl⟩) w hgl
  by_cases e1:a0.natAbs % 2000≤385
  · exact DK oneS mixed (tab_ok hT) Tryz.func4 (by kernel_rfl) (by kernel_rfl) run_1 (Au.2 ⟨_, _, rfl, H3 (m := 2000) (lo := 193) (hi := 385) (by decide) (by decide) hb0.1 hb0.2 (by omega) e1, AH.2 rfl⟩) w hgl
  by_cases e2:a0.natAbs % 2000≤578
  · exact DK oneS mixed (tab_ok hT) Tryz.func4 (by kernel_rfl) (by kernel_rfl) run_2 (Au.2 ⟨_, _, rfl, H3 (m := 2000) (lo := 386) (hi := 578) (by decide) (by decide) hb0.1 hb0.2 (by omega) e2, AH.2 rfl⟩) w hgl
  by_cases e3:a0.natAbs % 2000≤771
  · exact DK oneS mixed (tab_ok hT) Tryz.func4 (by kernel_rfl) (by kernel_rfl) run_3 (Au.2 ⟨_, _, rfl, H3 (m := 2000) (lo := 579) (hi := 771) (by decide) (by decide) hb0.1 hb0.2 (by omega) e3, AH.2 rfl⟩) w hgl
  by_cases e4:a0.natAbs % 2000≤964
  · exact DK oneS mixed (tab_ok hT) Tryz.func4 (by kernel_rfl) (by kernel_rfl) run_4 (Au.2 ⟨_, _, rfl, H3 (m := 2000) (lo := 772) (hi := 964) (by decide) (by decide) hb0.1 hb0.2 (by omega) e4, AH.2 rfl⟩) w hgl
  by_cases e5:a0.natAbs % 2000≤1157
  · exact DK oneS mixed (tab_ok hT) Tryz.func4 (by kernel_rfl) (by kernel_rfl) run_5 (Au.2 ⟨_, _, rfl, H3 (m := 2000) (lo := 965) (hi := 1157) (by decide) (by decide) hb0.1 hb0.2 (by omega) e5, AH.2 rfl⟩) w hgl
  by_cases e6:a0.natAbs % 2000≤1350
  · exact DK oneS mixed (tab_ok hT) Tryz.func4 (by kernel_rfl) (by kernel_rfl) run_6 (Au.2 ⟨_, _, rfl, H3 (m := 2000) (lo := 1158) (hi := 1350) (by decide) (by decide) hb0.1 hb0.2 (by omega) e6, AH.2 rfl⟩) w hgl
  by_cases e7:a0.natAbs % 2000≤1999
  · exact DK oneS mixed (tab_ok hT) Tryz.func4 (by kernel_rfl) (by kernel_rfl) run_7 (Au.2 ⟨_, _, rfl, H3 (m := 2000) (lo := 1351) (hi := 1999) (by decide) (by decide) hb0.1 hb0.2 (by omega) e7, AH.2 rfl⟩) w hgl
  exact absurd hj (by omega)
theorem gTab:Tryz.prog.globalNamed "internal/strconv.uint64pow10" = some 0 := by kernel_rfl
theorem gType:(Tryz.prog.globals[0]?).map (·.type)=some 470 := by kernel_rfl
theorem cellsA:Tryz.prog.cellsOf 470=20 := by kernel_rfl
theorem cellsE:Tryz.prog.cellsOf 146=1 := by kernel_rfl
theorem tabData_eq:(Rows.laid_internal_strconv_uint64pow10:DataW Unit)=Lib.tabData .u64 Lib.pow10Tab := by kernel_rfl
theorem table {W:World} (h:laidMetH Tryz.prog Rows.topFullRow.laid W):Lib.TabIs Tryz.prog W "internal/strconv.uint64pow10" .u64 Lib.pow10Tab :=
  Ou (l := Rows.topFullRow.laid) gTab gType Tryz.underlying470 Tryz.underlying146 cellsE cellsA (by rw [←tabData_eq]; exact .tail _ (.tail _ (.head _))) h
theorem contract (H:Type) (enc:TypeId×Value->H) (W:World) (base:Nat) (args:Array Value) (ds gs:List (DataW H)) (before:List MemPlace)
    (hval:∀ (j:Nat) t v, Tryz.f4.params[j]? = some t->args[j]? = some v->Value.okWide Tryz.prog W .any base t v)
    (hW:DataW.Whole enc Tryz.prog Tryz.f4.params.toList Rows.topFullSpec.vars false W args.toList ds gs before) (hL:laidMetH Tryz.prog Rows.topFullRow.laid W) :
    Calls Tryz.prog 4 args W fun e W' => ∃ v, e = .returned v∧Rows.topFullSpec.post enc Tryz.prog Tryz.f4 false true false false W args v W' := by
  have hW' := hW
  obtain ⟨p, q, hA0, hV, rfl, hfz, hnd⟩ := hW
  have hA:DataW.TrodAll enc Tryz.prog W 0 (fun _ => true) true Tryz.f4.params.toList args.toList ds p := hA0
  rw [Tryz.params4] at hA hval
  obtain ⟨v0, vs0, d0, ds0, p0, q0, hargs, rfl, rfl, h0, r0⟩ := trodAll_cons hA
  obtain ⟨rfl, rfl, rfl⟩ := trodAll_nil r0
  obtain rfl:args = #[v0] := by cases args; simp_all
  obtain ⟨rfl, rfl⟩ := trodVars_none hV
  obtain ⟨a0, rfl, rfl, rfl, w0⟩ := open_int Tryz.underlying3 (hval 0 3 v0 rfl rfl) h0
  clear hA0
  simp only [List.append_nil] at hW'
  refine (walk (QA.of (l := [0]) gTab (by simp) (table hL)) a0 w0 W VU).mono fun e W' ⟨he, hg⟩ => ?_
  subst he
  exact ⟨_, rfl, M2 (pa := []) (pv := []) hW' (fun _ _ _ => (trodAll_cons_mk (shut_bool Tryz.underlying4 _) trodAll_mk0)) (fun sp _ => (trodAll_cons_mk (shut_int Tryz.underlying3 w0) trodAll_mk0)) (fun _ _ => rfl) rfl hg (ok_one (by kernel_rfl) rfl (okWide_bool_mk Tryz.underlying4 _))⟩
noncomputable def laidWorld (os:Os):World :=
  { World.holding Tryz.prog os ⟨#[], #[], []⟩ with heap := ((((((World.holding Tryz.prog os ⟨#[], #[], []⟩).heap.modify 2 fun
      | .cells _ t frozen => .cells #[.int .u8 0, .int .u8 1, .int .u8 28, .int .u8 2, .int .u8 29, .int .u8 14, .int .u8 24, .int .u8 3, .int .u8 30, .int .u8 22, .int .u8 20, .int .u8 15, .int .u8 25, .int .u8 17, .int .u8 4, .int .u8 8, .int .u8 31, .int .u8 27, .int .u8 13, .int .u8 23, .int .u8 21, .int .u8 19, .int .u8 16, .int .u8 7, .int .u8 26, .int .u8 12, .int .u8 18, .int .u8 6, .int .u8 11, .int .u8 5, .int .u8 10, .int .u8 9] t frozen
      | o => o).modify 3 fun
      | .cells _ t frozen => .cells #[.int .u8 0, .int .u8 1, .int .u8 56, .int .u8 2, .int .u8 57, .int .u8 49, .int .u8 28, .int .u8 3, .int .u8 61, .int .u8 58, .int .u8 42, .int .u8 50, .int .u8 38, .int .u8 29, .int .u8 17, .int .u8 4, .int .u8 62, .int .u8 47, .int .u8 59, .int .u8 36, .int .u8 45, .int .u8 43, .int .u8 51, .int .u8 22, .int .u8 53, .int .u8 39, .int .u8 33, .int .u8 30, .int .u8 24, .int .u8 18, .int .u8 12, .int .u8 5, .int .u8 63, .int .u8 55, .int .u8 48, .int .u8 27, .int .u8 60, .int .u8 41, .int .u8 37, .int .u8 16, .int .u8 46, .int .u8 35, .int .u8 44, .int .u8 21, .int .u8 52, .int .u8 32, .int .u8 23, .int .u8 11, .int .u8 54, .int .u8 26, .int .u8 40, .int .u8 15, .int .u8 34, .int .u8 20, .int .u8 31, .int .u8 10, .int .u8 25, .int .u8 14, .int .u8 19, .int .u8 9, .int .u8 13, .int .u8 8, .int .u8 7, .int .u8 6] t frozen
      | o => o).modify 0 fun
      | .cells _ t frozen => .cells #[.int .u64 1, .int .u64 10, .int .u64 100, .int .u64 1000, .int .u64 10000, .int .u64 100000, .int .u64 1000000, .int .u64 10000000, .int .u64 100000000, .int .u64 1000000000, .int .u64 10000000000, .int .u64 100000000000, .int .u64 1000000000000, .int .u64 10000000000000, .int .u64 100000000000000, .int .u64 1000000000000000, .int .u64 10000000000000000, .int .u64 100000000000000000, .int .u64 1000000000000000000, .int .u64 10000000000000000000] t frozen
      | o => o).modify 5 fun
      | .cells _ t frozen => .cells #[.int .u8 128, .int .u8 191, .int .u8 160, .int .u8 191, .int .u8 128, .int .u8 159, .int .u8 144, .int .u8 191, .int .u8 128, .int .u8 143, .int .u8 0, .int .u8 0, .int .u8 0, .int .u8 0, .int .u8 0, .int .u8 0, .int .u8 0, .int .u8 0, .int .u8 0, .int .u8 0, .int .u8 0, .int .u8 0, .int .u8 0, .int .u8 0, .int .u8 0, .int .u8 0, .int .u8 0, .int .u8 0, .int .u8 0, .int .u8 0, .int .u8 0, .int .u8 0] t frozen
      | o => o).modify 4 fun
      | .cells _ t frozen => .cells (Pinned.utf8FirstZ.map fun (n:Nat) => Value.int .u8 (n:Int)).toArray t frozen
      | o => o) }
theorem laid_met (os:Os):laidMet Tryz.prog Rows.topFullRow.laid ((laidWorld os).forCall (fun _ _ => 0) ⟨#[], #[.int .i64 0], []⟩).memory :=
  laidMet_of_run' 8 (by kernel_rfl) (by kernel_rfl)
theorem reads (os:Os) {H:Type} (enc:TypeId×Value->H):∃ places, DataW.whole enc Tryz.prog ((laidWorld os).forCall (fun _ _ => 0) ⟨#[], #[.int .i64 0], []⟩).memory Tryz.f4.params.toList Rows.topFullSpec.vars false (#[.int .i64 0]:Array Value).toList 8=some ([.lit (.int .i64 0)], [], places) :=
  ⟨[], by kernel_rfl⟩
theorem lifted (os:Os) (started:os.Started) (H:Type) (enc:TypeId×Value->H) (F:Stop.Interp) :
    ReturnsInHanded {} Tryz.checked os 4 .any ((OpenSpec.ofChange Rows.topFullSpec).preRow enc Tryz.prog Tryz.f4 Rows.topFullRow.domain false Rows.topFullRow.laid) (((OpenSpec.ofChange Rows.topFullSpec).at F).post enc Tryz.prog Tryz.f4 false true false false) := by
  obtain ⟨places, hx⟩ := reads os enc
  refine returnsInHanded_of_row (C := Tryz.checked) (s := OpenSpec.ofChange Rows.topFullSpec) own started (by kernel_rfl) Tryz.func4
    (witness_row_at (enc := enc) (C := Tryz.checked) false (laidWorld os) #[.int .i64 0] rfl (by kernel_rfl) (by kernel_rfl) (by kernel_rfl)
      (OpenSpec.preRow_of_cond 8 hx (by kernel_rfl) (fun k hk => by cases hk) (by kernel_rfl) (laid_met os))) ?_
  intro W base args ds gs before hval hW _ _ _ hL hsh _
  exact contract H enc W base args ds gs before hval hW hL
theorem said:Rows.TopFullSaid :=
  OpenClaim.holds_of_cond 4 Tryz.f4 rfl rfl rfl rfl rfl rfl rfl ⟨rfl, rfl, rfl, rfl, rfl⟩ rfl rfl rfl rfl rfl (by kernel_rfl) Tryz.func4 closed
    (of_decide_eq_true (by kernel_rfl)) (by unfold Func.isWrapper; first | (rw [if_pos (by decide +kernel)]; kernel_rfl) | (rw [if_neg (by decide +kernel)]; exact ⟨rfl, rfl⟩))
    (fun os started H enc _ F => by rw [OpenClaim.pre_eq_preRow]; exact lifted os started H enc F)
theorem plain (f:FuncId) (fn:Func) (hf:Tryz.pinned.checked.prog.funcNamed "stillroom/stillroomtop.TopFull" = some f) (hfn:Tryz.pinned.checked.prog.funcs[f]? = some fn) :
    true=Tryz.pinned.checked.prog.looks [] ∧ ∀ (j:Nat) t, fn.params[j]? = some t->Tryz.pinned.checked.prog.wantsStandIn t=false := by
  obtain rfl:f=4 := Option.some.inj ((show Tryz.prog.funcNamed "stillroom/stillroomtop.TopFull" = some 4 by kernel_rfl).symm.trans hf) |>.symm
  obtain rfl:fn=Tryz.f4 := (Option.some.inj (Tryz.func4.symm.trans hfn)).symm
  refine ⟨by kernel_rfl, fun j t ht => ?_⟩
  rw [Tryz.params4] at ht
  rcases j with _ | j
  · obtain rfl := (Option.some.inj ht:3=t)
    exact (show Tryz.pinned.checked.prog.wantsStandIn 3=false by kernel_rfl)
  · simp at ht
theorem g0:((Tryz.prog.funcs.toList.take 140).all fun fn => !fn.goes)=true := by kernel_rfl
theorem g1:(((Tryz.prog.funcs.toList.drop 140).take 140).all fun fn => !fn.goes)=true := by kernel_rfl
theorem g2:(((Tryz.prog.funcs.toList.drop 280).take 140).all fun fn => !fn.goes)=true := by kernel_rfl
theorem g3:(((Tryz.prog.funcs.toList.drop 420).take 140).all fun fn => !fn.goes)=true := by kernel_rfl
theorem g4:(((Tryz.prog.funcs.toList.drop 560)).all fun fn => !fn.goes)=true := by kernel_rfl
theorem goes:false=Rows.topFullRow.goesBy Tryz.pinned.checked.prog :=
  (Vr (P := Tryz.pinned.checked.prog) (Oz 140 g0 (Oz 140 g1 (Oz 140 (by rw [List.drop_drop]; exact g2) (Oz 140 (by rw [List.drop_drop, List.drop_drop]; exact g3) ((by rw [List.drop_drop, List.drop_drop, List.drop_drop]; exact g4)))))) _).symm
/-- ████ THE CARD ████ -/
theorem proved:Rows.TopFullCardSaid :=
  Claim7.holds_tied_plain_at .later [] _ _ _ _ said (fun _ h => by cases h) (by kernel_rfl) (fun _ h => by cases h) topFull_row_tie rfl ⟨rfl, rfl⟩ (by kernel_rfl) rfl plain goes
#print axioms proved
end Go.Proofs.YtnacbbemgocmcaaGreatDoor.topFull
