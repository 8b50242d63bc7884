/- Proved: stillroomlaw25.FillLate returns true, as its tied card says it. Conditions: the three tables that the row lists hold what the program lays, which the card ties to the program's text; none else. -/
import Derived.Test.YtnelgnghdioapaaGreatDoorCards
import Derived.Test.YtnelgnghdioapaaGreatDoorTie
import Derived.WalkKit
import Derived.ProofKit
import Derived.OpenShut
import Derived.Deep.DeepHandedRow
import Derived.KernelRfl
import Derived.Test.YtnelgnghdioapaaGreatDoorLT
import Derived.Test.YtnelgnghdioapaaGreatDoorLV
import Derived.Test.YtnelgnghdioapaaGreatDoorLY
import Derived.Test.YtnelgnghdioapaaGreatDoorLY0
import Derived.Test.YtnelgnghdioapaaGreatDoorLY1
import Derived.Test.YtnelgnghdioapaaGreatDoorLY2
import Derived.Test.YtnelgnghdioapaaGreatDoorLY3
import Derived.Test.YtnelgnghdioapaaGreatDoorLY4
import Derived.Test.YtnelgnghdioapaaGreatDoorLY5
import Derived.Test.YtnelgnghdioapaaGreatDoorLY6
import Derived.Test.YtnelgnghdioapaaGreatDoorLY7
import Derived.Test.YtnelgnghdioapaaGreatDoorLY8
import Derived.Test.YtnelgnghdioapaaGreatDoorLY9
import Derived.Test.YtnelgnghdioapaaGreatDoorLY10
import Derived.Test.YtnelgnghdioapaaGreatDoorLY11
import Derived.Test.YtnelgnghdioapaaGreatDoorLY12
import Derived.Test.YtnelgnghdioapaaGreatDoorLY13
import Derived.Test.YtnelgnghdioapaaGreatDoorLY14
import Derived.Test.YtnelgnghdioapaaGreatDoorLY15
import Derived.Test.YtnelgnghdioapaaGreatDoorLY16
import Derived.Test.YtnelgnghdioapaaGreatDoorLY17
import Derived.Test.YtnelgnghdioapaaGreatDoorLY18
import Derived.Test.YtnelgnghdioapaaGreatDoorLY19
import Derived.Test.YtnelgnghdioapaaGreatDoorLY20
import Derived.Test.YtnelgnghdioapaaGreatDoorLY21
import Derived.Test.YtnelgnghdioapaaGreatDoorLY22
import Derived.Test.YtnelgnghdioapaaGreatDoorLY23
import Derived.Test.YtnelgnghdioapaaGreatDoorLY24
import Derived.Test.YtnelgnghdioapaaGreatDoorLY25
import Derived.Test.YtnelgnghdioapaaGreatDoorLY26
import Derived.Test.YtnelgnghdioapaaGreatDoorLY27
import Derived.Test.YtnelgnghdioapaaGreatDoorLY28
import Derived.Test.YtnelgnghdioapaaGreatDoorLY29
import Derived.Test.YtnelgnghdioapaaGreatDoorFillLateC
namespace Go.Proofs.YtnelgnghdioapaaGreatDoor.fillLate
open Go.Ev Go.Ev.YtnelgnghdioapaaGreatDoor Go.ChangeShapes Go.WideShapes Go.ChangeAt Go.RowKit
set_option maxRecDepth 100000
set_option linter.unusedVariables false
theorem own:ownKnob Tryz.prog.godebug=none := by kernel_rfl
theorem mixed:Tryz.prog.follows .mixedOrders=true := by kernel_rfl
theorem run_n_neg:latQ (.oth (.iv .i64 9223372036854775808 18446744073709551615)) (.oth (.iv .i64 0 18446744073709551615))=true := by kernel_rfl
theorem run_n_lo:latQ (.oth (.iv .i64 0 0)) (.oth (.iv .i64 0 18446744073709551615))=true := by kernel_rfl
theorem run_n_hi:latQ (.oth (.iv .i64 201 9223372036854775807)) (.oth (.iv .i64 0 18446744073709551615))=true := by kernel_rfl
theorem run_p_neg:latQ (.oth (.iv .i64 1 200)) (.oth (.iv .i64 9223372036854775808 18446744073709551615))=true := by kernel_rfl
theorem late_all (n p:Nat) (h1:1≤n) (h2:n<201) (h:p<n):LatOK n p := by
  by_cases c0:n<35
  · exact late0 n p (by omega) (by omega) h
  by_cases c1:n<50
  · exact late1 n p (by omega) (by omega) h
  by_cases c2:n<62
  · exact late2 n p (by omega) (by omega) h
  by_cases c3:n<72
  · exact late3 n p (by omega) (by omega) h
  by_cases c4:n<81
  · exact late4 n p (by omega) (by omega) h
  by_cases c5:n<89
  · exact late5 n p (by omega) (by omega) h
  by_cases c6:n<96
  · exact late6 n p (by omega) (by omega) h
  by_cases c7:n<103
  · exact late7 n p (by omega) (by omega) h
  by_cases c8:n<109
  · exact late8 n p (by omega) (by omega) h
  by_cases c9:n<115
  · exact late9 n p (by omega) (by omega) h
  by_cases c10:n<121
  · exact late10 n p (by omega) (by omega) h
  by_cases c11:n<126
  · exact late11 n p (by omega) (by omega) h
  by_cases c12:n<132
  · exact late12 n p (by omega) (by omega) h
  by_cases c13:n<137
  · exact late13 n p (by omega) (by omega) h
  by_cases c14:n<142
  · exact late14 n p (by omega) (by omega) h
  by_cases c15:n<146
  · exact late15 n p (by omega) (by omega) h
  by_cases c16:n<151
  · exact late16 n p (by omega) (by omega) h
  by_cases c17:n<155
  · exact late17 n p (by omega) (by omega) h
  by_cases c18:n<160
  · exact late18 n p (by omega) (by omega) h
  by_cases c19:n<164
  · exact late19 n p (by omega) (by omega) h
  by_cases c20:n<168
  · exact late20 n p (by omega) (by omega) h
  by_cases c21:n<172
  · exact late21 n p (by omega) (by omega) h
  by_cases c22:n<176
  · exact late22 n p (by omega) (by omega) h
  by_cases c23:n<180
  · exact late23 n p (by omega) (by omega) h
  by_cases c24:n<184
  · exact late24 n p (by omega) (by omega) h
  by_cases c25:n<187
  · exact late25 n p (by omega) (by omega) h
  by_cases c26:n<191
  · exact late26 n p (by omega) (by omega) h
  by_cases c27:n<195
  · exact late27 n p (by omega) (by omega) h
  by_cases c28:n<198
  · exact late28 n p (by omega) (by omega) h
  exact late29 n p (by omega) (by omega) h
theorem hi_all (n:Nat) (h1:1≤n) (h2:n<201):latQ (.int .i64 n) (.oth (.iv .i64 n 9223372036854775807))=true := by
  by_cases c0:n<35
  · exact hi0 n (by omega) (by omega)
  by_cases c1:n<50
  · exact hi1 n (by omega) (by omega)
  by_cases c2:n<62
  · exact hi2 n (by omega) (by omega)
  by_cases c3:n<72
  · exact hi3 n (by omega) (by omega)
  by_cases c4:n<81
  · exact hi4 n (by omega) (by omega)
  by_cases c5:n<89
  · exact hi5 n (by omega) (by omega)
  by_cases c6:n<96
  · exact hi6 n (by omega) (by omega)
  by_cases c7:n<103
  · exact hi7 n (by omega) (by omega)
  by_cases c8:n<109
  · exact hi8 n (by omega) (by omega)
  by_cases c9:n<115
  · exact hi9 n (by omega) (by omega)
  by_cases c10:n<121
  · exact hi10 n (by omega) (by omega)
  by_cases c11:n<126
  · exact hi11 n (by omega) (by omega)
  by_cases c12:n<132
  · exact hi12 n (by omega) (by omega)
  by_cases c13:n<137
  · exact hi13 n (by omega) (by omega)
  by_cases c14:n<142
  · exact hi14 n (by omega) (by omega)
  by_cases c15:n<146
  · exact hi15 n (by omega) (by omega)
  by_cases c16:n<151
  · exact hi16 n (by omega) (by omega)
  by_cases c17:n<155
  · exact hi17 n (by omega) (by omega)
  by_cases c18:n<160
  · exact hi18 n (by omega) (by omega)
  by_cases c19:n<164
  · exact hi19 n (by omega) (by omega)
  by_cases c20:n<168
  · exact hi20 n (by omega) (by omega)
  by_cases c21:n<172
  · exact hi21 n (by omega) (by omega)
  by_cases c22:n<176
  · exact hi22 n (by omega) (by omega)
  by_cases c23:n<180
  · exact hi23 n (by omega) (by omega)
  by_cases c24:n<184
  · exact hi24 n (by omega) (by omega)
  by_cases c25:n<187
  · exact hi25 n (by omega) (by omega)
  by_cases c26:n<191
  · exact hi26 n (by omega) (by omega)
  by_cases c27:n<195
  · exact hi27 n (by omega) (by omega)
  by_cases c28:n<198
  · exact hi28 n (by omega) (by omega)
  exact hi29 n (by omega) (by omega)
theorem walk {gl:EP} (hT:HT gl) (a0:Int) (w0:(Lit.int .i64 a0).wf=true) (a1:Int) (w1:(Lit.int .i64 a1).wf=true) (w:World) (hgl:Tk (rhoS gl) w):Calls Tryz.prog 3 #[.int .i64 a0, .int .i64 a1] w fun e w' => e = .returned (.bool true)∧Below w.heap.size w w' := by
  have hb0 := RF w0
  have hb1 := RF w1
  by_cases h0:a0<0
  · exact Ea canN3_ok oneS mixed (tab_ok hT) ec3 Tryz.func3 (by kernel_rfl) (by kernel_rfl) run_n_neg (Ar.2 ⟨_, _, rfl, GK h0 hb0.1, Ar.2 ⟨_, _, rfl, GI hb1.1 hb1.2, AD.2 rfl⟩⟩) w hgl
  by_cases h1:a0≤0
  · exact Ea canN3_ok oneS mixed (tab_ok hT) ec3 Tryz.func3 (by kernel_rfl) (by kernel_rfl) run_n_lo (Ar.2 ⟨_, _, rfl, GV (by omega) (by omega) (by decide), Ar.2 ⟨_, _, rfl, GI hb1.1 hb1.2, AD.2 rfl⟩⟩) w hgl
  by_cases h2:201≤a0
  · exact Ea canN3_ok oneS mixed (tab_ok hT) ec3 Tryz.func3 (by kernel_rfl) (by kernel_rfl) run_n_hi (Ar.2 ⟨_, _, rfl, I3 h2 hb0.2, Ar.2 ⟨_, _, rfl, GI hb1.1 hb1.2, AD.2 rfl⟩⟩) w hgl
  by_cases h3:a1<0
  · exact Ea canN3_ok oneS mixed (tab_ok hT) ec3 Tryz.func3 (by kernel_rfl) (by kernel_rfl) run_p_neg (Ar.2 ⟨_, _, rfl, GV (by omega) (by omega) (by decide), Ar.2 ⟨_, _, rfl, GK h3 hb1.1, AD.2 rfl⟩⟩) w hgl
  obtain ⟨n, rfl⟩:∃ n:Nat, a0=n := ⟨a0.toNat, by omega⟩
  by_cases h5:(n:Int)≤a1
  · exact Ea canN3_ok oneS mixed (tab_ok hT) ec3 Tryz.func3 (by kernel_rfl) (by kernel_rfl) (hi_all n (by omega) (by omega)) (Ar.2 ⟨_, _, rfl, PF (by omega), Ar.2 ⟨_, _, rfl, I3 h5 hb1.2, AD.2 rfl⟩⟩) w hgl
  obtain ⟨p, rfl⟩:∃ p:Nat, a1=p := ⟨a1.toNat, by omega⟩
  obtain ⟨lo, hi, q1, q2, q3, hq⟩ := late_all n p (by omega) (by omega) (by omega)
  exact Ea canN3_ok oneS mixed (tab_ok hT) ec3 Tryz.func3 (by kernel_rfl) (by kernel_rfl) hq (Ar.2 ⟨_, _, rfl, PF (by omega), Ar.2 ⟨_, _, rfl, GV (by omega) (by omega) q3, AD.2 rfl⟩⟩) w hgl
theorem gTab:Tryz.prog.globalNamed "internal/strconv.uint64pow10" = some 0 := by kernel_rfl
theorem gType:(Tryz.prog.globals[0]?).map (·.type)=some 435 := by kernel_rfl
theorem cellsA:Tryz.prog.cellsOf 435=20 := by kernel_rfl
theorem cellsE:Tryz.prog.cellsOf 83=1 := by kernel_rfl
theorem tabData_eq:(Rows.laid_internal_strconv_uint64pow10:DataW Unit)=Lib.tabData .u64 Lib.pow10Tab := by kernel_rfl
theorem table {W:World} (h:laidMetH Tryz.prog Rows.fillLateRow.laid W):Lib.TabIs Tryz.prog W "internal/strconv.uint64pow10" .u64 Lib.pow10Tab :=
  Mb (l := Rows.fillLateRow.laid) gTab gType Tryz.underlying435 Tryz.underlying83 cellsE cellsA (by rw [←tabData_eq]; exact .tail _ (.tail _ (.head _))) h
theorem contract (H:Type) (enc:TypeId×Value->H) (W:World) (base:Nat) (args:Array Value) (ds gs:List (DataW H)) (before:List MemPlace)
    (hval:∀ (j:Nat) t v, Tryz.f3.params[j]? = some t->args[j]? = some v->Value.okWide Tryz.prog W .any base t v)
    (hW:DataW.Whole enc Tryz.prog Tryz.f3.params.toList Rows.fillLateSpec.vars false W args.toList ds gs before) (hL:laidMetH Tryz.prog Rows.fillLateRow.laid W) :
    Calls Tryz.prog 3 args W fun e W' => ∃ v, e = .returned v∧Rows.fillLateSpec.post enc Tryz.prog Tryz.f3 false true false false W args v W' := by
  have hW' := hW
  obtain ⟨p, q, hA0, hV, rfl, hfz, hnd⟩ := hW
  have hA:DataW.TrodAll enc Tryz.prog W 0 (fun _ => true) true Tryz.f3.params.toList args.toList ds p := hA0
  rw [Tryz.params3] at hA hval
  obtain ⟨v0, ZG, d0, ds0, p0, q0, hargs, rfl, rfl, h0, r0⟩ := trodAll_cons hA
  obtain ⟨v1, ZI, d1, ds1, p1, q1, rfl, rfl, rfl, h1, r1⟩ := trodAll_cons r0
  obtain ⟨rfl, rfl, rfl⟩ := trodAll_nil r1
  obtain rfl:args = #[v0, v1] := by cases args; simp_all
  obtain ⟨rfl, rfl⟩ := trodVars_none hV
  obtain ⟨a0, rfl, rfl, rfl, w0⟩ := open_int Tryz.underlying3 (hval 0 3 v0 rfl rfl) h0
  obtain ⟨a1, rfl, rfl, rfl, w1⟩ := open_int Tryz.underlying3 (hval 1 3 v1 rfl rfl) h1
  clear hA0
  simp only [List.append_nil] at hW'
  refine (walk (OB.of (l := [0]) gTab (by simp) (table hL)) a0 w0 a1 w1 W Td).mono fun e W' ⟨he, hg⟩ => ?_
  subst he
  exact ⟨_, rfl, Kx (pa := []) (pv := []) hW' (fun _ _ _ => (trodAll_cons_mk (shut_bool Tryz.underlying4 _) trodAll_mk0)) (fun sp _ => (trodAll_cons_mk (shut_int Tryz.underlying3 w0) (trodAll_cons_mk (shut_int Tryz.underlying3 w1) trodAll_mk0))) (fun _ _ => rfl) rfl hg (ok_one (by kernel_rfl) rfl (okWide_bool_mk Tryz.underlying4 _))⟩
noncomputable def laidWorld (os:Os):World :=
  { World.holding Tryz.prog os ⟨#[], #[], []⟩ with heap := ((((World.holding Tryz.prog os ⟨#[], #[], []⟩).heap.modify 2 fun
      | .cells _ t frozen => .cells #[.int .u8 0, .int .u8 1, .int .u8 28, .int .u8 2, .int .u8 29, .int .u8 14, .int .u8 24, .int .u8 3, .int .u8 30, .int .u8 22, .int .u8 20, .int .u8 15, .int .u8 25, .int .u8 17, .int .u8 4, .int .u8 8, .int .u8 31, .int .u8 27, .int .u8 13, .int .u8 23, .int .u8 21, .int .u8 19, .int .u8 16, .int .u8 7, .int .u8 26, .int .u8 12, .int .u8 18, .int .u8 6, .int .u8 11, .int .u8 5, .int .u8 10, .int .u8 9] t frozen
      | o => o).modify 3 fun
      | .cells _ t frozen => .cells #[.int .u8 0, .int .u8 1, .int .u8 56, .int .u8 2, .int .u8 57, .int .u8 49, .int .u8 28, .int .u8 3, .int .u8 61, .int .u8 58, .int .u8 42, .int .u8 50, .int .u8 38, .int .u8 29, .int .u8 17, .int .u8 4, .int .u8 62, .int .u8 47, .int .u8 59, .int .u8 36, .int .u8 45, .int .u8 43, .int .u8 51, .int .u8 22, .int .u8 53, .int .u8 39, .int .u8 33, .int .u8 30, .int .u8 24, .int .u8 18, .int .u8 12, .int .u8 5, .int .u8 63, .int .u8 55, .int .u8 48, .int .u8 27, .int .u8 60, .int .u8 41, .int .u8 37, .int .u8 16, .int .u8 46, .int .u8 35, .int .u8 44, .int .u8 21, .int .u8 52, .int .u8 32, .int .u8 23, .int .u8 11, .int .u8 54, .int .u8 26, .int .u8 40, .int .u8 15, .int .u8 34, .int .u8 20, .int .u8 31, .int .u8 10, .int .u8 25, .int .u8 14, .int .u8 19, .int .u8 9, .int .u8 13, .int .u8 8, .int .u8 7, .int .u8 6] t frozen
      | o => o).modify 0 fun
      | .cells _ t frozen => .cells #[.int .u64 1, .int .u64 10, .int .u64 100, .int .u64 1000, .int .u64 10000, .int .u64 100000, .int .u64 1000000, .int .u64 10000000, .int .u64 100000000, .int .u64 1000000000, .int .u64 10000000000, .int .u64 100000000000, .int .u64 1000000000000, .int .u64 10000000000000, .int .u64 100000000000000, .int .u64 1000000000000000, .int .u64 10000000000000000, .int .u64 100000000000000000, .int .u64 1000000000000000000, .int .u64 10000000000000000000] t frozen
      | o => o) }
theorem laid_met (os:Os):laidMet Tryz.prog Rows.fillLateRow.laid ((laidWorld os).forCall (fun _ _ => 0) ⟨#[], #[.int .i64 0, .int .i64 0], []⟩).memory :=
  laidMet_of_run' 8 (by kernel_rfl) (by kernel_rfl)
theorem reads (os:Os) {H:Type} (enc:TypeId×Value->H):∃ places, DataW.whole enc Tryz.prog ((laidWorld os).forCall (fun _ _ => 0) ⟨#[], #[.int .i64 0, .int .i64 0], []⟩).memory Tryz.f3.params.toList Rows.fillLateSpec.vars false (#[.int .i64 0, .int .i64 0]:Array Value).toList 8=some ([.lit (.int .i64 0), .lit (.int .i64 0)], [], places) :=
  ⟨[], by kernel_rfl⟩
theorem lifted (os:Os) (started:os.Started) (H:Type) (enc:TypeId×Value->H) (F:Stop.Interp) :
    ReturnsInHanded {} Tryz.checked os 3 .any ((OpenSpec.ofChange Rows.fillLateSpec).preRow enc Tryz.prog Tryz.f3 Rows.fillLateRow.domain false Rows.fillLateRow.laid) (((OpenSpec.ofChange Rows.fillLateSpec).at F).post enc Tryz.prog Tryz.f3 false true false false) := by
  obtain ⟨places, hx⟩ := reads os enc
  refine returnsInHanded_of_row (C := Tryz.checked) (s := OpenSpec.ofChange Rows.fillLateSpec) own started (by kernel_rfl) Tryz.func3
    (witness_row_at (enc := enc) (C := Tryz.checked) false (laidWorld os) #[.int .i64 0, .int .i64 0] rfl (by kernel_rfl) (by kernel_rfl) (by kernel_rfl)
      (OpenSpec.preRow_of_cond 8 hx (by kernel_rfl) (fun k hk => by cases hk) (by kernel_rfl) (laid_met os))) ?_
  intro W base args ds gs before hval hW _ _ _ hL hsh _
  exact contract H enc W base args ds gs before hval hW hL
theorem said:Rows.FillLateSaid :=
  OpenClaim.holds_of_cond 3 Tryz.f3 rfl rfl rfl rfl rfl rfl rfl ⟨rfl, rfl, rfl, rfl, rfl⟩ rfl rfl rfl rfl rfl (by kernel_rfl) Tryz.func3 closed
    (of_decide_eq_true (by kernel_rfl)) (by unfold Func.isWrapper; first | (rw [if_pos (by decide +kernel)]; kernel_rfl) | (rw [if_neg (by decide +kernel)]; exact ⟨rfl, rfl⟩))
    (fun os started H enc _ F => by rw [OpenClaim.pre_eq_preRow]; exact lifted os started H enc F)
theorem plain (f:FuncId) (fn:Func) (hf:Tryz.pinned.checked.prog.funcNamed "stillroom/stillroomlaw25.FillLate" = some f) (hfn:Tryz.pinned.checked.prog.funcs[f]? = some fn) :
    true=Tryz.pinned.checked.prog.looks [] ∧ ∀ (j:Nat) t, fn.params[j]? = some t->Tryz.pinned.checked.prog.wantsStandIn t=false := by
  obtain rfl:f=3 := Option.some.inj ((show Tryz.prog.funcNamed "stillroom/stillroomlaw25.FillLate" = some 3 by kernel_rfl).symm.trans hf) |>.symm
  obtain rfl:fn=Tryz.f3 := (Option.some.inj (Tryz.func3.symm.trans hfn)).symm
  refine ⟨by kernel_rfl, fun j t ht => ?_⟩
  rw [Tryz.params3] at ht
  rcases j with _ | _ | j
  · obtain rfl := (Option.some.inj ht:3=t)
    exact (show Tryz.pinned.checked.prog.wantsStandIn 3=false by kernel_rfl)
  · obtain rfl := (Option.some.inj ht:3=t)
    exact (show Tryz.pinned.checked.prog.wantsStandIn 3=false by kernel_rfl)
  · simp at ht
theorem g0:((Tryz.prog.funcs.toList.take 140).all fun fn => !fn.goes)=true := by kernel_rfl
theorem g1:(((Tryz.prog.funcs.toList.drop 140).take 140).all fun fn => !fn.goes)=true := by kernel_rfl
theorem g2:(((Tryz.prog.funcs.toList.drop 280).take 140).all fun fn => !fn.goes)=true := by kernel_rfl
theorem g3:(((Tryz.prog.funcs.toList.drop 420).take 140).all fun fn => !fn.goes)=true := by kernel_rfl
theorem g4:(((Tryz.prog.funcs.toList.drop 560)).all fun fn => !fn.goes)=true := by kernel_rfl
theorem goes:false=Rows.fillLateRow.goesBy Tryz.pinned.checked.prog :=
  (T0 (P := Tryz.pinned.checked.prog) (Mg 140 g0 (Mg 140 g1 (Mg 140 (by rw [List.drop_drop]; exact g2) (Mg 140 (by rw [List.drop_drop, List.drop_drop]; exact g3) ((by rw [List.drop_drop, List.drop_drop, List.drop_drop]; exact g4)))))) _).symm
/-- ████ THE CARD ████ -/
theorem proved:Rows.FillLateCardSaid :=
  Claim7.holds_tied_plain_at .later [] _ _ _ _ said (fun _ h => by cases h) (by kernel_rfl) (fun _ h => by cases h) fillLate_row_tie rfl ⟨rfl, rfl⟩ (by kernel_rfl) rfl plain goes
#print axioms proved
end Go.Proofs.YtnelgnghdioapaaGreatDoor.fillLate
