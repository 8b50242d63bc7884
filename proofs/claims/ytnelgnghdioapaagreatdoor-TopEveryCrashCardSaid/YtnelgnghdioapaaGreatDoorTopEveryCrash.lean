/- Proved: stillroomtop.TopEveryCrash returns true, as its tied card says it. Conditions: the three tables that the row lists hold what the program lays, which the card ties to the program's text; none else. -/
import Derived.Test.YtnelgnghdioapaaGreatDoorCards
import Derived.Test.YtnelgnghdioapaaGreatDoorTie
import Derived.WalkKit
import Derived.ProofKit
import Derived.OpenShut
import Derived.Deep.DeepHandedRow
import Derived.KernelRfl
import Derived.Test.YtnelgnghdioapaaGreatDoorCT
import Derived.Carry
import Derived.Test.YtnelgnghdioapaaGreatDoorCV
import Derived.Test.YtnelgnghdioapaaGreatDoorCY
import Derived.Test.YtnelgnghdioapaaGreatDoorY0a
import Derived.Test.YtnelgnghdioapaaGreatDoorY0b
import Derived.Test.YtnelgnghdioapaaGreatDoorY0c
import Derived.Test.YtnelgnghdioapaaGreatDoorY0d
import Derived.Test.YtnelgnghdioapaaGreatDoorY0e
import Derived.Test.YtnelgnghdioapaaGreatDoorY0f
import Derived.Test.YtnelgnghdioapaaGreatDoorY0g
import Derived.Test.YtnelgnghdioapaaGreatDoorY0h
import Derived.Test.YtnelgnghdioapaaGreatDoorY0i
import Derived.Test.YtnelgnghdioapaaGreatDoorY0j
import Derived.Test.YtnelgnghdioapaaGreatDoorY1a
import Derived.Test.YtnelgnghdioapaaGreatDoorY1b
import Derived.Test.YtnelgnghdioapaaGreatDoorY1c
import Derived.Test.YtnelgnghdioapaaGreatDoorY1d
import Derived.Test.YtnelgnghdioapaaGreatDoorY1e
import Derived.Test.YtnelgnghdioapaaGreatDoorY1f
import Derived.Test.YtnelgnghdioapaaGreatDoorY1g
import Derived.Test.YtnelgnghdioapaaGreatDoorY1h
import Derived.Test.YtnelgnghdioapaaGreatDoorY1i
import Derived.Test.YtnelgnghdioapaaGreatDoorY1j
import Derived.Test.YtnelgnghdioapaaGreatDoorTopEveryCrashC
namespace Go.Proofs.YtnelgnghdioapaaGreatDoor.topEveryCrash
open Go.Ev Go.Ev.YtnelgnghdioapaaGreatDoor Go.ChangeShapes Go.WideShapes Go.ChangeAt Go.RowKit
set_option maxRecDepth 100000
set_option linter.unusedVariables false
theorem own:ownKnob Tryz.prog.godebug=none := by kernel_rfl
theorem mixed:Tryz.prog.follows .mixedOrders=true := by kernel_rfl
theorem rel_os {ρ:Env} {φ:B9} {p:Option Addr} {len cap lo hi:Nat} (h1:lo≤len) (h2:len≤hi) (h3:len≤cap):AL ρ φ (.oth (.os lo hi)) (.slice p len cap) := by
  simp only [AL]; exact ⟨p, len, cap, rfl, h1, h2, h3⟩
theorem run_few:KM (KY (E5 tab 100) (some xc4) [.oth (.iv .i64 0 18446744073709551615), .oth (.os 0 200), .oth (.iv .i64 0 18446744073709551615)] AF Em)=true := by
  refine run_of 999999999 (by decide) st_few ?_
  rw [show (999999999:Nat)=999999998+1+0 from rfl, rnd_step rd_few_0]
  rw [show (999999998:Nat)=999999997+1+0 from rfl, rnd_step rd_few_1]
  rw [show (999999997:Nat)=999999996+1+0 from rfl, rnd_step rd_few_2]
  rw [show (999999996:Nat)=999999995+1+0 from rfl, rnd_step rd_few_3]
  rw [show (999999995:Nat)=999999994+1+0 from rfl, rnd_step rd_few_4]
  rw [show (999999994:Nat)=999999993+1+0 from rfl, rnd_step rd_few_5]
  rw [show (999999993:Nat)=999999992+1+0 from rfl, rnd_step rd_few_6]
  rw [show (999999992:Nat)=999999991+1+0 from rfl, rnd_step rd_few_7]
  exact congrFun en_few _
theorem run_many:KM (KY (E5 tab 100) (some xc4) [.oth (.iv .i64 0 18446744073709551615), .oth (.os 201 9223372036854775807), .oth (.iv .i64 0 18446744073709551615)] AF Em)=true := by
  refine run_of 999999999 (by decide) st_many ?_
  rw [show (999999999:Nat)=999999998+1+0 from rfl, rnd_step rd_many_0]
  rw [show (999999998:Nat)=999999997+1+0 from rfl, rnd_step rd_many_1]
  rw [show (999999997:Nat)=999999996+1+0 from rfl, rnd_step rd_many_2]
  rw [show (999999996:Nat)=999999995+1+0 from rfl, rnd_step rd_many_3]
  rw [show (999999995:Nat)=999999994+1+0 from rfl, rnd_step rd_many_4]
  rw [show (999999994:Nat)=999999993+1+0 from rfl, rnd_step rd_many_5]
  rw [show (999999993:Nat)=999999992+1+0 from rfl, rnd_step rd_many_6]
  rw [show (999999992:Nat)=999999991+1+0 from rfl, rnd_step rd_many_7]
  exact congrFun en_many _
theorem walk {gl:Cd} (hT:HT gl) (a0:Int) (w0:(Lit.int .i64 a0).wf=true) (sa:Option Addr) (sl sc:Nat) (hs:sl≤sc) (hm:sc≤maxLen) (a2:Int) (w2:(Lit.int .i64 a2).wf=true) (w:World) (hgl:TO (rhoS gl) w) :
    Calls Tryz.prog 4 #[.int .i64 a0, .slice sa sl sc, .int .i64 a2] w fun e w' => e = .returned (.bool true)∧Below w.heap.size w w' := by
  have hb0 := T8 w0
  have hb2 := T8 w2
  by_cases hk:sl≤200
  · exact LC canN4_ok oneS mixed (tab_ok hT) ec4 Tryz.func4 (by kernel_rfl) (by kernel_rfl) run_few (AJ.2 ⟨_, _, rfl, FV hb0.1 hb0.2, AJ.2 ⟨_, _, rfl, rel_os (Nat.zero_le _) hk hs, AJ.2 ⟨_, _, rfl, FV hb2.1 hb2.2, AT.2 rfl⟩⟩⟩) w hgl
  · exact LC canN4_ok oneS mixed (tab_ok hT) ec4 Tryz.func4 (by kernel_rfl) (by kernel_rfl) run_many (AJ.2 ⟨_, _, rfl, FV hb0.1 hb0.2, AJ.2 ⟨_, _, rfl, rel_os (by omega) (by have:maxLen=9223372036854775807 := rfl; omega) hs, AJ.2 ⟨_, _, rfl, FV hb2.1 hb2.2, AT.2 rfl⟩⟩⟩) w hgl
theorem gTab:Tryz.prog.globalNamed "internal/strconv.uint64pow10" = some 0 := by kernel_rfl
theorem gType:(Tryz.prog.globals[0]?).map (·.type)=some 435 := by kernel_rfl
theorem cellsA:Tryz.prog.cellsOf 435=20 := by kernel_rfl
theorem cellsE:Tryz.prog.cellsOf 83=1 := by kernel_rfl
theorem tabData_eq:(Rows.laid_internal_strconv_uint64pow10:DataW Unit)=Lib.tabData .u64 Lib.pow10Tab := by kernel_rfl
theorem table {W:World} (h:laidMetH Tryz.prog Rows.topEveryCrashRow.laid W):Lib.TabIs Tryz.prog W "internal/strconv.uint64pow10" .u64 Lib.pow10Tab :=
  ME (l := Rows.topEveryCrashRow.laid) gTab gType Tryz.underlying435 Tryz.underlying83 cellsE cellsA (by rw [←tabData_eq]; exact .tail _ (.tail _ (.head _))) h
theorem contract (H:Type) (enc:TypeId×Value->H) (W:World) (base:Nat) (args:Array Value) (ds gs:List (DataW H)) (before:List MemPlace)
    (hval:∀ (j:Nat) t v, Tryz.f4.params[j]? = some t->args[j]? = some v->Value.okWide Tryz.prog W .any base t v)
    (hW:DataW.Whole enc Tryz.prog Tryz.f4.params.toList Rows.topEveryCrashSpec.vars false W args.toList ds gs before) (hL:laidMetH Tryz.prog Rows.topEveryCrashRow.laid W) :
    Calls Tryz.prog 4 args W fun e W' => ∃ v, e = .returned v∧Rows.topEveryCrashSpec.post enc Tryz.prog Tryz.f4 false true false false W args v W' := by
  have hW' := hW
  have hlt := fun p (hp:p∈before) => hW.lt p hp
  obtain ⟨p, q, hA0, hV, rfl, hfz, hnd⟩ := hW
  have hA:DataW.TrodAll enc Tryz.prog W 0 (fun _ => true) true Tryz.f4.params.toList args.toList ds p := hA0
  rw [Tryz.params4] at hA hval
  obtain ⟨v0, vs0, d0, ds0, p0, q0, hargs, rfl, rfl, h0, r0⟩ := trodAll_cons hA
  obtain ⟨v1, vs1, d1, ds1, p1, q1, rfl, rfl, rfl, h1, r1⟩ := trodAll_cons r0
  obtain ⟨v2, vs2, d2, ds2, p2, q2, rfl, rfl, rfl, h2, r2⟩ := trodAll_cons r1
  obtain ⟨rfl, rfl, rfl⟩ := trodAll_nil r2
  obtain rfl:args = #[v0, v1, v2] := by cases args; simp_all
  obtain ⟨rfl, rfl⟩ := trodVars_none hV
  obtain ⟨a0, rfl, rfl, rfl, w0⟩ := open_int Tryz.underlying3 (hval 0 3 v0 rfl rfl) h0
  obtain ⟨sa1, sl1, sc1, rfl⟩ := okWide_slice Tryz.underlying44 (hval 1 44 v1 rfl rfl)
  have hs1:sl1≤sc1∧sc1≤maxLen := by
    obtain ⟨fuel, hf⟩ := h1
    rcases DataW.trod_slice Tryz.underlying44 hf with hz | ⟨a, len, cap, elems, rest, n, _, hc, _, _, hl, hm, _⟩
    · have := hz.1
      simp [Value.cells] at this
      obtain ⟨_, rfl, rfl⟩ := this
      exact ⟨Nat.le_refl _, Nat.zero_le _⟩
    · simp [Value.cells] at hc
      obtain ⟨_, rfl, rfl⟩ := hc
      exact ⟨hl, hm⟩
  obtain ⟨a2, rfl, rfl, rfl, w2⟩ := open_int Tryz.underlying3 (hval 2 3 v2 rfl rfl) h2
  clear hA0
  simp only [List.append_nil, List.nil_append] at hW' hlt
  refine (walk (OV.of (l := [0]) gTab (by simp) (table hL)) a0 w0 sa1 sl1 sc1 hs1.1 hs1.2 a2 w2 W TB).mono fun e W' ⟨he, hg⟩ => ?_
  subst he
  exact ⟨_, rfl, KP (pa := []++(p1++([]++([])))) (pv := []) hW' (fun _ _ _ => (trodAll_cons_mk (shut_bool Tryz.underlying4 _) trodAll_mk0)) (fun sp hsp => (trodAll_cons_mk (shut_int Tryz.underlying3 w0) (trodAll_cons_mk (Go.WideElems.Trod_stays (by kernel_rfl) (by kernel_rfl) (of_decide_eq_true (by kernel_rfl)) h1 (fun x hx => hg.same (hlt x hx)) hsp) (trodAll_cons_mk (shut_int Tryz.underlying3 w2) trodAll_mk0)))) (fun _ _ => rfl) (by simp) hg (ok_one (by kernel_rfl) rfl (okWide_bool_mk Tryz.underlying4 _))⟩
noncomputable def laidWorld (os:Os):World :=
  { World.holding Tryz.prog os ⟨#[], #[], []⟩ with heap := ((((((World.holding Tryz.prog os ⟨#[], #[], []⟩).heap.modify 2 fun
      | .cells _ t frozen => .cells #[.int .u8 0, .int .u8 1, .int .u8 28, .int .u8 2, .int .u8 29, .int .u8 14, .int .u8 24, .int .u8 3, .int .u8 30, .int .u8 22, .int .u8 20, .int .u8 15, .int .u8 25, .int .u8 17, .int .u8 4, .int .u8 8, .int .u8 31, .int .u8 27, .int .u8 13, .int .u8 23, .int .u8 21, .int .u8 19, .int .u8 16, .int .u8 7, .int .u8 26, .int .u8 12, .int .u8 18, .int .u8 6, .int .u8 11, .int .u8 5, .int .u8 10, .int .u8 9] t frozen
      | o => o).modify 3 fun
      | .cells _ t frozen => .cells #[.int .u8 0, .int .u8 1, .int .u8 56, .int .u8 2, .int .u8 57, .int .u8 49, .int .u8 28, .int .u8 3, .int .u8 61, .int .u8 58, .int .u8 42, .int .u8 50, .int .u8 38, .int .u8 29, .int .u8 17, .int .u8 4, .int .u8 62, .int .u8 47, .int .u8 59, .int .u8 36, .int .u8 45, .int .u8 43, .int .u8 51, .int .u8 22, .int .u8 53, .int .u8 39, .int .u8 33, .int .u8 30, .int .u8 24, .int .u8 18, .int .u8 12, .int .u8 5, .int .u8 63, .int .u8 55, .int .u8 48, .int .u8 27, .int .u8 60, .int .u8 41, .int .u8 37, .int .u8 16, .int .u8 46, .int .u8 35, .int .u8 44, .int .u8 21, .int .u8 52, .int .u8 32, .int .u8 23, .int .u8 11, .int .u8 54, .int .u8 26, .int .u8 40, .int .u8 15, .int .u8 34, .int .u8 20, .int .u8 31, .int .u8 10, .int .u8 25, .int .u8 14, .int .u8 19, .int .u8 9, .int .u8 13, .int .u8 8, .int .u8 7, .int .u8 6] t frozen
      | o => o).modify 0 fun
      | .cells _ t frozen => .cells #[.int .u64 1, .int .u64 10, .int .u64 100, .int .u64 1000, .int .u64 10000, .int .u64 100000, .int .u64 1000000, .int .u64 10000000, .int .u64 100000000, .int .u64 1000000000, .int .u64 10000000000, .int .u64 100000000000, .int .u64 1000000000000, .int .u64 10000000000000, .int .u64 100000000000000, .int .u64 1000000000000000, .int .u64 10000000000000000, .int .u64 100000000000000000, .int .u64 1000000000000000000, .int .u64 10000000000000000000] t frozen
      | o => o).modify 5 fun
      | .cells _ t frozen => .cells #[.int .u8 128, .int .u8 191, .int .u8 160, .int .u8 191, .int .u8 128, .int .u8 159, .int .u8 144, .int .u8 191, .int .u8 128, .int .u8 143, .int .u8 0, .int .u8 0, .int .u8 0, .int .u8 0, .int .u8 0, .int .u8 0, .int .u8 0, .int .u8 0, .int .u8 0, .int .u8 0, .int .u8 0, .int .u8 0, .int .u8 0, .int .u8 0, .int .u8 0, .int .u8 0, .int .u8 0, .int .u8 0, .int .u8 0, .int .u8 0, .int .u8 0, .int .u8 0] t frozen
      | o => o).modify 4 fun
      | .cells _ t frozen => .cells (Pinned.utf8FirstZ.map fun (n:Nat) => Value.int .u8 (n:Int)).toArray t frozen
      | o => o) }
theorem laid_met (os:Os):laidMet Tryz.prog Rows.topEveryCrashRow.laid ((laidWorld os).forCall (fun _ _ => 0) ⟨#[], #[.int .i64 0, .slice none 0 0, .int .i64 0], []⟩).memory :=
  laidMet_of_run' 8 (by kernel_rfl) (by kernel_rfl)
theorem reads (os:Os) {H:Type} (enc:TypeId×Value->H):∃ places, DataW.whole enc Tryz.prog ((laidWorld os).forCall (fun _ _ => 0) ⟨#[], #[.int .i64 0, .slice none 0 0, .int .i64 0], []⟩).memory Tryz.f4.params.toList Rows.topEveryCrashSpec.vars false (#[.int .i64 0, .slice none 0 0, .int .i64 0]:Array Value).toList 8=some ([.lit (.int .i64 0), .nil, .lit (.int .i64 0)], [], places) :=
  ⟨[], by kernel_rfl⟩
theorem lifted (os:Os) (started:os.Started) (H:Type) (enc:TypeId×Value->H) (F:Stop.Interp) :
    ReturnsInHanded {} Tryz.checked os 4 .any ((OpenSpec.ofChange Rows.topEveryCrashSpec).preRow enc Tryz.prog Tryz.f4 Rows.topEveryCrashRow.domain false Rows.topEveryCrashRow.laid) (((OpenSpec.ofChange Rows.topEveryCrashSpec).at F).post enc Tryz.prog Tryz.f4 false true false false) := by
  obtain ⟨places, hx⟩ := reads os enc
  refine returnsInHanded_of_row (C := Tryz.checked) (s := OpenSpec.ofChange Rows.topEveryCrashSpec) own started (by kernel_rfl) Tryz.func4
    (witness_row_at (enc := enc) (C := Tryz.checked) false (laidWorld os) #[.int .i64 0, .slice none 0 0, .int .i64 0] rfl (by kernel_rfl) (by kernel_rfl) (by kernel_rfl)
      (OpenSpec.preRow_of_cond 8 hx (by kernel_rfl) (fun k hk => by cases hk) (by kernel_rfl) (laid_met os))) ?_
  intro W base args ds gs before hval hW _ _ _ hL hsh _
  exact contract H enc W base args ds gs before hval hW hL
theorem said:Rows.TopEveryCrashSaid :=
  OpenClaim.holds_of_cond 4 Tryz.f4 rfl rfl rfl rfl rfl rfl rfl ⟨rfl, rfl, rfl, rfl, rfl⟩ rfl rfl rfl rfl rfl (by kernel_rfl) Tryz.func4 closed
    (of_decide_eq_true (by kernel_rfl)) (by unfold Func.isWrapper; first | (rw [if_pos (by decide +kernel)]; kernel_rfl) | (rw [if_neg (by decide +kernel)]; exact ⟨rfl, rfl⟩))
    (fun os started H enc _ F => by rw [OpenClaim.pre_eq_preRow]; exact lifted os started H enc F)
theorem plain (f:FuncId) (fn:Func) (hf:Tryz.pinned.checked.prog.funcNamed "stillroom/stillroomtop.TopEveryCrash" = some f) (hfn:Tryz.pinned.checked.prog.funcs[f]? = some fn) :
    true=Tryz.pinned.checked.prog.looks [] ∧ ∀ (j:Nat) t, fn.params[j]? = some t->Tryz.pinned.checked.prog.wantsStandIn t=false := by
  obtain rfl:f=4 := Option.some.inj ((show Tryz.prog.funcNamed "stillroom/stillroomtop.TopEveryCrash" = some 4 by kernel_rfl).symm.trans hf) |>.symm
  obtain rfl:fn=Tryz.f4 := (Option.some.inj (Tryz.func4.symm.trans hfn)).symm
  refine ⟨by kernel_rfl, fun j t ht => ?_⟩
  rw [Tryz.params4] at ht
  rcases j with _ | _ | _ | j
  · obtain rfl := (Option.some.inj ht:3=t)
    exact (show Tryz.pinned.checked.prog.wantsStandIn 3=false by kernel_rfl)
  · obtain rfl := (Option.some.inj ht:44=t)
    exact (show Tryz.pinned.checked.prog.wantsStandIn 44=false by kernel_rfl)
  · obtain rfl := (Option.some.inj ht:3=t)
    exact (show Tryz.pinned.checked.prog.wantsStandIn 3=false by kernel_rfl)
  · simp at ht
theorem g0:((Tryz.prog.funcs.toList.take 140).all fun fn => !fn.goes)=true := by kernel_rfl
theorem g1:(((Tryz.prog.funcs.toList.drop 140).take 140).all fun fn => !fn.goes)=true := by kernel_rfl
theorem g2:(((Tryz.prog.funcs.toList.drop 280).take 140).all fun fn => !fn.goes)=true := by kernel_rfl
theorem g3:(((Tryz.prog.funcs.toList.drop 420).take 140).all fun fn => !fn.goes)=true := by kernel_rfl
theorem g4:(((Tryz.prog.funcs.toList.drop 560)).all fun fn => !fn.goes)=true := by kernel_rfl
theorem goes:false=Rows.topEveryCrashRow.goesBy Tryz.pinned.checked.prog :=
  (Ts (P := Tryz.pinned.checked.prog) (N1 140 g0 (N1 140 g1 (N1 140 (by rw [List.drop_drop]; exact g2) (N1 140 (by rw [List.drop_drop, List.drop_drop]; exact g3) ((by rw [List.drop_drop, List.drop_drop, List.drop_drop]; exact g4)))))) _).symm
/-- ████ THE CARD ████ -/
theorem proved:Rows.TopEveryCrashCardSaid :=
  Claim7.holds_tied_plain_at .later [] _ _ _ _ said (fun _ h => by cases h) (by kernel_rfl) (fun _ h => by cases h) topEveryCrash_row_tie rfl ⟨rfl, rfl⟩ (by kernel_rfl) rfl plain goes
#print axioms proved
end Go.Proofs.YtnelgnghdioapaaGreatDoor.topEveryCrash
