/- Proved: stillroomtop.TopStatus returns true, as its tied card says it. Conditions: the row's tables hold what its card says. -/
import Derived.Test.YtnogfiilcklegaaGreatDoorCards
import Derived.Test.YtnogfiilcklegaaGreatDoorTie
import Derived.WalkKit
import Derived.ProofKit
import Derived.OpenShut
import Derived.Deep.DeepHandedRow
import Derived.KernelRfl
import Derived.Test.YtnogfiilcklegaaGreatDoorTopStatusA
import Derived.Test.YtnogfiilcklegaaGreatDoorTopStatusB
import Derived.Test.YtnogfiilcklegaaGreatDoorTopStatusC
namespace Go.Proofs.YtnogfiilcklegaaGreatDoor.topStatus
open Go.Ev Go.Ev.YtnogfiilcklegaaGreatDoor Go.ChangeShapes Go.WideShapes Go.ChangeAt Go.RowKit
set_option maxRecDepth 100000
set_option linter.unusedVariables false
theorem own : ownKnob Tryz.prog.godebug = none:=by kernel_rfl
theorem mixed : Tryz.prog.follows .mixedOrders = true:=by kernel_rfl
theorem run_neg : rTrue (call2 tab 100 (fnKey 10) [.oth (.iv .i64 9223372036854775808 18446744073709551615)] hempty n00) = true:=by kernel_rfl
theorem run_hi : rTrue (call2 tab 100 (fnKey 10) [.oth (.iv .i64 600 9223372036854775807)] hempty n00) = true:=by kernel_rfl
theorem run_lo : rTrue (call2 tab 100 (fnKey 10) [.oth (.iv .i64 0 199)] hempty n00) = true:=by kernel_rfl
theorem at_ {gl : GlF} (hT : TabG Tryz.prog gl "internal/strconv.uint64pow10" .u64 Lib.pow10Tab) (i j : Nat) (hi : i + j < 9223372036854775808) (h : rTrue (call2 tab 100 (fnKey 10) [.int .i64 (Nat.add i j)] hempty n00) = true) (w : World) (hgl : GlAt (rhoS gl) w) : Calls Tryz.prog 10 #[.int .i64 ((i + j : Nat) : Int)] w fun e w'=>e = .returned (.bool true) ∧ Below w.heap.size w w' :=
  law2_call oneS mixed (tab_ok hT) Tryz.func10 (by kernel_rfl) (by kernel_rfl) h (rels_cons.2 ⟨_,_,rfl,rel_i64 hi,rels_nil.2 rfl⟩) w hgl
theorem walk {gl : GlF} (hT : TabG Tryz.prog gl "internal/strconv.uint64pow10" .u64 Lib.pow10Tab) (a0 : Int) (w0 : (Lit.int .i64 a0).wf = true) (w : World) (hgl : GlAt (rhoS gl) w) : Calls Tryz.prog 10 #[.int .i64 a0] w fun e w'=>e = .returned (.bool true) ∧ Below w.heap.size w w':=by
  have hb:=wf_i64 w0
  by_cases h0 : a0 < 0
  · exact law2_call oneS mixed (tab_ok hT) Tryz.func10 (by kernel_rfl) (by kernel_rfl) run_neg (rels_cons.2 ⟨_,_,rfl,rel_iv_neg h0 hb.1,rels_nil.2 rfl⟩) w hgl
  by_cases h1 : 600 ≤ a0
  · exact law2_call oneS mixed (tab_ok hT) Tryz.func10 (by kernel_rfl) (by kernel_rfl) run_hi (rels_cons.2 ⟨_,_,rfl,rel_iv_hi h1 hb.2,rels_nil.2 rfl⟩) w hgl
  by_cases h2 : a0 ≤ 199
  · exact law2_call oneS mixed (tab_ok hT) Tryz.func10 (by kernel_rfl) (by kernel_rfl) run_lo (rels_cons.2 ⟨_,_,rfl,rel_iv_mid (by omega) h2 (by decide),rels_nil.2 rfl⟩) w hgl
  obtain ⟨i,rfl⟩ : ∃ i : Nat,a0 = i:=⟨a0.toNat,by omega⟩
  by_cases h220 : i < 240
  · obtain ⟨j,rfl⟩ : ∃ j,i = 200 + j:=⟨i - 200,by omega⟩
    exact at_ hT 200 j (by omega) (allN_at run_200 j (by omega)) w hgl
  by_cases h260 : i < 280
  · obtain ⟨j,rfl⟩ : ∃ j,i = 240 + j:=⟨i - 240,by omega⟩
    exact at_ hT 240 j (by omega) (allN_at run_240 j (by omega)) w hgl
  by_cases h300 : i < 320
  · obtain ⟨j,rfl⟩ : ∃ j,i = 280 + j:=⟨i - 280,by omega⟩
    exact at_ hT 280 j (by omega) (allN_at run_280 j (by omega)) w hgl
  by_cases h340 : i < 360
  · obtain ⟨j,rfl⟩ : ∃ j,i = 320 + j:=⟨i - 320,by omega⟩
    exact at_ hT 320 j (by omega) (allN_at run_320 j (by omega)) w hgl
  by_cases h380 : i < 400
  · obtain ⟨j,rfl⟩ : ∃ j,i = 360 + j:=⟨i - 360,by omega⟩
    exact at_ hT 360 j (by omega) (allN_at run_360 j (by omega)) w hgl
  by_cases h420 : i < 440
  · obtain ⟨j,rfl⟩ : ∃ j,i = 400 + j:=⟨i - 400,by omega⟩
    exact at_ hT 400 j (by omega) (allN_at run_400 j (by omega)) w hgl
  by_cases h460 : i < 480
  · obtain ⟨j,rfl⟩ : ∃ j,i = 440 + j:=⟨i - 440,by omega⟩
    exact at_ hT 440 j (by omega) (allN_at run_440 j (by omega)) w hgl
  by_cases h500 : i < 520
  · obtain ⟨j,rfl⟩ : ∃ j,i = 480 + j:=⟨i - 480,by omega⟩
    exact at_ hT 480 j (by omega) (allN_at run_480 j (by omega)) w hgl
  by_cases h540 : i < 560
  · obtain ⟨j,rfl⟩ : ∃ j,i = 520 + j:=⟨i - 520,by omega⟩
    exact at_ hT 520 j (by omega) (allN_at run_520 j (by omega)) w hgl
  by_cases h580 : i < 600
  · obtain ⟨j,rfl⟩ : ∃ j,i = 560 + j:=⟨i - 560,by omega⟩
    exact at_ hT 560 j (by omega) (allN_at run_560 j (by omega)) w hgl
  exact absurd (show i < 600 by omega) (by omega)
theorem gTab : Tryz.prog.globalNamed "internal/strconv.uint64pow10" = some 1:=by kernel_rfl
theorem gType : (Tryz.prog.globals[1]?).map (·.type) = some 495:=by kernel_rfl
theorem cellsA : Tryz.prog.cellsOf 495 = 20:=by kernel_rfl
theorem cellsE : Tryz.prog.cellsOf 113 = 1:=by kernel_rfl
theorem tabData_eq : (Rows.laid_internal_strconv_uint64pow10 : DataW Unit) = Lib.tabData .u64 Lib.pow10Tab:=by kernel_rfl
theorem table {W : World} (h : laidMetH Tryz.prog Rows.topStatusRow.laid W) : Lib.TabIs Tryz.prog W "internal/strconv.uint64pow10" .u64 Lib.pow10Tab :=
  tabIs_of_mem (l:=Rows.topStatusRow.laid) gTab gType Tryz.underlying495 Tryz.underlying113 cellsE cellsA (by rw [← tabData_eq]; exact .tail _ (.tail _ (.head _))) h
theorem contract (H : Type) (enc : TypeId × Value → H) (W : World) (base : Nat) (args : Array Value) (ds gs : List (DataW H)) (before : List MemPlace)
    (hval : ∀ (j : Nat) t v,Tryz.f10.params[j]? = some t → args[j]? = some v → Value.okWide Tryz.prog W .any base t v)
    (hW : DataW.Whole enc Tryz.prog Tryz.f10.params.toList Rows.topStatusSpec.vars false W args.toList ds gs before) (hL : laidMetH Tryz.prog Rows.topStatusRow.laid W) :
    Calls Tryz.prog 10 args W fun e W'=>∃ v,e = .returned v ∧ Rows.topStatusSpec.post enc Tryz.prog Tryz.f10 false true false false W args v W':=by
  have hW':=hW
  obtain ⟨p,q,hA0,hV,rfl,hfz,hnd⟩:=hW
  have hA : DataW.TrodAll enc Tryz.prog W 0 (fun _=>true) true Tryz.f10.params.toList args.toList ds p:=hA0
  rw [Tryz.params10] at hA hval
  obtain ⟨v0,vs0,d0,ds0,p0,q0,hargs,rfl,rfl,h0,r0⟩:=trodAll_cons hA
  obtain ⟨rfl,rfl,rfl⟩:=trodAll_nil r0
  obtain rfl : args = #[v0]:=by cases args; simp_all
  obtain ⟨rfl,rfl⟩:=trodVars_none hV
  obtain ⟨a0,rfl,rfl,rfl,w0⟩:=open_int Tryz.underlying3 (hval 0 3 v0 rfl rfl) h0
  clear hA0
  simp only [List.append_nil] at hW'
  refine (walk (TabG.of (l:=[1]) gTab (by simp) (table hL)) a0 w0 W glOf_at).mono fun e W' ⟨he,hg⟩=>?_
  subst he
  exact ⟨_,rfl,post_of_fresh (pa:=[]) (pv:=[]) hW' (fun _ _ _=>(trodAll_cons_mk (shut_bool Tryz.underlying4 _) trodAll_mk0)) (fun sp _=>(trodAll_cons_mk (shut_int Tryz.underlying3 w0) trodAll_mk0)) (fun _ _=>rfl) rfl hg (ok_one (by kernel_rfl) rfl (okWide_bool_mk Tryz.underlying4 _))⟩
noncomputable def laidWorld (os : Os) : World :=
  { World.holding Tryz.prog os ⟨#[],#[],[]⟩ with heap:=((((((World.holding Tryz.prog os ⟨#[],#[],[]⟩).heap.modify 2 fun
      | .cells _ t frozen=>.cells #[.int .u8 0,.int .u8 1,.int .u8 28,.int .u8 2,.int .u8 29,.int .u8 14,.int .u8 24,.int .u8 3,.int .u8 30,.int .u8 22,.int .u8 20,.int .u8 15,.int .u8 25,.int .u8 17,.int .u8 4,.int .u8 8,.int .u8 31,.int .u8 27,.int .u8 13,.int .u8 23,.int .u8 21,.int .u8 19,.int .u8 16,.int .u8 7,.int .u8 26,.int .u8 12,.int .u8 18,.int .u8 6,.int .u8 11,.int .u8 5,.int .u8 10,.int .u8 9] t frozen
      | o=>o).modify 3 fun
      | .cells _ t frozen=>.cells #[.int .u8 0,.int .u8 1,.int .u8 56,.int .u8 2,.int .u8 57,.int .u8 49,.int .u8 28,.int .u8 3,.int .u8 61,.int .u8 58,.int .u8 42,.int .u8 50,.int .u8 38,.int .u8 29,.int .u8 17,.int .u8 4,.int .u8 62,.int .u8 47,.int .u8 59,.int .u8 36,.int .u8 45,.int .u8 43,.int .u8 51,.int .u8 22,.int .u8 53,.int .u8 39,.int .u8 33,.int .u8 30,.int .u8 24,.int .u8 18,.int .u8 12,.int .u8 5,.int .u8 63,.int .u8 55,.int .u8 48,.int .u8 27,.int .u8 60,.int .u8 41,.int .u8 37,.int .u8 16,.int .u8 46,.int .u8 35,.int .u8 44,.int .u8 21,.int .u8 52,.int .u8 32,.int .u8 23,.int .u8 11,.int .u8 54,.int .u8 26,.int .u8 40,.int .u8 15,.int .u8 34,.int .u8 20,.int .u8 31,.int .u8 10,.int .u8 25,.int .u8 14,.int .u8 19,.int .u8 9,.int .u8 13,.int .u8 8,.int .u8 7,.int .u8 6] t frozen
      | o=>o).modify 1 fun
      | .cells _ t frozen=>.cells #[.int .u64 1,.int .u64 10,.int .u64 100,.int .u64 1000,.int .u64 10000,.int .u64 100000,.int .u64 1000000,.int .u64 10000000,.int .u64 100000000,.int .u64 1000000000,.int .u64 10000000000,.int .u64 100000000000,.int .u64 1000000000000,.int .u64 10000000000000,.int .u64 100000000000000,.int .u64 1000000000000000,.int .u64 10000000000000000,.int .u64 100000000000000000,.int .u64 1000000000000000000,.int .u64 10000000000000000000] t frozen
      | o=>o).modify 5 fun
      | .cells _ t frozen=>.cells #[.int .u8 128,.int .u8 191,.int .u8 160,.int .u8 191,.int .u8 128,.int .u8 159,.int .u8 144,.int .u8 191,.int .u8 128,.int .u8 143,.int .u8 0,.int .u8 0,.int .u8 0,.int .u8 0,.int .u8 0,.int .u8 0,.int .u8 0,.int .u8 0,.int .u8 0,.int .u8 0,.int .u8 0,.int .u8 0,.int .u8 0,.int .u8 0,.int .u8 0,.int .u8 0,.int .u8 0,.int .u8 0,.int .u8 0,.int .u8 0,.int .u8 0,.int .u8 0] t frozen
      | o=>o).modify 4 fun
      | .cells _ t frozen=>.cells (Pinned.utf8FirstZ.map fun (n : Nat)=>Value.int .u8 (n : Int)).toArray t frozen
      | o=>o) }
theorem laid_met (os : Os) : laidMet Tryz.prog Rows.topStatusRow.laid ((laidWorld os).forCall (fun _ _=>0) ⟨#[],#[.int .i64 0],[]⟩).memory :=
  laidMet_of_run' 8 (by kernel_rfl) (by kernel_rfl)
theorem reads (os : Os) {H : Type} (enc : TypeId × Value → H) : ∃ places,DataW.whole enc Tryz.prog ((laidWorld os).forCall (fun _ _=>0) ⟨#[],#[.int .i64 0],[]⟩).memory Tryz.f10.params.toList Rows.topStatusSpec.vars false (#[.int .i64 0] : Array Value).toList 8 = some ([.lit (.int .i64 0)],[],places) :=
  ⟨[],by kernel_rfl⟩
theorem lifted (os : Os) (started : os.Started) (H : Type) (enc : TypeId × Value → H) (F : Stop.Interp) :
    ReturnsInHanded {} Tryz.checked os 10 .any ((OpenSpec.ofChange Rows.topStatusSpec).preRow enc Tryz.prog Tryz.f10 Rows.topStatusRow.domain false Rows.topStatusRow.laid) (((OpenSpec.ofChange Rows.topStatusSpec).at F).post enc Tryz.prog Tryz.f10 false true false false):=by
  obtain ⟨places,hx⟩:=reads os enc
  refine returnsInHanded_of_row (C:=Tryz.checked) (s:=OpenSpec.ofChange Rows.topStatusSpec) own started (by kernel_rfl) Tryz.func10
    (witness_row_at (enc:=enc) (C:=Tryz.checked) false (laidWorld os) #[.int .i64 0] rfl (by kernel_rfl) (by kernel_rfl) (by kernel_rfl)
      (OpenSpec.preRow_of_cond 8 hx (by kernel_rfl) (fun k hk=>by cases hk) (by kernel_rfl) (laid_met os))) ?_
  intro W base args ds gs before hval hW _ _ _ hL _ _
  exact contract H enc W base args ds gs before hval hW hL
theorem said : Rows.TopStatusSaid :=
  OpenClaim.holds_of_cond 10 Tryz.f10 rfl rfl rfl rfl rfl rfl rfl ⟨rfl,rfl,rfl,rfl,rfl⟩ rfl rfl rfl rfl rfl (by kernel_rfl) Tryz.func10 closed
    (of_decide_eq_true (by kernel_rfl)) (by unfold Func.isWrapper; first | (rw [if_pos (by decide +kernel)]; kernel_rfl) | (rw [if_neg (by decide +kernel)]; exact ⟨rfl,rfl⟩))
    (fun os started H enc _ F=>by rw [OpenClaim.pre_eq_preRow]; exact lifted os started H enc F)
theorem plain (f : FuncId) (fn : Func) (hf : Tryz.pinned.checked.prog.funcNamed "stillroom/stillroomtop.TopStatus" = some f) (hfn : Tryz.pinned.checked.prog.funcs[f]? = some fn) :
    true = Tryz.pinned.checked.prog.looks [] ∧ ∀ (j : Nat) t,fn.params[j]? = some t → Tryz.pinned.checked.prog.wantsStandIn t = false:=by
  obtain rfl : f = 10:=Option.some.inj ((show Tryz.prog.funcNamed "stillroom/stillroomtop.TopStatus" = some 10 by kernel_rfl).symm.trans hf) |>.symm
  obtain rfl : fn = Tryz.f10:=(Option.some.inj (Tryz.func10.symm.trans hfn)).symm
  refine ⟨by kernel_rfl,fun j t ht=>?_⟩
  rw [Tryz.params10] at ht
  rcases j with _ | j
  · obtain rfl:=(Option.some.inj ht : 3 = t)
    exact (show Tryz.pinned.checked.prog.wantsStandIn 3 = false by kernel_rfl)
  · simp at ht
theorem g0 : ((Tryz.prog.funcs.toList.take 140).all fun fn=>!fn.goes) = true:=by kernel_rfl
theorem g1 : (((Tryz.prog.funcs.toList.drop 140).take 140).all fun fn=>!fn.goes) = true:=by kernel_rfl
theorem g2 : (((Tryz.prog.funcs.toList.drop 280).take 140).all fun fn=>!fn.goes) = true:=by kernel_rfl
theorem g3 : (((Tryz.prog.funcs.toList.drop 420).take 140).all fun fn=>!fn.goes) = true:=by kernel_rfl
theorem g4 : (((Tryz.prog.funcs.toList.drop 560)).all fun fn=>!fn.goes) = true:=by kernel_rfl
theorem goes : false = Rows.topStatusRow.goesBy Tryz.pinned.checked.prog :=
  (goes_no (P:=Tryz.pinned.checked.prog) (any_no 140 g0 (any_no 140 g1 (any_no 140 (by rw [List.drop_drop]; exact g2) (any_no 140 (by rw [List.drop_drop,List.drop_drop]; exact g3) ((by rw [List.drop_drop,List.drop_drop,List.drop_drop]; exact g4)))))) _).symm
/-- ████ THE CARD ████ -/
theorem proved : Rows.TopStatusCardSaid :=
  Claim7.holds_tied_plain_at .later [] _ _ _ _ said (fun _ h=>by cases h) (by kernel_rfl) (fun _ h=>by cases h) topStatus_row_tie rfl ⟨rfl,rfl⟩ (by kernel_rfl) rfl plain goes
#print axioms proved
end Go.Proofs.YtnogfiilcklegaaGreatDoor.topStatus
