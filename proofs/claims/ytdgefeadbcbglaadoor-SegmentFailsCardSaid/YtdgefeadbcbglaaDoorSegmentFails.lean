/- Proved: stillroomlaw8.SegmentFails returns true, as its tied card says it. Conditions: the three tables that the row lists hold what the program lays, which the card ties to the program's text; none else. -/
import Derived.Test.YtdgefeadbcbglaaDoorCards
import Derived.Test.YtdgefeadbcbglaaDoorTie
import Derived.WalkKit
import Derived.ProofKit
import Derived.OpenShut
import Derived.Deep.DeepHandedRow
import Derived.KernelRfl
import Derived.Test.YtdgefeadbcbglaaDoorFT
import Derived.Test.YtdgefeadbcbglaaDoorFV
import Derived.Test.YtdgefeadbcbglaaDoorSegmentFailsC
namespace Go.Proofs.YtdgefeadbcbglaaDoor.segmentFails
open Go.Ev Go.Ev.YtdgefeadbcbglaaDoor Go.ChangeShapes Go.WideShapes Go.ChangeAt Go.RowKit
set_option maxRecDepth 100000
set_option linter.unusedVariables false
theorem own:ownKnob Tryd.prog.godebug=none := by kernel_rfl
theorem mixed:Tryd.prog.follows .mixedOrders=true := by kernel_rfl
theorem told_i64 {a:Int} (h:(Lit.int .i64 a).wf=true):∃ r, r<18446744073709551616 ∧ ∀ ρ φ, Al ρ φ (.int .i64 r) (.int .i64 a) := by
  have hb : -9223372036854775808≤a∧a<9223372036854775808 := by
    simp [Lit.wf, IntKind.min, IntKind.max, IntKind.signed, IntKind.bits] at h
    omega
  rcases Int.lt_or_le a 0 with hn | hn
  · refine ⟨(a+18446744073709551616).toNat, by omega, fun ρ φ => ?_⟩
    simp only [Al]
    refine ⟨by show _<18446744073709551616; omega, ?_⟩
    rw [Cq (show ¬ (a+18446744073709551616).toNat<Hk .i64 by show ¬ _<9223372036854775808; omega)]
    congr 1
    show a=((a+18446744073709551616).toNat:Int) - (18446744073709551616:Nat); omega
  · refine ⟨a.toNat, by omega, fun ρ φ => ?_⟩
    simp only [Al]
    refine ⟨by show _<18446744073709551616; omega, ?_⟩
    rw [Aj (show a.toNat<Hk .i64 by show _<9223372036854775808; omega)]
    congr 1; omega
theorem told_u32 {a:Int} (h:(Lit.int .u32 a).wf=true):∃ r, r<4294967296 ∧ ∀ ρ φ, Al ρ φ (.int .u32 r) (.int .u32 a) := by
  have hb:0≤a∧a<4294967296 := by
    simp [Lit.wf, IntKind.min, IntKind.max, IntKind.signed, IntKind.bits] at h
    omega
  refine ⟨a.toNat, by omega, fun ρ φ => ?_⟩
  simp only [Al]
  refine ⟨by show _<4294967296; omega, ?_⟩
  rw [Aj (show a.toNat<Hk .u32 by show _<4294967296; omega)]
  congr 1; omega
theorem walk {gl:Kt} (hT:HT gl) (a0:Int) (w0:(Lit.int .u32 a0).wf=true) (a1:Int) (w1:(Lit.int .i64 a1).wf=true) (a2:Int) (w2:(Lit.int .i64 a2).wf=true) (w:World) (hgl:WY (rhoS gl) w):Calls Tryd.prog 5 #[.int .u32 a0, .int .i64 a1, .int .i64 a2] w fun e w' => e = .returned (.bool true)∧Below w.heap.size w w' := by
  obtain ⟨r0, q0, e0⟩ := told_u32 w0
  obtain ⟨r1, q1, e1⟩ := told_i64 w1
  obtain ⟨r2, q2, e2⟩ := told_i64 w2
  exact T5 oneS mixed (tab_ok hT) Tryd.func5 (by kernel_rfl) (by kernel_rfl) (sf_run q0 q1 q2) (Ap.2 ⟨_, _, rfl, e0 _ _, Ap.2 ⟨_, _, rfl, e1 _ _, Ap.2 ⟨_, _, rfl, e2 _ _, Aw.2 rfl⟩⟩⟩) w hgl
theorem gTab:Tryd.prog.globalNamed "internal/strconv.uint64pow10" = some 0 := by kernel_rfl
theorem gType:(Tryd.prog.globals[0]?).map (·.type)=some 161 := by kernel_rfl
theorem cellsA:Tryd.prog.cellsOf 161=20 := by kernel_rfl
theorem cellsE:Tryd.prog.cellsOf 50=1 := by kernel_rfl
theorem tabData_eq:(Rows.laid_internal_strconv_uint64pow10:DataW Unit)=Lib.tabData .u64 Lib.pow10Tab := by kernel_rfl
theorem table {W:World} (h:laidMetH Tryd.prog Rows.segmentFailsRow.laid W):Lib.TabIs Tryd.prog W "internal/strconv.uint64pow10" .u64 Lib.pow10Tab :=
  Ok (l := Rows.segmentFailsRow.laid) gTab gType Tryd.underlying161 Tryd.underlying50 cellsE cellsA (by rw [←tabData_eq]; exact .tail _ (.tail _ (.head _))) h
theorem contract (H:Type) (enc:TypeId×Value->H) (W:World) (base:Nat) (args:Array Value) (ds gs:List (DataW H)) (before:List MemPlace)
    (hval:∀ (j:Nat) t v, Tryd.f5.params[j]? = some t->args[j]? = some v->Value.okWide Tryd.prog W .any base t v)
    (hW:DataW.Whole enc Tryd.prog Tryd.f5.params.toList Rows.segmentFailsSpec.vars false W args.toList ds gs before) (hL:laidMetH Tryd.prog Rows.segmentFailsRow.laid W) :
    Calls Tryd.prog 5 args W fun e W' => ∃ v, e = .returned v∧Rows.segmentFailsSpec.post enc Tryd.prog Tryd.f5 false true false false W args v W' := by
  have hW' := hW
  obtain ⟨p, q, hA0, hV, rfl, hfz, hnd⟩ := hW
  have hA:DataW.TrodAll enc Tryd.prog W 0 (fun _ => true) true Tryd.f5.params.toList args.toList ds p := hA0
  rw [Tryd.params5] at hA hval
  obtain ⟨v0, vs0, d0, ds0, p0, q0, hargs, rfl, rfl, h0, r0⟩ := trodAll_cons hA
  obtain ⟨v1, vs1, d1, ds1, p1, q1, rfl, rfl, rfl, h1, r1⟩ := trodAll_cons r0
  obtain ⟨v2, vs2, d2, ds2, p2, q2, rfl, rfl, rfl, h2, r2⟩ := trodAll_cons r1
  obtain ⟨rfl, rfl, rfl⟩ := trodAll_nil r2
  obtain rfl:args = #[v0, v1, v2] := by cases args; simp_all
  obtain ⟨rfl, rfl⟩ := trodVars_none hV
  obtain ⟨a0, rfl, rfl, rfl, w0⟩ := open_int Tryd.underlying43 (hval 0 43 v0 rfl rfl) h0
  obtain ⟨a1, rfl, rfl, rfl, w1⟩ := open_int Tryd.underlying3 (hval 1 3 v1 rfl rfl) h1
  obtain ⟨a2, rfl, rfl, rfl, w2⟩ := open_int Tryd.underlying3 (hval 2 3 v2 rfl rfl) h2
  clear hA0
  simp only [List.append_nil] at hW'
  refine (walk (Qv.of (l := [0]) gTab (by simp) (table hL)) a0 w0 a1 w1 a2 w2 W Wq).mono fun e W' ⟨he, hg⟩ => ?_
  subst he
  exact ⟨_, rfl, M2 (pa := []) (pv := []) hW' (fun _ _ _ => (trodAll_cons_mk (shut_bool Tryd.underlying4 _) trodAll_mk0)) (fun sp _ => (trodAll_cons_mk (shut_int Tryd.underlying43 w0) (trodAll_cons_mk (shut_int Tryd.underlying3 w1) (trodAll_cons_mk (shut_int Tryd.underlying3 w2) trodAll_mk0)))) (fun _ _ => rfl) rfl hg (ok_one (by kernel_rfl) rfl (okWide_bool_mk Tryd.underlying4 _))⟩
noncomputable def laidWorld (os:Os):World :=
  { World.holding Tryd.prog os ⟨#[], #[], []⟩ with heap := ((((World.holding Tryd.prog os ⟨#[], #[], []⟩).heap.modify 1 fun
      | .cells _ t frozen => .cells #[.int .u8 0, .int .u8 1, .int .u8 28, .int .u8 2, .int .u8 29, .int .u8 14, .int .u8 24, .int .u8 3, .int .u8 30, .int .u8 22, .int .u8 20, .int .u8 15, .int .u8 25, .int .u8 17, .int .u8 4, .int .u8 8, .int .u8 31, .int .u8 27, .int .u8 13, .int .u8 23, .int .u8 21, .int .u8 19, .int .u8 16, .int .u8 7, .int .u8 26, .int .u8 12, .int .u8 18, .int .u8 6, .int .u8 11, .int .u8 5, .int .u8 10, .int .u8 9] t frozen
      | o => o).modify 2 fun
      | .cells _ t frozen => .cells #[.int .u8 0, .int .u8 1, .int .u8 56, .int .u8 2, .int .u8 57, .int .u8 49, .int .u8 28, .int .u8 3, .int .u8 61, .int .u8 58, .int .u8 42, .int .u8 50, .int .u8 38, .int .u8 29, .int .u8 17, .int .u8 4, .int .u8 62, .int .u8 47, .int .u8 59, .int .u8 36, .int .u8 45, .int .u8 43, .int .u8 51, .int .u8 22, .int .u8 53, .int .u8 39, .int .u8 33, .int .u8 30, .int .u8 24, .int .u8 18, .int .u8 12, .int .u8 5, .int .u8 63, .int .u8 55, .int .u8 48, .int .u8 27, .int .u8 60, .int .u8 41, .int .u8 37, .int .u8 16, .int .u8 46, .int .u8 35, .int .u8 44, .int .u8 21, .int .u8 52, .int .u8 32, .int .u8 23, .int .u8 11, .int .u8 54, .int .u8 26, .int .u8 40, .int .u8 15, .int .u8 34, .int .u8 20, .int .u8 31, .int .u8 10, .int .u8 25, .int .u8 14, .int .u8 19, .int .u8 9, .int .u8 13, .int .u8 8, .int .u8 7, .int .u8 6] t frozen
      | o => o).modify 0 fun
      | .cells _ t frozen => .cells #[.int .u64 1, .int .u64 10, .int .u64 100, .int .u64 1000, .int .u64 10000, .int .u64 100000, .int .u64 1000000, .int .u64 10000000, .int .u64 100000000, .int .u64 1000000000, .int .u64 10000000000, .int .u64 100000000000, .int .u64 1000000000000, .int .u64 10000000000000, .int .u64 100000000000000, .int .u64 1000000000000000, .int .u64 10000000000000000, .int .u64 100000000000000000, .int .u64 1000000000000000000, .int .u64 10000000000000000000] t frozen
      | o => o) }
theorem laid_met (os:Os):laidMet Tryd.prog Rows.segmentFailsRow.laid ((laidWorld os).forCall (fun _ _ => 0) ⟨#[], #[.int .u32 0, .int .i64 0, .int .i64 0], []⟩).memory :=
  laidMet_of_run' 8 (by kernel_rfl) (by kernel_rfl)
theorem reads (os:Os) {H:Type} (enc:TypeId×Value->H):∃ places, DataW.whole enc Tryd.prog ((laidWorld os).forCall (fun _ _ => 0) ⟨#[], #[.int .u32 0, .int .i64 0, .int .i64 0], []⟩).memory Tryd.f5.params.toList Rows.segmentFailsSpec.vars false (#[.int .u32 0, .int .i64 0, .int .i64 0]:Array Value).toList 8=some ([.lit (.int .u32 0), .lit (.int .i64 0), .lit (.int .i64 0)], [], places) :=
  ⟨[], by kernel_rfl⟩
theorem lifted (os:Os) (started:os.Started) (H:Type) (enc:TypeId×Value->H) (F:Stop.Interp) :
    ReturnsInHanded {} Tryd.checked os 5 .any ((OpenSpec.ofChange Rows.segmentFailsSpec).preRow enc Tryd.prog Tryd.f5 Rows.segmentFailsRow.domain false Rows.segmentFailsRow.laid) (((OpenSpec.ofChange Rows.segmentFailsSpec).at F).post enc Tryd.prog Tryd.f5 false true false false) := by
  obtain ⟨places, hx⟩ := reads os enc
  refine returnsInHanded_of_row (C := Tryd.checked) (s := OpenSpec.ofChange Rows.segmentFailsSpec) own started (by kernel_rfl) Tryd.func5
    (witness_row_at (enc := enc) (C := Tryd.checked) false (laidWorld os) #[.int .u32 0, .int .i64 0, .int .i64 0] rfl (by kernel_rfl) (by kernel_rfl) (by kernel_rfl)
      (OpenSpec.preRow_of_cond 8 hx (by kernel_rfl) (fun k hk => by cases hk) (by kernel_rfl) (laid_met os))) ?_
  intro W base args ds gs before hval hW _ _ _ hL hsh _
  exact contract H enc W base args ds gs before hval hW hL
theorem said:Rows.SegmentFailsSaid :=
  OpenClaim.holds_of_cond 5 Tryd.f5 rfl rfl rfl rfl rfl rfl rfl ⟨rfl, rfl, rfl, rfl, rfl⟩ rfl rfl rfl rfl rfl (by kernel_rfl) Tryd.func5 closed
    (of_decide_eq_true (by kernel_rfl)) (by unfold Func.isWrapper; first | (rw [if_pos (by decide +kernel)]; kernel_rfl) | (rw [if_neg (by decide +kernel)]; exact ⟨rfl, rfl⟩))
    (fun os started H enc _ F => by rw [OpenClaim.pre_eq_preRow]; exact lifted os started H enc F)
theorem plain (f:FuncId) (fn:Func) (hf:Tryd.pinned.checked.prog.funcNamed "stillroom/stillroomlaw8.SegmentFails" = some f) (hfn:Tryd.pinned.checked.prog.funcs[f]? = some fn) :
    true=Tryd.pinned.checked.prog.looks [] ∧ ∀ (j:Nat) t, fn.params[j]? = some t->Tryd.pinned.checked.prog.wantsStandIn t=false := by
  obtain rfl:f=5 := Option.some.inj ((show Tryd.prog.funcNamed "stillroom/stillroomlaw8.SegmentFails" = some 5 by kernel_rfl).symm.trans hf) |>.symm
  obtain rfl:fn=Tryd.f5 := (Option.some.inj (Tryd.func5.symm.trans hfn)).symm
  refine ⟨by kernel_rfl, fun j t ht => ?_⟩
  rw [Tryd.params5] at ht
  rcases j with _ | _ | _ | j
  · obtain rfl := (Option.some.inj ht:43=t)
    exact (show Tryd.pinned.checked.prog.wantsStandIn 43=false by kernel_rfl)
  · obtain rfl := (Option.some.inj ht:3=t)
    exact (show Tryd.pinned.checked.prog.wantsStandIn 3=false by kernel_rfl)
  · obtain rfl := (Option.some.inj ht:3=t)
    exact (show Tryd.pinned.checked.prog.wantsStandIn 3=false by kernel_rfl)
  · simp at ht
theorem g0:((Tryd.prog.funcs.toList.take 140).all fun fn => !fn.goes)=true := by kernel_rfl
theorem g1:(((Tryd.prog.funcs.toList.drop 140)).all fun fn => !fn.goes)=true := by kernel_rfl
theorem goes:false=Rows.segmentFailsRow.goesBy Tryd.pinned.checked.prog :=
  (Wo (P := Tryd.pinned.checked.prog) (YK 140 g0 (g1)) _).symm
/-- ████ THE CARD ████ -/
theorem proved:Rows.SegmentFailsCardSaid :=
  Claim7.holds_tied_plain_at .later [] _ _ _ _ said (fun _ h => by cases h) (by kernel_rfl) (fun _ h => by cases h) segmentFails_row_tie rfl ⟨rfl, rfl⟩ (by kernel_rfl) rfl plain goes
#print axioms proved
end Go.Proofs.YtdgefeadbcbglaaDoor.segmentFails
