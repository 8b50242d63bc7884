/- Proved: stillroomlaw8.SegmentBad returns true, as its tied card says it. Conditions: the three tables that the row lists hold what the program lays, which the card ties to the program's text; none else. -/
import Derived.Test.YtdgefeadbcbglaaDoorCards
import Derived.Test.YtdgefeadbcbglaaDoorTie
import Derived.WalkKit
import Derived.ProofKit
import Derived.OpenShut
import Derived.Deep.DeepHandedRow
import Derived.KernelRfl
import Derived.Test.YtdgefeadbcbglaaDoorBT
import Derived.Carry
import Derived.Test.YtdgefeadbcbglaaDoorBW
import Derived.Test.YtdgefeadbcbglaaDoorSegmentBadC
namespace Go.Proofs.YtdgefeadbcbglaaDoor.segmentBad
open Go.Ev Go.Ev.YtdgefeadbcbglaaDoor Go.ChangeShapes Go.WideShapes Go.ChangeAt Go.RowKit
set_option maxRecDepth 100000
set_option linter.unusedVariables false
theorem own:ownKnob Tryd.prog.godebug=none := by kernel_rfl
theorem mixed:Tryd.prog.follows .mixedOrders=true := by kernel_rfl
theorem told_u32 {a:Int} (h:(Lit.int .u32 a).wf=true):∃ r, r<4294967296 ∧ ∀ ρ φ, Ap ρ φ (.int .u32 r) (.int .u32 a) := by
  have hb:0≤a∧a<4294967296 := by
    simp [Lit.wf, IntKind.min, IntKind.max, IntKind.signed, IntKind.bits] at h
    omega
  refine ⟨a.toNat, by omega, fun ρ φ => ?_⟩
  simp only [Ap]
  refine ⟨by show _<4294967296; omega, ?_⟩
  rw [Aj (show a.toNat<Hk .u32 by show _<4294967296; omega)]
  congr 1; omega
theorem rel_nilS {ρ:Env} {φ:AO}:Ap ρ φ (.nil .sl) (.slice none 0 0) := by simp only [Ap]; rfl
theorem glHas_gl {w:World} {l:List Nat}:LJ (rhoS (NW w l)) w l := fun b hb c e fr h => TB hb h
theorem walk {w:World} (hT:∀ l:List Nat, 0∈l->HT (NW w l)) (a0:Int) (w0:(Lit.int .u32 a0).wf=true) (sa:Option Addr) (sl sc:Nat) (hs:sl≤sc) (hm:sc≤maxLen) (hop:(sa=none∧sl=0∧sc=0) ∨ ∃ a, sa=some a ∧ ∃ (rs:List Rec) (bl:List Nat), rs.length=sl∧(∀ r∈rs, RecIn r) ∧ ∀ ρ φ, LJ ρ w bl->Ap ρ φ (.oth (.rx (rvRs rs) sl 6)) (.slice (some a) sl sc)) :
    Calls Tryd.prog 4 #[.int .u32 a0, .slice sa sl sc] w fun e w' => e = .returned (.bool true)∧Below w.heap.size w w' := by
  have hmx:maxLen=9223372036854775807 := rfl
  obtain ⟨r0, q0, e0⟩ := told_u32 w0
  rcases hop with ⟨rfl, rfl, rfl⟩ | ⟨a, rfl, rs, bl, rfl, x2, x3⟩
  · exact Mz oneS mixed (tab_ok (hT [0] (by simp))) Tryd.func4 (by kernel_rfl) (by kernel_rfl) (sb_run (rs := []) (.inl ⟨rfl, rfl⟩) (by decide) (fun r h => by cases h) q0) (Aq.2 ⟨_, _, rfl, e0 _ _, Aq.2 ⟨_, _, rfl, rel_nilS, Aw.2 rfl⟩⟩) w RJ
  · exact Mz oneS mixed (tab_ok (hT (0::bl) (by simp))) Tryd.func4 (by kernel_rfl) (by kernel_rfl) (sb_run (rs := rs) (.inr rfl) (by omega) x2 q0) (Aq.2 ⟨_, _, rfl, e0 _ _, Aq.2 ⟨_, _, rfl, x3 _ _ (glHas_gl.sub fun b hb => List.mem_cons_of_mem _ hb), Aw.2 rfl⟩⟩) w RJ
theorem gTab:Tryd.prog.globalNamed "internal/strconv.uint64pow10" = some 0 := by kernel_rfl
theorem gType:(Tryd.prog.globals[0]?).map (·.type)=some 161 := by kernel_rfl
theorem cellsA:Tryd.prog.cellsOf 161=20 := by kernel_rfl
theorem cellsE:Tryd.prog.cellsOf 50=1 := by kernel_rfl
theorem tabData_eq:(Rows.laid_internal_strconv_uint64pow10:DataW Unit)=Lib.tabData .u64 Lib.pow10Tab := by kernel_rfl
theorem table {W:World} (h:laidMetH Tryd.prog Rows.segmentBadRow.laid W):Lib.TabIs Tryd.prog W "internal/strconv.uint64pow10" .u64 Lib.pow10Tab :=
  NP (l := Rows.segmentBadRow.laid) gTab gType Tryd.underlying161 Tryd.underlying50 cellsE cellsA (by rw [←tabData_eq]; exact .tail _ (.tail _ (.head _))) h
theorem contract (H:Type) (enc:TypeId×Value->H) (W:World) (base:Nat) (args:Array Value) (ds gs:List (DataW H)) (before:List MemPlace)
    (hval:∀ (j:Nat) t v, Tryd.f4.params[j]? = some t->args[j]? = some v->Value.okWide Tryd.prog W .any base t v)
    (hW:DataW.Whole enc Tryd.prog Tryd.f4.params.toList Rows.segmentBadSpec.vars false W args.toList ds gs before) (hL:laidMetH Tryd.prog Rows.segmentBadRow.laid W) :
    Calls Tryd.prog 4 args W fun e W' => ∃ v, e = .returned v∧Rows.segmentBadSpec.post enc Tryd.prog Tryd.f4 false true false false W args v W' := by
  have hW' := hW
  have hlt := fun p (hp:p∈before) => hW.lt p hp
  obtain ⟨p, q, hA0, hV, rfl, hfz, hnd⟩ := hW
  have hA:DataW.TrodAll enc Tryd.prog W 0 (fun _ => true) true Tryd.f4.params.toList args.toList ds p := hA0
  rw [Tryd.params4] at hA hval
  obtain ⟨v0, vs0, d0, ds0, p0, q0, hargs, rfl, rfl, h0, r0⟩ := trodAll_cons hA
  obtain ⟨v1, vs1, d1, ds1, p1, q1, rfl, rfl, rfl, h1, r1⟩ := trodAll_cons r0
  obtain ⟨rfl, rfl, rfl⟩ := trodAll_nil r1
  obtain rfl:args = #[v0, v1] := by cases args; simp_all
  obtain ⟨rfl, rfl⟩ := trodVars_none hV
  obtain ⟨a0, rfl, rfl, rfl, w0⟩ := open_int Tryd.underlying43 (hval 0 43 v0 rfl rfl) h0
  obtain ⟨sa1, sl1, sc1, rfl⟩ := okWide_slice Tryd.underlying44 (hval 1 44 v1 rfl rfl)
  have hs1:sl1≤sc1∧sc1≤maxLen := by
    obtain ⟨fuel, hf⟩ := h1
    rcases DataW.trod_slice Tryd.underlying44 hf with hz | ⟨a, len, cap, elems, rest, n, _, hc, _, _, hl, hm, _⟩
    · have := hz.1
      simp [Value.cells] at this
      obtain ⟨_, rfl, rfl⟩ := this
      exact ⟨Nat.le_refl _, Nat.zero_le _⟩
    · simp [Value.cells] at hc
      obtain ⟨_, rfl, rfl⟩ := hc
      exact ⟨hl, hm⟩
  have hop1:(sa1=none∧sl1=0∧sc1=0) ∨ ∃ a, sa1=some a ∧ ∃ (rs:List Rec) (bl:List Nat), rs.length=sl1∧(∀ r∈rs, RecIn r) ∧ ∀ ρ φ, LJ ρ W bl->Ap ρ φ (.oth (.rx (rvRs rs) sl1 6)) (.slice (some a) sl1 sc1) := by
    obtain ⟨fuel, hf⟩ := h1
    rcases open_rr Tryd.underlying44 (by kernel_rfl) Tryd.underlying52 rfl rfl rfl rfl rfl rfl Tryd.underlying3 Tryd.underlying43 Tryd.underlying50 Tryd.underlying50 Tryd.underlying50 Tryd.underlying9 (by kernel_rfl) (by kernel_rfl) (by kernel_rfl) (by kernel_rfl) (by kernel_rfl) (by kernel_rfl) hf with hz | ⟨a, len, cap, hc, hl, rs, bl, x1, x2, x3⟩
    · simp [Value.cells] at hz
      obtain ⟨rfl, rfl, rfl⟩ := hz
      exact .inl ⟨rfl, rfl, rfl⟩
    · simp [Value.cells] at hc
      obtain ⟨rfl, rfl, rfl⟩ := hc
      exact .inr ⟨a, rfl, rs, bl, x1, x2, x3⟩
  clear hA0
  simp only [List.append_nil, List.nil_append] at hW' hlt
  refine (walk (fun l hl => Qt.of (l := l) gTab hl (table hL)) a0 w0 sa1 sl1 sc1 hs1.1 hs1.2 hop1).mono fun e W' ⟨he, hg⟩ => ?_
  subst he
  exact ⟨_, rfl, M8 (pa := []++(p1++([]))) (pv := []) hW' (fun _ _ _ => (trodAll_cons_mk (shut_bool Tryd.underlying4 _) trodAll_mk0)) (fun sp hsp => (trodAll_cons_mk (shut_int Tryd.underlying43 w0) (trodAll_cons_mk (Go.WideElems.Trod_stays (by kernel_rfl) (by kernel_rfl) (of_decide_eq_true (by kernel_rfl)) h1 (fun x hx => hg.same (hlt x hx)) hsp) trodAll_mk0))) (fun _ _ => rfl) (by simp) hg (ok_one (by kernel_rfl) rfl (okWide_bool_mk Tryd.underlying4 _))⟩
noncomputable def laidWorld (os:Os):World :=
  { World.holding Tryd.prog os ⟨#[], #[], []⟩ with heap := ((((World.holding Tryd.prog os ⟨#[], #[], []⟩).heap.modify 1 fun
      | .cells _ t frozen => .cells #[.int .u8 0, .int .u8 1, .int .u8 28, .int .u8 2, .int .u8 29, .int .u8 14, .int .u8 24, .int .u8 3, .int .u8 30, .int .u8 22, .int .u8 20, .int .u8 15, .int .u8 25, .int .u8 17, .int .u8 4, .int .u8 8, .int .u8 31, .int .u8 27, .int .u8 13, .int .u8 23, .int .u8 21, .int .u8 19, .int .u8 16, .int .u8 7, .int .u8 26, .int .u8 12, .int .u8 18, .int .u8 6, .int .u8 11, .int .u8 5, .int .u8 10, .int .u8 9] t frozen
      | o => o).modify 2 fun
      | .cells _ t frozen => .cells #[.int .u8 0, .int .u8 1, .int .u8 56, .int .u8 2, .int .u8 57, .int .u8 49, .int .u8 28, .int .u8 3, .int .u8 61, .int .u8 58, .int .u8 42, .int .u8 50, .int .u8 38, .int .u8 29, .int .u8 17, .int .u8 4, .int .u8 62, .int .u8 47, .int .u8 59, .int .u8 36, .int .u8 45, .int .u8 43, .int .u8 51, .int .u8 22, .int .u8 53, .int .u8 39, .int .u8 33, .int .u8 30, .int .u8 24, .int .u8 18, .int .u8 12, .int .u8 5, .int .u8 63, .int .u8 55, .int .u8 48, .int .u8 27, .int .u8 60, .int .u8 41, .int .u8 37, .int .u8 16, .int .u8 46, .int .u8 35, .int .u8 44, .int .u8 21, .int .u8 52, .int .u8 32, .int .u8 23, .int .u8 11, .int .u8 54, .int .u8 26, .int .u8 40, .int .u8 15, .int .u8 34, .int .u8 20, .int .u8 31, .int .u8 10, .int .u8 25, .int .u8 14, .int .u8 19, .int .u8 9, .int .u8 13, .int .u8 8, .int .u8 7, .int .u8 6] t frozen
      | o => o).modify 0 fun
      | .cells _ t frozen => .cells #[.int .u64 1, .int .u64 10, .int .u64 100, .int .u64 1000, .int .u64 10000, .int .u64 100000, .int .u64 1000000, .int .u64 10000000, .int .u64 100000000, .int .u64 1000000000, .int .u64 10000000000, .int .u64 100000000000, .int .u64 1000000000000, .int .u64 10000000000000, .int .u64 100000000000000, .int .u64 1000000000000000, .int .u64 10000000000000000, .int .u64 100000000000000000, .int .u64 1000000000000000000, .int .u64 10000000000000000000] t frozen
      | o => o) }
theorem laid_met (os:Os):laidMet Tryd.prog Rows.segmentBadRow.laid ((laidWorld os).forCall (fun _ _ => 0) ⟨#[], #[.int .u32 0, .slice none 0 0], []⟩).memory :=
  laidMet_of_run' 8 (by kernel_rfl) (by kernel_rfl)
theorem reads (os:Os) {H:Type} (enc:TypeId×Value->H):∃ places, DataW.whole enc Tryd.prog ((laidWorld os).forCall (fun _ _ => 0) ⟨#[], #[.int .u32 0, .slice none 0 0], []⟩).memory Tryd.f4.params.toList Rows.segmentBadSpec.vars false (#[.int .u32 0, .slice none 0 0]:Array Value).toList 8=some ([.lit (.int .u32 0), .nil], [], places) :=
  ⟨[], by kernel_rfl⟩
theorem lifted (os:Os) (started:os.Started) (H:Type) (enc:TypeId×Value->H) (F:Stop.Interp) :
    ReturnsInHanded {} Tryd.checked os 4 .any ((OpenSpec.ofChange Rows.segmentBadSpec).preRow enc Tryd.prog Tryd.f4 Rows.segmentBadRow.domain false Rows.segmentBadRow.laid) (((OpenSpec.ofChange Rows.segmentBadSpec).at F).post enc Tryd.prog Tryd.f4 false true false false) := by
  obtain ⟨places, hx⟩ := reads os enc
  refine returnsInHanded_of_row (C := Tryd.checked) (s := OpenSpec.ofChange Rows.segmentBadSpec) own started (by kernel_rfl) Tryd.func4
    (witness_row_at (enc := enc) (C := Tryd.checked) false (laidWorld os) #[.int .u32 0, .slice none 0 0] rfl (by kernel_rfl) (by kernel_rfl) (by kernel_rfl)
      (OpenSpec.preRow_of_cond 8 hx (by kernel_rfl) (fun k hk => by cases hk) (by kernel_rfl) (laid_met os))) ?_
  intro W base args ds gs before hval hW _ _ _ hL hsh _
  exact contract H enc W base args ds gs before hval hW hL
theorem said:Rows.SegmentBadSaid :=
  OpenClaim.holds_of_cond 4 Tryd.f4 rfl rfl rfl rfl rfl rfl rfl ⟨rfl, rfl, rfl, rfl, rfl⟩ rfl rfl rfl rfl rfl (by kernel_rfl) Tryd.func4 closed
    (of_decide_eq_true (by kernel_rfl)) (by unfold Func.isWrapper; first | (rw [if_pos (by decide +kernel)]; kernel_rfl) | (rw [if_neg (by decide +kernel)]; exact ⟨rfl, rfl⟩))
    (fun os started H enc _ F => by rw [OpenClaim.pre_eq_preRow]; exact lifted os started H enc F)
theorem plain (f:FuncId) (fn:Func) (hf:Tryd.pinned.checked.prog.funcNamed "stillroom/stillroomlaw8.SegmentBad" = some f) (hfn:Tryd.pinned.checked.prog.funcs[f]? = some fn) :
    true=Tryd.pinned.checked.prog.looks [] ∧ ∀ (j:Nat) t, fn.params[j]? = some t->Tryd.pinned.checked.prog.wantsStandIn t=false := by
  obtain rfl:f=4 := Option.some.inj ((show Tryd.prog.funcNamed "stillroom/stillroomlaw8.SegmentBad" = some 4 by kernel_rfl).symm.trans hf) |>.symm
  obtain rfl:fn=Tryd.f4 := (Option.some.inj (Tryd.func4.symm.trans hfn)).symm
  refine ⟨by kernel_rfl, fun j t ht => ?_⟩
  rw [Tryd.params4] at ht
  rcases j with _ | _ | j
  · obtain rfl := (Option.some.inj ht:43=t)
    exact (show Tryd.pinned.checked.prog.wantsStandIn 43=false by kernel_rfl)
  · obtain rfl := (Option.some.inj ht:44=t)
    exact (show Tryd.pinned.checked.prog.wantsStandIn 44=false by kernel_rfl)
  · simp at ht
theorem g0:((Tryd.prog.funcs.toList.take 140).all fun fn => !fn.goes)=true := by kernel_rfl
theorem g1:(((Tryd.prog.funcs.toList.drop 140)).all fun fn => !fn.goes)=true := by kernel_rfl
theorem goes:false=Rows.segmentBadRow.goesBy Tryd.pinned.checked.prog :=
  (X4 (P := Tryd.pinned.checked.prog) (Yx 140 g0 (g1)) _).symm
/-- ████ THE CARD ████ -/
theorem proved:Rows.SegmentBadCardSaid :=
  Claim7.holds_tied_plain_at .later [] _ _ _ _ said (fun _ h => by cases h) (by kernel_rfl) (fun _ h => by cases h) segmentBad_row_tie rfl ⟨rfl, rfl⟩ (by kernel_rfl) rfl plain goes
#print axioms proved
end Go.Proofs.YtdgefeadbcbglaaDoor.segmentBad
