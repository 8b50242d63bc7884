/- Proved: stillroomlaw18.MessageMany returns true, as its tied card says it. Conditions: the tables that the row lists hold what the program lays, which the card ties to the program's text; none else. -/
import Derived.Test.YtdgefeadbcbglaaDoorCards
import Derived.Test.YtdgefeadbcbglaaDoorTie
import Derived.WalkKit
import Derived.ProofKit
import Derived.OpenShut
import Derived.Deep.DeepHandedRow
import Derived.KernelRfl
import Derived.Test.YtdgefeadbcbglaaDoorMT
import Derived.Carry
import Derived.Test.YtdgefeadbcbglaaDoorMW
import Derived.Test.YtdgefeadbcbglaaDoorMessageManyC
namespace Go.Proofs.YtdgefeadbcbglaaDoor.messageMany
open Go.Ev Go.Ev.YtdgefeadbcbglaaDoor Go.ChangeShapes Go.WideShapes Go.ChangeAt Go.RowKit
set_option maxRecDepth 100000
set_option linter.unusedVariables false
theorem own:ownKnob Tryd.prog.godebug=none := by kernel_rfl
theorem mixed:Tryd.prog.follows .mixedOrders=true := by kernel_rfl
theorem told_i64 {a:Int} (h:(Lit.int .i64 a).wf=true):∃ r, r<18446744073709551616 ∧ ∀ ρ φ, As ρ φ (.int .i64 r) (.int .i64 a) := by
  have hb := WV h
  rcases Int.lt_or_le a 0 with hn | hn
  · refine ⟨(a+18446744073709551616).toNat, by omega, fun ρ φ => ?_⟩
    simp only [As]
    refine ⟨by show _<18446744073709551616; omega, ?_⟩
    rw [CA (show ¬ (a+18446744073709551616).toNat<Hk .i64 by show ¬ _<9223372036854775808; omega)]
    congr 1
    show a=((a+18446744073709551616).toNat:Int) - (18446744073709551616:Nat); omega
  · refine ⟨a.toNat, by omega, fun ρ φ => ?_⟩
    simp only [As]
    refine ⟨by show _<18446744073709551616; omega, ?_⟩
    rw [Ao (show a.toNat<Hk .i64 by show _<9223372036854775808; omega)]
    congr 1; omega
theorem rel_nilS {ρ:Env} {φ:AT}:As ρ φ (.nil .sl) (.slice none 0 0) := by simp only [As]; rfl
theorem walk {w:World} (a0:Int) (w0:(Lit.int .i64 a0).wf=true) (sa:Option Addr) (sl sc:Nat) (hs:sl≤sc) (hm:sc≤maxLen) (hop:(sa=none∧sl=0∧sc=0) ∨ ∃ a, sa=some a ∧ ∃ (l:List Bool) (bl:List Nat), l.length=sl ∧ ∀ ρ φ, H8 ρ w bl->As ρ φ (.oth (.rx (l.map RV.b) sl 1)) (.slice (some a) sl sc)) :
    Calls Tryd.prog 3 #[.int .i64 a0, .slice sa sl sc] w fun e w' => e = .returned (.bool true)∧Below w.heap.size w w' := by
  have hmx:maxLen=9223372036854775807 := rfl
  obtain ⟨r, hr, rr⟩ := told_i64 w0
  rcases hop with ⟨rfl, rfl, rfl⟩ | ⟨a, rfl, l, bl, rfl, x3⟩
  · exact ML (oneS (v := fun _ => .bool true) (gl := fun _ => none) fun _ => rfl) mixed tab_ok Tryd.func3 (by kernel_rfl) (by kernel_rfl)  (mm_run (l := []) (.inl ⟨rfl, rfl⟩) (by decide) hr) (Aw.2 ⟨_, _, rfl, rr _ _, Aw.2 ⟨_, _, rfl, rel_nilS, AF.2 rfl⟩⟩) w
  · exact ML (oneS (v := fun _ => .bool true) (gl := Ll w bl) fun _ => rfl) mixed tab_ok Tryd.func3 (by kernel_rfl) (by kernel_rfl)  (mm_run (l := l) (.inr rfl) (by omega) hr) (Aw.2 ⟨_, _, rfl, rr _ _, Aw.2 ⟨_, _, rfl, x3 _ _ TB, AF.2 rfl⟩⟩) w Tm
theorem contract (H:Type) (enc:TypeId×Value->H) (W:World) (base:Nat) (args:Array Value) (ds gs:List (DataW H)) (before:List MemPlace)
    (hval:∀ (j:Nat) t v, Tryd.f3.params[j]? = some t->args[j]? = some v->Value.okWide Tryd.prog W .any base t v)
    (hW:DataW.Whole enc Tryd.prog Tryd.f3.params.toList Rows.messageManySpec.vars false W args.toList ds gs before) :
    Calls Tryd.prog 3 args W fun e W' => ∃ v, e = .returned v∧Rows.messageManySpec.post enc Tryd.prog Tryd.f3 false true false false W args v W' := by
  have hW' := hW
  have hlt := fun p (hp:p∈before) => hW.lt p hp
  obtain ⟨p, q, hA0, hV, rfl, hfz, hnd⟩ := hW
  have hA:DataW.TrodAll enc Tryd.prog W 0 (fun _ => true) true Tryd.f3.params.toList args.toList ds p := hA0
  rw [Tryd.params3] at hA hval
  obtain ⟨v0, vs0, d0, ds0, p0, q0, hargs, rfl, rfl, h0, r0⟩ := trodAll_cons hA
  obtain ⟨v1, vs1, d1, ds1, p1, q1, rfl, rfl, rfl, h1, r1⟩ := trodAll_cons r0
  obtain ⟨rfl, rfl, rfl⟩ := trodAll_nil r1
  obtain rfl:args = #[v0, v1] := by cases args; simp_all
  obtain ⟨rfl, rfl⟩ := trodVars_none hV
  obtain ⟨a0, rfl, rfl, rfl, w0⟩ := open_int Tryd.underlying3 (hval 0 3 v0 rfl rfl) h0
  obtain ⟨sa1, sl1, sc1, rfl⟩ := okWide_slice Tryd.underlying22 (hval 1 22 v1 rfl rfl)
  have hs1:sl1≤sc1∧sc1≤maxLen := by
    obtain ⟨fuel, hf⟩ := h1
    rcases DataW.trod_slice Tryd.underlying22 hf with hz | ⟨a, len, cap, elems, rest, n, _, hc, _, _, hl, hm, _⟩
    · have := hz.1
      simp [Value.cells] at this
      obtain ⟨_, rfl, rfl⟩ := this
      exact ⟨Nat.le_refl _, Nat.zero_le _⟩
    · simp [Value.cells] at hc
      obtain ⟨_, rfl, rfl⟩ := hc
      exact ⟨hl, hm⟩
  have hop1:(sa1=none∧sl1=0∧sc1=0) ∨ ∃ a, sa1=some a ∧ ∃ (l:List Bool) (bl:List Nat), l.length=sl1 ∧ ∀ ρ φ, H8 ρ W bl->As ρ φ (.oth (.rx (l.map RV.b) sl1 1)) (.slice (some a) sl1 sc1) := by
    obtain ⟨fuel, hf⟩ := h1
    rcases Uq Tryd.underlying22 Tryd.underlying4 (by kernel_rfl) hf with hz | ⟨a, len, cap, hc, hl, l, bl, x1, x2⟩
    · simp [Value.cells] at hz
      obtain ⟨rfl, rfl, rfl⟩ := hz
      exact .inl ⟨rfl, rfl, rfl⟩
    · simp [Value.cells] at hc
      obtain ⟨rfl, rfl, rfl⟩ := hc
      exact .inr ⟨a, rfl, l, bl, x1, x2⟩
  clear hA0
  simp only [List.append_nil, List.nil_append] at hW' hlt
  refine (walk a0 w0 sa1 sl1 sc1 hs1.1 hs1.2 hop1).mono fun e W' ⟨he, hg⟩ => ?_
  subst he
  exact ⟨_, rfl, Lk (pa := []++(p1++([]))) (pv := []) hW' (fun _ _ _ => (trodAll_cons_mk (shut_bool Tryd.underlying4 _) trodAll_mk0)) (fun sp hsp => (trodAll_cons_mk (shut_int Tryd.underlying3 w0) (trodAll_cons_mk (Go.WideElems.Trod_stays (by kernel_rfl) (by kernel_rfl) (of_decide_eq_true (by kernel_rfl)) h1 (fun x hx => hg.same (hlt x hx)) hsp) trodAll_mk0))) (fun _ _ => rfl) (by simp) hg (ok_one (by kernel_rfl) rfl (okWide_bool_mk Tryd.underlying4 _))⟩
noncomputable def laidWorld (os:Os):World :=
  { World.holding Tryd.prog os ⟨#[], #[], []⟩ with heap := (((World.holding Tryd.prog os ⟨#[], #[], []⟩).heap.modify 5 fun
      | .cells _ t frozen => .cells #[.int .u8 128, .int .u8 191, .int .u8 160, .int .u8 191, .int .u8 128, .int .u8 159, .int .u8 144, .int .u8 191, .int .u8 128, .int .u8 143, .int .u8 0, .int .u8 0, .int .u8 0, .int .u8 0, .int .u8 0, .int .u8 0, .int .u8 0, .int .u8 0, .int .u8 0, .int .u8 0, .int .u8 0, .int .u8 0, .int .u8 0, .int .u8 0, .int .u8 0, .int .u8 0, .int .u8 0, .int .u8 0, .int .u8 0, .int .u8 0, .int .u8 0, .int .u8 0] t frozen
      | o => o).modify 4 fun
      | .cells _ t frozen => .cells (Pinned.utf8FirstZ.map fun (n:Nat) => Value.int .u8 (n:Int)).toArray t frozen
      | o => o) }
theorem laid_met (os:Os):laidMet Tryd.prog Rows.messageManyRow.laid ((laidWorld os).forCall (fun _ _ => 0) ⟨#[], #[.int .i64 0, .slice none 0 0], []⟩).memory :=
  laidMet_of_run' 8 (by kernel_rfl) (by kernel_rfl)
theorem reads (os:Os) {H:Type} (enc:TypeId×Value->H):∃ places, DataW.whole enc Tryd.prog ((laidWorld os).forCall (fun _ _ => 0) ⟨#[], #[.int .i64 0, .slice none 0 0], []⟩).memory Tryd.f3.params.toList Rows.messageManySpec.vars false (#[.int .i64 0, .slice none 0 0]:Array Value).toList 8=some ([.lit (.int .i64 0), .nil], [], places) :=
  ⟨[], by kernel_rfl⟩
theorem lifted (os:Os) (started:os.Started) (H:Type) (enc:TypeId×Value->H) (F:Stop.Interp) :
    ReturnsInHanded {} Tryd.checked os 3 .any ((OpenSpec.ofChange Rows.messageManySpec).preRow enc Tryd.prog Tryd.f3 Rows.messageManyRow.domain false Rows.messageManyRow.laid) (((OpenSpec.ofChange Rows.messageManySpec).at F).post enc Tryd.prog Tryd.f3 false true false false) := by
  obtain ⟨places, hx⟩ := reads os enc
  refine returnsInHanded_of_row (C := Tryd.checked) (s := OpenSpec.ofChange Rows.messageManySpec) own started (by kernel_rfl) Tryd.func3
    (witness_row_at (enc := enc) (C := Tryd.checked) false (laidWorld os) #[.int .i64 0, .slice none 0 0] rfl (by kernel_rfl) (by kernel_rfl) (by kernel_rfl)
      (OpenSpec.preRow_of_cond 8 hx (by kernel_rfl) (fun k hk => by cases hk) (by kernel_rfl) (laid_met os))) ?_
  intro W base args ds gs before hval hW _ _ _ hL hsh _
  exact contract H enc W base args ds gs before hval hW
theorem said:Rows.MessageManySaid :=
  OpenClaim.holds_of_cond 3 Tryd.f3 rfl rfl rfl rfl rfl rfl rfl ⟨rfl, rfl, rfl, rfl, rfl⟩ rfl rfl rfl rfl rfl (by kernel_rfl) Tryd.func3 closed
    (of_decide_eq_true (by kernel_rfl)) (by unfold Func.isWrapper; first | (rw [if_pos (by decide +kernel)]; kernel_rfl) | (rw [if_neg (by decide +kernel)]; exact ⟨rfl, rfl⟩))
    (fun os started H enc _ F => by rw [OpenClaim.pre_eq_preRow]; exact lifted os started H enc F)
theorem plain (f:FuncId) (fn:Func) (hf:Tryd.pinned.checked.prog.funcNamed "stillroom/stillroomlaw18.MessageMany" = some f) (hfn:Tryd.pinned.checked.prog.funcs[f]? = some fn) :
    true=Tryd.pinned.checked.prog.looks [] ∧ ∀ (j:Nat) t, fn.params[j]? = some t->Tryd.pinned.checked.prog.wantsStandIn t=false := by
  obtain rfl:f=3 := Option.some.inj ((show Tryd.prog.funcNamed "stillroom/stillroomlaw18.MessageMany" = some 3 by kernel_rfl).symm.trans hf) |>.symm
  obtain rfl:fn=Tryd.f3 := (Option.some.inj (Tryd.func3.symm.trans hfn)).symm
  refine ⟨by kernel_rfl, fun j t ht => ?_⟩
  rw [Tryd.params3] at ht
  rcases j with _ | _ | j
  · obtain rfl := (Option.some.inj ht:3=t)
    exact (show Tryd.pinned.checked.prog.wantsStandIn 3=false by kernel_rfl)
  · obtain rfl := (Option.some.inj ht:22=t)
    exact (show Tryd.pinned.checked.prog.wantsStandIn 22=false by kernel_rfl)
  · simp at ht
theorem g0:((Tryd.prog.funcs.toList.take 140).all fun fn => !fn.goes)=true := by kernel_rfl
theorem g1:(((Tryd.prog.funcs.toList.drop 140)).all fun fn => !fn.goes)=true := by kernel_rfl
theorem goes:false=Rows.messageManyRow.goesBy Tryd.pinned.checked.prog :=
  (V9 (P := Tryd.pinned.checked.prog) (Ww 140 g0 (g1)) _).symm
/-- ████ THE CARD ████ -/
theorem proved:Rows.MessageManyCardSaid :=
  Claim7.holds_tied_plain_at .later [] _ _ _ _ said (fun _ h => by cases h) (by kernel_rfl) (fun _ h => by cases h) messageMany_row_tie rfl ⟨rfl, rfl⟩ (by kernel_rfl) rfl plain goes
#print axioms proved
end Go.Proofs.YtdgefeadbcbglaaDoor.messageMany
