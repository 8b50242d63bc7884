/- Proved: stillroomlaw9.ManifestMany returns true for all its arguments, and its arguments read afterwards as before. Conditions: none beyond those of the given row. -/
import Derived.Test.YtdgefeadbcbglaaRows
import Derived.WalkKit
import Derived.ProofKit
import Derived.OpenShut
import Derived.Carry
import Derived.KernelRfl
import Derived.Test.YtdgefeadbcbglaaMW
namespace Go.Proofs.Ytdgefeadbcbglaa.manifestMany
open Go.Ev Go.Ev.Ytdgefeadbcbglaa Go.ChangeShapes Go.WideShapes Go.ChangeAt Go.RowKit
set_option maxRecDepth 100000
set_option linter.unusedVariables false
set_option linter.unusedSimpArgs false
theorem own:ownKnob Try.prog.godebug=none := by kernel_rfl
theorem mixed:Try.prog.follows .mixedOrders=true := by kernel_rfl
theorem rel_any {ρ:Env} {φ:AS} {v:Value}:As ρ φ (.oth .any) v := by simp only [As]
theorem rel_nilS {ρ:Env} {φ:AS}:As ρ φ (.nil .sl) (.slice none 0 0) := by simp only [As]; rfl
theorem told_i64 {a:Int} (h:(Lit.int .i64 a).wf=true):∃ r, r<18446744073709551616 ∧ ∀ ρ φ, As ρ φ (.int .i64 r) (.int .i64 a) := by
  have hb := U3 h
  rcases Int.lt_or_le a 0 with hn | hn
  · refine ⟨(a+18446744073709551616).toNat, by omega, fun ρ φ => ?_⟩
    simp only [As]
    refine ⟨by show _<18446744073709551616; omega, ?_⟩
    rw [Cz (show ¬ (a+18446744073709551616).toNat<Hk .i64 by show ¬ _<9223372036854775808; omega)]
    congr 1
    show a=((a+18446744073709551616).toNat:Int) - (18446744073709551616:Nat); omega
  · refine ⟨a.toNat, by omega, fun ρ φ => ?_⟩
    simp only [As]
    refine ⟨by show _<18446744073709551616; omega, ?_⟩
    rw [Ap (show a.toNat<Hk .i64 by show _<9223372036854775808; omega)]
    congr 1; omega
theorem walk (w:World) (a0:Int) (w0:(Lit.int .i64 a0).wf=true) (ia:Value) (hi:ia = .slice none 0 0 ∨ ∃ a len cap, ia = .slice (some a) len cap∧len≤maxLen ∧ ∃ (l:List Nat) (bl:List Nat), l.length=len∧(∀ o∈l, o<18446744073709551616) ∧
      ∀ ρ φ, GZ ρ w bl->As ρ φ (.oth (.rx (l.map (RV.i .i64)) len 1)) (.slice (some a) len cap)) :
    Calls Try.prog 7 #[.int .i64 a0, ia] w fun e w' => e = .returned (.bool true)∧Below w.heap.size w w' := by
  have hmx:maxLen=9223372036854775807 := rfl
  obtain ⟨r, hr, rr⟩ := told_i64 w0
  rcases Nat.lt_or_ge 10 r with h10 | h10
  · exact JA (oneS (v := fun _ => .bool true) (gl := fun _ => none) fun _ => rfl) mixed tab_ok Try.func7 (by kernel_rfl) (by kernel_rfl)  (many_neg (fv := .oth .any) h10 hr) (Aw.2 ⟨_, _, rfl, rr _ _, Aw.2 ⟨_, _, rfl, rel_any, Az.2 rfl⟩⟩) w
  · rcases hi with rfl | ⟨a', len', cap', rfl, hl', fs, bl', rfl, hb', hrel'⟩
    · exact JA (oneS (v := fun _ => .bool true) (gl := fun _ => none) fun _ => rfl) mixed tab_ok Try.func7 (by kernel_rfl) (by kernel_rfl)  (many_run (fs := []) h10 (.inl ⟨rfl, rfl⟩) (by decide) (fun r hr => by cases hr)) (Aw.2 ⟨_, _, rfl, rr _ _, Aw.2 ⟨_, _, rfl, rel_nilS, Az.2 rfl⟩⟩) w
    · exact JA (oneS (v := fun _ => .bool true) (gl := LQ w bl') fun _ => rfl) mixed tab_ok Try.func7 (by kernel_rfl) (by kernel_rfl)  (many_run h10 (.inr rfl) (by omega) hb') (Aw.2 ⟨_, _, rfl, rr _ _, Aw.2 ⟨_, _, rfl, hrel' _ _ Ve, Az.2 rfl⟩⟩) w W9
set_option maxRecDepth 100000 in
theorem lifted (os:Os) (started:os.Started) (H:Type) (enc:TypeId×Value->H) :
    ReturnsInHanded {} Try.checked os 7 .any (Rows.manifestManySpec.pre6 enc Try.prog Try.f7 Rows.manifestManyRow.domain false) (Rows.manifestManySpec.post enc Try.prog Try.f7 false true false false) := by
  refine returnsInHanded_of_change (C := Try.checked) own started (by kernel_rfl) Try.func7
    (ChangeSpec.witness6 (enc := enc) (C := Try.checked) false ⟨#[], #[.int .i64 0, .slice none 0 0], []⟩ 8 (by kernel_rfl) (by kernel_rfl) (by kernel_rfl) (by kernel_rfl)) ?_
  intro W base args ds gs before hval0 hW hcnd _
  have hval:∀ (j:Nat) t v, Try.f7.params[j]? = some t->args[j]? = some v->Value.okWide Try.prog W .any base t v := hval0
  have hW' := hW
  have hlt := fun p (hp:p∈before) => hW.lt p hp
  obtain ⟨p, q, hA0, hV, rfl, hfz, hnd⟩ := hW
  have hA:DataW.TrodAll enc Try.prog W 0 (fun _ => true) true Try.f7.params.toList args.toList ds p := hA0
  rw [Try.params7] at hA hval
  obtain ⟨v0, vs0, d0, ds0, p0, q0, hargs, rfl, rfl, h0, r0⟩ := trodAll_cons hA
  obtain ⟨v1, vs1, d1, ds1, p1, q1, rfl, rfl, rfl, h1, r1⟩ := trodAll_cons r0
  obtain ⟨rfl, rfl, rfl⟩ := trodAll_nil r1
  obtain rfl:args = #[v0, v1] := by cases args; simp_all
  obtain ⟨rfl, rfl⟩ := trodVars_none hV
  obtain ⟨a0, rfl, rfl, rfl, w0⟩ := open_int Try.underlying3 (hval 0 3 v0 rfl rfl) h0
  obtain ⟨ia, il, ic, rfl⟩ := okWide_slice Try.underlying72 (hval 1 72 v1 rfl rfl)
  have hi:Value.slice ia il ic = .slice none 0 0 ∨ ∃ a len cap, Value.slice ia il ic = .slice (some a) len cap∧len≤maxLen ∧ ∃ (l:List Nat) (bl:List Nat), l.length=len∧(∀ o∈l, o<18446744073709551616) ∧
      ∀ ρ φ, GZ ρ W bl->As ρ φ (.oth (.rx (l.map (RV.i .i64)) len 1)) (.slice (some a) len cap) := by
    obtain ⟨fuel, hf⟩ := h1
    rcases Xn Try.underlying72 Try.underlying2 (by kernel_rfl) hf with hc | ⟨a, len, cap, hc, hl, hx⟩
    · simp [Value.cells] at hc
      obtain ⟨rfl, rfl, rfl⟩ := hc
      exact .inl rfl
    · simp [Value.cells] at hc
      obtain ⟨rfl, rfl, rfl⟩ := hc
      exact .inr ⟨a, il, ic, rfl, hl, hx⟩
  clear hA0 hval0
  simp only [List.append_nil, List.nil_append] at hW' hlt
  refine (walk W a0 w0 _ hi).mono fun e W' ⟨he, hg⟩ => ?_
  subst he
  exact ⟨_, rfl, M9 (pa := []++(p1++[])) (pv := []) hW' (fun _ _ _ => (trodAll_cons_mk (shut_bool Try.underlying4 _) trodAll_mk0)) (fun sp hsp => (trodAll_cons_mk (shut_int Try.underlying3 w0) (trodAll_cons_mk (Go.WideElems.Trod_stays (by kernel_rfl) (by kernel_rfl) (of_decide_eq_true (by kernel_rfl)) h1 (fun x hx => hg.same (hlt x (by simpa using hx))) (fun x hx => hsp x (by simpa using hx))) trodAll_mk0))) (fun _ _ => rfl) (by simp)
    hg (ok_one (by kernel_rfl) rfl (okWide_bool_mk Try.underlying4 _))⟩
theorem over:Rows.manifestManyRow.holds Try.pinned (OpenSpec.ofChange Rows.manifestManySpec) :=
  OpenClaim.holds_of_wide 7 Try.f7 rfl rfl rfl rfl rfl rfl rfl ⟨rfl, rfl, rfl, rfl, rfl⟩ rfl rfl rfl rfl rfl (by kernel_rfl) Try.func7 (by kernel_rfl)
    (of_decide_eq_true (by kernel_rfl)) (by unfold Func.isWrapper; first | (rw [if_pos (by decide +kernel)]; kernel_rfl) | (rw [if_neg (by decide +kernel)]; exact ⟨rfl, rfl⟩))
    (fun os started H enc _ => lifted os started H enc)
theorem proved:Rows.ManifestManySaid :=
  over
#print axioms proved
end Go.Proofs.Ytdgefeadbcbglaa.manifestMany
