/- Proved: stillroomlaw9.ManifestOwn returns true for all its arguments, and its arguments read afterwards as before. Conditions: none beyond those of the given row. -/
import Derived.Test.YtdgefeadbcbglaaRows
import Derived.WalkKit
import Derived.ProofKit
import Derived.OpenShut
import Derived.Carry
import Derived.KernelRfl
import Derived.Test.YtdgefeadbcbglaaOW
namespace Go.Proofs.Ytdgefeadbcbglaa.manifestOwn
open Go.Ev Go.Ev.Ytdgefeadbcbglaa Go.ChangeShapes Go.WideShapes Go.ChangeAt Go.RowKit
set_option maxRecDepth 100000
set_option linter.unusedVariables false
set_option linter.unusedSimpArgs false
theorem own:ownKnob Try.prog.godebug=none := by kernel_rfl
theorem mixed:Try.prog.follows .mixedOrders=true := by kernel_rfl
theorem rel_any {ρ:Env} {φ:AS} {v:Value}:Av ρ φ (.oth .any) v := by simp only [Av]
theorem rel_nilS {ρ:Env} {φ:AS}:Av ρ φ (.nil .sl) (.slice none 0 0) := by simp only [Av]; rfl
theorem walk (w:World) (ia:Value) (hi:ia = .slice none 0 0 ∨ ∃ a len cap, ia = .slice (some a) len cap∧len≤maxLen ∧ ∃ (l:List Nat) (bl:List Nat), l.length=len∧(∀ o∈l, o<18446744073709551616) ∧
      ∀ ρ φ, GQ ρ w bl->Av ρ φ (.oth (.rx (l.map (RV.i .i64)) len 1)) (.slice (some a) len cap)) :
    Calls Try.prog 8 #[ia] w fun e w' => e = .returned (.bool true)∧Below w.heap.size w w' := by
  have hmx:maxLen=9223372036854775807 := rfl
  rcases hi with rfl | ⟨a', len', cap', rfl, hl', fs, bl', rfl, hb', hrel'⟩
  · exact J6 (oneS (v := fun _ => .bool true) (gl := fun _ => none) fun _ => rfl) mixed tab_ok Try.func8 (by kernel_rfl) (by kernel_rfl)  (own_run (fs := []) (.inl ⟨rfl, rfl⟩) (by decide) (fun r hr => by cases hr)) (Ax.2 ⟨_, _, rfl, rel_nilS, AA.2 rfl⟩) w
  · rcases Nat.lt_or_ge 30 fs.length with h30 | h30
    · exact J6 (oneS (v := fun _ => .bool true) (gl := LE w bl') fun _ => rfl) mixed tab_ok Try.func8 (by kernel_rfl) (by kernel_rfl)  (own_long (fs := fs) (by omega) (FV.len (.inr rfl) (by omega)) h30) (Ax.2 ⟨_, _, rfl, hrel' _ _ Pa, AA.2 rfl⟩) w PF
    · exact J6 (oneS (v := fun _ => .bool true) (gl := LE w bl') fun _ => rfl) mixed tab_ok Try.func8 (by kernel_rfl) (by kernel_rfl)  (own_run (.inr rfl) (by omega) hb') (Ax.2 ⟨_, _, rfl, hrel' _ _ Pa, AA.2 rfl⟩) w PF
set_option maxRecDepth 100000 in
theorem lifted (os:Os) (started:os.Started) (H:Type) (enc:TypeId×Value->H) :
    ReturnsInHanded {} Try.checked os 8 .any (Rows.manifestOwnSpec.pre6 enc Try.prog Try.f8 Rows.manifestOwnRow.domain false) (Rows.manifestOwnSpec.post enc Try.prog Try.f8 false true false false) := by
  refine returnsInHanded_of_change (C := Try.checked) own started (by kernel_rfl) Try.func8
    (ChangeSpec.witness6 (enc := enc) (C := Try.checked) false ⟨#[], #[.slice none 0 0], []⟩ 8 (by kernel_rfl) (by kernel_rfl) (by kernel_rfl) (by kernel_rfl)) ?_
  intro W base args ds gs before hval0 hW hcnd _
  have hval:∀ (j:Nat) t v, Try.f8.params[j]? = some t->args[j]? = some v->Value.okWide Try.prog W .any base t v := hval0
  have hW' := hW
  have hlt := fun p (hp:p∈before) => hW.lt p hp
  obtain ⟨p, q, hA0, hV, rfl, hfz, hnd⟩ := hW
  have hA:DataW.TrodAll enc Try.prog W 0 (fun _ => true) true Try.f8.params.toList args.toList ds p := hA0
  rw [Try.params8] at hA hval
  obtain ⟨v0, vs0, d0, ds0, p0, q0, hargs, rfl, rfl, h0, r0⟩ := trodAll_cons hA
  obtain ⟨rfl, rfl, rfl⟩ := trodAll_nil r0
  obtain rfl:args = #[v0] := by cases args; simp_all
  obtain ⟨rfl, rfl⟩ := trodVars_none hV
  obtain ⟨ia, il, ic, rfl⟩ := okWide_slice Try.underlying72 (hval 0 72 v0 rfl rfl)
  have hi:Value.slice ia il ic = .slice none 0 0 ∨ ∃ a len cap, Value.slice ia il ic = .slice (some a) len cap∧len≤maxLen ∧ ∃ (l:List Nat) (bl:List Nat), l.length=len∧(∀ o∈l, o<18446744073709551616) ∧
      ∀ ρ φ, GQ ρ W bl->Av ρ φ (.oth (.rx (l.map (RV.i .i64)) len 1)) (.slice (some a) len cap) := by
    obtain ⟨fuel, hf⟩ := h0
    rcases Xk Try.underlying72 Try.underlying2 (by kernel_rfl) hf with hc | ⟨a, len, cap, hc, hl, hx⟩
    · simp [Value.cells] at hc
      obtain ⟨rfl, rfl, rfl⟩ := hc
      exact .inl rfl
    · simp [Value.cells] at hc
      obtain ⟨rfl, rfl, rfl⟩ := hc
      exact .inr ⟨a, il, ic, rfl, hl, hx⟩
  clear hA0 hval0
  simp only [List.append_nil, List.nil_append] at hW' hlt
  refine (walk W _ hi).mono fun e W' ⟨he, hg⟩ => ?_
  subst he
  exact ⟨_, rfl, LY (pa := p0++[]) (pv := []) hW' (fun _ _ _ => (trodAll_cons_mk (shut_bool Try.underlying4 _) trodAll_mk0)) (fun sp hsp => (trodAll_cons_mk (Go.WideElems.Trod_stays (by kernel_rfl) (by kernel_rfl) (of_decide_eq_true (by kernel_rfl)) h0 (fun x hx => hg.same (hlt x (by simpa using hx))) (fun x hx => hsp x (by simpa using hx))) trodAll_mk0)) (fun _ _ => rfl) (by simp)
    hg (ok_one (by kernel_rfl) rfl (okWide_bool_mk Try.underlying4 _))⟩
theorem over:Rows.manifestOwnRow.holds Try.pinned (OpenSpec.ofChange Rows.manifestOwnSpec) :=
  OpenClaim.holds_of_wide 8 Try.f8 rfl rfl rfl rfl rfl rfl rfl ⟨rfl, rfl, rfl, rfl, rfl⟩ rfl rfl rfl rfl rfl (by kernel_rfl) Try.func8 (by kernel_rfl)
    (of_decide_eq_true (by kernel_rfl)) (by unfold Func.isWrapper; first | (rw [if_pos (by decide +kernel)]; kernel_rfl) | (rw [if_neg (by decide +kernel)]; exact ⟨rfl, rfl⟩))
    (fun os started H enc _ => lifted os started H enc)
theorem proved:Rows.ManifestOwnSaid :=
  over
#print axioms proved
end Go.Proofs.Ytdgefeadbcbglaa.manifestOwn
