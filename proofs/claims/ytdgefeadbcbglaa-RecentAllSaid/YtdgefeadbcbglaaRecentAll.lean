/- Proved: stillroomlaw12.RecentAll returns true for all its arguments, and its arguments read afterwards as before. Conditions: none beyond those of the given row. -/
import Derived.Test.YtdgefeadbcbglaaRows
import Derived.WalkKit
import Derived.ProofKit
import Derived.OpenShut
import Derived.Carry
import Derived.KernelRfl
import Derived.Test.YtdgefeadbcbglaaAK
namespace Go.Proofs.Ytdgefeadbcbglaa.recentAll
open Go.Ev Go.Ev.Ytdgefeadbcbglaa Go.ChangeShapes Go.WideShapes Go.ChangeAt Go.RowKit
set_option maxRecDepth 100000
set_option linter.unusedVariables false
set_option linter.unusedSimpArgs false
theorem own:ownKnob Try.prog.godebug=none := by kernel_rfl
theorem mixed:Try.prog.follows .mixedOrders=true := by kernel_rfl
theorem rel_nilS {ρ:Env} {φ:AF}:Aj ρ φ (.nil .sl) (.slice none 0 0) := by simp only [Aj]; rfl
theorem walk (w:World) (pa:Value) (hp:pa = .slice none 0 0 ∨ ∃ a len cap, pa = .slice (some a) len cap∧len≤maxLen ∧ ∃ (rs:List OpR) (bl:List Nat), rs.length=len∧(∀ r∈rs, Qt r) ∧
      ∀ ρ φ, M8 ρ w bl->Aj ρ φ (.oth (.rx (BH rs) len 3)) (.slice (some a) len cap)) :
    Calls Try.prog 3 #[pa] w fun e w' => e = .returned (.bool true)∧Below w.heap.size w w' := by
  have hmx:maxLen=9223372036854775807 := rfl
  rcases hp with rfl | ⟨a, len, cap, rfl, hl, rs, bl, rfl, hin, hrel⟩
  · exact NK (oneS (v := fun _ => .bool true) (gl := fun _ => none) fun _ => rfl) mixed tab_ok Try.func3 (by kernel_rfl) (by kernel_rfl)  (ra_run (rs := []) (.inl ⟨rfl, rfl⟩) (by decide) (fun r h => by cases h)) (Ak.2 ⟨_, _, rfl, rel_nilS, Ao.2 rfl⟩) w
  · exact NK (oneS (v := fun _ => .bool true) (gl := MR w bl) fun _ => rfl) mixed tab_ok Try.func3 (by kernel_rfl) (by kernel_rfl)  (ra_run (rs := rs) (.inr rfl) (by omega) hin) (Ak.2 ⟨_, _, rfl, hrel _ _ WR, Ao.2 rfl⟩) w VE
set_option maxRecDepth 100000 in
theorem lifted (os:Os) (started:os.Started) (H:Type) (enc:TypeId×Value->H) :
    ReturnsInHanded {} Try.checked os 3 .any (Rows.recentAllSpec.pre6 enc Try.prog Try.f3 Rows.recentAllRow.domain false) (Rows.recentAllSpec.post enc Try.prog Try.f3 false true false false) := by
  refine returnsInHanded_of_change (C := Try.checked) own started (by kernel_rfl) Try.func3
    (ChangeSpec.witness6 (enc := enc) (C := Try.checked) false ⟨#[], #[.slice none 0 0], []⟩ 8 (by kernel_rfl) (by kernel_rfl) (by kernel_rfl) (by kernel_rfl)) ?_
  intro W base args ds gs before hval0 hW hcnd _
  have hval:∀ (j:Nat) t v, Try.f3.params[j]? = some t->args[j]? = some v->Value.okWide Try.prog W .any base t v := hval0
  have hW' := hW
  have hlt := fun p (hp:p∈before) => hW.lt p hp
  obtain ⟨p, q, hA0, hV, rfl, hfz, hnd⟩ := hW
  have hA:DataW.TrodAll enc Try.prog W 0 (fun _ => true) true Try.f3.params.toList args.toList ds p := hA0
  rw [Try.params3] at hA hval
  obtain ⟨v0, vs0, d0, ds0, p0, q0, hargs, rfl, rfl, h0, r0⟩ := trodAll_cons hA
  obtain ⟨rfl, rfl, rfl⟩ := trodAll_nil r0
  obtain rfl:args = #[v0] := by cases args; simp_all
  obtain ⟨rfl, rfl⟩ := trodVars_none hV
  obtain ⟨pa, pl, pc, rfl⟩ := okWide_slice Try.underlying22 (hval 0 22 v0 rfl rfl)
  have hp:Value.slice pa pl pc = .slice none 0 0 ∨ ∃ a len cap, Value.slice pa pl pc = .slice (some a) len cap∧len≤maxLen ∧ ∃ (rs:List OpR) (bl:List Nat), rs.length=len∧(∀ r∈rs, Qt r) ∧
      ∀ ρ φ, M8 ρ W bl->Aj ρ φ (.oth (.rx (BH rs) len 3)) (.slice (some a) len cap) := by
    obtain ⟨fuel, hf⟩ := h0
    rcases Wf Try.underlying22 (by kernel_rfl) Try.underlying34 rfl rfl (by kernel_rfl) Try.underlying32 rfl rfl (by kernel_rfl) (by kernel_rfl) (by kernel_rfl) (by kernel_rfl) (by kernel_rfl) (by kernel_rfl) hf with hc | ⟨a, len, cap, hc, hl, hx⟩
    · simp [Value.cells] at hc
      obtain ⟨rfl, rfl, rfl⟩ := hc
      exact .inl rfl
    · simp [Value.cells] at hc
      obtain ⟨rfl, rfl, rfl⟩ := hc
      exact .inr ⟨a, pl, pc, rfl, hl, hx⟩
  clear hA0 hval0
  refine (walk W _ hp).mono fun e W' ⟨he, hg⟩ => ?_
  subst he
  exact ⟨_, rfl, MF (pa := p0++[]) (pv := []) hW' (fun _ _ _ => (trodAll_cons_mk (shut_bool Try.underlying4 _) trodAll_mk0)) (fun sp hsp => (trodAll_cons_mk (Go.WideElems.Trod_stays (by kernel_rfl) (by kernel_rfl) (of_decide_eq_true (by kernel_rfl)) h0 (fun x hx => hg.same (hlt x (by simpa using hx))) (fun x hx => hsp x (by simpa using hx))) trodAll_mk0)) (fun _ _ => rfl) (by simp)
    hg (ok_one (by kernel_rfl) rfl (okWide_bool_mk Try.underlying4 _))⟩
theorem over:Rows.recentAllRow.holds Try.pinned (OpenSpec.ofChange Rows.recentAllSpec) :=
  OpenClaim.holds_of_wide 3 Try.f3 rfl rfl rfl rfl rfl rfl rfl ⟨rfl, rfl, rfl, rfl, rfl⟩ rfl rfl rfl rfl rfl (by kernel_rfl) Try.func3 (by kernel_rfl)
    (of_decide_eq_true (by kernel_rfl)) (by unfold Func.isWrapper; first | (rw [if_pos (by decide +kernel)]; kernel_rfl) | (rw [if_neg (by decide +kernel)]; exact ⟨rfl, rfl⟩))
    (fun os started H enc _ => lifted os started H enc)
theorem proved:Rows.RecentAllSaid :=
  over
#print axioms proved
end Go.Proofs.Ytdgefeadbcbglaa.recentAll
