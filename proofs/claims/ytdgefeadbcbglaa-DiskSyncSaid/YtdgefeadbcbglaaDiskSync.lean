/- Proved: stillroomlaw5.DiskSync returns true for all its arguments, and its arguments read afterwards as before. Conditions: none beyond those of the given row. -/
import Derived.Test.YtdgefeadbcbglaaRows
import Derived.WalkKit
import Derived.ProofKit
import Derived.OpenShut
import Derived.Carry
import Derived.KernelRfl
import Derived.Test.YtdgefeadbcbglaaQK
namespace Go.Proofs.Ytdgefeadbcbglaa.diskSync
open Go.Ev Go.Ev.Ytdgefeadbcbglaa Go.ChangeShapes Go.WideShapes Go.ChangeAt Go.RowKit
set_option maxRecDepth 100000
set_option linter.unusedVariables false
theorem own:ownKnob Try.prog.godebug=none := by kernel_rfl
theorem mixed:Try.prog.follows .mixedOrders=true := by kernel_rfl
theorem rel_os {ρ:Env} {φ:CP} {p:Option Addr} {len cap lo hi:Nat} (h1:lo≤len) (h2:len≤hi) (h3:len≤cap):B1 ρ φ (.oth (.os lo hi)) (.slice p len cap) := by
  simp only [B1]; exact ⟨p, len, cap, rfl, h1, h2, h3⟩
theorem rel_any {ρ:Env} {φ:CP} {v:Value}:B1 ρ φ (.oth .any) v := by simp only [B1]
theorem rel_nilS {ρ:Env} {φ:CP}:B1 ρ φ (.nil .sl) (.slice none 0 0) := by simp only [B1]; rfl
theorem walk (w:World) (pa:Value) (hp:pa = .slice none 0 0 ∨ ∃ a len cap, pa = .slice (some a) len cap∧len≤maxLen ∧ ∃ (l:List (Option (List UInt8))) (bl:List Nat), l.length=len∧(∀ o∈l, ∀ b, o=some b->b.length≤maxLen) ∧
      ∀ ρ φ, IN ρ w bl->B1 ρ φ (.oth (.rx (l.map Pe) len 1)) (.slice (some a) len cap)) (sa:Option Addr) (sl sc:Nat) (hsc:sl≤sc) (hm:sc≤maxLen) (a2:Int) :
    Calls Try.prog 4 #[pa, .slice sa sl sc, .int .i64 a2] w fun e w' => e = .returned (.bool true)∧Below w.heap.size w w' := by
  have hmx:maxLen=9223372036854775807 := rfl
  rcases hp with rfl | ⟨a, len, cap, rfl, hl, l, bl, rfl, hb, hrel⟩
  · by_cases hk:sl≤50
    · exact Jn (oneS (v := fun _ => .bool true) (gl := fun _ => none) fun _ => rfl) mixed tab_ok Try.func4 (by kernel_rfl) (by kernel_rfl) sync_nil1 (AI.2 ⟨_, _, rfl, rel_nilS, AI.2 ⟨_, _, rfl, rel_os (Nat.zero_le _) hk hsc, AI.2 ⟨_, _, rfl, rel_any, BN.2 rfl⟩⟩⟩) w
    · exact Jn (oneS (v := fun _ => .bool true) (gl := fun _ => none) fun _ => rfl) mixed tab_ok Try.func4 (by kernel_rfl) (by kernel_rfl) sync_nil2 (AI.2 ⟨_, _, rfl, rel_nilS, AI.2 ⟨_, _, rfl, rel_os (by omega) (by have:maxLen=9223372036854775807 := rfl; omega) hsc, AI.2 ⟨_, _, rfl, rel_any, BN.2 rfl⟩⟩⟩) w
  · have hb2:∀ o∈l, ∀ b, o=some b->b.length<9223372036854775808 := fun o ho b e => by have := hb o ho b e; omega
    by_cases hk:sl≤50
    · exact Jn (oneS (v := fun _ => .bool true) (gl := MO w bl) fun _ => rfl) mixed tab_ok Try.func4 (by kernel_rfl) (by kernel_rfl) (sync_run (tv := .oth .any) (by omega) hb2 (.inl rfl)) (AI.2 ⟨_, _, rfl, hrel _ _ PN, AI.2 ⟨_, _, rfl, rel_os (Nat.zero_le _) hk hsc, AI.2 ⟨_, _, rfl, rel_any, BN.2 rfl⟩⟩⟩) w PJ
    · exact Jn (oneS (v := fun _ => .bool true) (gl := MO w bl) fun _ => rfl) mixed tab_ok Try.func4 (by kernel_rfl) (by kernel_rfl) (sync_run (tv := .oth .any) (by omega) hb2 (.inr rfl)) (AI.2 ⟨_, _, rfl, hrel _ _ PN, AI.2 ⟨_, _, rfl, rel_os (by omega) (by have:maxLen=9223372036854775807 := rfl; omega) hsc, AI.2 ⟨_, _, rfl, rel_any, BN.2 rfl⟩⟩⟩) w PJ
set_option maxRecDepth 100000 in
theorem lifted (os:Os) (started:os.Started) (H:Type) (enc:TypeId×Value->H) :
    ReturnsInHanded {} Try.checked os 4 .any (Rows.diskSyncSpec.pre6 enc Try.prog Try.f4 Rows.diskSyncRow.domain false) (Rows.diskSyncSpec.post enc Try.prog Try.f4 false true false false) := by
  refine returnsInHanded_of_change (C := Try.checked) own started (by kernel_rfl) Try.func4
    (ChangeSpec.witness6 (enc := enc) (C := Try.checked) false ⟨#[], #[.slice none 0 0, .slice none 0 0, .int .i64 0], []⟩ 8 (by kernel_rfl) (by kernel_rfl) (by kernel_rfl) (by kernel_rfl)) ?_
  intro W base args ds gs before hval0 hW hcnd _
  have hval:∀ (j:Nat) t v, Try.f4.params[j]? = some t->args[j]? = some v->Value.okWide Try.prog W .any base t v := hval0
  have hW' := hW
  have hlt := fun p (hp:p∈before) => hW.lt p hp
  obtain ⟨p, q, hA0, hV, rfl, hfz, hnd⟩ := hW
  have hA:DataW.TrodAll enc Try.prog W 0 (fun _ => true) true Try.f4.params.toList args.toList ds p := hA0
  rw [Try.params4] at hA hval
  obtain ⟨v0, vs0, d0, ds0, p0, q0, hargs, rfl, rfl, h0, r0⟩ := trodAll_cons hA
  obtain ⟨v1, vs1, d1, ds1, p1, q1, rfl, rfl, rfl, h1, r1⟩ := trodAll_cons r0
  obtain ⟨v2, vs2, d2, ds2, p2, q2, rfl, rfl, rfl, h2, r2⟩ := trodAll_cons r1
  obtain ⟨rfl, rfl, rfl⟩ := trodAll_nil r2
  obtain rfl:args = #[v0, v1, v2] := by cases args; simp_all
  obtain ⟨rfl, rfl⟩ := trodVars_none hV
  obtain ⟨a2, rfl, rfl, rfl, w2⟩ := open_int Try.underlying3 (hval 2 3 v2 rfl rfl) h2
  obtain ⟨sa, sl, sc, rfl⟩ := okWide_slice Try.underlying46 (hval 1 46 v1 rfl rfl)
  obtain ⟨pa, pl, pc, rfl⟩ := okWide_slice Try.underlying45 (hval 0 45 v0 rfl rfl)
  have hs:sl≤sc∧sc≤maxLen := by
    obtain ⟨fuel, hf⟩ := h1
    rcases DataW.trod_slice Try.underlying46 hf with hz | ⟨a, len, cap, elems, rest, n, _, hc, _, _, hl, hm, _⟩
    · have := hz.1
      simp [Value.cells] at this
      obtain ⟨_, rfl, rfl⟩ := this
      exact ⟨Nat.le_refl _, Nat.zero_le _⟩
    · simp [Value.cells] at hc
      obtain ⟨_, rfl, rfl⟩ := hc
      exact ⟨hl, hm⟩
  have hp:Value.slice pa pl pc = .slice none 0 0 ∨ ∃ a len cap, Value.slice pa pl pc = .slice (some a) len cap∧len≤maxLen ∧ ∃ (l:List (Option (List UInt8))) (bl:List Nat), l.length=len∧(∀ o∈l, ∀ b, o=some b->b.length≤maxLen) ∧
      ∀ ρ φ, IN ρ W bl->B1 ρ φ (.oth (.rx (l.map Pe) len 1)) (.slice (some a) len cap) := by
    obtain ⟨fuel, hf⟩ := h0
    rcases Wr Try.underlying45 Try.underlying52 Try.underlying5 (by kernel_rfl) (by kernel_rfl) hf with hc | ⟨a, len, cap, hc, hl, hx⟩
    · simp [Value.cells] at hc
      obtain ⟨rfl, rfl, rfl⟩ := hc
      exact .inl rfl
    · simp [Value.cells] at hc
      obtain ⟨rfl, rfl, rfl⟩ := hc
      exact .inr ⟨a, pl, pc, rfl, hl, hx⟩
  clear hA0 hval0
  simp only [List.append_nil, List.nil_append] at hW' hlt
  refine (walk W _ hp sa sl sc hs.1 hs.2 a2).mono fun e W' ⟨he, hg⟩ => ?_
  subst he
  exact ⟨_, rfl, Nj (pa := p0++(p1++([]++[]))) (pv := []) hW' (fun _ _ _ => (trodAll_cons_mk (shut_bool Try.underlying4 _) trodAll_mk0)) (fun sp hsp => (trodAll_cons_mk (Go.WideElems.Trod_stays (by kernel_rfl) (by kernel_rfl) (of_decide_eq_true (by kernel_rfl)) h0 (fun x hx => hg.same (hlt x (List.mem_append_left _ hx))) (fun x hx => hsp x (List.mem_append_left _ hx))) (trodAll_cons_mk (Go.WideElems.Trod_stays (by kernel_rfl) (by kernel_rfl) (of_decide_eq_true (by kernel_rfl)) h1 (fun x hx => hg.same (hlt x (List.mem_append_right _ (by simpa using hx)))) (fun x hx => hsp x (List.mem_append_right _ (by simpa using hx)))) (trodAll_cons_mk (shut_int Try.underlying3 w2) trodAll_mk0)))) (fun _ _ => rfl) (by simp)
    hg (ok_one (by kernel_rfl) rfl (okWide_bool_mk Try.underlying4 _))⟩
theorem over:Rows.diskSyncRow.holds Try.pinned (OpenSpec.ofChange Rows.diskSyncSpec) :=
  OpenClaim.holds_of_wide 4 Try.f4 rfl rfl rfl rfl rfl rfl rfl ⟨rfl, rfl, rfl, rfl, rfl⟩ rfl rfl rfl rfl rfl (by kernel_rfl) Try.func4 (by kernel_rfl)
    (of_decide_eq_true (by kernel_rfl)) (by unfold Func.isWrapper; first | (rw [if_pos (by decide +kernel)]; kernel_rfl) | (rw [if_neg (by decide +kernel)]; exact ⟨rfl, rfl⟩))
    (fun os started H enc _ => lifted os started H enc)
theorem proved:Rows.DiskSyncSaid :=
  over
#print axioms proved
end Go.Proofs.Ytdgefeadbcbglaa.diskSync
