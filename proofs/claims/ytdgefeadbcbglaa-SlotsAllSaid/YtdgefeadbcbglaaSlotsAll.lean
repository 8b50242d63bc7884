/- Proved: stillroomlaw9.SlotsAll returns true for all its arguments, and its arguments read afterwards as before. Conditions: none beyond those of the given row. -/
import Derived.Test.YtdgefeadbcbglaaRows
import Derived.WalkKit
import Derived.ProofKit
import Derived.OpenShut
import Derived.Carry
import Derived.KernelRfl
import Derived.Test.YtdgefeadbcbglaaLV
namespace Go.Proofs.Ytdgefeadbcbglaa.slotsAll
open Go.Ev Go.Ev.Ytdgefeadbcbglaa Go.ChangeShapes Go.WideShapes Go.ChangeAt Go.RowKit
set_option maxRecDepth 100000
set_option linter.unusedVariables false
set_option linter.unusedSimpArgs false
theorem own:ownKnob Try.prog.godebug=none := by kernel_rfl
theorem mixed:Try.prog.follows .mixedOrders=true := by kernel_rfl
theorem rel_any {ρ:Env} {φ:AI} {v:Value}:Ao ρ φ (.oth .any) v := by simp only [Ao]
theorem rel_nilS {ρ:Env} {φ:AI}:Ao ρ φ (.nil .sl) (.slice none 0 0) := by simp only [Ao]; rfl
theorem walk (w:World) (pa ia oa:Value) (hp:pa = .slice none 0 0 ∨ ∃ a len cap, pa = .slice (some a) len cap∧len≤maxLen ∧ ∃ (l:List (Option (List UInt8))) (bl:List Nat), l.length=len∧(∀ o∈l, ∀ b, o=some b->b.length≤maxLen) ∧
      ∀ ρ φ, Dj ρ w bl->Ao ρ φ (.oth (.rx (l.map Ly) len 1)) (.slice (some a) len cap)) (hi:ia = .slice none 0 0 ∨ ∃ a len cap, ia = .slice (some a) len cap∧len≤maxLen ∧ ∃ (l:List Nat) (bl:List Nat), l.length=len∧(∀ o∈l, o<18446744073709551616) ∧
      ∀ ρ φ, Dj ρ w bl->Ao ρ φ (.oth (.rx (l.map (RV.i .i64)) len 1)) (.slice (some a) len cap)) (ho:oa = .slice none 0 0 ∨ ∃ a len cap, oa = .slice (some a) len cap∧len≤maxLen ∧ ∃ (l:List Bool) (bl:List Nat), l.length=len ∧
      ∀ ρ φ, Dj ρ w bl->Ao ρ φ (.oth (.rx (l.map RV.b) len 1)) (.slice (some a) len cap)) :
    Calls Try.prog 5 #[pa, ia, oa] w fun e w' => e = .returned (.bool true)∧Below w.heap.size w w' := by
  have hmx:maxLen=9223372036854775807 := rfl
  rcases hp with rfl | ⟨a, len, cap, rfl, hl, l, bl, rfl, hb, hrel⟩
  · exact Gj (oneS (v := fun _ => .bool true) (gl := fun _ => none) fun _ => rfl) mixed tab_ok Try.func5 (by kernel_rfl) (by kernel_rfl)  Qg (Aj.2 ⟨_, _, rfl, rel_nilS, Aj.2 ⟨_, _, rfl, rel_any, Aj.2 ⟨_, _, rfl, rel_any, Au.2 rfl⟩⟩⟩) w
  · have hb2:∀ o∈l, ∀ b, o=some b->b.length<9223372036854775808 := fun o ho b e => by have := hb o ho b e; omega
    rcases hi with rfl | ⟨a', len', cap', rfl, hl', fs, bl', rfl, hb', hrel'⟩
    · rcases ho with rfl | ⟨a2, len2, cap2, rfl, hl2, os, bl2, rfl, hrel2⟩
      · exact Gj (oneS (v := fun _ => .bool true) (gl := J9 w bl) fun _ => rfl) mixed tab_ok Try.func5 (by kernel_rfl) (by kernel_rfl)  (sl_run (fs := []) (os := []) (by omega) hb2 (by decide) (fun r hr => by cases hr) (.inl ⟨rfl, rfl⟩) (by decide) (.inl ⟨rfl, rfl⟩)) (Aj.2 ⟨_, _, rfl, hrel _ _ Et, Aj.2 ⟨_, _, rfl, rel_nilS, Aj.2 ⟨_, _, rfl, rel_nilS, Au.2 rfl⟩⟩⟩) w IG
      · exact Gj (oneS (v := fun _ => .bool true) (gl := J9 w (bl++bl2)) fun _ => rfl) mixed tab_ok Try.func5 (by kernel_rfl) (by kernel_rfl)  (sl_run (fs := []) (by omega) hb2 (by decide) (fun r hr => by cases hr) (.inl ⟨rfl, rfl⟩) (by omega) (.inr rfl)) (Aj.2 ⟨_, _, rfl, hrel _ _ (Et.sub fun b hb => List.mem_append_left _ hb), Aj.2 ⟨_, _, rfl, rel_nilS, Aj.2 ⟨_, _, rfl, hrel2 _ _ (Et.sub fun b hb => List.mem_append_right _ hb), Au.2 rfl⟩⟩⟩) w IG
    · rcases ho with rfl | ⟨a2, len2, cap2, rfl, hl2, os, bl2, rfl, hrel2⟩
      · exact Gj (oneS (v := fun _ => .bool true) (gl := J9 w (bl++bl')) fun _ => rfl) mixed tab_ok Try.func5 (by kernel_rfl) (by kernel_rfl)  (sl_run (os := []) (by omega) hb2 (by omega) hb' (.inr rfl) (by decide) (.inl ⟨rfl, rfl⟩)) (Aj.2 ⟨_, _, rfl, hrel _ _ (Et.sub fun b hb => List.mem_append_left _ hb), Aj.2 ⟨_, _, rfl, hrel' _ _ (Et.sub fun b hb => List.mem_append_right _ hb), Aj.2 ⟨_, _, rfl, rel_nilS, Au.2 rfl⟩⟩⟩) w IG
      · exact Gj (oneS (v := fun _ => .bool true) (gl := J9 w (bl++(bl'++bl2))) fun _ => rfl) mixed tab_ok Try.func5 (by kernel_rfl) (by kernel_rfl)  (sl_run (by omega) hb2 (by omega) hb' (.inr rfl) (by omega) (.inr rfl)) (Aj.2 ⟨_, _, rfl, hrel _ _ (Et.sub fun b hb => List.mem_append_left _ hb), Aj.2 ⟨_, _, rfl, hrel' _ _ (Et.sub fun b hb => List.mem_append_right _ (List.mem_append_left _ hb)), Aj.2 ⟨_, _, rfl, hrel2 _ _ (Et.sub fun b hb => List.mem_append_right _ (List.mem_append_right _ hb)), Au.2 rfl⟩⟩⟩) w IG
set_option maxRecDepth 100000 in
theorem lifted (os:Os) (started:os.Started) (H:Type) (enc:TypeId×Value->H) :
    ReturnsInHanded {} Try.checked os 5 .any (Rows.slotsAllSpec.pre6 enc Try.prog Try.f5 Rows.slotsAllRow.domain false) (Rows.slotsAllSpec.post enc Try.prog Try.f5 false true false false) := by
  refine returnsInHanded_of_change (C := Try.checked) own started (by kernel_rfl) Try.func5
    (ChangeSpec.witness6 (enc := enc) (C := Try.checked) false ⟨#[], #[.slice none 0 0, .slice none 0 0, .slice none 0 0], []⟩ 8 (by kernel_rfl) (by kernel_rfl) (by kernel_rfl) (by kernel_rfl)) ?_
  intro W base args ds gs before hval0 hW hcnd _
  have hval:∀ (j:Nat) t v, Try.f5.params[j]? = some t->args[j]? = some v->Value.okWide Try.prog W .any base t v := hval0
  have hW' := hW
  have hlt := fun p (hp:p∈before) => hW.lt p hp
  obtain ⟨p, q, hA0, hV, rfl, hfz, hnd⟩ := hW
  have hA:DataW.TrodAll enc Try.prog W 0 (fun _ => true) true Try.f5.params.toList args.toList ds p := hA0
  rw [Try.params5] at hA hval
  obtain ⟨v0, vs0, d0, ds0, p0, q0, hargs, rfl, rfl, h0, r0⟩ := trodAll_cons hA
  obtain ⟨v1, vs1, d1, ds1, p1, q1, rfl, rfl, rfl, h1, r1⟩ := trodAll_cons r0
  obtain ⟨v2, vs2, d2, ds2, p2, q2, rfl, rfl, rfl, h2, r2⟩ := trodAll_cons r1
  obtain ⟨rfl, rfl, rfl⟩ := trodAll_nil r2
  obtain rfl:args = #[v0, v1, v2] := by cases args; simp_all
  obtain ⟨rfl, rfl⟩ := trodVars_none hV
  obtain ⟨pa, pl, pc, rfl⟩ := okWide_slice Try.underlying45 (hval 0 45 v0 rfl rfl)
  obtain ⟨ia, il, ic, rfl⟩ := okWide_slice Try.underlying59 (hval 1 59 v1 rfl rfl)
  obtain ⟨oa, ol, oc, rfl⟩ := okWide_slice Try.underlying46 (hval 2 46 v2 rfl rfl)
  have hp:Value.slice pa pl pc = .slice none 0 0 ∨ ∃ a len cap, Value.slice pa pl pc = .slice (some a) len cap∧len≤maxLen ∧ ∃ (l:List (Option (List UInt8))) (bl:List Nat), l.length=len∧(∀ o∈l, ∀ b, o=some b->b.length≤maxLen) ∧
      ∀ ρ φ, Dj ρ W bl->Ao ρ φ (.oth (.rx (l.map Ly) len 1)) (.slice (some a) len cap) := by
    obtain ⟨fuel, hf⟩ := h0
    rcases W2 Try.underlying45 Try.underlying52 Try.underlying5 (by kernel_rfl) (by kernel_rfl) hf with hc | ⟨a, len, cap, hc, hl, hx⟩
    · simp [Value.cells] at hc
      obtain ⟨rfl, rfl, rfl⟩ := hc
      exact .inl rfl
    · simp [Value.cells] at hc
      obtain ⟨rfl, rfl, rfl⟩ := hc
      exact .inr ⟨a, pl, pc, rfl, hl, hx⟩
  have hi:Value.slice ia il ic = .slice none 0 0 ∨ ∃ a len cap, Value.slice ia il ic = .slice (some a) len cap∧len≤maxLen ∧ ∃ (l:List Nat) (bl:List Nat), l.length=len∧(∀ o∈l, o<18446744073709551616) ∧
      ∀ ρ φ, Dj ρ W bl->Ao ρ φ (.oth (.rx (l.map (RV.i .i64)) len 1)) (.slice (some a) len cap) := by
    obtain ⟨fuel, hf⟩ := h1
    rcases VH Try.underlying59 Try.underlying3 (by kernel_rfl) hf with hc | ⟨a, len, cap, hc, hl, hx⟩
    · simp [Value.cells] at hc
      obtain ⟨rfl, rfl, rfl⟩ := hc
      exact .inl rfl
    · simp [Value.cells] at hc
      obtain ⟨rfl, rfl, rfl⟩ := hc
      exact .inr ⟨a, il, ic, rfl, hl, hx⟩
  have ho:Value.slice oa ol oc = .slice none 0 0 ∨ ∃ a len cap, Value.slice oa ol oc = .slice (some a) len cap∧len≤maxLen ∧ ∃ (l:List Bool) (bl:List Nat), l.length=len ∧
      ∀ ρ φ, Dj ρ W bl->Ao ρ φ (.oth (.rx (l.map RV.b) len 1)) (.slice (some a) len cap) := by
    obtain ⟨fuel, hf⟩ := h2
    rcases Wq Try.underlying46 Try.underlying4 (by kernel_rfl) hf with hc | ⟨a, len, cap, hc, hl, hx⟩
    · simp [Value.cells] at hc
      obtain ⟨rfl, rfl, rfl⟩ := hc
      exact .inl rfl
    · simp [Value.cells] at hc
      obtain ⟨rfl, rfl, rfl⟩ := hc
      exact .inr ⟨a, ol, oc, rfl, hl, hx⟩
  clear hA0 hval0
  simp only [List.append_nil, List.nil_append] at hW' hlt
  refine (walk W _ _ _ hp hi ho).mono fun e W' ⟨he, hg⟩ => ?_
  subst he
  exact ⟨_, rfl, LE (pa := p0++(p1++(p2++[]))) (pv := []) hW' (fun _ _ _ => (trodAll_cons_mk (shut_bool Try.underlying4 _) trodAll_mk0)) (fun sp hsp => (trodAll_cons_mk (Go.WideElems.Trod_stays (by kernel_rfl) (by kernel_rfl) (of_decide_eq_true (by kernel_rfl)) h0 (fun x hx => hg.same (hlt x (List.mem_append_left _ hx))) (fun x hx => hsp x (List.mem_append_left _ hx))) (trodAll_cons_mk (Go.WideElems.Trod_stays (by kernel_rfl) (by kernel_rfl) (of_decide_eq_true (by kernel_rfl)) h1 (fun x hx => hg.same (hlt x (List.mem_append_right _ (List.mem_append_left _ hx)))) (fun x hx => hsp x (List.mem_append_right _ (List.mem_append_left _ hx)))) (trodAll_cons_mk (Go.WideElems.Trod_stays (by kernel_rfl) (by kernel_rfl) (of_decide_eq_true (by kernel_rfl)) h2 (fun x hx => hg.same (hlt x (List.mem_append_right _ (List.mem_append_right _ (by simpa using hx))))) (fun x hx => hsp x (List.mem_append_right _ (List.mem_append_right _ (by simpa using hx))))) trodAll_mk0)))) (fun _ _ => rfl) (by simp)
    hg (ok_one (by kernel_rfl) rfl (okWide_bool_mk Try.underlying4 _))⟩
theorem over:Rows.slotsAllRow.holds Try.pinned (OpenSpec.ofChange Rows.slotsAllSpec) :=
  OpenClaim.holds_of_wide 5 Try.f5 rfl rfl rfl rfl rfl rfl rfl ⟨rfl, rfl, rfl, rfl, rfl⟩ rfl rfl rfl rfl rfl (by kernel_rfl) Try.func5 (by kernel_rfl)
    (of_decide_eq_true (by kernel_rfl)) (by unfold Func.isWrapper; first | (rw [if_pos (by decide +kernel)]; kernel_rfl) | (rw [if_neg (by decide +kernel)]; exact ⟨rfl, rfl⟩))
    (fun os started H enc _ => lifted os started H enc)
theorem proved:Rows.SlotsAllSaid :=
  over
#print axioms proved
end Go.Proofs.Ytdgefeadbcbglaa.slotsAll
