/- Proved: stillroomlaw11.IndexOwn returns true for all its arguments, and its arguments read afterwards as before. Conditions: none beyond those of the given row. -/
import Derived.Test.YtiebpgcgdokpiaaRows
import Derived.WalkKit
import Derived.ProofKit
import Derived.OpenShut
import Derived.Carry
import Derived.KernelRfl
import Derived.Test.YtiebpgcgdokpiaaT
namespace Go.Proofs.Ytiebpgcgdokpiaa.indexOwn
open Go.Ev Go.Ev.Ytiebpgcgdokpiaa Go.ChangeShapes Go.WideShapes Go.ChangeAt Go.RowKit
set_option maxRecDepth 100000
set_option linter.unusedVariables false
theorem own : ownKnob Try.prog.godebug = none := by kernel_rfl
theorem mixed : Try.prog.follows .mixedOrders = true := by kernel_rfl
theorem run_0 : rTrue (call2 tab 100 (fnKey 3) [.oth (.os 0 0)] hempty n00) = true := by kernel_rfl
theorem run_m : rTrue (call2 tab 100 (fnKey 3) [.oth (.os 21 9223372036854775807)] hempty n00) = true := by kernel_rfl
theorem run_n : allN (fun i => rTrue (call2 tab 100 (fnKey 3) [.oth (.ro 1 (Nat.add 1 i) (Nat.add 1 i) 2)] hempty n00)) 20 = true := by kernel_rfl
theorem rel_os {ρ : Env} {φ : Emb} {p : Option Addr} {len cap lo hi : Nat} (h1 : lo ≤ len) (h2 : len ≤ hi) (h3 : len ≤ cap) : rel ρ φ (.oth (.os lo hi)) (.slice p len cap) := by
  simp only [rel]; exact ⟨p, len, cap, rfl, h1, h2, h3⟩
theorem walk (sa : Option Addr) (sl sc : Nat) (hsc : sl ≤ sc) (hm : sc ≤ maxLen) (w : World)
    (hx : 1 ≤ sl → ∃ b o c e' fr, sa = some ⟨b, o, none⟩ ∧ w.heap[b]? = some (.cells c e' fr) ∧ ∀ j, j < sl * 2 → ∃ r, r < Mk .i64 ∧ c[o + j]? = some (.int .i64 (dec .i64 r))) :
    Calls Try.prog 3 #[.slice sa sl sc] w fun e w' => e = .returned (.bool true) ∧ Below w.heap.size w w' := by
  rcases (by omega : sl = 0 ∨ (1 ≤ sl ∧ sl ≤ 20) ∨ 21 ≤ sl) with hn | ⟨hn, hk⟩ | hn
  · exact law2_call (oneS (v := fun _ => .bool true) (gl := fun _ => none) fun _ => rfl) mixed tab_ok Try.func3 (by kernel_rfl) (by kernel_rfl) run_0 (rels_cons.2 ⟨_, _, rfl, rel_os (Nat.zero_le _) (by omega) hsc, rels_nil.2 rfl⟩) w
  · obtain ⟨b, o, c, e', fr, rfl, hw, hc⟩ := hx hn
    obtain ⟨i, rfl⟩ : ∃ i, sl = 1 + i := ⟨sl - 1, by omega⟩
    exact law2_call (oneS (symV_one hc)) mixed tab_ok Try.func3 (by kernel_rfl) (by kernel_rfl) (allN_at run_n i (by omega)) (rels_cons.2 ⟨_, _, rfl, as_syms (l := [b]) (List.mem_singleton.2 rfl) hw hc (Nat.le_refl _) (Nat.le_refl _) hsc, rels_nil.2 rfl⟩) w glOf_atA
  · exact law2_call (oneS (v := fun _ => .bool true) (gl := fun _ => none) fun _ => rfl) mixed tab_ok Try.func3 (by kernel_rfl) (by kernel_rfl) run_m (rels_cons.2 ⟨_, _, rfl, rel_os hn (by have : maxLen = 9223372036854775807 := rfl; omega) hsc, rels_nil.2 rfl⟩) w
set_option maxRecDepth 100000 in
theorem lifted (os : Os) (started : os.Started) (H : Type) (enc : TypeId × Value → H) :
    ReturnsInHanded {} Try.checked os 3 .any (Rows.indexOwnSpec.pre6 enc Try.prog Try.f3 Rows.indexOwnRow.domain false) (Rows.indexOwnSpec.post enc Try.prog Try.f3 false true false false) := by
  refine returnsInHanded_of_change (C := Try.checked) own started (by kernel_rfl) Try.func3
    (ChangeSpec.witness6 (enc := enc) (C := Try.checked) false ⟨#[], #[.slice none 0 0], []⟩ 8 (by kernel_rfl) (by kernel_rfl) (by kernel_rfl) (by kernel_rfl)) ?_
  intro W base args ds gs before hval0 hW hcnd _
  have hval : ∀ (j : Nat) t v, Try.f3.params[j]? = some t → args[j]? = some v → Value.okWide Try.prog W .any base t v := hval0
  have hW' := hW
  have hlt := fun p (hp : p ∈ before) => hW.lt p hp
  obtain ⟨p, q, hA0, hV, rfl, hfz, hnd⟩ := hW
  have hA : DataW.TrodAll enc Try.prog W 0 (fun _ => true) true Try.f3.params.toList args.toList ds p := hA0
  rw [Try.params3] at hA hval
  obtain ⟨v1, vs1, d1, ds1, p1, q1, hargs, rfl, rfl, h1, r1⟩ := trodAll_cons hA
  obtain ⟨rfl, rfl, rfl⟩ := trodAll_nil r1
  obtain rfl : args = #[v1] := by cases args; simp_all
  obtain ⟨rfl, rfl⟩ := trodVars_none hV
  obtain ⟨sa, sl, sc, rfl⟩ := okWide_slice Try.underlying22 (hval 0 22 v1 rfl rfl)
  have hs : sl ≤ sc ∧ sc ≤ maxLen ∧ (1 ≤ sl → ∃ b o c e' fr, sa = some ⟨b, o, none⟩ ∧ W.heap[b]? = some (.cells c e' fr) ∧ ∀ j, j < sl * 2 → ∃ r, r < Mk .i64 ∧ c[o + j]? = some (.int .i64 (dec .i64 r))) := by
    obtain ⟨fuel, hf⟩ := h1
    rcases open_loc_slice Try.underlying22 Try.underlying32 (by kernel_rfl) (by kernel_rfl) rfl rfl (by kernel_rfl) (by kernel_rfl) (by kernel_rfl) hf with hz | ⟨a, len, cap, hc, hl, hm, hx⟩
    · simp [Value.cells] at hz
      obtain ⟨_, rfl, rfl⟩ := hz
      exact ⟨Nat.le_refl _, Nat.zero_le _, fun h => absurd h (by omega)⟩
    · simp [Value.cells] at hc
      obtain ⟨rfl, rfl, rfl⟩ := hc
      refine ⟨hl, hm, fun h => ?_⟩
      obtain ⟨b, o, c, e', fr, ea, hw, hcs⟩ := hx h
      exact ⟨b, o, c, e', fr, by rw [ea], hw, hcs⟩
  clear hA0 hval0
  simp only [List.append_nil] at hW' hlt
  refine (walk sa sl sc hs.1 hs.2.1 W hs.2.2).mono fun e W' ⟨he, hg⟩ => ?_
  subst he
  exact ⟨_, rfl, post_of_fresh (pa := p1 ++ []) (pv := []) hW' (fun _ _ _ => (trodAll_cons_mk (shut_bool Try.underlying4 _) trodAll_mk0)) (fun sp hsp => (trodAll_cons_mk (Go.WideElems.Trod_stays (by kernel_rfl) (by kernel_rfl) (of_decide_eq_true (by kernel_rfl)) h1 (fun x hx => hg.same (hlt x hx)) hsp) trodAll_mk0)) (fun _ _ => rfl) (by simp)
    hg (ok_one (by kernel_rfl) rfl (okWide_bool_mk Try.underlying4 _))⟩
theorem over : Rows.indexOwnRow.holds Try.pinned (OpenSpec.ofChange Rows.indexOwnSpec) :=
  OpenClaim.holds_of_wide 3 Try.f3 rfl rfl rfl rfl rfl rfl rfl ⟨rfl, rfl, rfl, rfl, rfl⟩ rfl rfl rfl rfl rfl (by kernel_rfl) Try.func3 (by kernel_rfl)
    (of_decide_eq_true (by kernel_rfl)) (by unfold Func.isWrapper; first | (rw [if_pos (by decide +kernel)]; kernel_rfl) | (rw [if_neg (by decide +kernel)]; exact ⟨rfl, rfl⟩))
    (fun os started H enc _ => lifted os started H enc)
theorem proved : Rows.IndexOwnSaid :=
  over
#print axioms proved
end Go.Proofs.Ytiebpgcgdokpiaa.indexOwn
