/- Proved: stillroomlaw5.DiskSwitch returns true for all its arguments, and its arguments read afterwards as before. Conditions: none beyond those of the given row. -/
import Derived.Test.YtfkooacjpegidaaRows
import Derived.WalkKit
import Derived.ProofKit
import Derived.OpenShut
import Derived.Carry
import Derived.KernelRfl
import Derived.Test.YtfkooacjpegidaaT
namespace Go.Proofs.Ytfkooacjpegidaa.diskSwitch
open Go.Ev Go.Ev.Ytfkooacjpegidaa Go.ChangeShapes Go.WideShapes Go.ChangeAt Go.RowKit
set_option maxRecDepth 100000
set_option linter.unusedVariables false
theorem own : ownKnob Try.prog.godebug = none := by kernel_rfl
theorem mixed : Try.prog.follows .mixedOrders = true := by kernel_rfl
theorem run_neg_few : rTrue (call2 tab 100 (fnKey 3) [.oth (.iv .i64 9223372036854775808 18446744073709551615), .oth (.os 0 10), .oth (.iv .i64 0 18446744073709551615)] hempty n00) = true := by kernel_rfl
theorem run_neg_many : rTrue (call2 tab 100 (fnKey 3) [.oth (.iv .i64 9223372036854775808 18446744073709551615), .oth (.os 11 9223372036854775807), .oth (.iv .i64 0 18446744073709551615)] hempty n00) = true := by kernel_rfl
theorem run_0_few : rTrue (call2 tab 100 (fnKey 3) [.int .i64 0, .oth (.os 0 10), .oth (.iv .i64 0 18446744073709551615)] hempty n00) = true := by kernel_rfl
theorem run_0_many : rTrue (call2 tab 100 (fnKey 3) [.int .i64 0, .oth (.os 11 9223372036854775807), .oth (.iv .i64 0 18446744073709551615)] hempty n00) = true := by kernel_rfl
theorem run_1_few : rTrue (call2 tab 100 (fnKey 3) [.int .i64 1, .oth (.os 0 10), .oth (.iv .i64 0 18446744073709551615)] hempty n00) = true := by kernel_rfl
theorem run_1_many : rTrue (call2 tab 100 (fnKey 3) [.int .i64 1, .oth (.os 11 9223372036854775807), .oth (.iv .i64 0 18446744073709551615)] hempty n00) = true := by kernel_rfl
theorem run_more_few : rTrue (call2 tab 100 (fnKey 3) [.oth (.iv .i64 2 9223372036854775807), .oth (.os 0 10), .oth (.iv .i64 0 18446744073709551615)] hempty n00) = true := by kernel_rfl
theorem run_more_many : rTrue (call2 tab 100 (fnKey 3) [.oth (.iv .i64 2 9223372036854775807), .oth (.os 11 9223372036854775807), .oth (.iv .i64 0 18446744073709551615)] hempty n00) = true := by kernel_rfl
theorem rel_os {ρ : Env} {φ : Emb} {p : Option Addr} {len cap lo hi : Nat} (h1 : lo ≤ len) (h2 : len ≤ hi) (h3 : len ≤ cap) : rel ρ φ (.oth (.os lo hi)) (.slice p len cap) := by
  simp only [rel]; exact ⟨p, len, cap, rfl, h1, h2, h3⟩
theorem walk (a0 : Int) (w0 : (Lit.int .i64 a0).wf = true) (sa : Option Addr) (sl sc : Nat) (hsc : sl ≤ sc) (hm : sc ≤ maxLen) (a2 : Int) (w2 : (Lit.int .i64 a2).wf = true) (w : World) :
    Calls Try.prog 3 #[.int .i64 a0, .slice sa sl sc, .int .i64 a2] w fun e w' => e = .returned (.bool true) ∧ Below w.heap.size w w' := by
  have b0 := wf_i64 w0
  have b2 := wf_i64 w2
  rcases (by omega : a0 < 0 ∨ a0 = 0 ∨ a0 = 1 ∨ ((2 : Nat) : Int) ≤ a0) with hn | hn | hn | hn
  · by_cases hk : sl ≤ 10
    · exact law2_call oneS mixed tab_ok Try.func3 (by kernel_rfl) (by kernel_rfl) run_neg_few (rels_cons.2 ⟨_, _, rfl, rel_iv_neg hn b0.1, rels_cons.2 ⟨_, _, rfl, rel_os (Nat.zero_le _) hk hsc, rels_cons.2 ⟨_, _, rfl, rel_iv_any b2.1 b2.2, rels_nil.2 rfl⟩⟩⟩) w
    · exact law2_call oneS mixed tab_ok Try.func3 (by kernel_rfl) (by kernel_rfl) run_neg_many (rels_cons.2 ⟨_, _, rfl, rel_iv_neg hn b0.1, rels_cons.2 ⟨_, _, rfl, rel_os (by omega) (by have : maxLen = 9223372036854775807 := rfl; omega) hsc, rels_cons.2 ⟨_, _, rfl, rel_iv_any b2.1 b2.2, rels_nil.2 rfl⟩⟩⟩) w
  · by_cases hk : sl ≤ 10
    · exact law2_call oneS mixed tab_ok Try.func3 (by kernel_rfl) (by kernel_rfl) run_0_few (rels_cons.2 ⟨_, _, rfl, (by subst hn; exact rel_i64 (n := 0) (by decide)), rels_cons.2 ⟨_, _, rfl, rel_os (Nat.zero_le _) hk hsc, rels_cons.2 ⟨_, _, rfl, rel_iv_any b2.1 b2.2, rels_nil.2 rfl⟩⟩⟩) w
    · exact law2_call oneS mixed tab_ok Try.func3 (by kernel_rfl) (by kernel_rfl) run_0_many (rels_cons.2 ⟨_, _, rfl, (by subst hn; exact rel_i64 (n := 0) (by decide)), rels_cons.2 ⟨_, _, rfl, rel_os (by omega) (by have : maxLen = 9223372036854775807 := rfl; omega) hsc, rels_cons.2 ⟨_, _, rfl, rel_iv_any b2.1 b2.2, rels_nil.2 rfl⟩⟩⟩) w
  · by_cases hk : sl ≤ 10
    · exact law2_call oneS mixed tab_ok Try.func3 (by kernel_rfl) (by kernel_rfl) run_1_few (rels_cons.2 ⟨_, _, rfl, (by subst hn; exact rel_i64 (n := 1) (by decide)), rels_cons.2 ⟨_, _, rfl, rel_os (Nat.zero_le _) hk hsc, rels_cons.2 ⟨_, _, rfl, rel_iv_any b2.1 b2.2, rels_nil.2 rfl⟩⟩⟩) w
    · exact law2_call oneS mixed tab_ok Try.func3 (by kernel_rfl) (by kernel_rfl) run_1_many (rels_cons.2 ⟨_, _, rfl, (by subst hn; exact rel_i64 (n := 1) (by decide)), rels_cons.2 ⟨_, _, rfl, rel_os (by omega) (by have : maxLen = 9223372036854775807 := rfl; omega) hsc, rels_cons.2 ⟨_, _, rfl, rel_iv_any b2.1 b2.2, rels_nil.2 rfl⟩⟩⟩) w
  · by_cases hk : sl ≤ 10
    · exact law2_call oneS mixed tab_ok Try.func3 (by kernel_rfl) (by kernel_rfl) run_more_few (rels_cons.2 ⟨_, _, rfl, rel_iv_hi hn b0.2, rels_cons.2 ⟨_, _, rfl, rel_os (Nat.zero_le _) hk hsc, rels_cons.2 ⟨_, _, rfl, rel_iv_any b2.1 b2.2, rels_nil.2 rfl⟩⟩⟩) w
    · exact law2_call oneS mixed tab_ok Try.func3 (by kernel_rfl) (by kernel_rfl) run_more_many (rels_cons.2 ⟨_, _, rfl, rel_iv_hi hn b0.2, rels_cons.2 ⟨_, _, rfl, rel_os (by omega) (by have : maxLen = 9223372036854775807 := rfl; omega) hsc, rels_cons.2 ⟨_, _, rfl, rel_iv_any b2.1 b2.2, rels_nil.2 rfl⟩⟩⟩) w
set_option maxRecDepth 100000 in
theorem lifted (os : Os) (started : os.Started) (H : Type) (enc : TypeId × Value → H) :
    ReturnsInHanded {} Try.checked os 3 .any (Rows.diskSwitchSpec.pre6 enc Try.prog Try.f3 Rows.diskSwitchRow.domain false) (Rows.diskSwitchSpec.post enc Try.prog Try.f3 false true false false) := by
  refine returnsInHanded_of_change (C := Try.checked) own started (by kernel_rfl) Try.func3
    (ChangeSpec.witness6 (enc := enc) (C := Try.checked) false ⟨#[], #[.int .i64 0, .slice none 0 0, .int .i64 0], []⟩ 8 (by kernel_rfl) (by kernel_rfl) (by kernel_rfl) (by kernel_rfl)) ?_
  intro W base args ds gs before hval0 hW hcnd _
  have hval : ∀ (j : Nat) t v, Try.f3.params[j]? = some t → args[j]? = some v → Value.okWide Try.prog W .any base t v := hval0
  have hW' := hW
  have hlt := fun p (hp : p ∈ before) => hW.lt p hp
  obtain ⟨p, q, hA0, hV, rfl, hfz, hnd⟩ := hW
  have hA : DataW.TrodAll enc Try.prog W 0 (fun _ => true) true Try.f3.params.toList args.toList ds p := hA0
  rw [Try.params3] at hA hval
  obtain ⟨v0, vs0, d0, ds0, p0, q0, hargs, rfl, rfl, h0, r0⟩ := trodAll_cons hA
  obtain ⟨v1, vs1, d1, ds1, p1, q1, rfl, rfl, rfl, h1, r1⟩ := trodAll_cons r0
  obtain ⟨v2, vs2, d2, ds2, p2, q2, rfl, rfl, rfl, h2, r2⟩ := trodAll_cons r1
  obtain ⟨rfl, rfl, rfl⟩ := trodAll_nil r2
  obtain rfl : args = #[v0, v1, v2] := by cases args; simp_all
  obtain ⟨rfl, rfl⟩ := trodVars_none hV
  obtain ⟨a0, rfl, rfl, rfl, w0⟩ := open_int Try.underlying3 (hval 0 3 v0 rfl rfl) h0
  obtain ⟨a2, rfl, rfl, rfl, w2⟩ := open_int Try.underlying3 (hval 2 3 v2 rfl rfl) h2
  obtain ⟨sa, sl, sc, rfl⟩ := okWide_slice Try.underlying22 (hval 1 22 v1 rfl rfl)
  have hs : sl ≤ sc ∧ sc ≤ maxLen := by
    obtain ⟨fuel, hf⟩ := h1
    rcases DataW.trod_slice Try.underlying22 hf with hz | ⟨a, len, cap, elems, rest, n, _, hc, _, _, hl, hm, _⟩
    · have := hz.1
      simp [Value.cells] at this
      obtain ⟨_, rfl, rfl⟩ := this
      exact ⟨Nat.le_refl _, Nat.zero_le _⟩
    · simp [Value.cells] at hc
      obtain ⟨_, rfl, rfl⟩ := hc
      exact ⟨hl, hm⟩
  clear hA0 hval0
  simp only [List.append_nil, List.nil_append] at hW' hlt
  refine (walk a0 w0 sa sl sc hs.1 hs.2 a2 w2 W).mono fun e W' ⟨he, hg⟩ => ?_
  subst he
  exact ⟨_, rfl, post_of_fresh (pa := [] ++ (p1 ++ ([] ++ []))) (pv := []) hW' (fun _ _ _ => (trodAll_cons_mk (shut_bool Try.underlying4 _) trodAll_mk0)) (fun sp hsp => (trodAll_cons_mk (shut_int Try.underlying3 w0) (trodAll_cons_mk (Go.WideElems.Trod_stays (by kernel_rfl) (by kernel_rfl) (of_decide_eq_true (by kernel_rfl)) h1 (fun x hx => hg.same (hlt x hx)) hsp) (trodAll_cons_mk (shut_int Try.underlying3 w2) trodAll_mk0)))) (fun _ _ => rfl) (by simp)
    hg (ok_one (by kernel_rfl) rfl (okWide_bool_mk Try.underlying4 _))⟩
theorem over : Rows.diskSwitchRow.holds Try.pinned (OpenSpec.ofChange Rows.diskSwitchSpec) :=
  OpenClaim.holds_of_wide 3 Try.f3 rfl rfl rfl rfl rfl rfl rfl ⟨rfl, rfl, rfl, rfl, rfl⟩ rfl rfl rfl rfl rfl (by kernel_rfl) Try.func3 (by kernel_rfl)
    (of_decide_eq_true (by kernel_rfl)) (by unfold Func.isWrapper; first | (rw [if_pos (by decide +kernel)]; kernel_rfl) | (rw [if_neg (by decide +kernel)]; exact ⟨rfl, rfl⟩))
    (fun os started H enc _ => lifted os started H enc)
theorem proved : Rows.DiskSwitchSaid :=
  over
#print axioms proved
end Go.Proofs.Ytfkooacjpegidaa.diskSwitch
