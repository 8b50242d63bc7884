/- Proved: stillroomlaw23.StorableStatus returns true for every int and every string, and its arguments read afterwards as before. Conditions: none beyond those of the given row. -/
import Derived.Test.YtfkooacjpegidaaRows
import Derived.WalkKit
import Derived.ProofKit
import Derived.OpenShut
import Derived.Carry
import Derived.ChangeMaps5
import Derived.KernelRfl
import Derived.Test.YtfkooacjpegidaaT
namespace Go.Proofs.Ytfkooacjpegidaa.storableStatus
open Go.Ev Go.Ev.Ytfkooacjpegidaa Go.ChangeShapes Go.WideShapes Go.ChangeAt Go.RowKit
set_option maxRecDepth 100000
set_option linter.unusedVariables false
theorem own : ownKnob Try.prog.godebug = none := by kernel_rfl
theorem mixed : Try.prog.follows .mixedOrders = true := by kernel_rfl
theorem r_neg : (rTrue (call2 tab 100 (fnKey 4) [.oth (.iv .i64 9223372036854775808 18446744073709551615), .str 3 5522759] hempty n00) && (rTrue (call2 tab 100 (fnKey 4) [.oth (.iv .i64 9223372036854775808 18446744073709551615), .oth (.ss 0 20 3 5522759)] hempty n00) && rTrue (call2 tab 100 (fnKey 4) [.oth (.iv .i64 9223372036854775808 18446744073709551615), .oth (.ss 21 9223372036854775807 3 5522759)] hempty n00))) = true := by kernel_rfl
theorem r_0 : (rTrue (call2 tab 100 (fnKey 4) [.oth (.iv .i64 0 199), .str 3 5522759] hempty n00) && (rTrue (call2 tab 100 (fnKey 4) [.oth (.iv .i64 0 199), .oth (.ss 0 20 3 5522759)] hempty n00) && rTrue (call2 tab 100 (fnKey 4) [.oth (.iv .i64 0 199), .oth (.ss 21 9223372036854775807 3 5522759)] hempty n00))) = true := by kernel_rfl
theorem r_1 : (rTrue (call2 tab 100 (fnKey 4) [.int .i64 200, .str 3 5522759] hempty n00) && (rTrue (call2 tab 100 (fnKey 4) [.int .i64 200, .oth (.ss 0 20 3 5522759)] hempty n00) && rTrue (call2 tab 100 (fnKey 4) [.int .i64 200, .oth (.ss 21 9223372036854775807 3 5522759)] hempty n00))) = true := by kernel_rfl
theorem r_2 : (rTrue (call2 tab 100 (fnKey 4) [.oth (.iv .i64 201 202), .str 3 5522759] hempty n00) && (rTrue (call2 tab 100 (fnKey 4) [.oth (.iv .i64 201 202), .oth (.ss 0 20 3 5522759)] hempty n00) && rTrue (call2 tab 100 (fnKey 4) [.oth (.iv .i64 201 202), .oth (.ss 21 9223372036854775807 3 5522759)] hempty n00))) = true := by kernel_rfl
theorem r_3 : (rTrue (call2 tab 100 (fnKey 4) [.int .i64 203, .str 3 5522759] hempty n00) && (rTrue (call2 tab 100 (fnKey 4) [.int .i64 203, .oth (.ss 0 20 3 5522759)] hempty n00) && rTrue (call2 tab 100 (fnKey 4) [.int .i64 203, .oth (.ss 21 9223372036854775807 3 5522759)] hempty n00))) = true := by kernel_rfl
theorem r_4 : (rTrue (call2 tab 100 (fnKey 4) [.int .i64 204, .str 3 5522759] hempty n00) && (rTrue (call2 tab 100 (fnKey 4) [.int .i64 204, .oth (.ss 0 20 3 5522759)] hempty n00) && rTrue (call2 tab 100 (fnKey 4) [.int .i64 204, .oth (.ss 21 9223372036854775807 3 5522759)] hempty n00))) = true := by kernel_rfl
theorem r_5 : (rTrue (call2 tab 100 (fnKey 4) [.oth (.iv .i64 205 299), .str 3 5522759] hempty n00) && (rTrue (call2 tab 100 (fnKey 4) [.oth (.iv .i64 205 299), .oth (.ss 0 20 3 5522759)] hempty n00) && rTrue (call2 tab 100 (fnKey 4) [.oth (.iv .i64 205 299), .oth (.ss 21 9223372036854775807 3 5522759)] hempty n00))) = true := by kernel_rfl
theorem r_6 : (rTrue (call2 tab 100 (fnKey 4) [.int .i64 300, .str 3 5522759] hempty n00) && (rTrue (call2 tab 100 (fnKey 4) [.int .i64 300, .oth (.ss 0 20 3 5522759)] hempty n00) && rTrue (call2 tab 100 (fnKey 4) [.int .i64 300, .oth (.ss 21 9223372036854775807 3 5522759)] hempty n00))) = true := by kernel_rfl
theorem r_7 : (rTrue (call2 tab 100 (fnKey 4) [.int .i64 301, .str 3 5522759] hempty n00) && (rTrue (call2 tab 100 (fnKey 4) [.int .i64 301, .oth (.ss 0 20 3 5522759)] hempty n00) && rTrue (call2 tab 100 (fnKey 4) [.int .i64 301, .oth (.ss 21 9223372036854775807 3 5522759)] hempty n00))) = true := by kernel_rfl
theorem r_8 : (rTrue (call2 tab 100 (fnKey 4) [.oth (.iv .i64 302 403), .str 3 5522759] hempty n00) && (rTrue (call2 tab 100 (fnKey 4) [.oth (.iv .i64 302 403), .oth (.ss 0 20 3 5522759)] hempty n00) && rTrue (call2 tab 100 (fnKey 4) [.oth (.iv .i64 302 403), .oth (.ss 21 9223372036854775807 3 5522759)] hempty n00))) = true := by kernel_rfl
theorem r_9 : (rTrue (call2 tab 100 (fnKey 4) [.int .i64 404, .str 3 5522759] hempty n00) && (rTrue (call2 tab 100 (fnKey 4) [.int .i64 404, .oth (.ss 0 20 3 5522759)] hempty n00) && rTrue (call2 tab 100 (fnKey 4) [.int .i64 404, .oth (.ss 21 9223372036854775807 3 5522759)] hempty n00))) = true := by kernel_rfl
theorem r_10 : (rTrue (call2 tab 100 (fnKey 4) [.int .i64 405, .str 3 5522759] hempty n00) && (rTrue (call2 tab 100 (fnKey 4) [.int .i64 405, .oth (.ss 0 20 3 5522759)] hempty n00) && rTrue (call2 tab 100 (fnKey 4) [.int .i64 405, .oth (.ss 21 9223372036854775807 3 5522759)] hempty n00))) = true := by kernel_rfl
theorem r_11 : (rTrue (call2 tab 100 (fnKey 4) [.oth (.iv .i64 406 409), .str 3 5522759] hempty n00) && (rTrue (call2 tab 100 (fnKey 4) [.oth (.iv .i64 406 409), .oth (.ss 0 20 3 5522759)] hempty n00) && rTrue (call2 tab 100 (fnKey 4) [.oth (.iv .i64 406 409), .oth (.ss 21 9223372036854775807 3 5522759)] hempty n00))) = true := by kernel_rfl
theorem r_12 : (rTrue (call2 tab 100 (fnKey 4) [.int .i64 410, .str 3 5522759] hempty n00) && (rTrue (call2 tab 100 (fnKey 4) [.int .i64 410, .oth (.ss 0 20 3 5522759)] hempty n00) && rTrue (call2 tab 100 (fnKey 4) [.int .i64 410, .oth (.ss 21 9223372036854775807 3 5522759)] hempty n00))) = true := by kernel_rfl
theorem r_13 : (rTrue (call2 tab 100 (fnKey 4) [.oth (.iv .i64 411 413), .str 3 5522759] hempty n00) && (rTrue (call2 tab 100 (fnKey 4) [.oth (.iv .i64 411 413), .oth (.ss 0 20 3 5522759)] hempty n00) && rTrue (call2 tab 100 (fnKey 4) [.oth (.iv .i64 411 413), .oth (.ss 21 9223372036854775807 3 5522759)] hempty n00))) = true := by kernel_rfl
theorem r_14 : (rTrue (call2 tab 100 (fnKey 4) [.int .i64 414, .str 3 5522759] hempty n00) && (rTrue (call2 tab 100 (fnKey 4) [.int .i64 414, .oth (.ss 0 20 3 5522759)] hempty n00) && rTrue (call2 tab 100 (fnKey 4) [.int .i64 414, .oth (.ss 21 9223372036854775807 3 5522759)] hempty n00))) = true := by kernel_rfl
theorem r_15 : (rTrue (call2 tab 100 (fnKey 4) [.oth (.iv .i64 415 500), .str 3 5522759] hempty n00) && (rTrue (call2 tab 100 (fnKey 4) [.oth (.iv .i64 415 500), .oth (.ss 0 20 3 5522759)] hempty n00) && rTrue (call2 tab 100 (fnKey 4) [.oth (.iv .i64 415 500), .oth (.ss 21 9223372036854775807 3 5522759)] hempty n00))) = true := by kernel_rfl
theorem r_16 : (rTrue (call2 tab 100 (fnKey 4) [.int .i64 501, .str 3 5522759] hempty n00) && (rTrue (call2 tab 100 (fnKey 4) [.int .i64 501, .oth (.ss 0 20 3 5522759)] hempty n00) && rTrue (call2 tab 100 (fnKey 4) [.int .i64 501, .oth (.ss 21 9223372036854775807 3 5522759)] hempty n00))) = true := by kernel_rfl
theorem r_17 : (rTrue (call2 tab 100 (fnKey 4) [.oth (.iv .i64 502 9223372036854775807), .str 3 5522759] hempty n00) && (rTrue (call2 tab 100 (fnKey 4) [.oth (.iv .i64 502 9223372036854775807), .oth (.ss 0 20 3 5522759)] hempty n00) && rTrue (call2 tab 100 (fnKey 4) [.oth (.iv .i64 502 9223372036854775807), .oth (.ss 21 9223372036854775807 3 5522759)] hempty n00))) = true := by kernel_rfl
theorem rel_iv_in {ρ : Env} {φ : Emb} {a : Int} {lo hi : Nat} (h : (lo : Int) ≤ a) (h2 : a ≤ (hi : Int)) (h3 : hi < 9223372036854775808) : rel ρ φ (.oth (.iv .i64 lo hi)) (.int .i64 a) := by
  simp only [rel]
  refine ⟨a.toNat, by omega, by omega, by simp only [Mk]; omega, ?_⟩
  rw [dec_nonneg (by simp only [Hk]; omega)]
  congr 1; omega
theorem three (x : V) (h : (rTrue (call2 tab 100 (fnKey 4) [x, .str 3 5522759] hempty n00) && (rTrue (call2 tab 100 (fnKey 4) [x, .oth (.ss 0 20 3 5522759)] hempty n00) && rTrue (call2 tab 100 (fnKey 4) [x, .oth (.ss 21 9223372036854775807 3 5522759)] hempty n00))) = true)
    {a0 : Int} (hr : rel rhoS (fun _ => none) x (.int .i64 a0)) (s : ByteArray) (hs : s.size ≤ maxLen) (w : World) :
    Calls Try.prog 4 #[.int .i64 a0, .string s] w fun e w' => e = .returned (.bool true) ∧ Below w.heap.size w w' := by
  rw [Bool.and_eq_true, Bool.and_eq_true] at h
  by_cases hg : s.size = 3 ∧ encL s.data.toList = 5522759
  · exact law2_call oneS mixed tab_ok Try.func4 (by kernel_rfl) (by kernel_rfl) h.1 (rels_cons.2 ⟨_, _, rfl, hr, rels_cons.2 ⟨_, _, rfl, (by simp only [rel]; exact ⟨s, rfl, hg.1, hg.2⟩), rels_nil.2 rfl⟩⟩) w
  · by_cases hl : s.size ≤ 20
    · exact law2_call oneS mixed tab_ok Try.func4 (by kernel_rfl) (by kernel_rfl) h.2.1 (rels_cons.2 ⟨_, _, rfl, hr, rels_cons.2 ⟨_, _, rfl, (by simp only [rel]; exact ⟨s, rfl, Nat.zero_le _, hl, hg⟩), rels_nil.2 rfl⟩⟩) w
    · have hm : maxLen = 9223372036854775807 := rfl
      exact law2_call oneS mixed tab_ok Try.func4 (by kernel_rfl) (by kernel_rfl) h.2.2 (rels_cons.2 ⟨_, _, rfl, hr, rels_cons.2 ⟨_, _, rfl, (by simp only [rel]; exact ⟨s, rfl, by omega, by omega, hg⟩), rels_nil.2 rfl⟩⟩) w
theorem walk (a0 : Int) (w0 : (Lit.int .i64 a0).wf = true) (s : ByteArray) (hs : s.size ≤ maxLen) (w : World) :
    Calls Try.prog 4 #[.int .i64 a0, .string s] w fun e w' => e = .returned (.bool true) ∧ Below w.heap.size w w' := by
  have b0 := wf_i64 w0
  by_cases hn : a0 < 0
  · exact three _ r_neg (rel_iv_neg hn b0.1) s hs w
  by_cases h0 : a0 ≤ ((199 : Nat) : Int)
  · exact three _ r_0 (rel_iv_in (lo := 0) (by omega) h0 (by decide)) s hs w
  by_cases h1 : a0 = 200
  · subst h1
    exact three _ r_1 (rel_i64 (n := 200) (by decide)) s hs w
  by_cases h2 : a0 ≤ ((202 : Nat) : Int)
  · exact three _ r_2 (rel_iv_in (lo := 201) (by omega) h2 (by decide)) s hs w
  by_cases h3 : a0 = 203
  · subst h3
    exact three _ r_3 (rel_i64 (n := 203) (by decide)) s hs w
  by_cases h4 : a0 = 204
  · subst h4
    exact three _ r_4 (rel_i64 (n := 204) (by decide)) s hs w
  by_cases h5 : a0 ≤ ((299 : Nat) : Int)
  · exact three _ r_5 (rel_iv_in (lo := 205) (by omega) h5 (by decide)) s hs w
  by_cases h6 : a0 = 300
  · subst h6
    exact three _ r_6 (rel_i64 (n := 300) (by decide)) s hs w
  by_cases h7 : a0 = 301
  · subst h7
    exact three _ r_7 (rel_i64 (n := 301) (by decide)) s hs w
  by_cases h8 : a0 ≤ ((403 : Nat) : Int)
  · exact three _ r_8 (rel_iv_in (lo := 302) (by omega) h8 (by decide)) s hs w
  by_cases h9 : a0 = 404
  · subst h9
    exact three _ r_9 (rel_i64 (n := 404) (by decide)) s hs w
  by_cases h10 : a0 = 405
  · subst h10
    exact three _ r_10 (rel_i64 (n := 405) (by decide)) s hs w
  by_cases h11 : a0 ≤ ((409 : Nat) : Int)
  · exact three _ r_11 (rel_iv_in (lo := 406) (by omega) h11 (by decide)) s hs w
  by_cases h12 : a0 = 410
  · subst h12
    exact three _ r_12 (rel_i64 (n := 410) (by decide)) s hs w
  by_cases h13 : a0 ≤ ((413 : Nat) : Int)
  · exact three _ r_13 (rel_iv_in (lo := 411) (by omega) h13 (by decide)) s hs w
  by_cases h14 : a0 = 414
  · subst h14
    exact three _ r_14 (rel_i64 (n := 414) (by decide)) s hs w
  by_cases h15 : a0 ≤ ((500 : Nat) : Int)
  · exact three _ r_15 (rel_iv_in (lo := 415) (by omega) h15 (by decide)) s hs w
  by_cases h16 : a0 = 501
  · subst h16
    exact three _ r_16 (rel_i64 (n := 501) (by decide)) s hs w
  by_cases h17 : a0 ≤ ((9223372036854775807 : Nat) : Int)
  · exact three _ r_17 (rel_iv_in (lo := 502) (by omega) h17 (by decide)) s hs w
  exact absurd b0.2 (by omega)
set_option maxRecDepth 100000 in
theorem lifted (os : Os) (started : os.Started) (H : Type) (enc : TypeId × Value → H) :
    ReturnsInHanded {} Try.checked os 4 .any (Rows.storableStatusSpec.pre6 enc Try.prog Try.f4 Rows.storableStatusRow.domain false) (Rows.storableStatusSpec.post enc Try.prog Try.f4 false true false false) := by
  refine returnsInHanded_of_change (C := Try.checked) own started (by kernel_rfl) Try.func4
    (ChangeSpec.witness6 (enc := enc) (C := Try.checked) false ⟨#[], #[.int .i64 0, .string ⟨#[]⟩], []⟩ 8 (by kernel_rfl) (by kernel_rfl) (by kernel_rfl) (by kernel_rfl)) ?_
  intro W base args ds gs before hval0 hW hcnd _
  have hval : ∀ (j : Nat) t v, Try.f4.params[j]? = some t → args[j]? = some v → Value.okWide Try.prog W .any base t v := hval0
  have hW' := hW
  obtain ⟨p, q, hA0, hV, rfl, hfz, hnd⟩ := hW
  have hA : DataW.TrodAll enc Try.prog W 0 (fun _ => true) true Try.f4.params.toList args.toList ds p := hA0
  rw [Try.params4] at hA hval
  obtain ⟨v0, vs0, d0, ds0, p0, q0, hargs, rfl, rfl, h0, r0⟩ := trodAll_cons hA
  obtain ⟨v1, vs1, d1, ds1, p1, q1, rfl, rfl, rfl, h1, r1⟩ := trodAll_cons r0
  obtain ⟨rfl, rfl, rfl⟩ := trodAll_nil r1
  obtain rfl : args = #[v0, v1] := by cases args; simp_all
  obtain ⟨rfl, rfl⟩ := trodVars_none hV
  obtain ⟨a0, rfl, rfl, rfl, w0⟩ := open_int Try.underlying3 (hval 0 3 v0 rfl rfl) h0
  obtain ⟨s, rfl, rfl, rfl, hs⟩ := Go.ChangeMaps.open_string Try.underlying9 (hval 1 9 v1 rfl rfl) h1
  clear hA0 hval0
  simp only [List.append_nil] at hW'
  refine (walk a0 w0 s hs W).mono fun e W' ⟨he, hg⟩ => ?_
  subst he
  exact ⟨_, rfl, post_of_fresh (pa := []) (pv := []) hW' (fun _ _ _ => (trodAll_cons_mk (shut_bool Try.underlying4 _) trodAll_mk0)) (fun sp hsp => (trodAll_cons_mk (shut_int Try.underlying3 w0) (trodAll_cons_mk (Go.WideElems.Trod_stays (by kernel_rfl) (by kernel_rfl) (of_decide_eq_true (by kernel_rfl)) h1 (fun x hx => by cases hx) (fun x hx => by cases hx)) trodAll_mk0))) (fun _ _ => rfl) rfl
    hg (ok_one (by kernel_rfl) rfl (okWide_bool_mk Try.underlying4 _))⟩
theorem over : Rows.storableStatusRow.holds Try.pinned (OpenSpec.ofChange Rows.storableStatusSpec) :=
  OpenClaim.holds_of_wide 4 Try.f4 rfl rfl rfl rfl rfl rfl rfl ⟨rfl, rfl, rfl, rfl, rfl⟩ rfl rfl rfl rfl rfl (by kernel_rfl) Try.func4 (by kernel_rfl)
    (of_decide_eq_true (by kernel_rfl)) (by unfold Func.isWrapper; first | (rw [if_pos (by decide +kernel)]; kernel_rfl) | (rw [if_neg (by decide +kernel)]; exact ⟨rfl, rfl⟩))
    (fun os started H enc _ => lifted os started H enc)
theorem proved : Rows.StorableStatusSaid :=
  over
#print axioms proved
end Go.Proofs.Ytfkooacjpegidaa.storableStatus
