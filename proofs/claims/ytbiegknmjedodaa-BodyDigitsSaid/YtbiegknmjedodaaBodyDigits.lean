/- Proved: stillroomlaw17.BodyDigits returns true for every int n and every byte c, and its arguments read afterwards as before. Conditions: none beyond those of the given row. -/
import Derived.Test.YtbiegknmjedodaaRows
import Derived.WalkKit
import Derived.ProofKit
import Derived.OpenShut
import Derived.KernelRfl
import Derived.Test.YtbiegknmjedodaaT
namespace Go.Proofs.Ytbiegknmjedodaa.bodyDigits
open Go.Ev Go.Ev.Ytbiegknmjedodaa Go.ChangeShapes Go.WideShapes Go.ChangeAt Go.RowKit
set_option maxRecDepth 100000
set_option linter.unusedVariables false      -- a walk need not use every 'w<i>' (that an integer argument fits its kind)

theorem own : ownKnob Try.prog.godebug = none := by kernel_rfl

/-! ### STEP 1: THE WALK: the Go text returns true. 'Grown w w'': the world has at most new blocks (Derived/RowKit3.lean). Part the cases AHEAD of 'go_enter' where a test parts the walk; take each callee by a contract of your own. -/
theorem mixed : Try.prog.follows .mixedOrders = true := by kernel_rfl
theorem begun_true : rTrue (call2 tab 100 (fnKey 15) [] hempty n00) = true := by kernel_rfl
theorem run_0_0 : allN (fun i => rTrue (call2 tab 100 (fnKey 4) [.int .i64 0, .int .u8 (Nat.add 0 i)] hempty n00)) 128 = true := by kernel_rfl
theorem run_0_1 : allN (fun i => rTrue (call2 tab 100 (fnKey 4) [.int .i64 0, .int .u8 (Nat.add 128 i)] hempty n00)) 128 = true := by kernel_rfl
theorem run_1_0 : allN (fun i => rTrue (call2 tab 100 (fnKey 4) [.int .i64 1, .int .u8 (Nat.add 0 i)] hempty n00)) 128 = true := by kernel_rfl
theorem run_1_1 : allN (fun i => rTrue (call2 tab 100 (fnKey 4) [.int .i64 1, .int .u8 (Nat.add 128 i)] hempty n00)) 128 = true := by kernel_rfl
theorem run_2_0 : allN (fun i => rTrue (call2 tab 100 (fnKey 4) [.int .i64 2, .int .u8 (Nat.add 0 i)] hempty n00)) 128 = true := by kernel_rfl
theorem run_2_1 : allN (fun i => rTrue (call2 tab 100 (fnKey 4) [.int .i64 2, .int .u8 (Nat.add 128 i)] hempty n00)) 128 = true := by kernel_rfl
theorem run_3_0 : allN (fun i => rTrue (call2 tab 100 (fnKey 4) [.int .i64 3, .int .u8 (Nat.add 0 i)] hempty n00)) 128 = true := by kernel_rfl
theorem run_3_1 : allN (fun i => rTrue (call2 tab 100 (fnKey 4) [.int .i64 3, .int .u8 (Nat.add 128 i)] hempty n00)) 128 = true := by kernel_rfl
theorem run_4_0 : allN (fun i => rTrue (call2 tab 100 (fnKey 4) [.int .i64 4, .int .u8 (Nat.add 0 i)] hempty n00)) 128 = true := by kernel_rfl
theorem run_4_1 : allN (fun i => rTrue (call2 tab 100 (fnKey 4) [.int .i64 4, .int .u8 (Nat.add 128 i)] hempty n00)) 128 = true := by kernel_rfl
theorem run_5_0 : allN (fun i => rTrue (call2 tab 100 (fnKey 4) [.int .i64 5, .int .u8 (Nat.add 0 i)] hempty n00)) 128 = true := by kernel_rfl
theorem run_5_1 : allN (fun i => rTrue (call2 tab 100 (fnKey 4) [.int .i64 5, .int .u8 (Nat.add 128 i)] hempty n00)) 128 = true := by kernel_rfl
theorem run_6_0 : allN (fun i => rTrue (call2 tab 100 (fnKey 4) [.int .i64 6, .int .u8 (Nat.add 0 i)] hempty n00)) 128 = true := by kernel_rfl
theorem run_6_1 : allN (fun i => rTrue (call2 tab 100 (fnKey 4) [.int .i64 6, .int .u8 (Nat.add 128 i)] hempty n00)) 128 = true := by kernel_rfl
theorem run_7_0 : allN (fun i => rTrue (call2 tab 100 (fnKey 4) [.int .i64 7, .int .u8 (Nat.add 0 i)] hempty n00)) 128 = true := by kernel_rfl
theorem run_7_1 : allN (fun i => rTrue (call2 tab 100 (fnKey 4) [.int .i64 7, .int .u8 (Nat.add 128 i)] hempty n00)) 128 = true := by kernel_rfl
theorem run_8_0 : allN (fun i => rTrue (call2 tab 100 (fnKey 4) [.int .i64 8, .int .u8 (Nat.add 0 i)] hempty n00)) 128 = true := by kernel_rfl
theorem run_8_1 : allN (fun i => rTrue (call2 tab 100 (fnKey 4) [.int .i64 8, .int .u8 (Nat.add 128 i)] hempty n00)) 128 = true := by kernel_rfl
theorem run_9_0 : allN (fun i => rTrue (call2 tab 100 (fnKey 4) [.int .i64 9, .int .u8 (Nat.add 0 i)] hempty n00)) 128 = true := by kernel_rfl
theorem run_9_1 : allN (fun i => rTrue (call2 tab 100 (fnKey 4) [.int .i64 9, .int .u8 (Nat.add 128 i)] hempty n00)) 128 = true := by kernel_rfl
theorem run_10_0 : allN (fun i => rTrue (call2 tab 100 (fnKey 4) [.int .i64 10, .int .u8 (Nat.add 0 i)] hempty n00)) 128 = true := by kernel_rfl
theorem run_10_1 : allN (fun i => rTrue (call2 tab 100 (fnKey 4) [.int .i64 10, .int .u8 (Nat.add 128 i)] hempty n00)) 128 = true := by kernel_rfl
theorem run_11_0 : allN (fun i => rTrue (call2 tab 100 (fnKey 4) [.int .i64 11, .int .u8 (Nat.add 0 i)] hempty n00)) 128 = true := by kernel_rfl
theorem run_11_1 : allN (fun i => rTrue (call2 tab 100 (fnKey 4) [.int .i64 11, .int .u8 (Nat.add 128 i)] hempty n00)) 128 = true := by kernel_rfl
theorem run_12_0 : allN (fun i => rTrue (call2 tab 100 (fnKey 4) [.int .i64 12, .int .u8 (Nat.add 0 i)] hempty n00)) 128 = true := by kernel_rfl
theorem run_12_1 : allN (fun i => rTrue (call2 tab 100 (fnKey 4) [.int .i64 12, .int .u8 (Nat.add 128 i)] hempty n00)) 128 = true := by kernel_rfl

theorem begun_any (w : World) : Calls Try.prog 15 #[] w fun e w' => e = .returned (.bool true) ∧ Below w.heap.size w w' :=
  law2_call one0 mixed tab_ok Try.func15 (by kernel_rfl) (by kernel_rfl) begun_true (rels_nil.2 rfl) w
theorem at_ (n i j : Nat) (hn : n < 9223372036854775808) (hi : i + j < 256) (h : rTrue (call2 tab 100 (fnKey 4) [.int .i64 n, .int .u8 (Nat.add i j)] hempty n00) = true) (w : World) :
    Calls Try.prog 4 #[.int .i64 (n : Int), .int .u8 ((i + j : Nat) : Int)] w fun e w' => e = .returned (.bool true) ∧ Below w.heap.size w w' :=
  law2_call one0 mixed tab_ok Try.func4 (by kernel_rfl) (by kernel_rfl) h (rels_cons.2 ⟨_, _, rfl, rel_i64 hn, rels_cons.2 ⟨_, _, rfl, rel_u8 hi, rels_nil.2 rfl⟩⟩) w
theorem in_ (n : Nat) (c : Nat) (hn : n < 9223372036854775808) (hc : c < 256) (h0 : allN (fun i => rTrue (call2 tab 100 (fnKey 4) [.int .i64 n, .int .u8 (Nat.add 0 i)] hempty n00)) 128 = true) (h1 : allN (fun i => rTrue (call2 tab 100 (fnKey 4) [.int .i64 n, .int .u8 (Nat.add 128 i)] hempty n00)) 128 = true) (w : World) :
    Calls Try.prog 4 #[.int .i64 (n : Int), .int .u8 (c : Int)] w fun e w' => e = .returned (.bool true) ∧ Below w.heap.size w w' := by
  by_cases h : c < 128
  · obtain ⟨j, rfl⟩ : ∃ j, c = 0 + j := ⟨c, by omega⟩
    exact at_ n 0 j hn hc (allN_at h0 j (by omega)) w
  · obtain ⟨j, rfl⟩ : ∃ j, c = 128 + j := ⟨c - 128, by omega⟩
    exact at_ n 128 j hn hc (allN_at h1 j (by omega)) w
/-! ### STEP 1: THE WALK -/
theorem walk (a0 : Int) (a1 : Int) (w0 : (Lit.int .i64 a0).wf = true) (w1 : (Lit.int .u8 a1).wf = true) (w : World) :
    Calls Try.prog 4 #[.int .i64 a0, .int .u8 a1] w fun e w' => e = .returned (.bool true) ∧ Below w.heap.size w w' := by
  have hb : 0 ≤ a1 ∧ a1 ≤ 255 := bounds_u8 w1
  by_cases h0 : a0 < 0
  · go_enter Try.func4, Try.ntmps4
    go_wp2_with (go_at_call 15; refine (begun_any _).mono ?_; rintro e w' ⟨rfl, hb⟩)
    go_ret
    exact ⟨rfl, ‹_›⟩
  · by_cases h1 : 12 < a0
    · go_enter Try.func4, Try.ntmps4
      go_wp2_with (go_at_call 15; refine (begun_any _).mono ?_; rintro e w' ⟨rfl, hb⟩)
      go_ret
      exact ⟨rfl, ‹_›⟩
    · obtain ⟨n, rfl⟩ : ∃ i : Nat, a0 = i := ⟨a0.toNat, by omega⟩
      obtain ⟨c, rfl⟩ : ∃ i : Nat, a1 = i := ⟨a1.toNat, by omega⟩
      have hc : c < 256 := by omega
      have hn : n < 13 := by omega
      clear w0 w1 hb h0 h1
      by_cases h10 : n = 0
      · subst h10; exact in_ 0 c (by omega) hc run_0_0 run_0_1 w
      by_cases h11 : n = 1
      · subst h11; exact in_ 1 c (by omega) hc run_1_0 run_1_1 w
      by_cases h12 : n = 2
      · subst h12; exact in_ 2 c (by omega) hc run_2_0 run_2_1 w
      by_cases h13 : n = 3
      · subst h13; exact in_ 3 c (by omega) hc run_3_0 run_3_1 w
      by_cases h14 : n = 4
      · subst h14; exact in_ 4 c (by omega) hc run_4_0 run_4_1 w
      by_cases h15 : n = 5
      · subst h15; exact in_ 5 c (by omega) hc run_5_0 run_5_1 w
      by_cases h16 : n = 6
      · subst h16; exact in_ 6 c (by omega) hc run_6_0 run_6_1 w
      by_cases h17 : n = 7
      · subst h17; exact in_ 7 c (by omega) hc run_7_0 run_7_1 w
      by_cases h18 : n = 8
      · subst h18; exact in_ 8 c (by omega) hc run_8_0 run_8_1 w
      by_cases h19 : n = 9
      · subst h19; exact in_ 9 c (by omega) hc run_9_0 run_9_1 w
      by_cases h20 : n = 10
      · subst h20; exact in_ 10 c (by omega) hc run_10_0 run_10_1 w
      by_cases h21 : n = 11
      · subst h21; exact in_ 11 c (by omega) hc run_11_0 run_11_1 w
      by_cases h22 : n = 12
      · subst h22; exact in_ 12 c (by omega) hc run_12_0 run_12_1 w
      exact absurd hn (by omega)

/-! ### THE ROW's STEP: WRITTEN OUT: LEAVE IT -/
set_option maxRecDepth 100000 in
theorem lifted (os : Os) (started : os.Started) (H : Type) (enc : TypeId × Value → H) :
    ReturnsInHanded {} Try.checked os 4 .any (Rows.bodyDigitsSpec.pre6 enc Try.prog Try.f4 Rows.bodyDigitsRow.domain false) (Rows.bodyDigitsSpec.post enc Try.prog Try.f4 false true false false) := by
  refine returnsInHanded_of_change (C := Try.checked) own started (by kernel_rfl) Try.func4
    (ChangeSpec.witness6 (enc := enc) (C := Try.checked) false ⟨#[], #[.int .i64 0, .int .u8 0], []⟩ 8 (by kernel_rfl) (by kernel_rfl) (by kernel_rfl) (by kernel_rfl)) ?_
  intro W base args ds gs before hval0 hW hcnd _
  have hval : ∀ (j : Nat) t v, Try.f4.params[j]? = some t → args[j]? = some v → Value.okWide Try.prog W .any base t v := hval0
  have hW' := hW
  obtain ⟨p, q, hA0, hV, rfl, hfz, hnd⟩ := hW
  have hA : DataW.TrodAll enc Try.prog W 0 (fun _ => true) true Try.f4.params.toList args.toList ds p := hA0
  rw [Try.params4] at hA hval
  obtain ⟨v0, vs0, d0, ds0, p0, q0, hargs, rfl, rfl, h0, r0⟩ := trodAll_cons hA
  obtain ⟨v1, vs1, d1, ds1, p1, q1, rfl, rfl, rfl, h1, r1⟩ := trodAll_cons r0
  obtain ⟨rfl, rfl, rfl⟩ := trodAll_nil r1
  obtain rfl : args = #[v0, v1] := by cases args; simp_all
  obtain ⟨rfl, rfl⟩ := trodVars_none hV
  obtain ⟨a0, rfl, rfl, rfl, w0⟩ := open_int Try.underlying3 (hval 0 3 v0 rfl rfl) h0
  obtain ⟨a1, rfl, rfl, rfl, w1⟩ := open_int Try.underlying5 (hval 1 5 v1 rfl rfl) h1
  clear hA0 hval0
  simp only [List.append_nil] at hW'
  refine (walk a0 a1 w0 w1 W).mono fun e W' ⟨he, hg⟩ => ?_
  subst he
  exact ⟨_, rfl, post_of_fresh (pa := []) (pv := []) hW' (fun _ _ _ => (trodAll_cons_mk (shut_bool Try.underlying4 _) trodAll_mk0)) (fun sp _ => (trodAll_cons_mk (shut_int Try.underlying3 w0) (trodAll_cons_mk (shut_int Try.underlying5 w1) trodAll_mk0))) (fun _ _ => rfl) rfl
    hg (ok_one (by kernel_rfl) rfl (okWide_bool_mk Try.underlying4 _))⟩

theorem over : Rows.bodyDigitsRow.holds Try.pinned (OpenSpec.ofChange Rows.bodyDigitsSpec) :=
  OpenClaim.holds_of_wide 4 Try.f4 rfl rfl rfl rfl rfl rfl rfl ⟨rfl, rfl, rfl, rfl, rfl⟩ rfl rfl rfl rfl rfl (by kernel_rfl) Try.func4 (by kernel_rfl)
    (of_decide_eq_true (by kernel_rfl)) (by unfold Func.isWrapper; first | (rw [if_pos (by decide +kernel)]; kernel_rfl) | (rw [if_neg (by decide +kernel)]; exact ⟨rfl, rfl⟩))
    (fun os started H enc _ => lifted os started H enc)

/-- ████ THE STATEMENT ████ -/
theorem proved : Rows.BodyDigitsSaid :=
  over
#print axioms proved
end Go.Proofs.Ytbiegknmjedodaa.bodyDigits
