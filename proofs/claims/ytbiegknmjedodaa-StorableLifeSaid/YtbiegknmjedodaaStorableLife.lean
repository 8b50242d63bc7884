/- Proved: stillroomlaw23.StorableLife returns true for every int a and every bool shared, and its arguments read afterwards as before. Conditions: none beyond those of the given row. -/
import Derived.Test.YtbiegknmjedodaaRows
import Derived.WalkKit
import Derived.ProofKit
import Derived.OpenShut
import Derived.KernelRfl
import Derived.Test.YtbiegknmjedodaaT
namespace Go.Proofs.Ytbiegknmjedodaa.storableLife
open Go.Ev Go.Ev.Ytbiegknmjedodaa Go.ChangeShapes Go.WideShapes Go.ChangeAt Go.RowKit
set_option maxRecDepth 100000
set_option linter.unusedVariables false      -- a walk need not use every 'w<i>' (that an integer argument fits its kind)

theorem own : ownKnob Try.prog.godebug = none := by kernel_rfl

/-! ### STEP 1: THE WALK: the Go text returns true. 'Grown w w'': the world has at most new blocks (Derived/RowKit3.lean). Part the cases AHEAD of 'go_enter' where a test parts the walk; take each callee by a contract of your own. -/
theorem mixed : Try.prog.follows .mixedOrders = true := by kernel_rfl
theorem begun_true : rTrue (call2 tab 100 (fnKey 17) [] hempty n00) = true := by kernel_rfl
theorem run_false_0 : allN (fun i => rTrue (call2 tab 100 (fnKey 5) [.int .i64 (Nat.add 0 i), .bool false] hempty n00)) 20 = true := by kernel_rfl
theorem run_false_20 : allN (fun i => rTrue (call2 tab 100 (fnKey 5) [.int .i64 (Nat.add 20 i), .bool false] hempty n00)) 20 = true := by kernel_rfl
theorem run_false_40 : allN (fun i => rTrue (call2 tab 100 (fnKey 5) [.int .i64 (Nat.add 40 i), .bool false] hempty n00)) 20 = true := by kernel_rfl
theorem run_false_60 : allN (fun i => rTrue (call2 tab 100 (fnKey 5) [.int .i64 (Nat.add 60 i), .bool false] hempty n00)) 20 = true := by kernel_rfl
theorem run_false_80 : allN (fun i => rTrue (call2 tab 100 (fnKey 5) [.int .i64 (Nat.add 80 i), .bool false] hempty n00)) 20 = true := by kernel_rfl
theorem run_false_100 : allN (fun i => rTrue (call2 tab 100 (fnKey 5) [.int .i64 (Nat.add 100 i), .bool false] hempty n00)) 1 = true := by kernel_rfl
theorem run_true_0 : allN (fun i => rTrue (call2 tab 100 (fnKey 5) [.int .i64 (Nat.add 0 i), .bool true] hempty n00)) 20 = true := by kernel_rfl
theorem run_true_20 : allN (fun i => rTrue (call2 tab 100 (fnKey 5) [.int .i64 (Nat.add 20 i), .bool true] hempty n00)) 20 = true := by kernel_rfl
theorem run_true_40 : allN (fun i => rTrue (call2 tab 100 (fnKey 5) [.int .i64 (Nat.add 40 i), .bool true] hempty n00)) 20 = true := by kernel_rfl
theorem run_true_60 : allN (fun i => rTrue (call2 tab 100 (fnKey 5) [.int .i64 (Nat.add 60 i), .bool true] hempty n00)) 20 = true := by kernel_rfl
theorem run_true_80 : allN (fun i => rTrue (call2 tab 100 (fnKey 5) [.int .i64 (Nat.add 80 i), .bool true] hempty n00)) 20 = true := by kernel_rfl
theorem run_true_100 : allN (fun i => rTrue (call2 tab 100 (fnKey 5) [.int .i64 (Nat.add 100 i), .bool true] hempty n00)) 1 = true := by kernel_rfl

theorem begun_any (w : World) : Calls Try.prog 17 #[] w fun e w' => e = .returned (.bool true) ∧ Below w.heap.size w w' :=
  law2_call one0 mixed tab_ok Try.func17 (by kernel_rfl) (by kernel_rfl) begun_true (rels_nil.2 rfl) w
theorem at_ (i j : Nat) (b : Bool) (hi : i + j < 9223372036854775808) (h : rTrue (call2 tab 100 (fnKey 5) [.int .i64 (Nat.add i j), .bool b] hempty n00) = true) (w : World) :
    Calls Try.prog 5 #[.int .i64 ((i + j : Nat) : Int), .bool b] w fun e w' => e = .returned (.bool true) ∧ Below w.heap.size w w' :=
  law2_call one0 mixed tab_ok Try.func5 (by kernel_rfl) (by kernel_rfl) h (rels_cons.2 ⟨_, _, rfl, rel_i64 hi, rels_cons.2 ⟨_, _, rfl, rel_boolv _, rels_nil.2 rfl⟩⟩) w
/-! ### STEP 1: THE WALK -/
theorem walk (a0 : Int) (a1 : Bool) (w0 : (Lit.int .i64 a0).wf = true) (w : World) :
    Calls Try.prog 5 #[.int .i64 a0, .bool a1] w fun e w' => e = .returned (.bool true) ∧ Below w.heap.size w w' := by
  by_cases h0 : a0 < 0
  · go_enter Try.func5, Try.ntmps5
    go_wp2_with (go_at_call 17; refine (begun_any _).mono ?_; rintro e w' ⟨rfl, hb⟩)
    go_ret
    exact ⟨rfl, ‹_›⟩
  · by_cases h1 : 100 < a0
    · go_enter Try.func5, Try.ntmps5
      go_wp2_with (go_at_call 17; refine (begun_any _).mono ?_; rintro e w' ⟨rfl, hb⟩)
      go_ret
      exact ⟨rfl, ‹_›⟩
    · obtain ⟨i, rfl⟩ : ∃ i : Nat, a0 = i := ⟨a0.toNat, by omega⟩
      cases a1 with
      | false =>
        by_cases h10 : i < 20
        · obtain ⟨j, rfl⟩ : ∃ j, i = 0 + j := ⟨i - 0, by omega⟩
          exact at_ 0 j false (by omega) (allN_at run_false_0 j (by omega)) w
        by_cases h30 : i < 40
        · obtain ⟨j, rfl⟩ : ∃ j, i = 20 + j := ⟨i - 20, by omega⟩
          exact at_ 20 j false (by omega) (allN_at run_false_20 j (by omega)) w
        by_cases h50 : i < 60
        · obtain ⟨j, rfl⟩ : ∃ j, i = 40 + j := ⟨i - 40, by omega⟩
          exact at_ 40 j false (by omega) (allN_at run_false_40 j (by omega)) w
        by_cases h70 : i < 80
        · obtain ⟨j, rfl⟩ : ∃ j, i = 60 + j := ⟨i - 60, by omega⟩
          exact at_ 60 j false (by omega) (allN_at run_false_60 j (by omega)) w
        by_cases h90 : i < 100
        · obtain ⟨j, rfl⟩ : ∃ j, i = 80 + j := ⟨i - 80, by omega⟩
          exact at_ 80 j false (by omega) (allN_at run_false_80 j (by omega)) w
        by_cases h110 : i < 101
        · obtain ⟨j, rfl⟩ : ∃ j, i = 100 + j := ⟨i - 100, by omega⟩
          exact at_ 100 j false (by omega) (allN_at run_false_100 j (by omega)) w
        exact absurd (show i < 101 by omega) (by omega)
      | true =>
        by_cases h10 : i < 20
        · obtain ⟨j, rfl⟩ : ∃ j, i = 0 + j := ⟨i - 0, by omega⟩
          exact at_ 0 j true (by omega) (allN_at run_true_0 j (by omega)) w
        by_cases h30 : i < 40
        · obtain ⟨j, rfl⟩ : ∃ j, i = 20 + j := ⟨i - 20, by omega⟩
          exact at_ 20 j true (by omega) (allN_at run_true_20 j (by omega)) w
        by_cases h50 : i < 60
        · obtain ⟨j, rfl⟩ : ∃ j, i = 40 + j := ⟨i - 40, by omega⟩
          exact at_ 40 j true (by omega) (allN_at run_true_40 j (by omega)) w
        by_cases h70 : i < 80
        · obtain ⟨j, rfl⟩ : ∃ j, i = 60 + j := ⟨i - 60, by omega⟩
          exact at_ 60 j true (by omega) (allN_at run_true_60 j (by omega)) w
        by_cases h90 : i < 100
        · obtain ⟨j, rfl⟩ : ∃ j, i = 80 + j := ⟨i - 80, by omega⟩
          exact at_ 80 j true (by omega) (allN_at run_true_80 j (by omega)) w
        by_cases h110 : i < 101
        · obtain ⟨j, rfl⟩ : ∃ j, i = 100 + j := ⟨i - 100, by omega⟩
          exact at_ 100 j true (by omega) (allN_at run_true_100 j (by omega)) w
        exact absurd (show i < 101 by omega) (by omega)

/-! ### THE ROW's STEP: WRITTEN OUT: LEAVE IT -/
set_option maxRecDepth 100000 in
theorem lifted (os : Os) (started : os.Started) (H : Type) (enc : TypeId × Value → H) :
    ReturnsInHanded {} Try.checked os 5 .any (Rows.storableLifeSpec.pre6 enc Try.prog Try.f5 Rows.storableLifeRow.domain false) (Rows.storableLifeSpec.post enc Try.prog Try.f5 false true false false) := by
  refine returnsInHanded_of_change (C := Try.checked) own started (by kernel_rfl) Try.func5
    (ChangeSpec.witness6 (enc := enc) (C := Try.checked) false ⟨#[], #[.int .i64 0, .bool false], []⟩ 8 (by kernel_rfl) (by kernel_rfl) (by kernel_rfl) (by kernel_rfl)) ?_
  intro W base args ds gs before hval0 hW hcnd _
  have hval : ∀ (j : Nat) t v, Try.f5.params[j]? = some t → args[j]? = some v → Value.okWide Try.prog W .any base t v := hval0
  have hW' := hW
  obtain ⟨p, q, hA0, hV, rfl, hfz, hnd⟩ := hW
  have hA : DataW.TrodAll enc Try.prog W 0 (fun _ => true) true Try.f5.params.toList args.toList ds p := hA0
  rw [Try.params5] at hA hval
  obtain ⟨v0, vs0, d0, ds0, p0, q0, hargs, rfl, rfl, h0, r0⟩ := trodAll_cons hA
  obtain ⟨v1, vs1, d1, ds1, p1, q1, rfl, rfl, rfl, h1, r1⟩ := trodAll_cons r0
  obtain ⟨rfl, rfl, rfl⟩ := trodAll_nil r1
  obtain rfl : args = #[v0, v1] := by cases args; simp_all
  obtain ⟨rfl, rfl⟩ := trodVars_none hV
  obtain ⟨a0, rfl, rfl, rfl, w0⟩ := open_int Try.underlying3 (hval 0 3 v0 rfl rfl) h0
  obtain ⟨a1, rfl, rfl, rfl⟩ := open_bool Try.underlying4 (hval 1 4 v1 rfl rfl) h1
  clear hA0 hval0
  simp only [List.append_nil] at hW'
  refine (walk a0 a1 w0 W).mono fun e W' ⟨he, hg⟩ => ?_
  subst he
  exact ⟨_, rfl, post_of_fresh (pa := []) (pv := []) hW' (fun _ _ _ => (trodAll_cons_mk (shut_bool Try.underlying4 _) trodAll_mk0)) (fun sp _ => (trodAll_cons_mk (shut_int Try.underlying3 w0) (trodAll_cons_mk (shut_bool Try.underlying4 _) trodAll_mk0))) (fun _ _ => rfl) rfl
    hg (ok_one (by kernel_rfl) rfl (okWide_bool_mk Try.underlying4 _))⟩

theorem over : Rows.storableLifeRow.holds Try.pinned (OpenSpec.ofChange Rows.storableLifeSpec) :=
  OpenClaim.holds_of_wide 5 Try.f5 rfl rfl rfl rfl rfl rfl rfl ⟨rfl, rfl, rfl, rfl, rfl⟩ rfl rfl rfl rfl rfl (by kernel_rfl) Try.func5 (by kernel_rfl)
    (of_decide_eq_true (by kernel_rfl)) (by unfold Func.isWrapper; first | (rw [if_pos (by decide +kernel)]; kernel_rfl) | (rw [if_neg (by decide +kernel)]; exact ⟨rfl, rfl⟩))
    (fun os started H enc _ => lifted os started H enc)

/-- ████ THE STATEMENT ████ -/
theorem proved : Rows.StorableLifeSaid :=
  over
#print axioms proved
end Go.Proofs.Ytbiegknmjedodaa.storableLife
