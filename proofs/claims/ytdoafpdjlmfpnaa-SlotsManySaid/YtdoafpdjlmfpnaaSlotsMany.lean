/- Proved: stillroomlaw9.SlotsMany returns true for every int, and its arguments read afterwards as before. Conditions: none beyond those of the given row. -/
import Derived.Test.YtdoafpdjlmfpnaaRows
import Derived.WalkKit
import Derived.ProofKit
import Derived.OpenShut
import Derived.KernelRfl
import Derived.Test.YtdoafpdjlmfpnaaT
namespace Go.Proofs.Ytdoafpdjlmfpnaa.slotsMany
open Go.Ev Go.Ev.Ytdoafpdjlmfpnaa Go.ChangeShapes Go.WideShapes Go.ChangeAt Go.RowKit
set_option maxRecDepth 100000
set_option linter.unusedVariables false      -- a walk need not use every 'w<i>' (that an integer argument fits its kind)

theorem own : ownKnob Try.prog.godebug = none := by kernel_rfl

/-! ### STEP 1: THE WALK: the Go text returns true. 'Grown w w'': the world has at most new blocks (Derived/RowKit3.lean). Part the cases AHEAD of 'go_enter' where a test parts the walk; take each callee by a contract of your own. -/
theorem mixed : Try.prog.follows .mixedOrders = true := by kernel_rfl
theorem begun_true : rTrue (call2 tab 100 (fnKey 37) [] hempty n00) = true := by kernel_rfl
theorem run_0 : allN (fun i => rTrue (call2 tab 100 (fnKey 9) [.int .i64 (Nat.add 0 i)] hempty n00)) 9 = true := by kernel_rfl
theorem run_9 : allN (fun i => rTrue (call2 tab 100 (fnKey 9) [.int .i64 (Nat.add 9 i)] hempty n00)) 6 = true := by kernel_rfl
theorem run_15 : allN (fun i => rTrue (call2 tab 100 (fnKey 9) [.int .i64 (Nat.add 15 i)] hempty n00)) 5 = true := by kernel_rfl
theorem run_20 : allN (fun i => rTrue (call2 tab 100 (fnKey 9) [.int .i64 (Nat.add 20 i)] hempty n00)) 4 = true := by kernel_rfl
theorem run_24 : allN (fun i => rTrue (call2 tab 100 (fnKey 9) [.int .i64 (Nat.add 24 i)] hempty n00)) 3 = true := by kernel_rfl
theorem run_27 : allN (fun i => rTrue (call2 tab 100 (fnKey 9) [.int .i64 (Nat.add 27 i)] hempty n00)) 3 = true := by kernel_rfl
theorem run_30 : allN (fun i => rTrue (call2 tab 100 (fnKey 9) [.int .i64 (Nat.add 30 i)] hempty n00)) 3 = true := by kernel_rfl
theorem run_33 : allN (fun i => rTrue (call2 tab 100 (fnKey 9) [.int .i64 (Nat.add 33 i)] hempty n00)) 3 = true := by kernel_rfl
theorem run_36 : allN (fun i => rTrue (call2 tab 100 (fnKey 9) [.int .i64 (Nat.add 36 i)] hempty n00)) 2 = true := by kernel_rfl
theorem run_38 : allN (fun i => rTrue (call2 tab 100 (fnKey 9) [.int .i64 (Nat.add 38 i)] hempty n00)) 2 = true := by kernel_rfl
theorem run_40 : allN (fun i => rTrue (call2 tab 100 (fnKey 9) [.int .i64 (Nat.add 40 i)] hempty n00)) 2 = true := by kernel_rfl
theorem run_42 : allN (fun i => rTrue (call2 tab 100 (fnKey 9) [.int .i64 (Nat.add 42 i)] hempty n00)) 2 = true := by kernel_rfl
theorem run_44 : allN (fun i => rTrue (call2 tab 100 (fnKey 9) [.int .i64 (Nat.add 44 i)] hempty n00)) 2 = true := by kernel_rfl
theorem run_46 : allN (fun i => rTrue (call2 tab 100 (fnKey 9) [.int .i64 (Nat.add 46 i)] hempty n00)) 2 = true := by kernel_rfl
theorem run_48 : allN (fun i => rTrue (call2 tab 100 (fnKey 9) [.int .i64 (Nat.add 48 i)] hempty n00)) 2 = true := by kernel_rfl
theorem run_50 : allN (fun i => rTrue (call2 tab 100 (fnKey 9) [.int .i64 (Nat.add 50 i)] hempty n00)) 1 = true := by kernel_rfl
theorem begun_any (w : World) : Calls Try.prog 37 #[] w fun e w' => e = .returned (.bool true) ∧ Below w.heap.size w w' :=
  law2_call oneS mixed tab_ok Try.func37 (by kernel_rfl) (by kernel_rfl) begun_true (rels_nil.2 rfl) w
theorem at_ (i j : Nat) (hi : i + j < 9223372036854775808) (h : rTrue (call2 tab 100 (fnKey 9) [.int .i64 (Nat.add i j)] hempty n00) = true) (w : World) :
    Calls Try.prog 9 #[.int .i64 ((i + j : Nat) : Int)] w fun e w' => e = .returned (.bool true) ∧ Below w.heap.size w w' :=
  law2_call oneS mixed tab_ok Try.func9 (by kernel_rfl) (by kernel_rfl) h (rels_cons.2 ⟨_, _, rfl, rel_i64 hi, rels_nil.2 rfl⟩) w
/-! ### STEP 1: THE WALK -/
theorem walk (a0 : Int) (w0 : (Lit.int .i64 a0).wf = true) (w : World) :
    Calls Try.prog 9 #[.int .i64 a0] w fun e w' => e = .returned (.bool true) ∧ Below w.heap.size w w' := by
  by_cases h0 : a0 < 0
  · go_enter Try.func9, Try.ntmps9
    go_wp2_with (go_at_call 37; refine (begun_any _).mono ?_; rintro e w' ⟨rfl, hb⟩)
    go_ret
    exact ⟨rfl, ‹_›⟩
  · by_cases h1 : 50 < a0
    · go_enter Try.func9, Try.ntmps9
      go_wp2_with (go_at_call 37; refine (begun_any _).mono ?_; rintro e w' ⟨rfl, hb⟩)
      go_ret
      exact ⟨rfl, ‹_›⟩
    · obtain ⟨i, rfl⟩ : ∃ i : Nat, a0 = i := ⟨a0.toNat, by omega⟩
      by_cases h10 : i < 9
      · obtain ⟨j, rfl⟩ : ∃ j, i = 0 + j := ⟨i - 0, by omega⟩
        exact at_ 0 j (by omega) (allN_at run_0 j (by omega)) w
      by_cases h19 : i < 15
      · obtain ⟨j, rfl⟩ : ∃ j, i = 9 + j := ⟨i - 9, by omega⟩
        exact at_ 9 j (by omega) (allN_at run_9 j (by omega)) w
      by_cases h25 : i < 20
      · obtain ⟨j, rfl⟩ : ∃ j, i = 15 + j := ⟨i - 15, by omega⟩
        exact at_ 15 j (by omega) (allN_at run_15 j (by omega)) w
      by_cases h30 : i < 24
      · obtain ⟨j, rfl⟩ : ∃ j, i = 20 + j := ⟨i - 20, by omega⟩
        exact at_ 20 j (by omega) (allN_at run_20 j (by omega)) w
      by_cases h34 : i < 27
      · obtain ⟨j, rfl⟩ : ∃ j, i = 24 + j := ⟨i - 24, by omega⟩
        exact at_ 24 j (by omega) (allN_at run_24 j (by omega)) w
      by_cases h37 : i < 30
      · obtain ⟨j, rfl⟩ : ∃ j, i = 27 + j := ⟨i - 27, by omega⟩
        exact at_ 27 j (by omega) (allN_at run_27 j (by omega)) w
      by_cases h40 : i < 33
      · obtain ⟨j, rfl⟩ : ∃ j, i = 30 + j := ⟨i - 30, by omega⟩
        exact at_ 30 j (by omega) (allN_at run_30 j (by omega)) w
      by_cases h43 : i < 36
      · obtain ⟨j, rfl⟩ : ∃ j, i = 33 + j := ⟨i - 33, by omega⟩
        exact at_ 33 j (by omega) (allN_at run_33 j (by omega)) w
      by_cases h46 : i < 38
      · obtain ⟨j, rfl⟩ : ∃ j, i = 36 + j := ⟨i - 36, by omega⟩
        exact at_ 36 j (by omega) (allN_at run_36 j (by omega)) w
      by_cases h48 : i < 40
      · obtain ⟨j, rfl⟩ : ∃ j, i = 38 + j := ⟨i - 38, by omega⟩
        exact at_ 38 j (by omega) (allN_at run_38 j (by omega)) w
      by_cases h50 : i < 42
      · obtain ⟨j, rfl⟩ : ∃ j, i = 40 + j := ⟨i - 40, by omega⟩
        exact at_ 40 j (by omega) (allN_at run_40 j (by omega)) w
      by_cases h52 : i < 44
      · obtain ⟨j, rfl⟩ : ∃ j, i = 42 + j := ⟨i - 42, by omega⟩
        exact at_ 42 j (by omega) (allN_at run_42 j (by omega)) w
      by_cases h54 : i < 46
      · obtain ⟨j, rfl⟩ : ∃ j, i = 44 + j := ⟨i - 44, by omega⟩
        exact at_ 44 j (by omega) (allN_at run_44 j (by omega)) w
      by_cases h56 : i < 48
      · obtain ⟨j, rfl⟩ : ∃ j, i = 46 + j := ⟨i - 46, by omega⟩
        exact at_ 46 j (by omega) (allN_at run_46 j (by omega)) w
      by_cases h58 : i < 50
      · obtain ⟨j, rfl⟩ : ∃ j, i = 48 + j := ⟨i - 48, by omega⟩
        exact at_ 48 j (by omega) (allN_at run_48 j (by omega)) w
      by_cases h60 : i < 51
      · obtain ⟨j, rfl⟩ : ∃ j, i = 50 + j := ⟨i - 50, by omega⟩
        exact at_ 50 j (by omega) (allN_at run_50 j (by omega)) w
      exact absurd (show i < 51 by omega) (by omega)

/-! ### THE ROW's STEP: WRITTEN OUT: LEAVE IT -/
set_option maxRecDepth 100000 in
theorem lifted (os : Os) (started : os.Started) (H : Type) (enc : TypeId × Value → H) :
    ReturnsInHanded {} Try.checked os 9 .any (Rows.slotsManySpec.pre6 enc Try.prog Try.f9 Rows.slotsManyRow.domain false) (Rows.slotsManySpec.post enc Try.prog Try.f9 false true false false) := by
  refine returnsInHanded_of_change (C := Try.checked) own started (by kernel_rfl) Try.func9
    (ChangeSpec.witness6 (enc := enc) (C := Try.checked) false ⟨#[], #[.int .i64 0], []⟩ 8 (by kernel_rfl) (by kernel_rfl) (by kernel_rfl) (by kernel_rfl)) ?_
  intro W base args ds gs before hval0 hW hcnd _
  have hval : ∀ (j : Nat) t v, Try.f9.params[j]? = some t → args[j]? = some v → Value.okWide Try.prog W .any base t v := hval0
  have hW' := hW
  obtain ⟨p, q, hA0, hV, rfl, hfz, hnd⟩ := hW
  have hA : DataW.TrodAll enc Try.prog W 0 (fun _ => true) true Try.f9.params.toList args.toList ds p := hA0
  rw [Try.params9] at hA hval
  obtain ⟨v0, vs0, d0, ds0, p0, q0, hargs, rfl, rfl, h0, r0⟩ := trodAll_cons hA
  obtain ⟨rfl, rfl, rfl⟩ := trodAll_nil r0
  obtain rfl : args = #[v0] := by cases args; simp_all
  obtain ⟨rfl, rfl⟩ := trodVars_none hV
  obtain ⟨a0, rfl, rfl, rfl, w0⟩ := open_int Try.underlying3 (hval 0 3 v0 rfl rfl) h0
  clear hA0 hval0
  simp only [List.append_nil] at hW'
  refine (walk a0 w0 W).mono fun e W' ⟨he, hg⟩ => ?_
  subst he
  exact ⟨_, rfl, post_of_fresh (pa := []) (pv := []) hW' (fun _ _ _ => (trodAll_cons_mk (shut_bool Try.underlying4 _) trodAll_mk0)) (fun sp _ => (trodAll_cons_mk (shut_int Try.underlying3 w0) trodAll_mk0)) (fun _ _ => rfl) rfl
    hg (ok_one (by kernel_rfl) rfl (okWide_bool_mk Try.underlying4 _))⟩

theorem over : Rows.slotsManyRow.holds Try.pinned (OpenSpec.ofChange Rows.slotsManySpec) :=
  OpenClaim.holds_of_wide 9 Try.f9 rfl rfl rfl rfl rfl rfl rfl ⟨rfl, rfl, rfl, rfl, rfl⟩ rfl rfl rfl rfl rfl (by kernel_rfl) Try.func9 (by kernel_rfl)
    (of_decide_eq_true (by kernel_rfl)) (by unfold Func.isWrapper; first | (rw [if_pos (by decide +kernel)]; kernel_rfl) | (rw [if_neg (by decide +kernel)]; exact ⟨rfl, rfl⟩))
    (fun os started H enc _ => lifted os started H enc)

/-- ████ THE STATEMENT ████ -/
theorem proved : Rows.SlotsManySaid :=
  over
#print axioms proved
end Go.Proofs.Ytdoafpdjlmfpnaa.slotsMany
