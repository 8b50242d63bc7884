/- The words' functions, walked: letters, tokens, targets, values, trimmed texts. -/
import Derived.Test.YtjcbohpemfmpiaaDoorProg
import Derived.Test.YtjcbohpemfmpiaaDoorHa
import Derived.Test.YtjcbohpemfmpiaaDoorHb
import Derived.WalkKit
import Derived.ProofKit
import Derived.KernelRfl
import Derived.Deep.QuietTactic
import Derived.BigQuiet
import Derived.Lib.Hide
namespace Go.Proofs.YtjcbohpemfmpiaaDoor.headLong
set_option linter.unusedVariables false
set_option linter.unusedSimpArgs false
open Go.ChangeShapes Go.WideShapes Go.ChangeAt Go.RowKit Go.Hl Go.Hg
theorem byte_all (p : UInt8 → Bool) {s : ByteArray} {k : Nat} (h : k < s.size) : (s.data.toList.take (k + 1)).all p = ((s.data.toList.take k).all p && p (bt s k)) := by
  have hl : k < s.data.toList.length := by simpa using h
  rw [List.take_succ_eq_append_getElem hl, List.all_append]
  have : s.data.toList[k] = bt s k := by unfold bt; rw [List.getElem?_eq_getElem hl]; rfl
  rw [this]
  simp
theorem all_take {p : UInt8 → Bool} {s : ByteArray} : (s.data.toList.take s.size).all p = s.data.toList.all p := by
  rw [List.take_of_length_le (by simp)]
theorem all_not {p : UInt8 → Bool} {s : ByteArray} {k : Nat} (h : k < s.size) (hp : p (bt s k) = false) : s.data.toList.all p = false := by
  have hl : k < s.data.toList.length := by simpa using h
  rw [← Bool.not_eq_true, List.all_eq_true]
  intro ha
  have := ha (bt s k) (by unfold bt; rw [List.getElem?_eq_getElem hl]; simp)
  rw [hp] at this; cases this
theorem empty_eq {s : ByteArray} (h : 0 < s.size) : s.data.toList.isEmpty = false := by
  rw [List.isEmpty_eq_false_iff]
  intro e
  have : s.data.toList.length = 0 := by rw [e]; rfl
  have h : 0 < s.data.size := h
  rw [Array.length_toList] at this
  omega
theorem empty_eq0 {s : ByteArray} (h : s.size = 0) : s.data.toList.isEmpty = true := by
  rw [List.isEmpty_iff]
  exact List.eq_nil_of_length_eq_zero (by simpa using h)
/-- A letter or a digit (0: text.letter). -/
theorem letter (n : Int) (h0 : 0 ≤ n) (h1 : n < 256) (b : Bool) (hb : letN n.toNat = b) (w : World) : Calls Tryd.prog 52 #[.int .u8 n] w fun e w' => e = .returned (.bool b) ∧ w = w' := by
  rcases (by omega : n < 48 ∨ (48 ≤ n ∧ n ≤ 57) ∨ (57 < n ∧ n < 65) ∨ (65 ≤ n ∧ n ≤ 90) ∨ (90 < n ∧ n < 97) ∨ (97 ≤ n ∧ n ≤ 122) ∨ 122 < n) with h | ⟨h, h'⟩ | ⟨h, h'⟩ | ⟨h, h'⟩ | ⟨h, h'⟩ | ⟨h, h'⟩ | h
  all_goals
    have hb' := hb
    simp only [letN, digN, lowN, capN] at hb'
    have HB := Lib.hid hb
    clear hb hb'
    go_enter Tryd.func52, Tryd.ntmps52
    go_wp2
    go_ret
    exact ⟨congrArg (fun b => Ending.returned (Value.bool b)) (by rw [← HB.out, Bool.eq_iff_iff]; simp [letN, digN, lowN, capN]; try omega), rfl⟩
theorem blank (n : Int) (h0 : 0 ≤ n) (h1 : n < 256) (b : Bool) (hb : blkN n.toNat = b) (w : World) : Calls Tryd.prog 55 #[.int .u8 n] w fun e w' => e = .returned (.bool b) ∧ w = w' := by
  rcases (by omega : n < 9 ∨ n = 9 ∨ (9 < n ∧ n < 32) ∨ n = 32 ∨ 32 < n) with h | rfl | ⟨h, h'⟩ | rfl | h
  all_goals
    have HB := Lib.hid hb
    clear hb
    go_enter Tryd.func55, Tryd.ntmps55
    go_wp2
    go_ret
    exact ⟨congrArg (fun b => Ending.returned (Value.bool b)) (by rw [← HB.out, Bool.eq_iff_iff]; simp [blkN]; try omega), rfl⟩
theorem rblank (n : Int) (h0 : 0 ≤ n) (h1 : n < 256) (b : Bool) (hb : blkN n.toNat = b) (w : World) : Calls Tryd.prog 58 #[.int .u8 n] w fun e w' => e = .returned (.bool b) ∧ w = w' := by
  rcases (by omega : n < 9 ∨ n = 9 ∨ (9 < n ∧ n < 32) ∨ n = 32 ∨ 32 < n) with h | rfl | ⟨h, h'⟩ | rfl | h
  all_goals
    have HB := Lib.hid hb
    clear hb
    go_enter Tryd.func58, Tryd.ntmps58
    go_wp2
    go_ret
    exact ⟨congrArg (fun b => Ending.returned (Value.bool b)) (by rw [← HB.out, Bool.eq_iff_iff]; simp [blkN]; try omega), rfl⟩
theorem rdigit (n : Int) (h0 : 0 ≤ n) (h1 : n < 256) (b : Bool) (hb : digN n.toNat = b) (w : World) : Calls Tryd.prog 50 #[.int .u8 n] w fun e w' => e = .returned (.bool b) ∧ w = w' := by
  rcases (by omega : n < 48 ∨ (48 ≤ n ∧ n ≤ 57) ∨ 57 < n) with h | ⟨h, h'⟩ | h
  all_goals
    have HB := Lib.hid hb
    clear hb
    go_enter Tryd.func50, Tryd.ntmps50
    go_wp2
    go_ret
    exact ⟨congrArg (fun b => Ending.returned (Value.bool b)) (by rw [← HB.out, Bool.eq_iff_iff]; simp [digN]; try omega), rfl⟩
theorem rletter (n : Int) (h0 : 0 ≤ n) (h1 : n < 256) (b : Bool) (hb : (lowN n.toNat || capN n.toNat) = b) (w : World) : Calls Tryd.prog 56 #[.int .u8 n] w fun e w' => e = .returned (.bool b) ∧ w = w' := by
  rcases (by omega : n < 65 ∨ (65 ≤ n ∧ n ≤ 90) ∨ (90 < n ∧ n < 97) ∨ (97 ≤ n ∧ n ≤ 122) ∨ 122 < n) with h | ⟨h, h'⟩ | ⟨h, h'⟩ | ⟨h, h'⟩ | h
  all_goals
    have HB := Lib.hid hb
    clear hb
    go_enter Tryd.func56, Tryd.ntmps56
    go_wp2
    go_ret
    exact ⟨congrArg (fun b => Ending.returned (Value.bool b)) (by rw [← HB.out, Bool.eq_iff_iff]; simp [lowN, capN]; try omega), rfl⟩
theorem bt_at {s : ByteArray} {k : Nat} (h : k < s.size) : s[k] = bt s k := bt_eq (s := s) (k := k) h
theorem not_empty (s : ByteArray) : (!s.toList.isEmpty) = decide (0 < s.size) := by
  rw [ByteArray.toList_eq]
  rcases Nat.eq_zero_or_pos s.size with h0 | h0
  · rw [empty_eq0 h0, h0]; rfl
  · rw [empty_eq h0, decide_eq_true h0]; rfl
theorem ne_tok {s : ByteArray} {p : UInt8 → Bool} (h : (s.data.toList.take s.size).all p = true) (b : Bool) (hb : b = decide (0 < s.size)) : b = (!s.data.toList.isEmpty && s.data.toList.all p) := by
  rw [all_take] at h
  rw [h, Bool.and_true, hb]
  rcases Nat.eq_zero_or_pos s.size with h0 | h0
  · rw [empty_eq0 h0, h0]; rfl
  · rw [empty_eq h0, decide_eq_true h0]; rfl
set_option maxRecDepth 8000 in
theorem target (s : ByteArray) (hs : s.size ≤ 5000) (w : World) : Calls Tryd.prog 38 #[.string s] w fun e w' => e = .returned (.bool (tgt s.data.toList)) ∧ w = w' := by
  have ha := fun k (h : k < s.size) => byte_all tgtC h
  have hn := fun k (h : k < s.size) => all_not (p := tgtC) h
  have HA := Lib.hid ha
  have HN := Lib.hid hn
  clear ha hn
  go_enter Tryd.func38, Tryd.ntmps38
  go_wp2_with fail
  go_loop [3, 6] (fun _ i => ∃ k : Nat, k ≤ s.size ∧ i = .int .i64 k ∧ Hid ((s.data.toList.take k).all tgtC = true)) (fun _ i => s.size - (intOf i).toNat)
  case atStart => exact ⟨0, Nat.zero_le _, rfl, Lib.hid rfl⟩
  case round =>
    obtain ⟨k, hk, rfl, hR⟩ := hrel
    by_cases hlt : k < s.size
    · have h256 := (bt s k).toNat_lt
      have e := bt_at hlt
      have E1 := Lib.hid e
      clear e
      rcases (by omega : (bt s k).toNat < 33 ∨ 126 < (bt s k).toNat ∨ (33 ≤ (bt s k).toNat ∧ (bt s k).toNat ≤ 126)) with h | h | ⟨h, h'⟩
      · have hf := HN.out k hlt (by simp [tgtC]; omega)
        have HF := Lib.hid hf
        clear hf
        rw [← E1.out] at h
        go_wp2
        go_ret
        exact ⟨by rw [tgt, HF.out, Bool.and_false]; rfl, rfl⟩
      · have hf := HN.out k hlt (by simp [tgtC]; omega)
        have HF := Lib.hid hf
        clear hf
        rw [← E1.out] at h
        go_wp2
        go_ret
        exact ⟨by rw [tgt, HF.out, Bool.and_false]; rfl, rfl⟩
      · have hf := HA.out k hlt
        rw [hR.out, show tgtC (bt s k) = true by simp [tgtC]; omega] at hf
        have HF := Lib.hid hf
        clear hf
        rw [← E1.out] at h h'
        go_wp2
        go_round
        case rel => exact ⟨k + 1, by omega, by go_num, HF⟩
        case measure => simp [intOf]; omega
    · have hks : k = s.size := by omega
      have hd : decide ((k : Int) < (s.size : Int)) = false := by simp; omega
      have H := hR.out
      rw [hks] at H
      have HT := Lib.hid (ne_tok H)
      clear H
      go_wp2
      go_ret
      refine ⟨?_, rfl⟩
      show Ending.returned (Value.bool (!s.toList.isEmpty)) = _
      exact congrArg (fun b => Ending.returned (Value.bool b)) (HT.out _ (not_empty s))
end Go.Proofs.YtjcbohpemfmpiaaDoor.headLong
