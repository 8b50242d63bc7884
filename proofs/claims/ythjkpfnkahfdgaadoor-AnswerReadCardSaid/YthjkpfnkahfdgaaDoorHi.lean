/- Small functions, walked: Cut, Short, Head, Error. -/
import Derived.Test.YthjkpfnkahfdgaaDoorHh
namespace Go.Proofs.YthjkpfnkahfdgaaDoor.answerRead
set_option linter.unusedVariables false
set_option linter.unusedSimpArgs false
open Go.ChangeShapes Go.WideShapes Go.ChangeAt Go.RowKit Go.Hl Go.Hg Go.An
theorem cut_ (s : ByteArray) (hs : s.size ≤ 9223372036854775807) : ∃ t : ByteArray, t.size ≤ 100 ∧ ∀ w : World, Calls Tryd.prog 5 #[.string s, .int .i64 100] w fun e w' => e = .returned (.string t) ∧ w = w' := by
  by_cases h : 100 < s.size
  · refine ⟨s.extract 0 100, by rw [ByteArray.size_extract]; omega, fun w => ?_⟩
    have d : (100 : Int) < (s.size : Int) := by omega
    go_enter Tryd.func5, Tryd.ntmps5
    go_wp2_with fail
    go_ret
    exact ⟨rfl, rfl⟩
  · refine ⟨s, by omega, fun w => ?_⟩
    have d : decide ((100 : Int) < (s.size : Int)) = false := by simp; omega
    go_enter Tryd.func5, Tryd.ntmps5
    go_wp2_with fail
    go_ret
    exact ⟨rfl, rfl⟩
theorem short_ (b : Option Addr) (n cap : Nat) (hn : n ≤ cap) (hc : cap ≤ 9223372036854775807) : ∃ k : Nat, k ≤ 20 ∧ k ≤ n ∧ ∀ w : World, Calls Tryd.prog 9 #[.slice b n cap, .int .i64 20] w fun e w' => e = .returned (.slice b k cap) ∧ w = w' := by
  by_cases h : 20 < n
  · refine ⟨20, Nat.le_refl _, by omega, fun w => ?_⟩
    have d : (20 : Int) < (n : Int) := by omega
    have d2 : (20 : Int) ≤ (cap : Int) := by omega
    go_enter Tryd.func9, Tryd.ntmps9
    go_wp2_with fail
    go_ret
    exact ⟨rfl, rfl⟩
  · refine ⟨n, by omega, Nat.le_refl _, fun w => ?_⟩
    have d : decide ((20 : Int) < (n : Int)) = false := by simp; omega
    go_enter Tryd.func9, Tryd.ntmps9
    go_wp2_with fail
    go_ret
    exact ⟨rfl, rfl⟩
theorem size_of {X : ByteArray} {l : List UInt8} (h : X.data.toList = l) : X.size = l.length := by rw [← h]; exact (sz_list X).symm
theorem lines_sz {n : Nat} {typ : ByteArray} (ht : typ.size ≤ 100) {len : Nat} {age : Option Nat} {hit : Bool} {a : Array Value} {w : World} (HL : Calls Tryd.prog 16 a w (LinesAre n typ len age hit w)) :
    Calls Tryd.prog 16 a w fun e w' => ∃ X : ByteArray, ¬ (9223372036854775807 < X.size + 2) ∧ ¬ (9223372036854775807 < X.size + 21) ∧ X.data.toList = join (line0 n) ((fieldsL typ.data.toList len age hit).map fline) ++ [13, 10] ∧ e = .returned (.string X) ∧ Below w.heap.size w w' := by
  refine HL.mono ?_
  rintro e w2 ⟨X, hX, he, hB⟩
  have h1 := size_of hX
  have h2 := lines_len (n := n) (typ := typ.data.toList) (len := len) (age := age) (hit := hit) (by rw [sz_list]; exact ht)
  rw [List.length_append] at h1
  have h3 : ([13, 10] : List UInt8).length = 2 := rfl
  exact ⟨X, by omega, by omega, hX, he, hB⟩
theorem head_ {n : Nat} {typ : ByteArray} (ht : typ.size ≤ 100) {len : Nat} {age : Option Nat} {hit : Bool} {a0 a1 a2 a3 a4 : Value} {w : World} (HL : Calls Tryd.prog 16 #[a0, a1, a2, a3, a4] w (LinesAre n typ len age hit w)) :
    Calls Tryd.prog 7 #[a0, a1, a2, a3, a4] w fun e w' => ∃ X : ByteArray, X.data.toList = headL n (fieldsL typ.data.toList len age hit) ∧ e = .returned (.string X) ∧ Below w.heap.size w w' := by
  have H2 := lines_sz ht HL
  go_enter Tryd.func7, Tryd.ntmps7
  go_wp2_with (first | (go_at_call 16; refine H2.mono ?_; rintro e w2 ⟨X, n1, n2, hX, rfl, hB2⟩) | fail)
  go_ret
  refine ⟨_, ?_, rfl, hB2⟩
  rw [ba_app2, hX]
  simp [headL]
theorem error_ (n : Nat) {w : World} (HL : Calls Tryd.prog 16 #[.int .i64 (n : Int), .string ⟨#[]⟩, .int .i64 0, .int .i64 (-1), .bool false] w (LinesAre n ⟨#[]⟩ 0 none false w)) :
    Calls Tryd.prog 12 #[.int .i64 (n : Int)] w fun e w' => ∃ X : ByteArray, X.data.toList = headL n (fieldsL [] 0 none false ++ [(bConn, bClose)]) ∧ e = .returned (.string X) ∧ Below w.heap.size w w' := by
  have H2 := lines_sz (typ := ⟨#[]⟩) (by decide) HL
  go_enter Tryd.func12, Tryd.ntmps12
  go_wp2_with (first | (go_at_call 16; refine H2.mono ?_; rintro e w2 ⟨X, n1, n2, hX, rfl, hB2⟩) | fail)
  go_ret
  refine ⟨_, ?_, rfl, hB2⟩
  rw [ba_app2, hX]
  simp [headL, fieldsL, fline, join, line0, bHttp, bLen, bCache, bMiss, bConn, bClose]
end Go.Proofs.YthjkpfnkahfdgaaDoor.answerRead
