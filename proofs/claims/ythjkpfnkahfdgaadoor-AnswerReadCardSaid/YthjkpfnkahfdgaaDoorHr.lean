/- AnswerRead, walked, whatever it is given. -/
import Derived.Test.YthjkpfnkahfdgaaDoorHq
namespace Go.Proofs.YthjkpfnkahfdgaaDoor.answerRead
set_option linter.unusedVariables false
set_option linter.unusedSimpArgs false
open Go.ChangeShapes Go.WideShapes Go.ChangeAt Go.RowKit Go.Hl Go.Hg Go.An
attribute [local go_sem ↓] Go.wp_at_zero Go.wp_at_succ
set_option maxRecDepth 100000 in
set_option maxHeartbeats 3200000 in
theorem read_all (n : Int) (typ : ByteArray) (hts : typ.size ≤ 9223372036854775807) (len age : Int) (hit : Bool) (b : Option Addr) (rn cap : Nat) (hrn : rn ≤ cap) (hcp : cap ≤ 9223372036854775807) (w : World)
    (hY : ∀ a, b = some a → ∃ l : List UInt8, l.length = rn ∧ ∀ j, j < rn → w.cell? (a.add j) = some (.int .u8 ((at0 l j).toNat : Int))) (hbn : b = none → rn = 0)
    (mx : Int) (hm : w.cell? ⟨0, 0, none⟩ = some (.int .i64 mx)) (h0 : 0 < w.heap.size)
    (hb : Calls Tryd.prog 4 #[] w fun e w' => e = .returned (.bool true) ∧ Below w.heap.size w w') :
    Calls Tryd.prog 3 #[.int .i64 n, .string typ, .int .i64 len, .int .i64 age, .bool hit, .slice b rn cap] w fun e w' => e = .returned (.bool true) ∧ Below w.heap.size w w' := by
  obtain ⟨t, ht, CT⟩ := cut_ typ hts
  have CTt := fun (y : World) => CT y
  by_cases c0 : n < 100
  · have g0 : decide (n < 100) = true := by simp [c0]
    clear hY hbn hm h0 CTt
    go_enter Tryd.func3, Tryd.ntmps3
    go_wp2_with (first | (go_at_call 4; with_reducible refine hb.mono ?_; rintro e w1 ⟨rfl, hB1⟩; have B1 := Lib.hid hB1; clear hB1) | (go_at_call 5; with_reducible refine (CT _).mono ?_; rintro e w2 ⟨rfl, rfl⟩) | fail)
    go_ret
    exact ⟨rfl, B1.out⟩
  by_cases c1 : 999 < n
  · have g1 : decide (999 < n) = true := by simp [c1]
    have g0 : decide (n < 100) = false := by simp; omega
    clear hY hbn hm h0 CTt
    go_enter Tryd.func3, Tryd.ntmps3
    go_wp2_with (first | (go_at_call 4; with_reducible refine hb.mono ?_; rintro e w1 ⟨rfl, hB1⟩; have B1 := Lib.hid hB1; clear hB1) | (go_at_call 5; with_reducible refine (CT _).mono ?_; rintro e w2 ⟨rfl, rfl⟩) | fail)
    go_ret
    exact ⟨rfl, B1.out⟩
  by_cases c2 : len < 0
  · have g2 : decide (len < 0) = true := by simp [c2]
    have g0 : decide (n < 100) = false := by simp; omega
    have g1 : decide (999 < n) = false := by simp; omega
    clear hY hbn hm h0 CTt
    go_enter Tryd.func3, Tryd.ntmps3
    go_wp2_with (first | (go_at_call 4; with_reducible refine hb.mono ?_; rintro e w1 ⟨rfl, hB1⟩; have B1 := Lib.hid hB1; clear hB1) | (go_at_call 5; with_reducible refine (CT _).mono ?_; rintro e w2 ⟨rfl, rfl⟩) | fail)
    go_ret
    exact ⟨rfl, B1.out⟩
  by_cases c3 : 1099511627776 < len
  · have g3 : decide (1099511627776 < len) = true := by simp [c3]
    have g0 : decide (n < 100) = false := by simp; omega
    have g1 : decide (999 < n) = false := by simp; omega
    have g2 : decide (len < 0) = false := by simp; omega
    clear hY hbn hm h0 CTt
    go_enter Tryd.func3, Tryd.ntmps3
    go_wp2_with (first | (go_at_call 4; with_reducible refine hb.mono ?_; rintro e w1 ⟨rfl, hB1⟩; have B1 := Lib.hid hB1; clear hB1) | (go_at_call 5; with_reducible refine (CT _).mono ?_; rintro e w2 ⟨rfl, rfl⟩) | fail)
    go_ret
    exact ⟨rfl, B1.out⟩
  by_cases c4 : 2199023255552 < age
  · have g4 : decide (2199023255552 < age) = true := by simp [c4]
    have g0 : decide (n < 100) = false := by simp; omega
    have g1 : decide (999 < n) = false := by simp; omega
    have g2 : decide (len < 0) = false := by simp; omega
    have g3 : decide (1099511627776 < len) = false := by simp; omega
    clear hY hbn hm h0 CTt
    go_enter Tryd.func3, Tryd.ntmps3
    go_wp2_with (first | (go_at_call 4; with_reducible refine hb.mono ?_; rintro e w1 ⟨rfl, hB1⟩; have B1 := Lib.hid hB1; clear hB1) | (go_at_call 5; with_reducible refine (CT _).mono ?_; rintro e w2 ⟨rfl, rfl⟩) | fail)
    go_ret
    exact ⟨rfl, B1.out⟩
  have CV : ∀ y : World, Calls Tryd.prog 6 #[.string t] y fun e w' => e = .returned (.bool (val t.data.toList)) ∧ y = w' := fun y => rvalue t (by omega) y
  cases hv : val t.data.toList with
  | false =>
    rw [hv] at CV
    have g0 : decide (n < 100) = false := by simp; omega
    have g1 : decide (999 < n) = false := by simp; omega
    have g2 : decide (len < 0) = false := by simp; omega
    have g3 : decide (1099511627776 < len) = false := by simp; omega
    have g4 : decide (2199023255552 < age) = false := by simp; omega
    clear hY hbn hm h0 CTt
    go_enter Tryd.func3, Tryd.ntmps3
    go_wp2_with (first | (go_at_call 4; with_reducible refine hb.mono ?_; rintro e w1 ⟨rfl, hB1⟩; have B1 := Lib.hid hB1; clear hB1) | (go_at_call 5; with_reducible refine (CT _).mono ?_; rintro e w2 ⟨rfl, rfl⟩) | (go_at_call 6; with_reducible refine (CV _).mono ?_; rintro e w2 ⟨rfl, rfl⟩) | fail)
    go_ret
    exact ⟨rfl, B1.out⟩
  | true =>
    obtain ⟨n', rfl⟩ := Int.eq_ofNat_of_zero_le (show 0 ≤ n by omega)
    obtain ⟨l', rfl⟩ := Int.eq_ofNat_of_zero_le (show 0 ≤ len by omega)
    obtain ⟨k, hk, hkn, CS⟩ := short_ b rn cap hrn hcp
    obtain ⟨ys, hys, hYY⟩ : ∃ ys : List UInt8, ys.length = k ∧ ∀ a, b = some a → ∀ j, j < k → w.cell? (a.add j) = some (.int .u8 ((at0 ys j).toNat : Int)) := by
      cases b with
      | none => exact ⟨[], by have := hbn rfl; simp; omega, fun a h => by cases h⟩
      | some a =>
        obtain ⟨l, q2, q3⟩ := hY a rfl
        refine ⟨l.take k, by rw [List.length_take]; omega, fun a' h' => ?_⟩
        cases h'
        refine fun j hj => ?_
        rw [q3 j (by omega)]
        unfold at0
        rw [List.getElem?_take, if_pos hj]
    have hbk : b = none → k = 0 := fun h => by have := hbn h; omega
    by_cases h1 : 0 < t.size
    · by_cases h2 : 0 ≤ age
      · exact walk11 n' (by omega) (by omega) typ t h1 ht hv CTt l' (by omega) age h2 (by omega) hit b rn cap k hk CS ys hys w hYY hbk mx hm h0 hb
      · exact walk10 n' (by omega) (by omega) typ t h1 ht hv CTt l' (by omega) age (by omega) (by omega) hit b rn cap k hk CS ys hys w hYY hbk mx hm h0 hb
    · by_cases h2 : 0 ≤ age
      · exact walk01 n' (by omega) (by omega) typ t (by omega) ht hv CTt l' (by omega) age h2 (by omega) hit b rn cap k hk CS ys hys w hYY hbk mx hm h0 hb
      · exact walk00 n' (by omega) (by omega) typ t (by omega) ht hv CTt l' (by omega) age (by omega) (by omega) hit b rn cap k hk CS ys hys w hYY hbk mx hm h0 hb
end Go.Proofs.YthjkpfnkahfdgaaDoor.answerRead
