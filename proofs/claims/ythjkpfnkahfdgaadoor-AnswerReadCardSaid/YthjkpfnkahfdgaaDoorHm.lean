/- A first line read, walked. -/
import Derived.Test.YthjkpfnkahfdgaaDoorHi
import Derived.Test.YthjkpfnkahfdgaaDoorHk
namespace Go.Proofs.YthjkpfnkahfdgaaDoor.answerRead
set_option linter.unusedVariables false
set_option linter.unusedSimpArgs false
open Go.ChangeShapes Go.WideShapes Go.ChangeAt Go.RowKit Go.Hl Go.Hg Go.An
attribute [local go_sem ↓] Go.wp_at_zero Go.wp_at_succ
set_option maxRecDepth 8000 in
set_option maxHeartbeats 1600000 in
theorem number_ (a b c : Nat) (ha : a < 10) (hb : b < 10) (hc : c < 10) (w : World) : Calls Tryd.prog 29 #[.string ⟨#[dig a, dig b, dig c]⟩] w fun e w' => e = .returned (.tuple #[.int .i64 ((a * 100 + b * 10 + c : Nat) : Int), .bool true]) ∧ w = w' := by
  have ea : ((dig a).toNat : Int) = 48 + (a : Int) := by rw [dig_nat ha]; omega
  have eb : ((dig b).toNat : Int) = 48 + (b : Int) := by rw [dig_nat hb]; omega
  have ec : ((dig c).toNat : Int) = 48 + (c : Int) := by rw [dig_nat hc]; omega
  have x0 : (((({ data := #[dig a, dig b, dig c] } : ByteArray)[0]'(by show 0 < 3; omega)).toNat : Nat) : Int) = 48 + (a : Int) := ea
  have x1 : (((({ data := #[dig a, dig b, dig c] } : ByteArray)[1]'(by show 1 < 3; omega)).toNat : Nat) : Int) = 48 + (b : Int) := eb
  have x2 : (((({ data := #[dig a, dig b, dig c] } : ByteArray)[2]'(by show 2 < 3; omega)).toNat : Nat) : Int) = 48 + (c : Int) := ec
  clear ea eb ec
  have d0 : decide (48 + (a : Int) < 48) = false := by rw [decide_eq_false_iff_not]; omega
  have d1 : decide (48 + (b : Int) < 48) = false := by rw [decide_eq_false_iff_not]; omega
  have d2 : decide (48 + (c : Int) < 48) = false := by rw [decide_eq_false_iff_not]; omega
  have f0 : decide (57 < 48 + (a : Int)) = false := by rw [decide_eq_false_iff_not]; omega
  have f1 : decide (57 < 48 + (b : Int)) = false := by rw [decide_eq_false_iff_not]; omega
  have f2 : decide (57 < 48 + (c : Int)) = false := by rw [decide_eq_false_iff_not]; omega
  go_enter Tryd.func29, Tryd.ntmps29
  go_wp2_with fail
  refine wp_loop_rounds 4 ?_
  rw [rounds_succ]
  go_wp2_with fail
  rw [rounds_succ]
  go_wp2_with fail
  rw [rounds_succ]
  go_wp2_with fail
  rw [rounds_succ]
  go_wp2_with fail
  have ev : (((48 + (a : Int) - 48) * 10 + (48 + (b : Int) - 48)) * 10 + (48 + (c : Int) - 48)) = ((a * 100 + b * 10 + c : Nat) : Int) := by omega
  go_ret2
  refine ⟨?_, rfl⟩
  show Ending.returned (Value.tuple #[.int .i64 (((48 + (a : Int) - 48) * 10 + (48 + (b : Int) - 48)) * 10 + (48 + (c : Int) - 48)), .bool true]) = _
  rw [ev]
/-- A first line as it is written. -/
theorem line0_parts (n : Nat) (h1 : 100 ≤ n) (h2 : n ≤ 999) {S : ByteArray} (h : S.data.toList = line0 n) :
    ∃ (Q T : ByteArray) (rl : Nat), rl ≤ 29 ∧ S.size = 13 + rl ∧ S.extract 0 9 = ⟨#[72, 84, 84, 80, 47, 49, 46, 49, 32]⟩ ∧ S.extract 9 (13 + rl) = T ∧ T.size = 4 + rl ∧ T.extract 0 3 = ⟨#[dig (n / 100), dig (n / 10 % 10), dig (n % 10)]⟩ ∧ T.extract 3 (4 + rl) = ({ data := #[32] } ++ Q : ByteArray) ∧ Q.size = rl ∧ ∀ y : World, Calls Tryd.prog 14 #[.int .i64 (n : Int)] y fun e w' => e = .returned (.string Q) ∧ y = w' := by
  have hs : S.size = 13 + (reasonL n).length := by
    rw [size_of h]; unfold line0; rw [dec3 n h1 h2]; simp [bHttp]; omega
  have e : S.data.toList = bHttp ++ ([dig (n / 100), dig (n / 10 % 10), dig (n % 10)] ++ 32 :: reasonL n) := by
    rw [h]; unfold line0; rw [dec3 n h1 h2, List.append_assoc]
  have e9 : (S.extract 9 (13 + (reasonL n).length)).data.toList = [dig (n / 100), dig (n / 10 % 10), dig (n % 10)] ++ 32 :: reasonL n := by
    rw [ba_ext, List.take_of_length_le (by rw [sz_list]; omega), e]
    rfl
  have s9 : (S.extract 9 (13 + (reasonL n).length)).size = 4 + (reasonL n).length := by rw [size_of e9]; simp; omega
  refine ⟨⟨(reasonL n).toArray⟩, _, _, reasonL_len n, hs, ba_of (by rw [ba_ext, e]; rfl), rfl, s9, ?_, ?_, ?_, fun y => reason n y⟩
  · have := ba_of (x := (S.extract 9 (13 + (reasonL n).length)).extract 0 3) (l := [dig (n / 100), dig (n / 10 % 10), dig (n % 10)]) (by rw [ba_ext, e9]; rfl)
    exact this
  · have h1 := ba_of (x := (S.extract 9 (13 + (reasonL n).length)).extract 3 (4 + (reasonL n).length)) (l := 32 :: reasonL n) (by rw [ba_ext, List.take_of_length_le (by rw [sz_list]; omega), e9]; rfl)
    have h2 := ba_of (x := ({ data := #[32] } ++ ⟨(reasonL n).toArray⟩ : ByteArray)) (l := 32 :: reasonL n) (by rw [ba_app2]; rfl)
    rw [h1, h2]
  · show (reasonL n).toArray.size = _
    rw [List.size_toArray]
set_option maxRecDepth 8000 in
set_option maxHeartbeats 1600000 in
theorem first_ (n : Nat) (h1 : 100 ≤ n) (h2 : n ≤ 999) (S : ByteArray) (h : S.data.toList = line0 n) (w : World) : Calls Tryd.prog 19 #[.string S] w fun e w' => e = .returned (.tuple #[.int .i64 (n : Int), .bool true]) ∧ Below w.heap.size w w' := by
  obtain ⟨Q, T, rl, hl, hs, p1, p2, p3, p4, p5, hq, CR⟩ := line0_parts n h1 h2 h
  have CN := number_ (n / 100) (n / 10 % 10) (n % 10) (by omega) (by omega) (by omega)
  rw [show n / 100 * 100 + n / 10 % 10 * 10 + n % 10 = n by omega] at CN
  have B0 := Lib.hid (Below.refl w.heap.size w)
  clear h
  have z1 : ¬ (13 + (rl : Int) < 13) := by omega
  have z2 : (9 : Int) ≤ 13 + (rl : Int) := by omega
  have z3 : (3 : Int) ≤ 4 + (rl : Int) := by omega
  have n1 : ¬ (9223372036854775807 < 1 + rl) := by omega
  go_enter Tryd.func19, Tryd.ntmps19
  go_wp2_with (first | (go_at_call 29; with_reducible refine (CN _).mono ?_; rintro e w2 ⟨rfl, rfl⟩) | fail)
  go_quiet ((go_at_call 14; exact quiet_same' (CR _)))
  go_wp2_with fail
  go_ret2
  exact ⟨rfl, drewB B0.out nq⟩
end Go.Proofs.YthjkpfnkahfdgaaDoor.answerRead
