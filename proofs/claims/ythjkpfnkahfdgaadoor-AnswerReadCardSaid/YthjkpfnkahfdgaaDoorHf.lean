/- Numbers in decimal, as the document writes them, walked. -/
import Derived.Test.YthjkpfnkahfdgaaDoorHe
namespace Go.Proofs.YthjkpfnkahfdgaaDoor.answerRead
set_option linter.unusedVariables false
set_option linter.unusedSimpArgs false
open Go.ChangeShapes Go.WideShapes Go.ChangeAt Go.RowKit Go.Hl Go.Hg Go.An
set_option maxRecDepth 100000 in
set_option maxHeartbeats 1600000 in
theorem dec_ : ∀ (k n : Nat), n < 10 ^ (k + 1) → k ≤ 18 → ∀ w : World, Calls Tryd.prog 11 #[.int .i64 (n : Int)] w fun e w' => e = .returned (.string ⟨(decK k n).toArray⟩) ∧ Below w.heap.size w w'
  | k, n, h, hk, w => by
    by_cases h10 : n < 10
    · have e : decK k n = [dig n] := by cases k with
        | zero => rfl
        | succ k => exact if_pos h10
      have d0 : decide ((n : Int) < 0) = false := by simp
      have d1 : (n : Int) < 10 := by omega
      have OB := one_byte w (dig n) (v := 48 + (n : Int)) (by rw [dig_nat h10]; omega)
      go_enter Tryd.func11, Tryd.ntmps11
      go_wp2_with fail
      go_ret
      exact ⟨by rw [e]; rfl, (Below.refl _ w).alloc (Nat.le_refl _) _⟩
    · obtain ⟨k, rfl⟩ : ∃ j, k = j + 1 := ⟨k - 1, by cases k with
        | zero => omega
        | succ k => rfl⟩
      have e : decK (k + 1) n = decK k (n / 10) ++ [dig (n % 10)] := if_neg h10
      have ec : (n : Int) / 10 = ((n / 10 : Nat) : Int) := by omega
      have er : (n : Int) % 10 = ((n % 10 : Nat) : Int) := by omega
      have IH : ∀ y : World, Calls Tryd.prog 11 #[.int .i64 ((n : Int) / 10)] y fun e w' => e = .returned (.string ⟨(decK k (n / 10)).toArray⟩) ∧ Below y.heap.size y w' := fun (y : World) => by
        rw [ec]; exact dec_ k (n / 10) (by rw [Nat.pow_succ] at h; omega) (by omega) y
      have d0 : decide ((n : Int) < 0) = false := by simp
      have d1 : decide ((n : Int) < 10) = false := by simp; omega
      have q3 : IntKind.i64.wrap ((n : Int) / 10) = (n : Int) / 10 := by rw [ec]; exact wrap_small _ (by have : 10 ^ (k + 1 + 1) ≤ 10 ^ 19 := Nat.pow_le_pow_right (by decide) (by omega); omega)
      have q4 : IntKind.i64.wrap (48 + (n : Int) % 10) = 48 + (n : Int) % 10 := by rw [er]; exact wrap_small (48 + n % 10) (by omega)
      have q5 : IntKind.u8.wrap (48 + (n : Int) % 10) = 48 + (n : Int) % 10 := by rw [er]; exact wrap_u8 (48 + n % 10) (by omega)
      have qt : (n : Int).tmod 10 = (n : Int) % 10 := Int.tmod_eq_emod_of_nonneg (by omega)
      have qd : (n : Int).tdiv 10 = (n : Int) / 10 := Int.tdiv_eq_ediv_of_nonneg (by omega)
      have hv : 48 + (n : Int) % 10 = ((dig (n % 10)).toNat : Int) := by rw [dig_nat (by omega)]; omega
      have OB := fun (y : World) => one_byte y (dig (n % 10)) hv
      have ODD := fun (y : World) => one_byteD y (dig (n % 10)) hv
      have OBB : ∀ (B : Nat) (x w2 : World), Below (x.alloc (.cells #[.int .u8 (48 + (n : Int) % 10)] 5)).heap.size (x.alloc (.cells #[.int .u8 (48 + (n : Int) % 10)] 5)) w2 → B = x.heap.size → (convert 22 9 (.slice (some ⟨B, 0, none⟩) 1 1)).run Tryd.prog w2 = .ok (.string ⟨#[dig (n % 10)]⟩) w2 := fun B x w2 hB e => by rw [e]; exact one_byte' hB hv
      have OBD : ∀ (B : Nat) (x w2 : World), Below (x.alloc (.cells #[.int .u8 (48 + (n : Int) % 10)] 5)).drew.heap.size (x.alloc (.cells #[.int .u8 (48 + (n : Int) % 10)] 5)).drew w2 → B = x.heap.size → (convert 22 9 (.slice (some ⟨B, 0, none⟩) 1 1)).run Tryd.prog w2 = .ok (.string ⟨#[dig (n % 10)]⟩) w2 := fun B x w2 hB e => OBB B x w2 ((Below.refl _ _).drew.trans hB) e
      clear hv
      have hl := (decK_len k (n / 10)).2
      clear ec er
      go_enter Tryd.func11, Tryd.ntmps11
      go_wp2_with fail
      go_region_with ((go_at_call 11; with_reducible refine (IH _).mono ?_; rintro e w2 ⟨rfl, hB2⟩; first | (have OB2 := OBB w.heap.size _ _ hB2 rfl) | (have OB2 := OBD w.heap.size _ _ hB2 rfl) | skip))
      all_goals go_wp2_with fail
      all_goals go_ret
      all_goals refine ⟨by rw [e, ← ba_one]; rfl, ?_⟩
      all_goals (repeat first | exact Below.refl _ _ | refine Below.alloc ?_ (by first | (simp; done) | (have h9 := hB2.size; simp at h9; omega)) _ | refine Below.drew ?_ | refine Below.trans ?_ (hB2.mono (by simp)))
end Go.Proofs.YthjkpfnkahfdgaaDoor.answerRead
