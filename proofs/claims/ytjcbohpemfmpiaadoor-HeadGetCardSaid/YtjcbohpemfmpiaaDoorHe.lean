/- HeadGet, its walk: HgEq. -/
import Derived.Test.YtjcbohpemfmpiaaDoorHl
import Derived.Deep.RegionHeld3
import Derived.Deep.DrawnRows
namespace Go.Proofs.YtjcbohpemfmpiaaDoor.headGet
open Go.ChangeShapes Go.WideShapes Go.ChangeAt Go.RowKit Go.Hg
attribute [local go_sem ↓] Go.wp_at_zero Go.wp_at_succ
def HoldsS (w : World) (b n : Nat) (X : Nat → ByteArray) : Prop := ∀ i, i < n → w.cell? ⟨b, i, none⟩ = some (.string (X i))
set_option maxRecDepth 8000 in
theorem eq_texts (b c n cb cc : Nat) (X : Nat → ByteArray) (w : World) (h1 : HoldsS w b n X) (h2 : HoldsS w c n X) (hn : n ≤ 25) :
    Calls Tryd.prog 10 #[.slice (some ⟨b, 0, none⟩) n cb, .slice (some ⟨c, 0, none⟩) n cc] w fun e w' => e = .returned (.bool true) ∧ Below w.heap.size w w' := by
  go_enter Tryd.func10, Tryd.ntmps10
  go_wp2_with fail
  go_loopw [5] (fun i wr => ∃ k : Nat, k ≤ n ∧ i = .int .i64 k ∧ Below w.heap.size w wr ∧ HoldsS wr b n X ∧ HoldsS wr c n X) (fun i _ => n - (intOf i).toNat)
  case atStart => exact ⟨0, Nat.zero_le _, rfl, Below.refl _ _, h1, h2⟩
  case round =>
    obtain ⟨k, hk, rfl, hB, q1, q2⟩ := hrel
    by_cases hlt : k < n
    · have c1 := q1 k hlt
      have c2 := q2 k hlt
      have hl : (k : Int) < (n : Int) := by omega
      have h0 : (0 : Int) ≤ (k : Int) := by omega
      have HR := Lib.hid (⟨hB, q1, q2⟩ : Below w.heap.size w wr ∧ HoldsS wr b n X ∧ HoldsS wr c n X)
      clear q1 q2 h1 h2 hB
      generalize X k = s at c1 c2
      go_wp2_with fail
      go_quiet (fail)
      go_wp2
      go_roundw
      case rel => exact ⟨k + 1, by omega, by go_num, ⟨HR.out.1.os, HR.out.1.tape, HR.out.1.output, HR.out.1.size, HR.out.1.block⟩, HR.out.2.1, HR.out.2.2⟩
      case measure => simp [intOf]; omega
    · have hd : decide ((k : Int) < (n : Int)) = false := by simp; omega
      have HB := Lib.hid hB
      clear hB q1 q2 h1 h2
      go_wp2
      go_ret
      exact ⟨rfl, HB.out⟩
theorem eq_none (b c : Option Addr) (cb cc : Nat) (w : World) : Calls Tryd.prog 10 #[.slice b 0 cb, .slice c 0 cc] w fun e w' => e = .returned (.bool true) ∧ Below w.heap.size w w' := by
  go_enter Tryd.func10, Tryd.ntmps10
  go_wp2_with fail
  refine wp_loop_rounds 1 ?_
  rw [rounds_succ]
  go_wp2
  go_ret
  exact ⟨rfl, Below.refl _ _⟩
end Go.Proofs.YtjcbohpemfmpiaaDoor.headGet
