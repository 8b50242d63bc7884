/- Two requests compared, walked; a message told. -/
import Derived.Test.YtbckflbaabhpfaaDoorHm
import Derived.Deep.RegionHeld3
import Derived.Deep.DrawnRows
namespace Go.Proofs.YtbckflbaabhpfaaDoor.headLong
set_option linter.unusedVariables false
set_option linter.unusedSimpArgs false
open Go.ChangeShapes Go.WideShapes Go.ChangeAt Go.RowKit Go.Hl Go.Hg
attribute [local go_sem ↓] Go.wp_at_zero Go.wp_at_succ
def HoldsF (w : World) (g n : Nat) (X Y : Nat → ByteArray) : Prop := ∀ i, i < n → w.cell? ⟨g, i * 2, none⟩ = some (.string (X i)) ∧ w.cell? ⟨g, i * 2 + 1, none⟩ = some (.string (Y i))
theorem HoldsF.below {w w' : World} {g n B : Nat} {X Y : Nat → ByteArray} (h : HoldsF w g n X Y) (hB : Below B w w') (hb : g < B) : HoldsF w' g n X Y := fun i hi => ⟨(hB.cell (p := ⟨g, i * 2, none⟩) hb).trans (h i hi).1, (hB.cell (p := ⟨g, i * 2 + 1, none⟩) hb).trans (h i hi).2⟩
set_option maxRecDepth 8000 in
set_option maxHeartbeats 1600000 in
theorem eq_some (m t u : ByteArray) (g1 g2 n cb cc : Nat) (X Y : Nat → ByteArray) (w : World) (h1 : HoldsF w g1 n X Y) (h2 : HoldsF w g2 n X Y) (b1 : g1 < w.heap.size) (b2 : g2 < w.heap.size) (hn : n ≤ 9223372036854775807) (l1 : n ≤ cb) (l2 : n ≤ cc) :
    Calls Tryd.prog 19 #[.agg #[.string m, .string t, .slice (some ⟨g1, 0, none⟩) n cb, .string u], .agg #[.string m, .string t, .slice (some ⟨g2, 0, none⟩) n cc, .string u]] w fun e w' => e = .returned (.bool true) ∧ Below w.heap.size w w' := by
  have hB0 : Below w.heap.size w ((w.alloc (Obj.cells #[.string m, .string t, .slice (some ⟨g1, 0, none⟩) n cb, .string u] 28)).alloc (Obj.cells #[.string m, .string t, .slice (some ⟨g2, 0, none⟩) n cc, .string u] 28)) := ((Below.refl _ w).alloc (Nat.le_refl _) _).alloc (by simp) _
  have hA : ((w.alloc (Obj.cells #[.string m, .string t, .slice (some ⟨g1, 0, none⟩) n cb, .string u] 28)).alloc (Obj.cells #[.string m, .string t, .slice (some ⟨g2, 0, none⟩) n cc, .string u] 28)).heap[w.heap.size]? = some (.cells #[.string m, .string t, .slice (some ⟨g1, 0, none⟩) n cb, .string u] 28 (0, 0)) := by
    rw [Below.heap_alloc _ _ _ (by simp)]; exact heap_alloc_new w _
  have hC := two_new w (Obj.cells #[.string m, .string t, .slice (some ⟨g1, 0, none⟩) n cb, .string u] 28) (Obj.cells #[.string m, .string t, .slice (some ⟨g2, 0, none⟩) n cc, .string u] 28)
  have H := Lib.hid (⟨hB0, h1, h2, hA, hC⟩ : _ ∧ _ ∧ _ ∧ _ ∧ _)
  clear hB0 h1 h2 hA hC
  go_enter Tryd.func19, Tryd.ntmps19
  go_wp2_with fail
  go_loopw [5] (fun i wr => ∃ k : Nat, k ≤ n ∧ i = .int .i64 k ∧ Below w.heap.size w wr ∧ HoldsF wr g1 n X Y ∧ HoldsF wr g2 n X Y ∧ wr.heap[w.heap.size]? = some (.cells #[.string m, .string t, .slice (some ⟨g1, 0, none⟩) n cb, .string u] 28 (0, 0)) ∧ wr.heap[w.heap.size + 1]? = some (.cells #[.string m, .string t, .slice (some ⟨g2, 0, none⟩) n cc, .string u] 28 (0, 0))) (fun i _ => n - (intOf i).toNat)
  case atStart => exact ⟨0, Nat.zero_le _, rfl, H.out.1, H.out.2.1.below H.out.1 b1, H.out.2.2.1.below H.out.1 b2, H.out.2.2.2.1, H.out.2.2.2.2⟩
  case round =>
    obtain ⟨k, hk, rfl, hB, q1, q2, qa, qc⟩ := hrel
    have a2 : wr.cell? ⟨w.heap.size, 2, none⟩ = some (.slice (some ⟨g1, 0, none⟩) n cb) := by rw [blk_cell qa]; rfl
    have d2 : wr.cell? ⟨w.heap.size + 1, 2, none⟩ = some (.slice (some ⟨g2, 0, none⟩) n cc) := by rw [blk_cell qc]; rfl
    by_cases hlt : k < n
    · obtain ⟨c1, e1⟩ := q1 k hlt
      obtain ⟨c2, e2⟩ := q2 k hlt
      have hl : (k : Int) < (n : Int) := by omega
      have h0 : (0 : Int) ≤ (k : Int) := by omega
      have HR := Lib.hid (⟨hB, q1, q2, qa, qc⟩ : _ ∧ _ ∧ _ ∧ _ ∧ _)
      clear q1 q2 hB qa qc H
      generalize X k = s at c1 c2
      generalize Y k = y at e1 e2
      go_wp2_with fail
      go_quiet (fail)
      go_wp2_with fail
      go_roundw
      case rel => exact ⟨k + 1, by omega, by go_num, ⟨HR.out.1.os, HR.out.1.tape, HR.out.1.output, HR.out.1.size, HR.out.1.block⟩, HR.out.2.1, HR.out.2.2.1, HR.out.2.2.2.1, HR.out.2.2.2.2⟩
      case measure => simp [intOf]; omega
    · have hd : decide ((k : Int) < (n : Int)) = false := by simp; omega
      have HB := Lib.hid hB
      clear hB q1 q2 qa qc H
      go_wp2_with fail
      go_ret
      exact ⟨rfl, HB.out⟩
theorem eq_none (m t u : ByteArray) (b c : Option Addr) (cb cc : Nat) (w : World) : Calls Tryd.prog 19 #[.agg #[.string m, .string t, .slice b 0 cb, .string u], .agg #[.string m, .string t, .slice c 0 cc, .string u]] w fun e w' => e = .returned (.bool true) ∧ Below w.heap.size w w' := by
  have hB0 : Below w.heap.size w ((w.alloc (Obj.cells #[.string m, .string t, .slice b 0 cb, .string u] 28)).alloc (Obj.cells #[.string m, .string t, .slice c 0 cc, .string u] 28)) := ((Below.refl _ w).alloc (Nat.le_refl _) _).alloc (by simp) _
  have H := Lib.hid hB0
  clear hB0
  go_enter Tryd.func19, Tryd.ntmps19
  go_wp2_with fail
  refine wp_loop_rounds 1 ?_
  rw [rounds_succ]
  go_wp2
  go_ret
  exact ⟨rfl, H.out⟩
end Go.Proofs.YtbckflbaabhpfaaDoor.headLong
