/- Bytes in memory and their text. -/
import Derived.Test.YthjkpfnkahfdgaaDoorProg
import Derived.Test.YthjkpfnkahfdgaaDoorHd
import Derived.Test.YthjkpfnkahfdgaaDoorHb
import Derived.WalkKit
import Derived.ProofKit
import Derived.KernelRfl
import Derived.Deep.QuietTactic
import Derived.BigQuiet
import Derived.Lib.Hide
import Derived.Lib.ConvBytes
import Derived.Deep.AppendLies
import Derived.Deep.RegionHeld3
import Derived.Deep.DrawnRows
namespace Go.Proofs.YthjkpfnkahfdgaaDoor.answerRead
set_option linter.unusedVariables false
set_option linter.unusedSimpArgs false
open Go.ChangeShapes Go.WideShapes Go.ChangeAt Go.RowKit Go.Hl Go.Hg Go.An
def HoldsB (w : World) (bb o : Nat) (bs : List UInt8) : Prop := ∀ j, j < bs.length → w.cell? ⟨bb, o + j, none⟩ = some (.int .u8 ((at0 bs j).toNat : Int))
theorem HoldsB.below {w w' : World} {bb o : Nat} {bs : List UInt8} {B : Nat} (h : HoldsB w bb o bs) (hB : Below B w w') (hb : bb < B) : HoldsB w' bb o bs := fun j hj => (hB.cell (p := ⟨bb, o + j, none⟩) hb).trans (h j hj)
theorem HoldsB.string {w : World} {bb o : Nat} {bs : List UInt8} (h : HoldsB w bb o bs) {i fr : Nat} (hi : i ≤ bs.length) (hf : fr ≤ i) (cp : Nat) :
    (convert 22 9 (.slice (some ⟨bb, o + fr, none⟩) (i - fr) cp)).run Tryd.prog w = .ok (.string ⟨((bs.take i).drop fr).toArray⟩) w := by
  have hl : ((bs.take i).drop fr).length = i - fr := by rw [List.length_drop, List.length_take]; omega
  have := run_convert_bytes_back (P := Tryd.prog) w 22 9 5 ⟨bb, o + fr, none⟩ cp ((bs.take i).drop fr) Tryd.underlying22 Tryd.underlying5 Tryd.underlying9 (fun j hj => by
    rw [hl] at hj
    have ea : (⟨bb, o + fr, none⟩ : Addr).add j = ⟨bb, o + (fr + j), none⟩ := by unfold Addr.add; split <;> simp_all; omega
    rw [ea, h (fr + j) (by omega), List.getElem_drop, List.getElem_take]
    have hlt : fr + j < bs.length := by omega
    unfold at0
    rw [List.getElem?_eq_getElem hlt]
    rfl)
  rw [hl] at this
  simpa using this
theorem HoldsB.all {w : World} {bb o : Nat} {bs : List UInt8} (h : HoldsB w bb o bs) (cp : Nat) : (convert 22 9 (.slice (some ⟨bb, o, none⟩) bs.length cp)).run Tryd.prog w = .ok (.string ⟨bs.toArray⟩) w := by
  have := h.string (i := bs.length) (fr := 0) (Nat.le_refl _) (Nat.zero_le _) cp
  simpa using this
/-- One byte made and read. -/
theorem one_byte (w : World) (b : UInt8) {v : Int} (hv : v = (b.toNat : Int)) : (convert 22 9 (.slice (some ⟨w.heap.size, 0, none⟩) 1 1)).run Tryd.prog (w.alloc (.cells #[.int .u8 v] 5)) = .ok (.string ⟨#[b]⟩) (w.alloc (.cells #[.int .u8 v] 5)) := by
  have h : HoldsB (w.alloc (.cells #[.int .u8 v] 5)) w.heap.size 0 [b] := fun j hj => by
    have hj : j < 1 := hj
    obtain rfl : j = 0 := by omega
    rw [blk_cell (heap_alloc_new w _), hv]
    rfl
  exact h.all 1
theorem one_byteD (w : World) (b : UInt8) {v : Int} (hv : v = (b.toNat : Int)) : (convert 22 9 (.slice (some ⟨w.heap.size, 0, none⟩) 1 1)).run Tryd.prog (w.alloc (.cells #[.int .u8 v] 5)).drew = .ok (.string ⟨#[b]⟩) (w.alloc (.cells #[.int .u8 v] 5)).drew := by
  have h : HoldsB (w.alloc (.cells #[.int .u8 v] 5)) w.heap.size 0 [b] := fun j hj => by
    have hj : j < 1 := hj
    obtain rfl : j = 0 := by omega
    rw [blk_cell (heap_alloc_new w _), hv]
    rfl
  have h2 : HoldsB (w.alloc (.cells #[.int .u8 v] 5)).drew w.heap.size 0 [b] := h
  exact h2.all 1
theorem one_byte' {w w2 : World} {b : UInt8} {v : Int} (hB : Below (w.alloc (.cells #[.int .u8 v] 5)).heap.size (w.alloc (.cells #[.int .u8 v] 5)) w2) (hv : v = (b.toNat : Int)) : (convert 22 9 (.slice (some ⟨w.heap.size, 0, none⟩) 1 1)).run Tryd.prog w2 = .ok (.string ⟨#[b]⟩) w2 := by
  have h : HoldsB w2 w.heap.size 0 [b] := fun j hj => by
    have hj : j < 1 := hj
    obtain rfl : j = 0 := by omega
    rw [blk_cell ((hB.block w.heap.size (by simp)).trans (heap_alloc_new w _)), hv]
    rfl
  exact h.all 1
theorem wrap_small (n : Nat) (h : n < 2 ^ 63) : IntKind.i64.wrap (n : Int) = (n : Int) := by
  have e3 : ((n : Int) % (2 ^ IntKind.i64.bits : Int)) = (n : Int) := Int.emod_eq_of_lt (by omega) (by show _ < (2 : Int) ^ 64; omega)
  unfold IntKind.wrap
  simp only [e3]
  rw [if_neg]
  have e4 : ¬ ((2 : Int) ^ 63 ≤ (n : Int)) := by omega
  intro h
  rw [Bool.and_eq_true] at h
  exact e4 (of_decide_eq_true h.2)
theorem wrap_u8 (n : Nat) (h : n < 256) : IntKind.u8.wrap (n : Int) = (n : Int) := by
  have e3 : ((n : Int) % (2 ^ IntKind.u8.bits : Int)) = (n : Int) := Int.emod_eq_of_lt (by omega) (by show _ < (2 : Int) ^ 8; omega)
  unfold IntKind.wrap
  simp only [e3]
  rw [if_neg]
  intro h
  rw [Bool.and_eq_true] at h
  exact absurd h.1 (by decide)
theorem lt_below {B b : Nat} {w w' : World} (h : Below B w w') (hb : b < w.heap.size) : b < w'.heap.size := by have := h.size; omega
theorem sz_list (S : ByteArray) : S.data.toList.length = S.size := Array.length_toList
theorem ba_app2 (x y : ByteArray) : (x ++ y).data.toList = x.data.toList ++ y.data.toList := by simp [ByteArray.data_append]
theorem ba_ext (x : ByteArray) (i j : Nat) : (x.extract i j).data.toList = (x.data.toList.take j).drop i := by simp [ByteArray.data_extract, List.drop_take]
theorem ba_one (l : List UInt8) (c : UInt8) : ((⟨l.toArray⟩ : ByteArray) ++ ⟨#[c]⟩) = ⟨(l ++ [c]).toArray⟩ := by
  apply ByteArray.ext
  simp [ByteArray.data_append]
theorem ba_of {x : ByteArray} {l : List UInt8} (h : x.data.toList = l) : x = ⟨l.toArray⟩ := by
  apply ByteArray.ext
  show x.data = l.toArray
  rw [← h]
theorem quiet_same' {P : Program} {f : FuncId} {args : Array Value} {w : World} {n : Nat} {v : Value}
    (h : Calls P f args (w.drewN n) fun e w' => e = .returned v ∧ w.drewN n = w') : Calls P f args (w.drewN n) fun e w'' => e = .returned v ∧ ∃ m, w'' = w.drewN m :=
  h.mono fun _ _ ⟨he, hm⟩ => ⟨he, n, hm.symm⟩
theorem drewB {B : Nat} {a w : World} (h : Below B a w) (n : Nat) : Below B a (w.drewN n) := ⟨h.os, h.tape, h.output, h.size, h.block⟩
end Go.Proofs.YthjkpfnkahfdgaaDoor.answerRead
