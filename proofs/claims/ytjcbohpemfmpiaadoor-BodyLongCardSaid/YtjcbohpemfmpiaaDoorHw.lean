/- Bytes that are made, and their text. -/
import Derived.Test.YtjcbohpemfmpiaaDoorHk
import Derived.Lib.ConvBytes
import Derived.Laws.MakeOwn
namespace Go.Proofs.YtjcbohpemfmpiaaDoor.bodyLong
set_option linter.unusedVariables false
set_option linter.unusedSimpArgs false
open Go.ChangeShapes Go.WideShapes Go.ChangeAt Go.RowKit Go.Hl Go.Hg headLong
/-- Bytes that may be written. -/
def BB (w : World) (B n : Nat) : Prop := ∃ C, w.heap[B]? = some (.cells C 5 (0, 0)) ∧ C.size = n ∧ ∀ j, j < n → ∃ c : UInt8, C[j]? = some (.int .u8 (c.toNat : Int))
theorem BB.set {w : World} {B n i : Nat} (h : BB w B n) (c : UInt8) {v : Int} (hv : v = (c.toNat : Int)) : BB (w.setCell ⟨B, i, none⟩ (.int .u8 v)) B n := by
  obtain ⟨C, h1, h2, h3⟩ := h
  subst hv
  refine ⟨_, blk_set h1 _, by simpa using h2, fun j hj => ?_⟩
  rw [Array.getElem?_setIfInBounds]
  by_cases e : i = j
  · subst e
    rw [if_pos rfl, if_pos (by omega)]
    exact ⟨c, rfl⟩
  · rw [if_neg e]; exact h3 j hj
theorem BB.at {w : World} {B n j : Nat} (h : BB w B n) (hj : j < n) : ∃ c : UInt8, w.cell? ⟨B, j, none⟩ = some (.int .u8 (c.toNat : Int)) ∧ w.frozen? ⟨B, j, none⟩ = false := by
  obtain ⟨C, h1, _, h3⟩ := h
  obtain ⟨c, hc⟩ := h3 j hj
  exact ⟨c, by rw [blk_cell h1]; exact hc, by simp [World.frozen?, h1]⟩
theorem BB.lt {w : World} {B n : Nat} (h : BB w B n) : B < w.heap.size := by
  obtain ⟨C, h1, _⟩ := h
  rcases Nat.lt_or_ge B w.heap.size with h' | h'
  · exact h'
  · simp [Array.getElem?_eq_none h'] at h1
theorem BB.made (w : World) (n : Nat) : BB (w.alloc (.cells (madeCells #[.int .u8 0] n) 5)) w.heap.size n := by
  refine ⟨_, heap_alloc_new w _, size_madeCells _ _, fun j hj => ⟨0, ?_⟩⟩
  have : (madeCells #[Value.int .u8 0] n)[j]? = (madeCells #[Value.int .u8 0] n).toList[j]? := by simp
  rw [this, toList_madeCells_one, List.getElem?_replicate, if_pos hj]
  rfl
theorem BB.bytes {w : World} {B n : Nat} (h : BB w B n) : ∃ bs : List UInt8, bs.length = n ∧ HoldsB w B 0 bs := by
  have key : ∀ i : Fin n, ∃ c : UInt8, w.cell? ⟨B, i.1, none⟩ = some (.int .u8 (c.toNat : Int)) := fun i => by
    obtain ⟨c, hc, _⟩ := h.at i.2
    exact ⟨c, hc⟩
  refine ⟨List.ofFn fun i => (key i).choose, by simp, fun j hj => ?_⟩
  have hj' : j < n := by simpa using hj
  have e : at0 (List.ofFn fun i => (key i).choose) j = (key ⟨j, hj'⟩).choose := by
    unfold at0
    rw [List.getElem?_eq_getElem hj]
    simp
  rw [e, Nat.zero_add]
  exact (key ⟨j, hj'⟩).choose_spec
theorem BB.string {w : World} {B n : Nat} (h : BB w B n) : ∃ s : ByteArray, s.size = n ∧ (convert 23 9 (.slice (some ⟨B, 0, none⟩) n n)).run Tryd.prog w = .ok (.string s) w := by
  obtain ⟨bs, hl, hb⟩ := h.bytes
  have := hb.string (i := bs.length) (fr := 0) (Nat.le_refl _) (Nat.zero_le _) n
  refine ⟨⟨((bs.take bs.length).drop 0).toArray⟩, ?_, ?_⟩
  · show ((bs.take bs.length).drop 0).toArray.size = n
    simp [hl]
  · rw [← hl] at this ⊢
    simpa using this
theorem bw_below {B : Nat} {w y : World} {s : ByteArray} (h : Below B w y) (hB : B ≤ y.heap.size) : Below B w (Lib.bytesWorld y 5 s) :=
  h.trans ⟨rfl, rfl, rfl, by rw [Lib.bytesWorld_size]; omega, fun k hk => Lib.bytesWorld_at_old y 5 s k (by omega)⟩
theorem info5 : (Tryd.prog.info? 5).map (fun i => (i.zero, i.size, i.bytes)) = some (some (.int .u8 0), 1, 1) := by kernel_rfl
end Go.Proofs.YtjcbohpemfmpiaaDoor.bodyLong
