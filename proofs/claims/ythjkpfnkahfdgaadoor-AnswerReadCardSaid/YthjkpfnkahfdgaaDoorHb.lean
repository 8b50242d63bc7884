/- Small letters: what is written of a row of bytes, and cells of a row that is written. -/
import Derived.WalkKit
import Derived.ProofKit
import Derived.Laws.IdiomStrings
namespace Go.Hg
set_option linter.unusedVariables false
set_option linter.unusedSimpArgs false
open Go
def lowB (b : UInt8) : UInt8 := if 65 ≤ b.toNat ∧ b.toNat ≤ 90 then UInt8.ofNat (b.toNat + 32) else b
theorem lowB_hit {b : UInt8} (h : 65 ≤ b.toNat ∧ b.toNat ≤ 90) : (lowB b).toNat = b.toNat + 32 := by
  unfold lowB
  rw [if_pos h, UInt8.toNat_ofNat']
  omega
theorem lowB_miss {b : UInt8} (h : ¬ (65 ≤ b.toNat ∧ b.toNat ≤ 90)) : lowB b = b := if_neg h
/-- The first k bytes small. -/
def lowL (l : List UInt8) (k : Nat) : List UInt8 := (l.take k).map lowB ++ l.drop k
def lowTo (s : ByteArray) (k : Nat) : ByteArray := ⟨(lowL s.data.toList k).toArray⟩
def low (s : ByteArray) : ByteArray := ⟨(s.data.toList.map lowB).toArray⟩
theorem lowL_len (l : List UInt8) (k : Nat) : (lowL l k).length = l.length := by
  simp [lowL]; omega
theorem lowTo_size (s : ByteArray) (k : Nat) : (lowTo s k).size = s.size := by
  show (lowL s.data.toList k).toArray.size = s.data.size
  rw [List.size_toArray, lowL_len, Array.length_toList]
theorem low_size (s : ByteArray) : (low s).size = s.size := by
  show (s.data.toList.map lowB).toArray.size = s.data.size
  simp
theorem lowTo_zero (s : ByteArray) : lowTo s 0 = s := by
  obtain ⟨a⟩ := s
  simp [lowTo, lowL]
theorem lowTo_all (s : ByteArray) : lowTo s s.size = low s := by
  have h : s.size = s.data.toList.length := (Array.length_toList (xs := s.data)).symm
  show (⟨((s.data.toList.take s.size).map lowB ++ s.data.toList.drop s.size).toArray⟩ : ByteArray) = _
  rw [h, List.take_length, List.drop_length, List.append_nil]
  rfl
theorem lowL_succ {l : List UInt8} {k : Nat} (h : k < l.length) : lowL l (k + 1) = (lowL l k).set k (lowB l[k]) := by
  unfold lowL
  rw [List.set_append_right _ _ (by simp; omega)]
  have e : k - ((l.take k).map lowB).length = 0 := by simp; omega
  rw [e, List.drop_eq_getElem_cons h, List.set_cons_zero, List.take_succ_eq_append_getElem h]
  simp only [List.map_append, List.append_assoc, List.map_cons, List.map_nil, List.cons_append, List.nil_append]
theorem lowL_at {l : List UInt8} {k : Nat} (h : k < l.length) : (lowL l k)[k]? = some l[k] := by
  unfold lowL
  rw [List.getElem?_append_right (by simp; omega)]
  have e : k - ((l.take k).map lowB).length = 0 := by simp; omega
  rw [e, List.drop_eq_getElem_cons h]
  rfl
theorem bytesRow_list (s : ByteArray) (cap : Nat) : (bytesRow s cap).toList = s.data.toList.map (fun b => Value.int .u8 b.toNat) ++ List.replicate (cap - s.size) (.int .u8 0) := by
  simp [bytesRow]
theorem row_at {s : ByteArray} {k cap : Nat} (h : k < s.data.size) : (bytesRow (lowTo s k) cap)[k]? = some (.int .u8 s.data[k].toNat) := by
  have hl : k < s.data.toList.length := by simpa using h
  rw [← Array.getElem?_toList, bytesRow_list, List.getElem?_append_left (by simp [lowTo, lowL_len]; exact h), List.getElem?_map]
  show ((lowL s.data.toList k)[k]?).map _ = _
  rw [lowL_at hl]
  simp
theorem row_set {s : ByteArray} {k cap : Nat} (h : k < s.data.size) : (bytesRow (lowTo s k) cap).setIfInBounds k (.int .u8 (lowB s.data[k]).toNat) = bytesRow (lowTo s (k + 1)) cap := by
  have hl : k < s.data.toList.length := by simpa using h
  apply Array.toList_inj.1
  rw [Array.toList_setIfInBounds, bytesRow_list, bytesRow_list, List.set_append_left _ _ (by simp [lowTo, lowL_len]; exact h), lowTo_size, lowTo_size]
  congr 1
  show ((lowL s.data.toList k).map _).set k _ = (lowL s.data.toList (k + 1)).map _
  rw [lowL_succ hl, List.map_set]
  simp
theorem lowL_same {l : List UInt8} {k : Nat} (h : k < l.length) (hl : lowB l[k] = l[k]) : lowL l (k + 1) = lowL l k := by
  rw [lowL_succ h, hl]
  apply List.ext_getElem?
  intro i
  rw [List.getElem?_set]
  split
  · rename_i e
    subst e
    rw [if_pos (by rw [lowL_len]; exact h), lowL_at h]
  · rfl
theorem lowTo_same {s : ByteArray} {k : Nat} (h : k < s.data.size) (hl : lowB s.data[k] = s.data[k]) : lowTo s (k + 1) = lowTo s k := by
  have : lowL s.data.toList (k + 1) = lowL s.data.toList k := lowL_same (by simpa using h) (by simpa using hl)
  simp only [lowTo, this]
theorem row_size (s : ByteArray) (k cap : Nat) : (bytesRow (lowTo s k) cap).size = (bytesRow s cap).size := by
  have e1 : (lowTo s k).data.toList.length = s.data.toList.length := by simp [lowTo, lowL_len]
  rw [← Array.length_toList, ← Array.length_toList, bytesRow_list, bytesRow_list, lowTo_size]
  simp only [List.length_append, List.length_map, List.length_replicate, e1]
theorem blk_cell {w : World} {B : Nat} {C : Array Value} {t : TypeId} {fr : Nat × Nat} (h : w.heap[B]? = some (.cells C t fr)) (j : Nat) : w.cell? ⟨B, j, none⟩ = C[j]? := by simp [World.cell?, h]
theorem blk_free {w : World} {B m : Nat} {C : Array Value} {t : TypeId} (h : w.heap[B]? = some (.cells C t (m, m + 1))) {j : Nat} (hj : j < m) : w.frozen? ⟨B, j, none⟩ = false := by
  simp [World.frozen?, h]; omega
theorem blk_set {w : World} {B i : Nat} {C : Array Value} {t : TypeId} {fr : Nat × Nat} (h : w.heap[B]? = some (.cells C t fr)) (v : Value) : (w.setCell ⟨B, i, none⟩ v).heap[B]? = some (.cells (C.setIfInBounds i v) t fr) := by
  have hlt : B < w.heap.size := by
    rcases Nat.lt_or_ge B w.heap.size with h' | h'
    · exact h'
    · simp [Array.getElem?_eq_none h'] at h
  have h' : w.heap[B] = .cells C t fr := by simpa [Array.getElem?_eq_getElem hlt] using h
  show (w.heap.modify B _)[B]? = _
  rw [Array.getElem?_eq_getElem (by simpa using hlt), Array.getElem_modify_self, h']
  rfl
/-- A byte of a text. -/
def bt (s : ByteArray) (k : Nat) : UInt8 := s.data.toList[k]?.getD 0
theorem bt_eq {s : ByteArray} {k : Nat} (h : k < s.data.size) : s.data[k] = bt s k := by
  unfold bt
  rw [List.getElem?_eq_getElem (by simpa using h)]
  simp
theorem row_at' {s : ByteArray} {k cap : Nat} (h : k < s.size) : (bytesRow (lowTo s k) cap)[k]? = some (.int .u8 (bt s k).toNat) := by
  rw [row_at (show k < s.data.size from h), bt_eq]
theorem row_set' {s : ByteArray} {k cap : Nat} (h : k < s.size) : (bytesRow (lowTo s k) cap).setIfInBounds k (.int .u8 (lowB (bt s k)).toNat) = bytesRow (lowTo s (k + 1)) cap := by
  rw [← bt_eq (show k < s.data.size from h)]; exact row_set h
theorem lowTo_same' {s : ByteArray} {k : Nat} (h : k < s.size) (hl : lowB (bt s k) = bt s k) : lowTo s (k + 1) = lowTo s k :=
  lowTo_same (show k < s.data.size from h) (by rw [bt_eq]; exact hl)
theorem row_le (s : ByteArray) (cap : Nat) : s.size ≤ (bytesRow s cap).size := by
  show s.data.size ≤ (s.data.map _ ++ Array.replicate _ _).size
  rw [Array.size_append, Array.size_map]
  omega
theorem own_below {w w' : World} {base : Nat} {e : TypeId} {size : Nat} {v : Value} {n : Nat} {xs : List Value} (h : w.ownsRow base e size v n xs) (hB : RowKit.Below w.heap.size w w') : w'.ownsRow base e size v n xs := by
  obtain ⟨h1, h2⟩ := h
  refine ⟨h1, ?_⟩
  rcases h2 with h2 | ⟨g, cap, cur, hv, hg, hh, r⟩
  · exact .inl h2
  · refine .inr ⟨g, cap, cur, hv, hg, ?_, r⟩
    rw [hB.block g (by
      rcases Nat.lt_or_ge g w.heap.size with h' | h'
      · exact h'
      · simp [Array.getElem?_eq_none h'] at hh)]
    exact hh
end Go.Hg
