/- append(bytes of a text, bytes..): the row of a text's bytes. -/
import Derived.Test.YthjkpfnkahfdgaaDoorHn
namespace Go.Proofs.YthjkpfnkahfdgaaDoor.answerRead
set_option linter.unusedVariables false
set_option linter.unusedSimpArgs false
open Go.ChangeShapes Go.WideShapes Go.ChangeAt Go.RowKit Go.Hl Go.Hg Go.An
theorem info5 : (Tryd.prog.info? 5).map (fun i => (i.zero, i.size, i.bytes)) = some (some (.int .u8 0), 1, 1) := by kernel_rfl
def cellsB (l : List UInt8) : List Value := l.map fun b => Value.int .u8 (b.toNat : Int)
theorem cellsB_len (l : List UInt8) : (cellsB l).length = l.length := List.length_map _
theorem cellsB_one (l : List UInt8) : ∀ v ∈ cellsB l, v.oneCell' = true := fun v h => by
  obtain ⟨b, _, rfl⟩ := List.mem_map.1 h
  rfl
theorem cellsB_at {l : List UInt8} {j : Nat} {u : Value} (h : (cellsB l)[j]? = some u) : j < l.length ∧ u = .int .u8 ((at0 l j).toNat : Int) := by
  unfold cellsB at h
  rw [List.getElem?_map] at h
  cases hb : l[j]? with
  | none => rw [hb] at h; simp at h
  | some b =>
    rw [hb] at h
    simp only [Option.map_some, Option.some.injEq] at h
    refine ⟨(List.getElem?_eq_some_iff.1 hb).1, ?_⟩
    rw [← h]; unfold at0; rw [hb]; rfl
theorem cellsB_get {l : List UInt8} {j : Nat} (h : j < l.length) : (cellsB l)[j]? = some (.int .u8 ((at0 l j).toNat : Int)) := by
  unfold cellsB at0
  rw [List.getElem?_map, List.getElem?_eq_getElem h]
  rfl
/-- Cells laid ahead of the frozen stretch of their row. -/
theorem store_ahead (P : Program) (g o : Nat) (t : TypeId) (fz : Nat × Nat) : ∀ (vs : List Value) (i : Nat) (cur : Array Value) (w : World), w.heap[g]? = some (.cells cur t fz) → o + i + vs.length ≤ fz.1 → o + i + vs.length ≤ cur.size → (∀ v ∈ vs, v.oneCell' = true) →
    (storeCells ⟨g, o, none⟩ vs i).run P w = .ok () (w.setRow g (cur.toList.take (o + i) ++ vs ++ cur.toList.drop (o + i + vs.length)).toArray)
  | [], i, cur, w, hg, _, _, _ => by
    simp only [storeCells, List.append_nil, List.length_nil, Nat.add_zero, List.take_append_drop, Array.toArray_toList]
    rw [setRow_self w g cur t fz hg]
    rfl
  | v :: rest, i, cur, w, hg, hfz, hl, h1 => by
    have hi : o + i < cur.size := by simp at hl; omega
    have hadd : (⟨g, o, none⟩ : Addr).add i = ⟨g, o + i, none⟩ := by unfold Addr.add; split <;> simp_all
    have hcell : w.cell? ⟨g, o + i, none⟩ = some cur[o + i] := by simp [World.cell?, hg, hi]
    have hfro : w.frozen? ⟨g, o + i, none⟩ = false := by
      obtain ⟨lo, hi'⟩ := fz
      simp only [World.frozen?, hg, Bool.and_eq_false_iff, decide_eq_false_iff_not]
      left
      simp only [List.length_cons] at hfz
      omega
    have hst : (store ((⟨g, o, none⟩ : Addr).add i) v).run P w = .ok () (w.setRow g (cur.setIfInBounds (o + i) v)) := by
      rw [hadd, run_store P w _ v _ (h1 v (by simp)), hcell]
      simp [hfro, setCell_eq_setRow w g (o + i) cur t fz v hg]
    have ih := store_ahead P g o t fz rest (i + 1) (cur.setIfInBounds (o + i) v) (w.setRow g (cur.setIfInBounds (o + i) v)) (setRow_heap w g cur _ t _ hg) (by simp at hfz ⊢; omega) (by simp at hl ⊢; omega) (fun x hx => h1 x (by simp [hx]))
    simp only [storeCells, Sem.run_bind, hst, Result.andThen_ok, ih, setRow_setRow]
    congr 3
    have e := list_seg_step cur.toList (o + i) v rest (by simp at hl ⊢; omega)
    simpa [Array.toList_setIfInBounds, Nat.add_assoc] using e
theorem at0_app {a b : List UInt8} {j : Nat} : at0 (a ++ b) j = if j < a.length then at0 a j else at0 b (j - a.length) := by
  unfold at0
  rw [List.getElem?_append]
  split <;> rfl
/-- A row of a text's bytes, append, whatever it appends. -/
theorem run_appB (w : World) (B g n cap : Nat) (cur : Array Value) (hg : w.heap[g]? = some (.cells cur 5 (cap, cap + 1))) (hcs : cur.size = cap) (hn : n ≤ cap) (hB : B ≤ g) (xs : List UInt8) (hx : xs.length = n) (hX : cur.toList.take n = cellsB xs)
    (b : Option Addr) (m c : Nat) (ys : List UInt8) (hm : ys.length = m) (hY : ∀ a, b = some a → ∀ j, j < m → w.cell? (a.add j) = some (.int .u8 ((at0 ys j).toNat : Int))) (hb : b = none → m = 0) (hsm : n + m ≤ 100000) :
    ∃ g' cap' w', (Builtin.append_ #[22, 22] 22 #[.slice (some ⟨g, 0, none⟩) n cap, .slice b m c]).run Tryd.prog w = .ok (.slice (some ⟨g', 0, none⟩) (n + m) cap') w' ∧ HoldsB w' g' 0 (xs ++ ys) ∧ Below B w w' ∧ B ≤ g' := by
  obtain ⟨i0, hi, hz0, hz1, hz2⟩ := info_parts info5
  have ht := Tryd.underlying22
  have hgl : g < w.heap.size := (Array.getElem?_eq_some_iff.1 hg).1
  have hcell : ∀ {y : World} {q : Nat} {cu : Array Value} {fr : Nat × Nat}, y.heap[q]? = some (.cells cu 5 fr) → cu.toList.take (n + m) = cellsB (xs ++ ys) → HoldsB y q 0 (xs ++ ys) := by
    intro y q cu fr hq ht j hj
    rw [List.length_append, hx, hm] at hj
    rw [Nat.zero_add, cell_of_row y q j cu 5 fr hq]
    have h1 : (cu.toList.take (n + m))[j]? = cu.toList[j]? := by rw [List.getElem?_take, if_pos hj]
    rw [ht, cellsB_get (by rw [List.length_append, hx, hm]; exact hj)] at h1
    simpa using h1.symm
  cases b with
  | none =>
    obtain rfl := hb rfl
    have hys : ys = [] := List.eq_nil_of_length_eq_zero hm
    subst hys
    refine ⟨g, cap, w, ?_, hcell hg (by rw [List.append_nil, Nat.add_zero]; exact hX), Below.refl B w, hB⟩
    have hf := run_firstCells_none (P := Tryd.prog) w i0.size 0 0 c
    simp [Builtin.append_, run_underlying ht, sizeOf, typeInfo, hi, Builtin.lenOf, hn, run_firstCells_none, storeCells]
  | some a =>
    have hY' : ∀ j u, (cellsB ys)[j]? = some u → w.cell? (a.add j) = some u := fun j u hu => by
      obtain ⟨h1, h2⟩ := cellsB_at hu
      rw [h2]; exact hY a rfl j (by omega)
    have hl : (cellsB ys).length = m * i0.size := by rw [cellsB_len, hm, hz1, Nat.mul_one]
    have hxl : (cellsB xs).length = n := by rw [cellsB_len, hx]
    by_cases hroom : n + m ≤ cap
    · have hf := run_firstCells_some (P := Tryd.prog) w i0.size m a m c (cellsB ys) hl hY'
      have hst := store_ahead Tryd.prog g n 5 (cap, cap + 1) (cellsB ys) 0 cur w hg (by rw [cellsB_len]; show n + 0 + ys.length ≤ cap; omega) (by rw [cellsB_len]; omega) (cellsB_one ys)
      rw [Nat.add_zero, hX] at hst
      generalize List.drop (n + (cellsB ys).length) cur.toList = Z at hst
      refine ⟨g, cap, w.setRow g (cellsB xs ++ cellsB ys ++ Z).toArray, ?_, hcell (setRow_heap w g cur _ 5 _ hg) ?_, (Below.refl B w).grown (row := some g) ⟨rfl, rfl, rfl, by simp, fun k _ hk => setRow_other w g k _ (fun e => hk (by simp [e]))⟩ (by omega) (fun k hk => by simp at hk; omega), hB⟩
      · have e1 : n * i0.size = n := by rw [hz1, Nat.mul_one]
        simp [Builtin.append_, run_underlying ht, sizeOf, typeInfo, hi, Builtin.lenOf, hroom, hf, Addr.add_lit, e1, hst]
      · show List.take (n + m) (cellsB xs ++ cellsB ys ++ Z) = _
        have e : n + m = (cellsB xs ++ cellsB ys).length := by rw [List.length_append, hxl, cellsB_len, hm]
        rw [e, List.take_left]
        unfold cellsB; rw [List.map_append]
    · have holds : ∀ j v, (cellsB xs)[j]? = some v → w.cell? ((⟨g, 0, none⟩ : Addr).add j) = some v := fun j v hv => by
        have hadd : (⟨g, 0, none⟩ : Addr).add j = ⟨g, j, none⟩ := by unfold Addr.add; split <;> simp_all
        rw [hadd, cell_of_row w g j cur 5 _ hg]
        have hj : j < n := by rw [← hx]; exact (cellsB_at hv).1
        rw [← hX, List.getElem?_take, if_pos hj] at hv
        simpa using hv
      have hr := run_append_grow (P := Tryd.prog) w 22 22 5 i0 (.int .u8 0) ht hi hz0 ⟨g, 0, none⟩ n cap (cellsB xs) (by rw [hxl, hz1, Nat.mul_one]) holds a m c (cellsB ys) hl hY' (by omega) (by omega) (by rw [hz2]; exact growslice_fits (by omega) (by omega))
      refine ⟨_, _, _, hr, hcell (heap_alloc_new w.drew _) ?_, (drewB (Below.refl B w) 1).alloc (by show B ≤ w.heap.size; omega) _, by omega⟩
      · have e : n + m = (cellsB xs ++ cellsB ys).length := by rw [List.length_append, hxl, cellsB_len, hm]
        simp only [Array.toList_append]
        rw [e, List.take_left]
        unfold cellsB; rw [List.map_append]
theorem bw_row (w : World) (s : ByteArray) : (Lib.bytesWorld w 5 s).heap[w.heap.size]? = some (.cells (Lib.bytesCells w 5 s) 5 (grownCap w s.size 0 5, grownCap w s.size 0 5 + 1)) ∧ (Lib.bytesCells w 5 s).size = grownCap w s.size 0 5 ∧ (Lib.bytesCells w 5 s).toList.take s.size = cellsB s.data.toList := by
  have hs : (Lib.bytesCells w 5 s).size = grownCap w s.size 0 5 := by
    have h1 := grownCap_ge w s.size 0 5
    unfold Lib.bytesCells
    rw [Array.size_append, Array.size_map, Array.size_replicate]
    show s.size + _ = _
    omega
  refine ⟨?_, hs, ?_⟩
  · rw [Lib.bytesWorld_at_new, hs]
  · unfold Lib.bytesCells cellsB
    rw [Array.toList_append, Array.toList_map]
    have e : s.size = (s.data.toList.map fun b => Value.int .u8 (b.toNat : Int)).length := by rw [List.length_map, sz_list]
    rw [e, List.take_left]
theorem wpList_appB {ops : Array Oper} {rest : List Oper} {o : Oper} {a : Act} {w : World} {Q : Exit → Act → World → Prop} (hgd : o.guard = none) (s x : Operand)
    (ho : o.op = .call { callee := .builtin .append, args := #[s, x], argTypes := #[22, 22] }) (hty : o.type = 22)
    (B g n cap : Nat) (b : Option Addr) (m c : Nat) (xs ys : List UInt8) (hs : a.eval s = .slice (some ⟨g, 0, none⟩) n cap) (hx : a.eval x = .slice b m c)
    (hr : ∃ g' cap' w', (Builtin.append_ #[22, 22] 22 #[.slice (some ⟨g, 0, none⟩) n cap, .slice b m c]).run Tryd.prog w = .ok (.slice (some ⟨g', 0, none⟩) (n + m) cap') w' ∧ HoldsB w' g' 0 (xs ++ ys) ∧ Below B w w' ∧ B ≤ g')
    (h : ∀ g' cap' w', HoldsB w' g' 0 (xs ++ ys) → Below B w w' → B ≤ g' → wpList Tryd.prog ops Q rest (a.put o.dst (.slice (some ⟨g', 0, none⟩) (n + m) cap')) w') : wpList Tryd.prog ops Q (o :: rest) a w := by
  refine wpList_plain hgd fun K hK => ?_
  obtain ⟨g', cap', w', hr, h2, h3, h4⟩ := hr
  unfold Oper.wp execOp
  simp only [ho, hty, resolve, invoke, builtin, Sem.run_bind, Sem.run_pure, Result.andThen_ok, List.map_toArray, List.map_cons, List.map_nil, hs, hx, hr]
  exact hK _ _ (h g' cap' w' h2 h3 h4)
end Go.Proofs.YthjkpfnkahfdgaaDoor.answerRead
