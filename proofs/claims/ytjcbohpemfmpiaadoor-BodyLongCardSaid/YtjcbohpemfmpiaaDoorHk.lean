/- A head, as the program reads it, walked. -/
import Derived.Test.YtjcbohpemfmpiaaDoorHj
namespace Go.Proofs.YtjcbohpemfmpiaaDoor.headLong
set_option linter.unusedVariables false
set_option linter.unusedSimpArgs false
open Go.ChangeShapes Go.WideShapes Go.ChangeAt Go.RowKit Go.Hl Go.Hg
abbrev zreq : Value := .agg #[.string ⟨#[]⟩, .string ⟨#[]⟩, .slice none 0 0, .string ⟨#[]⟩]
/-- Bytes in memory. -/
def HoldsB (w : World) (bb o : Nat) (bs : List UInt8) : Prop := ∀ j, j < bs.length → w.cell? ⟨bb, o + j, none⟩ = some (.int .u8 ((at0 bs j).toNat : Int))
theorem HoldsB.below {w w' : World} {bb o : Nat} {bs : List UInt8} {B : Nat} (h : HoldsB w bb o bs) (hB : Below B w w') (hb : bb < B) : HoldsB w' bb o bs := fun j hj => (hB.cell (p := ⟨bb, o + j, none⟩) hb).trans (h j hj)
theorem HoldsB.string {w : World} {bb o : Nat} {bs : List UInt8} (h : HoldsB w bb o bs) {i fr : Nat} (hi : i ≤ bs.length) (hf : fr ≤ i) (cp : Nat) :
    (convert 23 9 (.slice (some ⟨bb, o + fr, none⟩) (i - fr) cp)).run Tryd.prog w = .ok (.string ⟨((bs.take i).drop fr).toArray⟩) w := by
  have hl : ((bs.take i).drop fr).length = i - fr := by rw [List.length_drop, List.length_take]; omega
  have := run_convert_bytes_back (P := Tryd.prog) w 23 9 5 ⟨bb, o + fr, none⟩ cp ((bs.take i).drop fr) Tryd.underlying23 Tryd.underlying5 Tryd.underlying9 (fun j hj => by
    rw [hl] at hj
    have ea : (⟨bb, o + fr, none⟩ : Addr).add j = ⟨bb, o + (fr + j), none⟩ := by unfold Addr.add; split <;> simp_all; omega
    rw [ea, h (fr + j) (by omega), List.getElem_drop, List.getElem_take]
    have hlt : fr + j < bs.length := by omega
    unfold at0
    rw [List.getElem?_eq_getElem hlt]
    rfl)
  rw [hl] at this
  simpa using this
theorem fin_26 {W : World} {t : Array Value} {R : Nat} {a b v c : Value} {x y : Int} {fr : Nat × Nat} {post : Ending → World → Prop} (h0 : W.heap[R]? = some (.cells #[a, b, v, c] 28 fr)) (h2 : t[2]? = some (.pointer (some ⟨R, 0, none⟩))) (h3 : t[3]? = some (.int .i64 x)) (h4 : t[4]? = some (.int .i64 y))
    (hp : post (.returned (.tuple #[.agg #[a, b, v, c], .int .i64 x, .int .i64 y])) W) : bodyPost Tryd.prog Tryd.f26 post Exit.ret { tmps := t, defers := [] } W := by
  have c0 : W.cell? ⟨R, 0, none⟩ = some a := by rw [blk_cell h0]; rfl
  have c1 : W.cell? ⟨R, 1, none⟩ = some b := by rw [blk_cell h0]; rfl
  have c2 : W.cell? ⟨R, 2, none⟩ = some v := by rw [blk_cell h0]; rfl
  have c3 : W.cell? ⟨R, 3, none⟩ = some c := by rw [blk_cell h0]; rfl
  refine bodyPost_ret (v := .tuple #[.agg #[a, b, v, c], .int .i64 x, .int .i64 y]) ?_ rfl hp
  simp [results, Tryd.results26, h2, h3, h4, c0, c1, c2, c3, go_sem]
theorem fin_17 {W : World} {t : Array Value} {R : Nat} {a b v c : Value} {x y : Int} {fr : Nat × Nat} {post : Ending → World → Prop} (h0 : W.heap[R]? = some (.cells #[a, b, v, c] 28 fr)) (h2 : t[2]? = some (.pointer (some ⟨R, 0, none⟩))) (h3 : t[3]? = some (.int .i64 x)) (h4 : t[4]? = some (.int .i64 y))
    (hp : post (.returned (.tuple #[.agg #[a, b, v, c], .int .i64 x, .int .i64 y])) W) : bodyPost Tryd.prog Tryd.f17 post Exit.ret { tmps := t, defers := [] } W := by
  have c0 : W.cell? ⟨R, 0, none⟩ = some a := by rw [blk_cell h0]; rfl
  have c1 : W.cell? ⟨R, 1, none⟩ = some b := by rw [blk_cell h0]; rfl
  have c2 : W.cell? ⟨R, 2, none⟩ = some v := by rw [blk_cell h0]; rfl
  have c3 : W.cell? ⟨R, 3, none⟩ = some c := by rw [blk_cell h0]; rfl
  refine bodyPost_ret (v := .tuple #[.agg #[a, b, v, c], .int .i64 x, .int .i64 y]) ?_ rfl hp
  simp [results, Tryd.results17, h2, h3, h4, c0, c1, c2, c3, go_sem]
theorem fin_18 {W : World} {t : Array Value} {R : Nat} {a b v c : Value} {x y : Int} {fr : Nat × Nat} {post : Ending → World → Prop} (h0 : W.heap[R]? = some (.cells #[a, b, v, c] 28 fr)) (h2 : t[2]? = some (.pointer (some ⟨R, 0, none⟩))) (h3 : t[3]? = some (.int .i64 x)) (h4 : t[4]? = some (.int .i64 y))
    (hp : post (.returned (.tuple #[.agg #[a, b, v, c], .int .i64 x, .int .i64 y])) W) : bodyPost Tryd.prog Tryd.f18 post Exit.ret { tmps := t, defers := [] } W := by
  have c0 : W.cell? ⟨R, 0, none⟩ = some a := by rw [blk_cell h0]; rfl
  have c1 : W.cell? ⟨R, 1, none⟩ = some b := by rw [blk_cell h0]; rfl
  have c2 : W.cell? ⟨R, 2, none⟩ = some v := by rw [blk_cell h0]; rfl
  have c3 : W.cell? ⟨R, 3, none⟩ = some c := by rw [blk_cell h0]; rfl
  refine bodyPost_ret (v := .tuple #[.agg #[a, b, v, c], .int .i64 x, .int .i64 y]) ?_ rfl hp
  simp [results, Tryd.results18, h2, h3, h4, c0, c1, c2, c3, go_sem]
set_option maxRecDepth 100000 in
theorem wrong (i : Nat) (hi : i ≤ 5000) (w : World) : Calls Tryd.prog 26 #[.int .i64 i] w fun e w' => e = .returned (.tuple #[zreq, .int .i64 0, .int .i64 (ferr i)]) ∧ Below w.heap.size w w' := by
  by_cases h : i < 2000
  · have e := ferr_lt h
    have E := Lib.hid e
    clear e
    go_enter Tryd.func26, Tryd.ntmps26
    go_wp2_with fail
    refine fin_26 (heap_alloc_new w _) rfl rfl rfl ⟨by rw [E.out], (Below.refl _ w).alloc (Nat.le_refl _) _⟩
  · have e := ferr_ge (i := i) (by omega)
    have E := Lib.hid e
    clear e
    go_enter Tryd.func26, Tryd.ntmps26
    go_wp2_with fail
    refine fin_26 (heap_alloc_new w _) rfl rfl rfl ⟨by rw [E.out], (Below.refl _ w).alloc (Nat.le_refl _) _⟩
end Go.Proofs.YtjcbohpemfmpiaaDoor.headLong
