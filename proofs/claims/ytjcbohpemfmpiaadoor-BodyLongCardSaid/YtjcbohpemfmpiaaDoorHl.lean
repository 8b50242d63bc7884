/- The reader of chunks: a line's end, walked. -/
import Derived.Test.YtjcbohpemfmpiaaDoorHk
import Derived.Deep.RegionHeld3
import Derived.Deep.DrawnRows
namespace Go.Proofs.YtjcbohpemfmpiaaDoor.bodyLong
set_option linter.unusedVariables false
set_option linter.unusedSimpArgs false
open Go.ChangeShapes Go.WideShapes Go.ChangeAt Go.RowKit Go.Hl Go.Hg headLong
attribute [local go_sem ↓] Go.wp_at_zero Go.wp_at_succ
/-- The reader of chunks in memory. -/
def RX (w : World) (B bb len cap at_ : Nat) (err : Int) : Prop := w.heap[B]? = some (.cells #[.slice (some ⟨bb, 0, none⟩) len cap, .int .i64 at_, .int .i64 err] 54 (0, 0))
theorem RX.facts {w : World} {B bb len cap at_ : Nat} {err : Int} (h : RX w B bb len cap at_ err) : w.cell? ⟨B, 0, none⟩ = some (.slice (some ⟨bb, 0, none⟩) len cap) ∧ w.cell? ⟨B, 1, none⟩ = some (.int .i64 at_) ∧ w.cell? ⟨B, 2, none⟩ = some (.int .i64 err) ∧ w.frozen? ⟨B, 1, none⟩ = false ∧ w.frozen? ⟨B, 2, none⟩ = false ∧ B < w.heap.size := by
  have h' : w.heap[B]? = some (.cells #[.slice (some ⟨bb, 0, none⟩) len cap, .int .i64 at_, .int .i64 err] 54 (0, 0)) := h
  refine ⟨by rw [blk_cell h']; rfl, by rw [blk_cell h']; rfl, by rw [blk_cell h']; rfl, by simp [World.frozen?, h'], by simp [World.frozen?, h'], ?_⟩
  rcases Nat.lt_or_ge B w.heap.size with h2 | h2
  · exact h2
  · simp [Array.getElem?_eq_none h2] at h'
theorem RX.step {w : World} {B bb len cap at_ : Nat} {err : Int} (h : RX w B bb len cap at_ err) (n : Nat) : RX (w.setCell ⟨B, 1, none⟩ (.int .i64 n)) B bb len cap n err := blk_set (i := 1) h _
theorem RX.fail {w : World} {B bb len cap at_ : Nat} {err : Int} (h : RX w B bb len cap at_ err) (x : Int) : RX (w.setCell ⟨B, 2, none⟩ (.int .i64 x)) B bb len cap at_ x := blk_set (i := 2) h _
/-- What a reader's call leaves. -/
theorem keep_step {B : Nat} {w w2 : World} (h : Below B w w2) (n : Nat) (v : Value) : Below B w ((w2.drewN n).setCell ⟨B, 1, none⟩ v) := (Below.drewN' h n).setCell (p := ⟨B, 1, none⟩) (Nat.le_refl _) _
/-- The reader and its bytes. -/
def RH (w : World) (B bb cap p : Nat) (bs : List UInt8) : Prop := RX w B bb bs.length cap p 0 ∧ HoldsB w bb 0 bs
theorem RH.drew {w : World} {B bb cap p : Nat} {bs : List UInt8} (h : RH w B bb cap p bs) (n : Nat) : RH (w.drewN n) B bb cap p bs := h
theorem RH.byte {w : World} {B bb cap p : Nat} {bs : List UInt8} (h : RH w B bb cap p bs) {j : Nat} {c : UInt8} (hj : j < bs.length) (hc : at0 bs j = c) : w.cell? ⟨bb, j, none⟩ = some (.int .u8 (c.toNat : Int)) := by
  have := h.2 j hj
  rw [hc, Nat.zero_add] at this
  exact this
theorem RH.step {w : World} {B bb cap p : Nat} {bs : List UInt8} (h : RH w B bb cap p bs) (hb : bb < B) (n : Nat) (v : Int) (hv : v = (n : Int)) : RH (w.setCell ⟨B, 1, none⟩ (.int .i64 v)) B bb cap n bs :=
  ⟨by rw [hv]; exact h.1.step n, h.2.below ((Below.refl B w).setCell (p := ⟨B, 1, none⟩) (Nat.le_refl _) _) hb⟩
set_option maxRecDepth 8000 in
set_option maxHeartbeats 1600000 in
theorem want_ (bs : List UInt8) (B bb cap p : Nat) (w : World) (hR : RH w B bb cap p bs) (hb : bb < B) (hp : p + 2 ≤ bs.length) (hc : bs.length ≤ cap) (hl : bs.length ≤ 20000) (h1 : at0 bs p = 13) (h2 : at0 bs (p + 1) = 10) :
    Calls Tryd.prog 33 #[.pointer (some ⟨B, 0, none⟩), .string ⟨#[13, 10]⟩] w fun e w' => (∃ v, e = .returned v) ∧ RH w' B bb cap (p + 2) bs ∧ Below B w w' := by
  have d1 : decide ((bs.length : Int) ≤ (p : Int)) = false := by simp; omega
  have d2 : decide ((bs.length : Int) ≤ (p : Int) + 1) = false := by simp; omega
  have l1 : (p : Int) < (bs.length : Int) := by omega
  have l2 : (p : Int) + 1 < (bs.length : Int) := by omega
  have n1 : ((p : Int) + 1).toNat = p + 1 := by omega
  obtain ⟨x0, x1, x2, y1, y2, hB⟩ := hR.1.facts
  have c1 := hR.byte (by omega) h1
  have H := Lib.hid (⟨hR, Below.refl B w⟩ : RH w B bb cap p bs ∧ Below B w w)
  have L1 := Lib.hid h1
  have L2 := Lib.hid h2
  have P := Lib.hid hp
  clear hR h1 h2
  go_enter Tryd.func33, Tryd.ntmps33
  go_wp2_with fail
  refine wp_loop_rounds 3 ?_
  rw [rounds_succ]
  go_wp2_with fail
  go_quiet (fail)
  have H2 : Hid (RH (w.drewN nq) B bb cap p bs ∧ Below B w (w.drewN nq)) := ⟨H.out.1, Below.drewN' H.out.2 nq⟩
  clear x0 x1 x2 y1 y2 hB c1
  generalize w.drewN nq = w2 at H2
  obtain ⟨x0, x1, x2, y1, y2, hB⟩ := H2.out.1.1.facts
  have c1 := H2.out.1.byte (by have := P.out; omega) L1.out
  go_wp2_with fail
  go_quiet (fail)
  go_wp2_with fail
  have H3 : Hid (RH ((w2.drewN nq).setCell ⟨B, 1, none⟩ (.int .i64 ((p : Int) + 1))) B bb cap (p + 1) bs ∧ Below B w ((w2.drewN nq).setCell ⟨B, 1, none⟩ (.int .i64 ((p : Int) + 1)))) := ⟨(H2.out.1.drew nq).step hb (p + 1) _ (by omega), keep_step H2.out.2 nq _⟩
  clear x0 x1 x2 y1 y2 hB c1
  generalize (w2.drewN nq).setCell ⟨B, 1, none⟩ (.int .i64 ((p : Int) + 1)) = w3 at H3
  obtain ⟨x0, x1, x2, y1, y2, hB⟩ := H3.out.1.1.facts
  rw [rounds_succ]
  go_wp2_with fail
  go_quiet (fail)
  have H4 : Hid (RH (w3.drewN nq) B bb cap (p + 1) bs ∧ Below B w (w3.drewN nq)) := ⟨H3.out.1, Below.drewN' H3.out.2 nq⟩
  clear x0 x1 x2 y1 y2 hB
  generalize w3.drewN nq = w4 at H4
  obtain ⟨x0, x1, x2, y1, y2, hB⟩ := H4.out.1.1.facts
  have c1 := H4.out.1.byte (by have := P.out; omega) L2.out
  go_wp2_with fail
  go_quiet (fail)
  go_wp2_with fail
  have H5 : Hid (RH ((w4.drewN nq).setCell ⟨B, 1, none⟩ (.int .i64 ((p : Int) + 1 + 1))) B bb cap (p + 2) bs ∧ Below B w ((w4.drewN nq).setCell ⟨B, 1, none⟩ (.int .i64 ((p : Int) + 1 + 1)))) := ⟨(H4.out.1.drew nq).step hb (p + 2) _ (by omega), keep_step H4.out.2 nq _⟩
  clear x0 x1 x2 y1 y2 hB c1
  generalize (w4.drewN nq).setCell ⟨B, 1, none⟩ (.int .i64 ((p : Int) + 1 + 1)) = w5 at H5
  obtain ⟨x0, x1, x2, y1, y2, hB⟩ := H5.out.1.1.facts
  rw [rounds_succ]
  go_wp2_with fail
  exact bodyPost_end (v := .tuple #[]) (by simp [results, Tryd.results33, go_sem]) rfl ⟨⟨_, rfl⟩, H5.out.1, H5.out.2⟩
end Go.Proofs.YtjcbohpemfmpiaaDoor.bodyLong
