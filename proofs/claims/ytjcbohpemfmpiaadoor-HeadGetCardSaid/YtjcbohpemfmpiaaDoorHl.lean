/- HeadGet, its walk: HgLower. -/
import Derived.Test.YtjcbohpemfmpiaaDoorProg
import Derived.Test.YtjcbohpemfmpiaaDoorHb
import Derived.WalkKit
import Derived.ProofKit
import Derived.KernelRfl
import Derived.Deep.QuietTactic
import Derived.BigQuiet
import Derived.Lib.Hide
namespace Go.Proofs.YtjcbohpemfmpiaaDoor.headGet
open Go.ChangeShapes Go.WideShapes Go.ChangeAt Go.RowKit Go.Hg
/-- The row that is made small. -/
def Row (w wr : World) (s : ByteArray) (cap k : Nat) : Prop :=
  wr.heap[w.heap.size]? = some (.cells (bytesRow (lowTo s k) cap) 5 ((bytesRow s cap).size, (bytesRow s cap).size + 1)) ∧ Below w.heap.size w wr
theorem Row.start (w : World) (s : ByteArray) (cap : Nat) : Row w (w.alloc (.cells (bytesRow s cap) 5 ((bytesRow s cap).size, (bytesRow s cap).size + 1))).drew s cap 0 := by
  refine ⟨?_, ((Below.refl _ w).alloc (Nat.le_refl _) _).drew⟩
  rw [lowTo_zero]
  exact heap_alloc_new w _
theorem Row.cell {w wr : World} {s : ByteArray} {cap k : Nat} (h : Row w wr s cap k) (hk : k < s.size) : wr.cell? ⟨w.heap.size, k, none⟩ = some (.int .u8 (bt s k).toNat) := (blk_cell h.1 k).trans (row_at' hk)
theorem Row.free {w wr : World} {s : ByteArray} {cap k : Nat} (h : Row w wr s cap k) (hk : k < s.size) : wr.frozen? ⟨w.heap.size, k, none⟩ = false := blk_free h.1 (by have := row_le s cap; omega)
theorem Row.set {w wr : World} {s : ByteArray} {cap k : Nat} (h : Row w wr s cap k) (hk : k < s.size) {n : Int} (hn : n = (lowB (bt s k)).toNat) : Row w (wr.setCell ⟨w.heap.size, k, none⟩ (.int .u8 n)) s cap (k + 1) := by
  subst hn
  refine ⟨?_, h.2.setCell (Nat.le_refl _) _⟩
  rw [blk_set h.1, row_set' hk]
theorem Row.stay {w wr : World} {s : ByteArray} {cap k : Nat} (h : Row w wr s cap k) (hk : k < s.size) (hl : lowB (bt s k) = bt s k) : Row w wr s cap (k + 1) := by
  refine ⟨?_, h.2⟩
  rw [lowTo_same' hk hl]; exact h.1
theorem Row.back {w wr : World} {s : ByteArray} {cap k cp : Nat} (h : Row w wr s cap k) (hk : k = s.size) : (convert 23 9 (.slice (some ⟨w.heap.size, 0, none⟩) s.size cp)).run Tryd.prog wr = .ok (.string (low s)) wr := by
  subst hk
  have e : (low s).data.toList.length = s.size := by
    have := low_size s
    rw [Array.length_toList]; exact this
  have := run_convert_bytes_back (P := Tryd.prog) wr 23 9 5 ⟨w.heap.size, 0, none⟩ cp (low s).data.toList Tryd.underlying23 Tryd.underlying5 Tryd.underlying9 (fun j hj => by
    have ea : (⟨w.heap.size, 0, none⟩ : Addr).add j = ⟨w.heap.size, j, none⟩ := by unfold Addr.add; split <;> simp_all
    rw [ea, blk_cell h.1, lowTo_all, bytesRow_at (low s) cap j (by simpa using hj)]
    simp)
  rw [e] at this
  simpa using this
set_option maxRecDepth 8000 in
theorem text_Lower (s : ByteArray) (hs : s.size ≤ 1000) (w : World) : Calls Tryd.prog 20 #[.string s] w fun e w' => e = .returned (.string (low s)) ∧ Below w.heap.size w w' := by
  have hcv := fun w => run_bytes_of_string (P := Tryd.prog) w 9 23 5 s Tryd.underlying9 Tryd.underlying23 Tryd.underlying5
  go_enter Tryd.func20, Tryd.ntmps20
  go_wp2_with fail
  clear hcv
  generalize grownCap w s.size 0 5 = cap
  go_loopw [4, 5, 10] (fun _ _ i wr => ∃ k : Nat, k ≤ s.size ∧ i = .int .i64 k ∧ Row w wr s cap k) (fun _ _ i _ => s.size - (intOf i).toNat)
  case atStart => exact ⟨0, Nat.zero_le _, rfl, Row.start _ _ _⟩
  case round =>
    obtain ⟨k, hk, rfl, hR⟩ := hrel
    by_cases hlt : k < s.size
    · have c1 := hR.cell hlt
      have c2 := hR.free hlt
      have hset := fun (n : Int) => hR.set hlt (n := n)
      have hstay := hR.stay hlt
      have hhit := lowB_hit (b := bt s k)
      have hmiss := lowB_miss (b := bt s k)
      have hn := (bt s k).toNat_lt
      generalize (bt s k).toNat = n at c1 hhit hmiss hn
      have HS := Lib.hid hset
      have HY := Lib.hid hstay
      have HH := Lib.hid hhit
      have HM := Lib.hid hmiss
      clear hset hstay hhit hmiss hR
      rcases (by omega : n < 65 ∨ (65 ≤ n ∧ n ≤ 90) ∨ 90 < n) with hg | ⟨hg, hg2⟩ | hg
      · go_wp2
        go_roundw
        case rel => exact ⟨k + 1, by omega, by go_num, HY.out (HM.out (by omega))⟩
        case measure => simp [intOf]; omega
      · go_wp2
        go_roundw
        case rel => exact ⟨k + 1, by omega, by go_num, HS.out _ (by have := HH.out ⟨hg, hg2⟩; omega)⟩
        case measure => simp [intOf]; omega
      · go_wp2
        go_roundw
        case rel => exact ⟨k + 1, by omega, by go_num, HY.out (HM.out (by omega))⟩
        case measure => simp [intOf]; omega
    · have hd : decide ((k : Int) < (s.size : Int)) = false := by simp; omega
      have hbk := fun cp => hR.back (cp := cp) (by omega)
      have HB := Lib.hid hR.2
      clear hR
      go_wp2
      go_ret
      exact ⟨rfl, HB.out⟩
set_option maxRecDepth 8000 in
theorem ref_Lower (s : ByteArray) (hs : s.size ≤ 1000) (w : World) : Calls Tryd.prog 21 #[.string s] w fun e w' => e = .returned (.string (low s)) ∧ Below w.heap.size w w' := by
  have hcv := fun w => run_bytes_of_string (P := Tryd.prog) w 9 23 5 s Tryd.underlying9 Tryd.underlying23 Tryd.underlying5
  go_enter Tryd.func21, Tryd.ntmps21
  go_wp2_with fail
  clear hcv
  generalize grownCap w s.size 0 5 = cap
  go_loopw [4] (fun i wr => ∃ k : Nat, k ≤ s.size ∧ i = .int .i64 k ∧ Row w wr s cap k) (fun i _ => s.size - (intOf i).toNat)
  case atStart => exact ⟨0, Nat.zero_le _, rfl, Row.start _ _ _⟩
  case round =>
    obtain ⟨k, hk, rfl, hR⟩ := hrel
    by_cases hlt : k < s.size
    · have c1 := hR.cell hlt
      have c2 := hR.free hlt
      have hset := fun (n : Int) => hR.set hlt (n := n)
      have hstay := hR.stay hlt
      have hhit := lowB_hit (b := bt s k)
      have hmiss := lowB_miss (b := bt s k)
      have hn := (bt s k).toNat_lt
      generalize (bt s k).toNat = n at c1 hhit hmiss hn
      have HS := Lib.hid hset
      have HY := Lib.hid hstay
      have HH := Lib.hid hhit
      have HM := Lib.hid hmiss
      clear hset hstay hhit hmiss hR
      rcases (by omega : n < 65 ∨ (65 ≤ n ∧ n ≤ 90) ∨ 90 < n) with hg | ⟨hg, hg2⟩ | hg
      · go_wp2
        go_roundw
        case rel => exact ⟨k + 1, by omega, by go_num, HY.out (HM.out (by omega))⟩
        case measure => simp [intOf]; omega
      · go_wp2
        go_roundw
        case rel => exact ⟨k + 1, by omega, by go_num, HS.out _ (by have := HH.out ⟨hg, hg2⟩; omega)⟩
        case measure => simp [intOf]; omega
      · go_wp2
        go_roundw
        case rel => exact ⟨k + 1, by omega, by go_num, HY.out (HM.out (by omega))⟩
        case measure => simp [intOf]; omega
    · have hd : decide ((k : Int) < (s.size : Int)) = false := by simp; omega
      have hbk := fun cp => hR.back (cp := cp) (by omega)
      have HB := Lib.hid hR.2
      clear hR
      go_wp2
      go_ret
      exact ⟨rfl, HB.out⟩
end Go.Proofs.YtjcbohpemfmpiaaDoor.headGet
