/- BodyLong, walked. -/
import Derived.Test.YtjcbohpemfmpiaaDoorHx
import Derived.Laws.MakeOwn
namespace Go.Proofs.YtjcbohpemfmpiaaDoor.bodyLong
set_option linter.unusedVariables false
set_option linter.unusedSimpArgs false
open Go.ChangeShapes Go.WideShapes Go.ChangeAt Go.RowKit Go.Hl Go.Hg headLong
attribute [local go_sem ↓] Go.wp_at_zero Go.wp_at_succ
theorem make8 (a b : Nat) (ha : a ≤ 4100) (hb : b ≤ 4100) (y : World) : (Instr.makeSlice 23 (.int .i64 ((a : Int) + (b : Int))) (.int .i64 ((a : Int) + (b : Int)))).run Tryd.prog y = .ok (.slice (some ⟨y.heap.size, 0, none⟩) (a + b) (a + b)) (y.alloc (.cells (madeCells #[.int .u8 0] (a + b)) 5)) := by
  obtain ⟨i0, hi, hz0, hz1, hz2⟩ := info_parts info5
  have e : ((a : Int) + (b : Int)) = ((a + b : Nat) : Int) := by omega
  rw [e]
  have := run_makeSlice (P := Tryd.prog) y 23 5 i0 (.int .u8 0) Tryd.underlying23 hi hz0 .i64 .i64 ((a + b : Nat) : Int) ((a + b : Nat) : Int) (by omega) (Int.le_refl _) (by rw [hz1]; omega) (by rw [hz2]; omega) (by omega)
  rw [hz1, Int.toNat_natCast, Nat.mul_one] at this
  exact this
theorem holds_bw (X : ByteArray) (y : World) : HoldsB (Lib.bytesWorld y 5 X) y.heap.size 0 X.data.toList := fun j hj => by
  have e : X.data.toList.length = X.size := Array.length_toList
  rw [Nat.zero_add, Lib.bytesWorld_cell y 5 X j (by omega)]
  unfold at0
  rw [List.getD_eq_getElem?_getD]
theorem read_x (X : ByteArray) (cs : List (List Nat × List UInt8)) (hC : Chunked X.data.toList 0 cs) (hl : X.size ≤ 20000) (y : World) :
    Calls Tryd.prog 15 #[.agg #[.bool true, .int .i64 0], .slice (some ⟨y.heap.size, 0, none⟩) X.size (grownCap y X.size 0 5)] (Lib.bytesWorld y 5 X) fun e w' => e = .returned (BOut (outC [] cs) (endC 0 cs)) ∧ Below (y.heap.size + 1) (Lib.bytesWorld y 5 X) w' := by
  have e : X.data.toList.length = X.size := Array.length_toList
  have := read_ X.data.toList cs y.heap.size (grownCap y X.size 0 5) (Lib.bytesWorld y 5 X) (holds_bw X y) hC (by rw [Lib.bytesWorld_size]; omega) (by rw [e]; exact grownCap_ge _ _ _ _) (by omega)
  rw [e] at this
  rw [Lib.bytesWorld_size] at this
  exact this
theorem tells_x (X : ByteArray) (cs : List (List Nat × List UInt8)) (hC : Chunked X.data.toList 0 cs) (hl : X.size ≤ 20000) (B cap : Nat) (hc : X.size ≤ cap) (y : World) (hH : HoldsB y B 0 X.data.toList) (hB : B < y.heap.size) :
    Calls Tryd.prog 16 #[.agg #[.bool true, .int .i64 0], .slice (some ⟨B, 0, none⟩) X.size cap] y fun e w' => e = .returned (.bool true) ∧ Below y.heap.size y w' := by
  have e : X.data.toList.length = X.size := Array.length_toList
  have := tells_b X.data.toList cs B cap y hH hC hB (by omega) (by omega)
  rw [e] at this
  exact this
set_option maxRecDepth 100000 in
set_option maxHeartbeats 1600000 in
theorem long_ (a b : Nat) (ha : 1 ≤ a) (ha2 : a ≤ 4100) (hb2 : b ≤ 4100) (w : World) (hb : Calls Tryd.prog 13 #[] w fun e w' => e = .returned (.bool true) ∧ Below w.heap.size w w') (LF : FmtOK w) :
    Calls Tryd.prog 5 #[.int .i64 (a : Int), .int .i64 (b : Int)] w fun e w' => e = .returned (.bool true) ∧ Below w.heap.size w w' := by
  have MK := make8 a b ha2 hb2
  have hs8 : a + b ≤ 8200 := by omega
  go_enter Tryd.func5, Tryd.ntmps5
  go_wp2_with (first | (go_at_call 13; refine hb.mono ?_; rintro e w1 ⟨rfl, hB1⟩; have MK1 := MK (w1.alloc (Obj.cells #[Value.bool true, Value.int IntKind.i64 0] 36)); obtain ⟨S, hSs, hcv⟩ := (BB.made (w1.alloc (Obj.cells #[Value.bool true, Value.int IntKind.i64 0] 36)) (a + b)).string; have hz1 : (w1.alloc (Obj.cells #[Value.bool true, Value.int IntKind.i64 0] 36)).heap.size = w1.heap.size + 1 := (by simp); rw [hz1] at hcv; rw [hz1] at MK1) | fail)
  have hws := hB1.size
  have HBb : Below w.heap.size w ((w1.alloc (Obj.cells #[Value.bool true, Value.int IntKind.i64 0] 36)).alloc (Obj.cells (madeCells #[Value.int IntKind.u8 0] (a + b)) 5)) := (hB1.alloc hws _).alloc (by simp; omega) _
  have hk : ((w1.alloc (Obj.cells #[Value.bool true, Value.int IntKind.i64 0] 36)).alloc (Obj.cells (madeCells #[Value.int IntKind.u8 0] (a + b)) 5)).heap[w1.heap.size]? = some (Obj.cells #[Value.bool true, Value.int IntKind.i64 0] 36) := (((Below.refl _ (w1.alloc (Obj.cells #[Value.bool true, Value.int IntKind.i64 0] 36))).alloc (Nat.le_refl _) _).block w1.heap.size (by simp)).trans (heap_alloc_new w1 _)
  have hwb : ((w1.alloc (Obj.cells #[Value.bool true, Value.int IntKind.i64 0] 36)).alloc (Obj.cells (madeCells #[Value.int IntKind.u8 0] (a + b)) 5)).heap.size = w1.heap.size + 1 + 1 := by simp
  clear hcv MK1 MK hb
  generalize (w1.alloc (Obj.cells #[Value.bool true, Value.int IntKind.i64 0] 36)).alloc (Obj.cells (madeCells #[Value.int IntKind.u8 0] (a + b)) 5) = wb at *
  rw [← hwb]
  refine (outA S a b hSs ha ha2 hb2 _ wb.heap.size (by simp) (by rw [blk_cell (heap_alloc_new wb _)]; rfl) (LF.below (HBb.alloc HBb.size _))).mono ?_
  rintro e w2 ⟨X, y, hX, hy, rfl, rfl⟩
  have hkb : w1.heap.size < wb.heap.size := by omega
  have hyk := (hy.block w1.heap.size (by simp; omega)).trans (((Below.refl _ wb).alloc (Nat.le_refl _) (Obj.cells #[Value.int IntKind.i64 (a : Int)] 3)).block w1.heap.size hkb)
  rw [hk] at hyk
  have hxl : X.size ≤ 20000 := by
    have l1 : X.data.toList.length = X.size := Array.length_toList
    have l2 : S.data.toList.length = S.size := Array.length_toList
    rcases bytesOf_len (a := a) (b := b) (s := S.data.toList) (by omega) with h | h
    · rw [← hX] at h; omega
    · omega
  obtain ⟨cs, hcs⟩ : ∃ cs, csOf a b S.data.toList = cs := ⟨_, rfl⟩
  have hsl : S.data.toList.length = a + b := by rw [← hSs]; exact Array.length_toList
  have hch := chunked_of (csOf a b S.data.toList) [] (csOf_good hsl ha ha2 hb2)
  have hout := outC_csOf hsl ha
  rw [List.nil_append, ← hX] at hch
  rw [hcs] at hch hout
  have hC : Chunked X.data.toList 0 cs := hch.1
  have hE : endC 0 cs = X.size := hch.2.trans Array.length_toList
  have hyb : w1.heap.size < y.heap.size := by have := hy.size; simp at this; omega
  have hkx : (Lib.bytesWorld y 5 X).heap[w1.heap.size]? = some (Obj.cells #[Value.bool true, Value.int IntKind.i64 0] 36) := (Lib.bytesWorld_at_old y 5 X _ hyb).trans hyk
  have c0 : (Lib.bytesWorld y 5 X).cell? ⟨w1.heap.size, 0, none⟩ = some (.bool true) := by rw [blk_cell hkx]; rfl
  have c1 : (Lib.bytesWorld y 5 X).cell? ⟨w1.heap.size, 1, none⟩ = some (.int .i64 0) := by rw [blk_cell hkx]; rfl
  have HBy : Below w.heap.size w y := (HBb.alloc HBb.size _).trans (hy.mono (by have := HBb.size; simp; omega))
  have T1 := read_x X cs hC hxl y
  have TT := fun (q : World) (hH : HoldsB q y.heap.size 0 X.data.toList) (hB : y.heap.size < q.heap.size) => tells_x X cs hC hxl y.heap.size (grownCap y X.size 0 5) (grownCap_ge _ _ _ _) q hH hB
  have HHX := Lib.hid (holds_bw X y)
  have HBY := Lib.hid (bw_below HBy HBy.size : Below w.heap.size w (Lib.bytesWorld y 5 X))
  have HKX := Lib.hid hkx
  have hbs : (Lib.bytesWorld y 5 X).heap.size = y.heap.size + 1 := Lib.bytesWorld_size y 5 X
  have hsy := HBy.size
  clear hkx hch hC hX hcs hyk hk hwb HBb hy LF hsl hB1
  rw [hout, hE] at T1
  generalize Lib.bytesWorld y 5 X = wx at *
  by_cases h4 : 4000 < a + b
  · rw [if_pos h4] at T1
    unfold BOut at T1
    dsimp only at T1
    by_cases ha4 : 4000 < a
    · have d4 : (4000 : Int) < (a : Int) := by omega
      go_wp2_with (first | (go_at_call 15; refine T1.mono ?_; rintro e w3 ⟨rfl, hb3⟩; have z0 := (hb3.cell (p := ⟨w1.heap.size, 0, none⟩) (show w1.heap.size < y.heap.size + 1 by omega)).trans c0; have z1 := (hb3.cell (p := ⟨w1.heap.size, 1, none⟩) (show w1.heap.size < y.heap.size + 1 by omega)).trans c1; have HH3 := Lib.hid (HHX.out.below hb3 (Nat.lt_succ_self _)); have HB3 := Lib.hid (HBY.out.trans (hb3.mono (show w.heap.size ≤ y.heap.size + 1 by omega))); have hs3 : y.heap.size < w3.heap.size := (by have := hb3.size; omega); have T2 := TT w3 HH3.out hs3; clear T1 TT hb3 c0 c1) | (go_at_call 16; refine T2.mono ?_; rintro e w4 ⟨rfl, hb4⟩; have HB4 := Lib.hid (HB3.out.trans (hb4.mono HB3.out.size)); clear T2 hb4) | fail)
      go_ret
      exact ⟨rfl, HB4.out⟩
    · have d4 : decide ((4000 : Int) < (a : Int)) = false := by simp; omega
      have d5 : (4000 : Int) - (a : Int) < (b : Int) := by omega
      go_wp2_with (first | (go_at_call 15; refine T1.mono ?_; rintro e w3 ⟨rfl, hb3⟩; have z0 := (hb3.cell (p := ⟨w1.heap.size, 0, none⟩) (show w1.heap.size < y.heap.size + 1 by omega)).trans c0; have z1 := (hb3.cell (p := ⟨w1.heap.size, 1, none⟩) (show w1.heap.size < y.heap.size + 1 by omega)).trans c1; have HH3 := Lib.hid (HHX.out.below hb3 (Nat.lt_succ_self _)); have HB3 := Lib.hid (HBY.out.trans (hb3.mono (show w.heap.size ≤ y.heap.size + 1 by omega))); have hs3 : y.heap.size < w3.heap.size := (by have := hb3.size; omega); have T2 := TT w3 HH3.out hs3; clear T1 TT hb3 c0 c1) | (go_at_call 16; refine T2.mono ?_; rintro e w4 ⟨rfl, hb4⟩; have HB4 := Lib.hid (HB3.out.trans (hb4.mono HB3.out.size)); clear T2 hb4) | fail)
      go_ret
      exact ⟨rfl, HB4.out⟩
  · rw [if_neg h4] at T1
    unfold BOut at T1
    dsimp only at T1
    have d4 : decide ((4000 : Int) < (a : Int)) = false := by simp; omega
    have d5 : decide ((4000 : Int) - (a : Int) < (b : Int)) = false := by simp; omega
    go_wp2_with (first | (go_at_call 15; refine T1.mono ?_; rintro e w3 ⟨rfl, hb3⟩; have z0 := (hb3.cell (p := ⟨w1.heap.size, 0, none⟩) (show w1.heap.size < y.heap.size + 1 by omega)).trans c0; have z1 := (hb3.cell (p := ⟨w1.heap.size, 1, none⟩) (show w1.heap.size < y.heap.size + 1 by omega)).trans c1; have HH3 := Lib.hid (HHX.out.below hb3 (Nat.lt_succ_self _)); have HB3 := Lib.hid (HBY.out.trans (hb3.mono (show w.heap.size ≤ y.heap.size + 1 by omega))); have hs3 : y.heap.size < w3.heap.size := (by have := hb3.size; omega); have T2 := TT w3 HH3.out hs3; clear T1 TT hb3 c0 c1) | (go_at_call 16; refine T2.mono ?_; rintro e w4 ⟨rfl, hb4⟩; have HB4 := Lib.hid (HB3.out.trans (hb4.mono HB3.out.size)); clear T2 hb4) | fail)
    go_ret
    exact ⟨rfl, HB3.out⟩
/-- BodyLong returns true. -/
theorem long_all (a b : Int) (w : World) (hb : Calls Tryd.prog 13 #[] w fun e w' => e = .returned (.bool true) ∧ Below w.heap.size w w') (LF : FmtOK w) :
    Calls Tryd.prog 5 #[.int .i64 a, .int .i64 b] w fun e w' => e = .returned (.bool true) ∧ Below w.heap.size w w' := by
  by_cases h1 : a < 1
  · have d1 : decide (a < 1) = true := by simp [h1]
    go_enter Tryd.func5, Tryd.ntmps5
    go_wp2_with (first | (go_at_call 13; refine hb.mono ?_; rintro e w1 ⟨rfl, hB1⟩; have HB := Lib.hid hB1) | fail)
    go_ret
    exact ⟨rfl, HB.out⟩
  · have d1 : decide (a < 1) = false := by simp; omega
    by_cases h2 : 4100 < a
    · have d2 : decide ((4100 : Int) < a) = true := by simp [h2]
      go_enter Tryd.func5, Tryd.ntmps5
      go_wp2_with (first | (go_at_call 13; refine hb.mono ?_; rintro e w1 ⟨rfl, hB1⟩; have HB := Lib.hid hB1) | fail)
      go_ret
      exact ⟨rfl, HB.out⟩
    · have d2 : decide ((4100 : Int) < a) = false := by simp; omega
      by_cases h3 : b < 0
      · have d3 : decide (b < 0) = true := by simp [h3]
        go_enter Tryd.func5, Tryd.ntmps5
        go_wp2_with (first | (go_at_call 13; refine hb.mono ?_; rintro e w1 ⟨rfl, hB1⟩; have HB := Lib.hid hB1) | fail)
        go_ret
        exact ⟨rfl, HB.out⟩
      · have d3 : decide (b < 0) = false := by simp; omega
        by_cases h4 : 4100 < b
        · have d4 : decide ((4100 : Int) < b) = true := by simp [h4]
          go_enter Tryd.func5, Tryd.ntmps5
          go_wp2_with (first | (go_at_call 13; refine hb.mono ?_; rintro e w1 ⟨rfl, hB1⟩; have HB := Lib.hid hB1) | fail)
          go_ret
          exact ⟨rfl, HB.out⟩
        · obtain ⟨m, rfl⟩ := Int.eq_ofNat_of_zero_le (show 0 ≤ a by omega)
          obtain ⟨n, rfl⟩ := Int.eq_ofNat_of_zero_le (show 0 ≤ b by omega)
          exact long_ m n (by omega) (by omega) (by omega) w hb LF
end Go.Proofs.YtjcbohpemfmpiaaDoor.bodyLong
