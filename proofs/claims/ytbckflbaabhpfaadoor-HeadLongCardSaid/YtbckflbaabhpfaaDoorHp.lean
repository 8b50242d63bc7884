/- HeadLong, walked. -/
import Derived.Test.YtbckflbaabhpfaaDoorHo
import Derived.Lib.ConvBytes
import Derived.Laws.MakeOwn
namespace Go.Proofs.YtbckflbaabhpfaaDoor.headLong
set_option linter.unusedVariables false
set_option linter.unusedSimpArgs false
open Go.ChangeShapes Go.WideShapes Go.ChangeAt Go.RowKit Go.Hl Go.Hg
attribute [local go_sem ↓] Go.wp_at_zero Go.wp_at_succ
/-- Bytes that may be written. -/
def BB (w : World) (B n : Nat) : Prop := ∃ C, w.heap[B]? = some (.cells C 5 (0, 0)) ∧ C.size = n ∧ ∀ j, j < n → ∃ c : UInt8, C[j]? = some (.int .u8 (c.toNat : Int))
theorem BB.set {w : World} {B n i : Nat} (h : BB w B n) (c : UInt8) {v : Int} (hv : v = (c.toNat : Int)) : BB (w.setCell ⟨B, i, none⟩ (.int .u8 v)) B n := by
  obtain ⟨C, h1, h2, h3⟩ := h
  subst hv
  refine ⟨_, blk_set h1 _, by simpa using h2, fun j hj => ?_⟩
  rw [Array.getElem?_setIfInBounds]
  by_cases e : i = j
  · subst e
    rw [if_pos rfl, if_pos (by omega)]
    exact ⟨c, rfl⟩
  · rw [if_neg e]; exact h3 j hj
theorem BB.at {w : World} {B n j : Nat} (h : BB w B n) (hj : j < n) : ∃ c : UInt8, w.cell? ⟨B, j, none⟩ = some (.int .u8 (c.toNat : Int)) ∧ w.frozen? ⟨B, j, none⟩ = false := by
  obtain ⟨C, h1, _, h3⟩ := h
  obtain ⟨c, hc⟩ := h3 j hj
  exact ⟨c, by rw [blk_cell h1]; exact hc, by simp [World.frozen?, h1]⟩
theorem BB.lt {w : World} {B n : Nat} (h : BB w B n) : B < w.heap.size := by
  obtain ⟨C, h1, _⟩ := h
  rcases Nat.lt_or_ge B w.heap.size with h' | h'
  · exact h'
  · simp [Array.getElem?_eq_none h'] at h1
theorem BB.made (w : World) (n : Nat) : BB (w.alloc (.cells (madeCells #[.int .u8 0] n) 5)) w.heap.size n := by
  refine ⟨_, heap_alloc_new w _, size_madeCells _ _, fun j hj => ⟨0, ?_⟩⟩
  have : (madeCells #[Value.int .u8 0] n)[j]? = (madeCells #[Value.int .u8 0] n).toList[j]? := by simp
  rw [this, toList_madeCells_one, List.getElem?_replicate, if_pos hj]
  rfl
theorem BB.bytes {w : World} {B n : Nat} (h : BB w B n) : ∃ bs : List UInt8, bs.length = n ∧ HoldsB w B 0 bs := by
  have key : ∀ i : Fin n, ∃ c : UInt8, w.cell? ⟨B, i.1, none⟩ = some (.int .u8 (c.toNat : Int)) := fun i => by
    obtain ⟨c, hc, _⟩ := h.at i.2
    exact ⟨c, hc⟩
  refine ⟨List.ofFn fun i => (key i).choose, by simp, fun j hj => ?_⟩
  have hj' : j < n := by simpa using hj
  have e : at0 (List.ofFn fun i => (key i).choose) j = (key ⟨j, hj'⟩).choose := by
    unfold at0
    rw [List.getElem?_eq_getElem hj]
    simp
  rw [e, Nat.zero_add]
  exact (key ⟨j, hj'⟩).choose_spec
theorem BB.string {w : World} {B n : Nat} (h : BB w B n) : ∃ s : ByteArray, s.size = n ∧ (convert 23 9 (.slice (some ⟨B, 0, none⟩) n n)).run Tryd.prog w = .ok (.string s) w := by
  obtain ⟨bs, hl, hb⟩ := h.bytes
  have := hb.string (i := bs.length) (fr := 0) (Nat.le_refl _) (Nat.zero_le _) n
  refine ⟨⟨((bs.take bs.length).drop 0).toArray⟩, ?_, ?_⟩
  · show ((bs.take bs.length).drop 0).toArray.size = n
    simp [hl]
  · rw [← hl] at this ⊢
    simpa using this
theorem bw_below {B : Nat} {w y : World} {s : ByteArray} (h : Below B w y) (hB : B ≤ y.heap.size) : Below B w (Lib.bytesWorld y 5 s) :=
  h.trans ⟨rfl, rfl, rfl, by rw [Lib.bytesWorld_size]; omega, fun k hk => Lib.bytesWorld_at_old y 5 s k (by omega)⟩
theorem tells_s (s : ByteArray) (hs : s.size ≤ 5000) (mx : Int) (y : World) (hm : y.cell? ⟨1, 0, none⟩ = some (.int .i64 mx)) (h1 : 1 < y.heap.size) :
    Calls Tryd.prog 7 #[.slice (some ⟨y.heap.size, 0, none⟩) s.size (grownCap y s.size 0 5)] (Lib.bytesWorld y 5 s) fun e w' => e = .returned (.bool true) ∧ Below y.heap.size (Lib.bytesWorld y 5 s) w' := by
  have e : s.data.toList.length = s.size := Array.length_toList
  have := tells_ s.data.toList (by omega) y.heap.size 0 (grownCap y s.size 0 5) mx (Lib.bytesWorld y 5 s) (fun j hj => by
    rw [Nat.zero_add, Lib.bytesWorld_cell y 5 s j (by omega)]
    unfold at0
    rw [List.getD_eq_getElem?_getD]) (by rw [Lib.bytesWorld_size]; omega) ((Lib.bytesWorld_old y 5 s _ h1).trans hm) (by rw [Lib.bytesWorld_size]; omega) (by rw [e]; exact grownCap_ge _ _ _ _)
  rw [e] at this
  refine this.mono fun e w' h => ⟨h.1, h.2.mono (by rw [Lib.bytesWorld_size]; omega)⟩
theorem info5 : (Tryd.prog.info? 5).map (fun i => (i.zero, i.size, i.bytes)) = some (some (.int .u8 0), 1, 1) := by kernel_rfl
theorem make_ (n : Nat) (hn : n ≤ 2100) (y : World) : (Instr.makeSlice 23 (.int .i64 (n : Int)) (.int .i64 (n : Int))).run Tryd.prog y = .ok (.slice (some ⟨y.heap.size, 0, none⟩) n n) (y.alloc (.cells (madeCells #[.int .u8 0] n) 5)) := by
  obtain ⟨i0, hi, hz0, hz1, hz2⟩ := info_parts info5
  have := run_makeSlice (P := Tryd.prog) y 23 5 i0 (.int .u8 0) Tryd.underlying23 hi hz0 .i64 .i64 n n (by omega) (Int.le_refl _) (by rw [hz1]; omega) (by rw [hz2]; omega) (by omega)
  rw [hz1, Int.toNat_natCast, Nat.mul_one] at this
  exact this
set_option maxRecDepth 8000 in
set_option maxHeartbeats 1600000 in
theorem long_ (n : Nat) (a : Int) (h2 : n ≤ 2100) (mx : Int) (w : World) (hb : Calls Tryd.prog 6 #[] w fun e w' => e = .returned (.bool true) ∧ Below w.heap.size w w') (hm : w.cell? ⟨1, 0, none⟩ = some (.int .i64 mx)) (h1 : 1 < w.heap.size) :
    Calls Tryd.prog 3 #[.int .i64 (n : Int), .int .i64 a] w fun e w' => e = .returned (.bool true) ∧ Below w.heap.size w w' := by
  have MK := make_ n h2
  have n0 : decide ((n : Int) < 0) = false := by simp
  have n1 : decide ((2100 : Int) < (n : Int)) = false := by simp; omega
  go_enter Tryd.func3, Tryd.ntmps3
  go_wp2_with (first | (go_at_call 6; refine hb.mono ?_; rintro e w1 ⟨rfl, hB1⟩; have MK1 := MK w1) | fail)
  have hs1 := hB1.size
  have B0 := Lib.hid (⟨hB1.alloc hs1 _, BB.made w1 n⟩ : Below w.heap.size w (w1.alloc (.cells (madeCells #[.int .u8 0] n) 5)) ∧ BB (w1.alloc (.cells (madeCells #[.int .u8 0] n) 5)) w1.heap.size n)
  have HM := Lib.hid (fun y (h : Below w.heap.size w y) => (⟨(h.cell (p := ⟨1, 0, none⟩) h1).trans hm, Nat.lt_of_lt_of_le h1 h.size⟩ : y.cell? ⟨1, 0, none⟩ = some (.int .i64 mx) ∧ 1 < y.heap.size))
  clear MK MK1 hB1 hm hb
  go_loopw [7] (fun i wr => ∃ k : Nat, k ≤ n ∧ i = .int .i64 k ∧ Hid (Below w.heap.size w wr ∧ BB wr w1.heap.size n)) (fun i _ => n - (intOf i).toNat)
  case atStart => exact ⟨0, Nat.zero_le _, rfl, B0⟩
  case round =>
    obtain ⟨k, hk, rfl, hR⟩ := hrel
    by_cases hlt : k < n
    · obtain ⟨c, c1, c2⟩ := hR.out.2.at hlt
      have hl : (k : Int) < (n : Int) := by omega
      have HR2 := Lib.hid (⟨hR.out.1.setCell (p := ⟨w1.heap.size, k, none⟩) hs1 (.int .u8 97), hR.out.2.set 97 rfl⟩ : Below w.heap.size w (wr.setCell ⟨w1.heap.size, k, none⟩ (.int .u8 97)) ∧ BB (wr.setCell ⟨w1.heap.size, k, none⟩ (.int .u8 97)) w1.heap.size n)
      clear B0
      go_wp2_with fail
      go_roundw
      case rel => exact ⟨k + 1, by omega, by go_num, HR2⟩
      case measure => simp [intOf]; omega
    · have hd : decide ((k : Int) < (n : Int)) = false := by simp; omega
      clear B0
      by_cases ha : 0 ≤ a
      · have d0 : decide ((0 : Int) ≤ a) = true := by simp [ha]
        obtain ⟨j, rfl⟩ := Int.eq_ofNat_of_zero_le ha
        by_cases hj : j < n
        · have hl : (j : Int) < (n : Int) := by omega
          obtain ⟨c, c1, c2⟩ := hR.out.2.at hj
          have HR2 := Lib.hid (⟨hR.out.1.setCell (p := ⟨w1.heap.size, j, none⟩) hs1 (.int .u8 10), hR.out.2.set 10 rfl⟩ : Below w.heap.size w (wr.setCell ⟨w1.heap.size, j, none⟩ (.int .u8 10)) ∧ BB (wr.setCell ⟨w1.heap.size, j, none⟩ (.int .u8 10)) w1.heap.size n)
          obtain ⟨s, hss, hcv⟩ := HR2.out.2.string
          go_wp2_with fail
          obtain ⟨S, hSe, hSs⟩ : ∃ S : ByteArray, ((⟨#[71, 69, 84, 32, 104, 116, 116, 112, 58, 47, 47, 97, 47, 32, 72, 84, 84, 80, 47, 49, 46, 49, 13, 10, 88, 58, 32]⟩ : ByteArray) ++ s ++ ⟨#[13, 10, 13, 10]⟩) = S ∧ S.size = 27 + n + 4 := ⟨_, rfl, by rw [ByteArray.size_append, ByteArray.size_append, hss]; rfl⟩
          rw [hSe]
          have HSs := Lib.hid hSs
          clear hSe hcv hss hSs
          go_loopw [9] (fun i wy => ∃ q : Nat, q ≤ 5 ∧ i = .int .i64 q ∧ Hid (Below w.heap.size w wy)) (fun i _ => 5 - (intOf i).toNat)
          case atStart => exact ⟨0, Nat.zero_le _, rfl, HR2.out.1⟩
          case round =>
            obtain ⟨q, hq, rfl, hY⟩ := hrel
            by_cases hlt2 : q < 5
            · have hl2 : (q : Int) < 5 := by omega
              have hsz := HSs.out
              obtain ⟨m, hm2⟩ : ∃ m : Nat, m + q = S.size := ⟨S.size - q, by omega⟩
              have g1 : wrap64 ((S.size : Int) - q) = (m : Int) := by unfold wrap64; omega
              have g2 : (m : Int) ≤ (S.size : Int) := by omega
              have g3 : m ≤ S.size := by omega
              have hex : (S.extract 0 m).size = m := by rw [ByteArray.size_extract]; omega
              have CV := fun y s => Lib.run_convert_string_bytes (P := Tryd.prog) y 9 23 5 s Tryd.underlying9 Tryd.underlying23 Tryd.underlying5
              have T1 := tells_s S (by omega) mx wr (HM.out wr hY.out).1 (HM.out wr hY.out).2
              have T2 := fun (y : World) (h : Below w.heap.size w y) => tells_s (S.extract 0 m) (by rw [hex]; omega) mx y (HM.out y h).1 (HM.out y h).2
              rw [hex] at T2
              clear hsz hm2 hex
              go_wp2_with (first | (go_at_call 7; with_reducible refine T1.mono ?_; rintro e w2 ⟨rfl, hB2⟩; have G2 := Lib.hid ((bw_below hY.out hY.out.size).trans (hB2.mono hY.out.size)); have T3 := T2 w2 G2.out; clear T1 hB2) | (go_at_call 7; with_reducible refine T3.mono ?_; rintro e w3 ⟨rfl, hB3⟩; have G3 := Lib.hid ((bw_below G2.out G2.out.size).trans (hB3.mono G2.out.size)); clear T3 hB3) | fail)
              exact ⟨⟨q + 1, by omega, by go_num, G3⟩, by simp [intOf]; omega⟩
            · have hd : decide ((q : Int) < 5) = false := by simp; omega
              go_wp2_with fail
              go_ret
              exact ⟨rfl, hY.out⟩
        · have hl : decide ((j : Int) < (n : Int)) = false := by simp; omega
          have HR2 := hR
          obtain ⟨s, hss, hcv⟩ := HR2.out.2.string
          go_wp2_with fail
          obtain ⟨S, hSe, hSs⟩ : ∃ S : ByteArray, ((⟨#[71, 69, 84, 32, 104, 116, 116, 112, 58, 47, 47, 97, 47, 32, 72, 84, 84, 80, 47, 49, 46, 49, 13, 10, 88, 58, 32]⟩ : ByteArray) ++ s ++ ⟨#[13, 10, 13, 10]⟩) = S ∧ S.size = 27 + n + 4 := ⟨_, rfl, by rw [ByteArray.size_append, ByteArray.size_append, hss]; rfl⟩
          rw [hSe]
          have HSs := Lib.hid hSs
          clear hSe hcv hss hSs
          go_loopw [9] (fun i wy => ∃ q : Nat, q ≤ 5 ∧ i = .int .i64 q ∧ Hid (Below w.heap.size w wy)) (fun i _ => 5 - (intOf i).toNat)
          case atStart => exact ⟨0, Nat.zero_le _, rfl, HR2.out.1⟩
          case round =>
            obtain ⟨q, hq, rfl, hY⟩ := hrel
            by_cases hlt2 : q < 5
            · have hl2 : (q : Int) < 5 := by omega
              have hsz := HSs.out
              obtain ⟨m, hm2⟩ : ∃ m : Nat, m + q = S.size := ⟨S.size - q, by omega⟩
              have g1 : wrap64 ((S.size : Int) - q) = (m : Int) := by unfold wrap64; omega
              have g2 : (m : Int) ≤ (S.size : Int) := by omega
              have g3 : m ≤ S.size := by omega
              have hex : (S.extract 0 m).size = m := by rw [ByteArray.size_extract]; omega
              have CV := fun y s => Lib.run_convert_string_bytes (P := Tryd.prog) y 9 23 5 s Tryd.underlying9 Tryd.underlying23 Tryd.underlying5
              have T1 := tells_s S (by omega) mx wr (HM.out wr hY.out).1 (HM.out wr hY.out).2
              have T2 := fun (y : World) (h : Below w.heap.size w y) => tells_s (S.extract 0 m) (by rw [hex]; omega) mx y (HM.out y h).1 (HM.out y h).2
              rw [hex] at T2
              clear hsz hm2 hex
              go_wp2_with (first | (go_at_call 7; with_reducible refine T1.mono ?_; rintro e w2 ⟨rfl, hB2⟩; have G2 := Lib.hid ((bw_below hY.out hY.out.size).trans (hB2.mono hY.out.size)); have T3 := T2 w2 G2.out; clear T1 hB2) | (go_at_call 7; with_reducible refine T3.mono ?_; rintro e w3 ⟨rfl, hB3⟩; have G3 := Lib.hid ((bw_below G2.out G2.out.size).trans (hB3.mono G2.out.size)); clear T3 hB3) | fail)
              exact ⟨⟨q + 1, by omega, by go_num, G3⟩, by simp [intOf]; omega⟩
            · have hd : decide ((q : Int) < 5) = false := by simp; omega
              go_wp2_with fail
              go_ret
              exact ⟨rfl, hY.out⟩
      · have d0 : decide ((0 : Int) ≤ a) = false := by simp; omega
        have HR2 := hR
        obtain ⟨s, hss, hcv⟩ := HR2.out.2.string
        go_wp2_with fail
        obtain ⟨S, hSe, hSs⟩ : ∃ S : ByteArray, ((⟨#[71, 69, 84, 32, 104, 116, 116, 112, 58, 47, 47, 97, 47, 32, 72, 84, 84, 80, 47, 49, 46, 49, 13, 10, 88, 58, 32]⟩ : ByteArray) ++ s ++ ⟨#[13, 10, 13, 10]⟩) = S ∧ S.size = 27 + n + 4 := ⟨_, rfl, by rw [ByteArray.size_append, ByteArray.size_append, hss]; rfl⟩
        rw [hSe]
        have HSs := Lib.hid hSs
        clear hSe hcv hss hSs
        go_loopw [9] (fun i wy => ∃ q : Nat, q ≤ 5 ∧ i = .int .i64 q ∧ Hid (Below w.heap.size w wy)) (fun i _ => 5 - (intOf i).toNat)
        case atStart => exact ⟨0, Nat.zero_le _, rfl, HR2.out.1⟩
        case round =>
          obtain ⟨q, hq, rfl, hY⟩ := hrel
          by_cases hlt2 : q < 5
          · have hl2 : (q : Int) < 5 := by omega
            have hsz := HSs.out
            obtain ⟨m, hm2⟩ : ∃ m : Nat, m + q = S.size := ⟨S.size - q, by omega⟩
            have g1 : wrap64 ((S.size : Int) - q) = (m : Int) := by unfold wrap64; omega
            have g2 : (m : Int) ≤ (S.size : Int) := by omega
            have g3 : m ≤ S.size := by omega
            have hex : (S.extract 0 m).size = m := by rw [ByteArray.size_extract]; omega
            have CV := fun y s => Lib.run_convert_string_bytes (P := Tryd.prog) y 9 23 5 s Tryd.underlying9 Tryd.underlying23 Tryd.underlying5
            have T1 := tells_s S (by omega) mx wr (HM.out wr hY.out).1 (HM.out wr hY.out).2
            have T2 := fun (y : World) (h : Below w.heap.size w y) => tells_s (S.extract 0 m) (by rw [hex]; omega) mx y (HM.out y h).1 (HM.out y h).2
            rw [hex] at T2
            clear hsz hm2 hex
            go_wp2_with (first | (go_at_call 7; with_reducible refine T1.mono ?_; rintro e w2 ⟨rfl, hB2⟩; have G2 := Lib.hid ((bw_below hY.out hY.out.size).trans (hB2.mono hY.out.size)); have T3 := T2 w2 G2.out; clear T1 hB2) | (go_at_call 7; with_reducible refine T3.mono ?_; rintro e w3 ⟨rfl, hB3⟩; have G3 := Lib.hid ((bw_below G2.out G2.out.size).trans (hB3.mono G2.out.size)); clear T3 hB3) | fail)
            exact ⟨⟨q + 1, by omega, by go_num, G3⟩, by simp [intOf]; omega⟩
          · have hd : decide ((q : Int) < 5) = false := by simp; omega
            go_wp2_with fail
            go_ret
            exact ⟨rfl, hY.out⟩
/-- HeadLong returns true. -/
theorem long_all (n a mx : Int) (w : World) (hb : Calls Tryd.prog 6 #[] w fun e w' => e = .returned (.bool true) ∧ Below w.heap.size w w') (hm : w.cell? ⟨1, 0, none⟩ = some (.int .i64 mx)) (h1 : 1 < w.heap.size) :
    Calls Tryd.prog 3 #[.int .i64 n, .int .i64 a] w fun e w' => e = .returned (.bool true) ∧ Below w.heap.size w w' := by
  by_cases hn : n < 0
  · have n0 : decide (n < 0) = true := by simp [hn]
    go_enter Tryd.func3, Tryd.ntmps3
    go_wp2_with (first | (go_at_call 6; refine hb.mono ?_; rintro e w1 ⟨rfl, hB1⟩; have HB := Lib.hid hB1) | fail)
    go_ret
    exact ⟨rfl, HB.out⟩
  · have n0 : decide (n < 0) = false := by simp; omega
    by_cases h2 : 2100 < n
    · have n1 : decide ((2100 : Int) < n) = true := by simp [h2]
      go_enter Tryd.func3, Tryd.ntmps3
      go_wp2_with (first | (go_at_call 6; refine hb.mono ?_; rintro e w1 ⟨rfl, hB1⟩; have HB := Lib.hid hB1) | fail)
      go_ret
      exact ⟨rfl, HB.out⟩
    · obtain ⟨m, rfl⟩ := Int.eq_ofNat_of_zero_le (Int.not_lt.1 hn)
      exact long_ m a (by omega) mx w hb hm h1
end Go.Proofs.YtbckflbaabhpfaaDoor.headLong
