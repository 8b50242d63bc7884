/- Texts trimmed, walked. Printed by gen_words.py. -/
import Derived.Test.YtjcbohpemfmpiaaDoorHe
namespace Go.Proofs.YtjcbohpemfmpiaaDoor.headLong
set_option linter.unusedVariables false
set_option linter.unusedSimpArgs false
open Go.ChangeShapes Go.WideShapes Go.ChangeAt Go.RowKit Go.Hl Go.Hg
def strSize : Value → Nat
  | .string x => x.size
  | _ => 0
theorem drop_done0 {x : ByteArray} (h : x.size = 0) : x.data.toList.dropWhile blkC = x.data.toList := by
  have : x.data.toList = [] := List.eq_nil_of_length_eq_zero (by rw [Array.length_toList]; exact h)
  rw [this]; rfl
theorem toList_cons {x : ByteArray} (h : 0 < x.size) : ∃ l, x.data.toList = bt x 0 :: l := by
  have := toList_full h
  rw [ByteArray.toList_eq] at this
  unfold bt
  cases e : x.data.toList with
  | nil => rw [e] at this; cases this
  | cons b l => exact ⟨l, rfl⟩
theorem drop_step {x : ByteArray} (h : 0 < x.size) (hb : blkN (bt x 0).toNat = true) : (x.extract 1 x.size).data.toList.dropWhile blkC = x.data.toList.dropWhile blkC := by
  obtain ⟨l, e⟩ := toList_cons h
  rw [Lib.extract_to_end, e, List.dropWhile_cons, if_pos (show blkC (bt x 0) = true from hb)]
  rfl
theorem toList_snoc {x : ByteArray} (h : 0 < x.size) : ∃ l, x.data.toList = l ++ [bt x (x.size - 1)] ∧ l.length = x.size - 1 := by
  have hl : x.data.toList.length = x.size := Array.length_toList
  have hne : x.data.toList ≠ [] := fun e => by rw [e] at hl; simp at hl; omega
  refine ⟨x.data.toList.dropLast, ?_, by rw [List.length_dropLast, hl]⟩
  have e : bt x (x.size - 1) = x.data.toList.getLast hne := by
    unfold bt
    rw [← hl, ← List.getLast?_eq_getElem?, List.getLast?_eq_some_getLast hne]; rfl
  rw [e, List.dropLast_concat_getLast]
theorem trimR_snoc (l : List UInt8) (b : UInt8) : trimR (l ++ [b]) = if blkC b = true then trimR l else l ++ [b] := by
  unfold trimR
  rw [List.reverse_append, List.reverse_singleton, List.singleton_append, List.dropWhile_cons]
  split
  · rfl
  · rw [List.reverse_cons, List.reverse_reverse]
theorem trimR_done0 {y : ByteArray} (h : y.size = 0) : trimR y.data.toList = y.data.toList := by
  have : y.data.toList = [] := List.eq_nil_of_length_eq_zero (by rw [Array.length_toList]; exact h)
  rw [this]; rfl
theorem trimR_done1 {y : ByteArray} (h : 0 < y.size) (hb : blkN (bt y (y.size - 1)).toNat = false) : trimR y.data.toList = y.data.toList := by
  obtain ⟨l, e, _⟩ := toList_snoc h
  rw [e, trimR_snoc, if_neg]
  show ¬ (blkN (bt y (y.size - 1)).toNat = true)
  rw [hb]; simp
theorem trimR_step {y : ByteArray} (h : 0 < y.size) (hb : blkN (bt y (y.size - 1)).toNat = true) : trimR (y.extract 0 (y.size - 1)).data.toList = trimR y.data.toList := by
  obtain ⟨l, e, hl⟩ := toList_snoc h
  rw [Lib.extract_from_zero, e, trimR_snoc, if_pos (show blkC (bt y (y.size - 1)) = true from hb), ← hl, List.take_left]
theorem ret_of {y : ByteArray} {l : List UInt8} (h : y.data.toList = l) : Ending.returned (Value.string y) = .returned (.string ⟨l.toArray⟩) := by
  rw [← h]
theorem drop_done1 {x : ByteArray} (h : 0 < x.size) (hb : blkN (bt x 0).toNat = false) : x.data.toList.dropWhile blkC = x.data.toList := by
  obtain ⟨l, e⟩ := toList_cons h
  rw [e, List.dropWhile_cons, if_neg]
  show ¬ (blkN (bt x 0).toNat = true)
  rw [hb]; simp
set_option maxRecDepth 8000 in
theorem trim_ (s : ByteArray) (hs : s.size ≤ 5000) (w : World) : Calls Tryd.prog 40 #[.string s] w fun e w' => e = .returned (.string ⟨(trim s.data.toList).toArray⟩) ∧ w = w' := by
  go_enter Tryd.func40, Tryd.ntmps40
  go_wp2_with fail
  go_loop [0] (fun v => ∃ x : ByteArray, v = .string x ∧ Hid (x.size ≤ 5000 ∧ x.data.toList.dropWhile blkC = s.data.toList.dropWhile blkC)) (fun v => strSize v)
  case atStart => exact ⟨s, rfl, Lib.hid ⟨hs, rfl⟩⟩
  case round =>
    obtain ⟨x, rfl, hR⟩ := hrel
    have hx := hR.out.1
    rcases Nat.eq_zero_or_pos x.size with h0 | h0
    · have he := toList_empty h0
      have hd := drop_done0 h0
      rw [hR.out.2] at hd
      have HD := Lib.hid hd
      clear hd
      have H0 := Lib.hid h0
      clear h0
      go_wp2_with fail
      go_loop [0] (fun v => ∃ y : ByteArray, v = .string y ∧ Hid (y.size ≤ 5000 ∧ trimR y.data.toList = trim s.data.toList)) (fun v => strSize v)
      case atStart => exact ⟨x, rfl, Lib.hid ⟨hx, by unfold trim; rw [HD.out]⟩⟩
      case round =>
        obtain ⟨y, rfl, hY⟩ := hrel
        have hy := hY.out.1
        rcases Nat.eq_zero_or_pos y.size with g0 | g0
        · have ge := toList_empty g0
          have HG := Lib.hid (trimR_done0 g0)
          clear g0
          go_wp2_with fail
          go_ret
          exact ⟨ret_of (HG.out.symm.trans hY.out.2), rfl⟩
        · have ge := toList_full g0
          have k0 : (0 : Int) ≤ (y.size : Int) - 1 := by omega
          have k1 : (y.size : Int) - 1 < (y.size : Int) := by omega
          have k2 : ((y.size : Int) - 1).toNat = y.size - 1 := by omega
          have k3 : y.size - 1 < y.size := by omega
          have f1 := (bt y (y.size - 1)).toNat_lt
          have B1 := fun b (hb : blkN (bt y (y.size - 1)).toNat = b) (z : World) => blank ((bt y (y.size - 1)).toNat : Int) (by omega) (by omega) b (by simpa using hb) z
          rw [← bt_at k3] at B1
          cases hb1 : blkN (bt y (y.size - 1)).toNat with
          | true =>
            have C1 := B1 true (by rw [bt_at k3]; exact hb1)
            have H1 := Lib.hid (trimR_step g0 hb1)
            clear hb1 B1
            go_wp2_with (first | (go_at_call 55; with_reducible refine (C1 _).mono ?_; rintro e w' ⟨rfl, rfl⟩) | fail)
            go_round
            case rel => exact ⟨_, rfl, Lib.hid ⟨by rw [ByteArray.size_extract]; omega, H1.out.trans hY.out.2⟩⟩
            case measure =>
              show (y.extract 0 (y.size - 1)).size < y.size
              rw [ByteArray.size_extract]; omega
          | false =>
            have C1 := B1 false (by rw [bt_at k3]; exact hb1)
            have H1 := Lib.hid (trimR_done1 g0 hb1)
            clear hb1 B1
            go_wp2_with (first | (go_at_call 55; with_reducible refine (C1 _).mono ?_; rintro e w' ⟨rfl, rfl⟩) | fail)
            go_ret
            exact ⟨ret_of (H1.out.symm.trans hY.out.2), rfl⟩
    · have he := toList_full h0
      have f0 := (bt x 0).toNat_lt
      have B0 := fun b (hb : blkN (bt x 0).toNat = b) (y : World) => blank ((bt x 0).toNat : Int) (by omega) (by omega) b (by simpa using hb) y
      rw [← bt_at h0] at B0
      cases hb0 : blkN (bt x 0).toNat with
      | true =>
        have C0 := B0 true (by rw [bt_at h0]; exact hb0)
        have H0 := Lib.hid (drop_step h0 hb0)
        clear hb0 B0
        go_wp2_with (first | (go_at_call 55; with_reducible refine (C0 _).mono ?_; rintro e w' ⟨rfl, rfl⟩) | fail)
        go_round
        case rel => exact ⟨_, rfl, Lib.hid ⟨by rw [ByteArray.size_extract]; omega, H0.out.trans hR.out.2⟩⟩
        case measure =>
          show (x.extract 1 x.size).size < x.size
          rw [ByteArray.size_extract]; omega
      | false =>
        have C0 := B0 false (by rw [bt_at h0]; exact hb0)
        have hd := drop_done1 h0 hb0
        rw [hR.out.2] at hd
        have HD := Lib.hid hd
        clear hd hb0 B0
        go_wp2_with (first | (go_at_call 55; with_reducible refine (C0 _).mono ?_; rintro e w' ⟨rfl, rfl⟩) | fail)
        go_loop [0] (fun v => ∃ y : ByteArray, v = .string y ∧ Hid (y.size ≤ 5000 ∧ trimR y.data.toList = trim s.data.toList)) (fun v => strSize v)
        case atStart => exact ⟨x, rfl, Lib.hid ⟨hx, by unfold trim; rw [HD.out]⟩⟩
        case round =>
          obtain ⟨y, rfl, hY⟩ := hrel
          have hy := hY.out.1
          rcases Nat.eq_zero_or_pos y.size with g0 | g0
          · have ge := toList_empty g0
            have HG := Lib.hid (trimR_done0 g0)
            clear g0
            go_wp2_with fail
            go_ret
            exact ⟨ret_of (HG.out.symm.trans hY.out.2), rfl⟩
          · have ge := toList_full g0
            have k0 : (0 : Int) ≤ (y.size : Int) - 1 := by omega
            have k1 : (y.size : Int) - 1 < (y.size : Int) := by omega
            have k2 : ((y.size : Int) - 1).toNat = y.size - 1 := by omega
            have k3 : y.size - 1 < y.size := by omega
            have f1 := (bt y (y.size - 1)).toNat_lt
            have B1 := fun b (hb : blkN (bt y (y.size - 1)).toNat = b) (z : World) => blank ((bt y (y.size - 1)).toNat : Int) (by omega) (by omega) b (by simpa using hb) z
            rw [← bt_at k3] at B1
            cases hb1 : blkN (bt y (y.size - 1)).toNat with
            | true =>
              have C1 := B1 true (by rw [bt_at k3]; exact hb1)
              have H1 := Lib.hid (trimR_step g0 hb1)
              clear hb1 B1
              go_wp2_with (first | (go_at_call 55; with_reducible refine (C1 _).mono ?_; rintro e w' ⟨rfl, rfl⟩) | fail)
              go_round
              case rel => exact ⟨_, rfl, Lib.hid ⟨by rw [ByteArray.size_extract]; omega, H1.out.trans hY.out.2⟩⟩
              case measure =>
                show (y.extract 0 (y.size - 1)).size < y.size
                rw [ByteArray.size_extract]; omega
            | false =>
              have C1 := B1 false (by rw [bt_at k3]; exact hb1)
              have H1 := Lib.hid (trimR_done1 g0 hb1)
              clear hb1 B1
              go_wp2_with (first | (go_at_call 55; with_reducible refine (C1 _).mono ?_; rintro e w' ⟨rfl, rfl⟩) | fail)
              go_ret
              exact ⟨ret_of (H1.out.symm.trans hY.out.2), rfl⟩
set_option maxRecDepth 8000 in
theorem rtrim_ (s : ByteArray) (hs : s.size ≤ 5000) (w : World) : Calls Tryd.prog 44 #[.string s] w fun e w' => e = .returned (.string ⟨(trim s.data.toList).toArray⟩) ∧ w = w' := by
  go_enter Tryd.func44, Tryd.ntmps44
  go_wp2_with fail
  go_loop [0] (fun v => ∃ x : ByteArray, v = .string x ∧ Hid (x.size ≤ 5000 ∧ x.data.toList.dropWhile blkC = s.data.toList.dropWhile blkC)) (fun v => strSize v)
  case atStart => exact ⟨s, rfl, Lib.hid ⟨hs, rfl⟩⟩
  case round =>
    obtain ⟨x, rfl, hR⟩ := hrel
    have hx := hR.out.1
    rcases Nat.eq_zero_or_pos x.size with h0 | h0
    · have he := toList_empty h0
      have hd := drop_done0 h0
      rw [hR.out.2] at hd
      have HD := Lib.hid hd
      clear hd
      have H0 := Lib.hid h0
      clear h0
      go_wp2_with fail
      go_loop [0] (fun v => ∃ y : ByteArray, v = .string y ∧ Hid (y.size ≤ 5000 ∧ trimR y.data.toList = trim s.data.toList)) (fun v => strSize v)
      case atStart => exact ⟨x, rfl, Lib.hid ⟨hx, by unfold trim; rw [HD.out]⟩⟩
      case round =>
        obtain ⟨y, rfl, hY⟩ := hrel
        have hy := hY.out.1
        rcases Nat.eq_zero_or_pos y.size with g0 | g0
        · have ge := toList_empty g0
          have HG := Lib.hid (trimR_done0 g0)
          clear g0
          go_wp2_with fail
          go_ret
          exact ⟨ret_of (HG.out.symm.trans hY.out.2), rfl⟩
        · have ge := toList_full g0
          have k0 : (0 : Int) ≤ (y.size : Int) - 1 := by omega
          have k1 : (y.size : Int) - 1 < (y.size : Int) := by omega
          have k2 : ((y.size : Int) - 1).toNat = y.size - 1 := by omega
          have k3 : y.size - 1 < y.size := by omega
          have f1 := (bt y (y.size - 1)).toNat_lt
          have B1 := fun b (hb : blkN (bt y (y.size - 1)).toNat = b) (z : World) => rblank ((bt y (y.size - 1)).toNat : Int) (by omega) (by omega) b (by simpa using hb) z
          rw [← bt_at k3] at B1
          cases hb1 : blkN (bt y (y.size - 1)).toNat with
          | true =>
            have C1 := B1 true (by rw [bt_at k3]; exact hb1)
            have H1 := Lib.hid (trimR_step g0 hb1)
            clear hb1 B1
            go_wp2_with (first | (go_at_call 58; with_reducible refine (C1 _).mono ?_; rintro e w' ⟨rfl, rfl⟩) | fail)
            go_round
            case rel => exact ⟨_, rfl, Lib.hid ⟨by rw [ByteArray.size_extract]; omega, H1.out.trans hY.out.2⟩⟩
            case measure =>
              show (y.extract 0 (y.size - 1)).size < y.size
              rw [ByteArray.size_extract]; omega
          | false =>
            have C1 := B1 false (by rw [bt_at k3]; exact hb1)
            have H1 := Lib.hid (trimR_done1 g0 hb1)
            clear hb1 B1
            go_wp2_with (first | (go_at_call 58; with_reducible refine (C1 _).mono ?_; rintro e w' ⟨rfl, rfl⟩) | fail)
            go_ret
            exact ⟨ret_of (H1.out.symm.trans hY.out.2), rfl⟩
    · have he := toList_full h0
      have f0 := (bt x 0).toNat_lt
      have B0 := fun b (hb : blkN (bt x 0).toNat = b) (y : World) => rblank ((bt x 0).toNat : Int) (by omega) (by omega) b (by simpa using hb) y
      rw [← bt_at h0] at B0
      cases hb0 : blkN (bt x 0).toNat with
      | true =>
        have C0 := B0 true (by rw [bt_at h0]; exact hb0)
        have H0 := Lib.hid (drop_step h0 hb0)
        clear hb0 B0
        go_wp2_with (first | (go_at_call 58; with_reducible refine (C0 _).mono ?_; rintro e w' ⟨rfl, rfl⟩) | fail)
        go_round
        case rel => exact ⟨_, rfl, Lib.hid ⟨by rw [ByteArray.size_extract]; omega, H0.out.trans hR.out.2⟩⟩
        case measure =>
          show (x.extract 1 x.size).size < x.size
          rw [ByteArray.size_extract]; omega
      | false =>
        have C0 := B0 false (by rw [bt_at h0]; exact hb0)
        have hd := drop_done1 h0 hb0
        rw [hR.out.2] at hd
        have HD := Lib.hid hd
        clear hd hb0 B0
        go_wp2_with (first | (go_at_call 58; with_reducible refine (C0 _).mono ?_; rintro e w' ⟨rfl, rfl⟩) | fail)
        go_loop [0] (fun v => ∃ y : ByteArray, v = .string y ∧ Hid (y.size ≤ 5000 ∧ trimR y.data.toList = trim s.data.toList)) (fun v => strSize v)
        case atStart => exact ⟨x, rfl, Lib.hid ⟨hx, by unfold trim; rw [HD.out]⟩⟩
        case round =>
          obtain ⟨y, rfl, hY⟩ := hrel
          have hy := hY.out.1
          rcases Nat.eq_zero_or_pos y.size with g0 | g0
          · have ge := toList_empty g0
            have HG := Lib.hid (trimR_done0 g0)
            clear g0
            go_wp2_with fail
            go_ret
            exact ⟨ret_of (HG.out.symm.trans hY.out.2), rfl⟩
          · have ge := toList_full g0
            have k0 : (0 : Int) ≤ (y.size : Int) - 1 := by omega
            have k1 : (y.size : Int) - 1 < (y.size : Int) := by omega
            have k2 : ((y.size : Int) - 1).toNat = y.size - 1 := by omega
            have k3 : y.size - 1 < y.size := by omega
            have f1 := (bt y (y.size - 1)).toNat_lt
            have B1 := fun b (hb : blkN (bt y (y.size - 1)).toNat = b) (z : World) => rblank ((bt y (y.size - 1)).toNat : Int) (by omega) (by omega) b (by simpa using hb) z
            rw [← bt_at k3] at B1
            cases hb1 : blkN (bt y (y.size - 1)).toNat with
            | true =>
              have C1 := B1 true (by rw [bt_at k3]; exact hb1)
              have H1 := Lib.hid (trimR_step g0 hb1)
              clear hb1 B1
              go_wp2_with (first | (go_at_call 58; with_reducible refine (C1 _).mono ?_; rintro e w' ⟨rfl, rfl⟩) | fail)
              go_round
              case rel => exact ⟨_, rfl, Lib.hid ⟨by rw [ByteArray.size_extract]; omega, H1.out.trans hY.out.2⟩⟩
              case measure =>
                show (y.extract 0 (y.size - 1)).size < y.size
                rw [ByteArray.size_extract]; omega
            | false =>
              have C1 := B1 false (by rw [bt_at k3]; exact hb1)
              have H1 := Lib.hid (trimR_done1 g0 hb1)
              clear hb1 B1
              go_wp2_with (first | (go_at_call 58; with_reducible refine (C1 _).mono ?_; rintro e w' ⟨rfl, rfl⟩) | fail)
              go_ret
              exact ⟨ret_of (H1.out.symm.trans hY.out.2), rfl⟩
end Go.Proofs.YtjcbohpemfmpiaaDoor.headLong
