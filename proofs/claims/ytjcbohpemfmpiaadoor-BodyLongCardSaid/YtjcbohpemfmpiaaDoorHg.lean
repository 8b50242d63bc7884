/- A first line, as the document reads it, walked. Printed by gen_first.py. -/
import Derived.Test.YtjcbohpemfmpiaaDoorHf
import Derived.Deep.RegionHeld3
import Derived.Deep.DrawnRows
namespace Go.Proofs.YtjcbohpemfmpiaaDoor.headLong
set_option linter.unusedVariables false
set_option linter.unusedSimpArgs false
open Go.ChangeShapes Go.WideShapes Go.ChangeAt Go.RowKit Go.Hl Go.Hg
theorem no_of_all {c : UInt8} {l : List UInt8} (h : l.all (neC c) = true) : c ∉ l := fun hm => by
  have := List.all_eq_true.1 h c hm
  unfold neC at this
  rw [bne_iff_ne] at this
  exact this rfl
theorem parted {s : ByteArray} {k : Nat} {c : UInt8} (hk : k < s.size) (hb : bt s k = c) : s.data.toList = (s.extract 0 k).data.toList ++ c :: (s.extract (k + 1) s.size).data.toList := by
  rw [Lib.extract_from_zero, Lib.extract_to_end]
  have hl : k < s.data.toList.length := by simpa using hk
  have e : s.data.toList[k] = c := by rw [← hb]; unfold bt; rw [List.getElem?_eq_getElem hl]; rfl
  rw [← e, List.getElem_cons_drop, List.take_append_drop]
theorem ex_all {s : ByteArray} {k : Nat} {c : UInt8} (h : (s.data.toList.take k).all (neC c) = true) : c ∉ (s.extract 0 k).data.toList := by
  rw [Lib.extract_from_zero]; exact no_of_all h
/-- What a first line comes to. -/
def firstV (l : List UInt8) : Value := match firstF l with
  | none => .tuple #[.string ⟨#[]⟩, .string ⟨#[]⟩, .bool false]
  | some (m, t) => .tuple #[.string ⟨m.toArray⟩, .string ⟨t.toArray⟩, .bool true]
theorem firstV_miss {s : ByteArray} (h : s.data.toList.all (neC 32) = true) : firstV s.data.toList = .tuple #[.string ⟨#[]⟩, .string ⟨#[]⟩, .bool false] := by
  unfold firstV firstF
  rw [(tw_no (no_of_all h)).2]
theorem firstV_tok {s : ByteArray} {k : Nat} (hk : k < s.size) (h : (s.data.toList.take k).all (neC 32) = true) (hb : bt s k = 32) (ht : tkn (s.extract 0 k).data.toList = false) : firstV s.data.toList = .tuple #[.string ⟨#[]⟩, .string ⟨#[]⟩, .bool false] := by
  unfold firstV
  rw [parted hk hb, first_at (ex_all h), ht]
  rfl
/-- Where the target's bytes end. -/
def Stop (y : ByteArray) (j : Nat) : Prop := j ≤ y.size ∧ (y.data.toList.take j).all tgtC = true ∧ (j = y.size ∨ tgtC (bt y j) = false)
theorem tw_stop {p : UInt8 → Bool} : ∀ {l : List UInt8} {j : Nat}, j ≤ l.length → (l.take j).all p = true → (j = l.length ∨ p (l[j]?.getD 0) = false) → l.takeWhile p = l.take j ∧ l.dropWhile p = l.drop j
  | [], j, h, _, _ => by
    obtain rfl : j = 0 := by simpa using h
    exact ⟨rfl, rfl⟩
  | b :: l, 0, _, _, h => by
    rcases h with h | h
    · simp at h
    · have h : p b = false := h
      simp [h]
  | b :: l, j + 1, h, ha, hs => by
    simp only [List.take_succ_cons, List.all_cons, Bool.and_eq_true] at ha
    have := tw_stop (l := l) (j := j) (by simpa using h) ha.2 (by rcases hs with hs | hs; exact .inl (by simpa using hs); exact .inr (by simpa using hs))
    simp [ha.1, this.1, this.2]
theorem Stop.tw {y : ByteArray} {j : Nat} (h : Stop y j) : y.data.toList.takeWhile tgtC = (y.extract 0 j).data.toList ∧ y.data.toList.dropWhile tgtC = (y.extract j y.size).data.toList := by
  have hl : y.data.toList.length = y.size := Array.length_toList
  rw [Lib.extract_from_zero, Lib.extract_to_end]
  exact tw_stop (by rw [hl]; exact h.1) h.2.1 (by rw [hl]; exact h.2.2)
theorem firstV_end {s : ByteArray} {k : Nat} (hk : k < s.size) (h : (s.data.toList.take k).all (neC 32) = true) (hb : bt s k = 32) (ht : tkn (s.extract 0 k).data.toList = true) (j : Nat) (hj : Stop (s.extract (k + 1) s.size) j) :
    firstV s.data.toList = if 0 < j ∧ ((s.extract (k + 1) s.size).extract j (s.extract (k + 1) s.size).size).data.toList = 32 :: http then .tuple #[.string (s.extract 0 k), .string ((s.extract (k + 1) s.size).extract 0 j), .bool true] else .tuple #[.string ⟨#[]⟩, .string ⟨#[]⟩, .bool false] := by
  unfold firstV
  rw [parted hk hb, first_at (ex_all h), ht, hj.tw.1, hj.tw.2]
  have hl : ((s.extract (k + 1) s.size).extract 0 j).data.toList.length = j := by
    rw [Array.length_toList]
    show ((s.extract (k + 1) s.size).extract 0 j).size = j
    have := hj.1
    rw [ByteArray.size_extract]; omega
  have he : (!((s.extract (k + 1) s.size).extract 0 j).data.toList.isEmpty) = decide (0 < j) := by
    rcases Nat.eq_zero_or_pos j with h0 | h0
    · rw [List.eq_nil_of_length_eq_zero (hl.trans h0), h0]; rfl
    · rw [decide_eq_true h0, Bool.not_eq_true', List.isEmpty_eq_false_iff]
      intro e; rw [e] at hl; simp at hl; omega
  rw [he]
  generalize ((s.extract (k + 1) s.size).extract j (s.extract (k + 1) s.size).size).data.toList = R
  generalize (s.extract (k + 1) s.size).extract 0 j = t
  generalize s.extract 0 k = m
  by_cases h0 : 0 < j
  · by_cases h1 : R = 32 :: http
    · subst h1; simp [h0]
    · simp [h0, h1]
  · simp [h0]
set_option maxRecDepth 8000 in
set_option maxHeartbeats 1600000 in
theorem ref_first (s : ByteArray) (hs : s.size ≤ 5000) (w : World) : Calls Tryd.prog 28 #[.string s] w fun e w' => e = .returned (firstV s.data.toList) ∧ ∃ n, w' = w.drewN n := by
  have ha := fun k (h : k < s.size) => byte_all (neC 32) h
  have HA := Lib.hid ha
  clear ha
  go_enter Tryd.func28, Tryd.ntmps28
  go_wp2_with fail
  go_loop [5] (fun i => ∃ k : Nat, k ≤ s.size ∧ i = .int .i64 k ∧ Hid ((s.data.toList.take k).all (neC 32) = true)) (fun i => s.size - (intOf i).toNat)
  case atStart => exact ⟨0, Nat.zero_le _, rfl, Lib.hid rfl⟩
  case round =>
    obtain ⟨k, hk, rfl, hR⟩ := hrel
    by_cases hlt : k < s.size
    · have e := bt_at hlt
      have E1 := Lib.hid e
      clear e
      by_cases hq : bt s k = 32
      · have hb : (((bt s k).toNat : Int) != 32) = false := by rw [hq]; rfl
        rw [← E1.out] at hb
        have HQ := Lib.hid hq
        clear hq
        have hne : ((k : Int) == (s.size : Int)) = false := by rw [beq_eq_false_iff_ne]; omega
        have hsz : (s.extract 0 k).size ≤ 5000 := by rw [ByteArray.size_extract]; omega
        have hsy : (s.extract (k + 1) s.size).size ≤ 5000 := by rw [ByteArray.size_extract]; omega
        have T1 : ∀ b, tkn (s.extract 0 k).data.toList = b → ∀ y, Calls Tryd.prog 42 #[.string (s.extract 0 k)] y fun e w' => e = .returned (.bool b) ∧ y = w' := fun b hb y => hb ▸ rtoken (s.extract 0 k) hsz y
        have hE := firstV_end hlt hR.out HQ.out
        have HE := Lib.hid hE
        clear hE
        cases ht : tkn (s.extract 0 k).data.toList with
        | false =>
          have C1 := T1 false ht
          have HF := Lib.hid (firstV_tok hlt hR.out HQ.out ht)
          clear T1 ht
          go_wp2_with (first | (go_at_call 42; with_reducible refine (C1 _).mono ?_; rintro e w' ⟨rfl, rfl⟩) | fail)
          go_ret3
          exact ⟨by rw [HF.out]; rfl, 0, rfl⟩
        | true =>
          have C1 := T1 true ht
          have HE2 := Lib.hid (HE.out ht)
          clear T1 ht HE
          have k1 : (0 : Int) ≤ (k : Int) + 1 := by omega
          have k2 : (k : Int) + 1 ≤ (s.size : Int) := by omega
          have k3 : ((k : Int) + 1).toNat = k + 1 := by omega
          go_wp2_with (first | (go_at_call 42; with_reducible refine (C1 _).mono ?_; rintro e w' ⟨rfl, rfl⟩) | fail)
          generalize s.extract 0 k = m at HE2
          generalize s.extract (k + 1) s.size = y at HE2 hsy
          have ha := fun j (h : j < y.size) => byte_all tgtC h
          have HT := Lib.hid ha
          clear ha
          go_loop [5] (fun i => ∃ j : Nat, j ≤ y.size ∧ i = .int .i64 j ∧ Hid ((y.data.toList.take j).all tgtC = true)) (fun i => y.size - (intOf i).toNat)
          case atStart => exact ⟨0, Nat.zero_le _, rfl, Lib.hid rfl⟩
          case round =>
            obtain ⟨j, hj, rfl, hJ⟩ := hrel
            by_cases hlj : j < y.size
            · have e := bt_at hlj
              have E2 := Lib.hid e
              clear e
              have h256 := (bt y j).toNat_lt
              rcases (by omega : (bt y j).toNat < 33 ∨ 126 < (bt y j).toNat ∨ (33 ≤ (bt y j).toNat ∧ (bt y j).toNat ≤ 126)) with h | h | ⟨h, h'⟩
              · have hv := HE2.out j ⟨hj, hJ.out, .inr (by simp [tgtC]; omega)⟩
                rw [← E2.out] at h
                have j1 : (0 : Int) ≤ (j : Int) := by omega
                have j2 : (j : Int) ≤ (y.size : Int) := by omega
                by_cases h0 : 0 < j
                · have q0 : ((j : Int) == 0) = false := by rw [beq_eq_false_iff_ne]; omega
                  by_cases h1 : (y.extract j y.size).data.toList = 32 :: http
                  · rw [if_pos ⟨h0, h1⟩] at hv
                    have q1 : ((y.extract j y.size).toList == [32, 72, 84, 84, 80, 47, 49, 46, 49]) = true := by rw [ByteArray.toList_eq, h1]; rfl
                    have HV := Lib.hid hv
                    clear hv h1
                    go_wp2_with fail
                    go_quiet (fail)
                    go_wp2_with fail
                    go_ret3
                    exact ⟨by rw [HV.out]; rfl, _, rfl⟩
                  · rw [if_neg (fun e => h1 e.2)] at hv
                    have q1 : ((y.extract j y.size).toList == [32, 72, 84, 84, 80, 47, 49, 46, 49]) = false := by rw [ByteArray.toList_eq, beq_eq_false_iff_ne]; exact h1
                    have HV := Lib.hid hv
                    clear hv h1
                    go_wp2_with fail
                    go_ret3
                    exact ⟨by rw [HV.out]; rfl, 0, rfl⟩
                · have q0 : ((j : Int) == 0) = true := beq_iff_eq.2 (by omega)
                  rw [if_neg (fun e => h0 e.1)] at hv
                  have HV := Lib.hid hv
                  clear hv
                  go_wp2_with fail
                  go_ret3
                  exact ⟨by rw [HV.out]; rfl, 0, rfl⟩
              · have hv := HE2.out j ⟨hj, hJ.out, .inr (by simp [tgtC]; omega)⟩
                rw [← E2.out] at h
                have j1 : (0 : Int) ≤ (j : Int) := by omega
                have j2 : (j : Int) ≤ (y.size : Int) := by omega
                by_cases h0 : 0 < j
                · have q0 : ((j : Int) == 0) = false := by rw [beq_eq_false_iff_ne]; omega
                  by_cases h1 : (y.extract j y.size).data.toList = 32 :: http
                  · rw [if_pos ⟨h0, h1⟩] at hv
                    have q1 : ((y.extract j y.size).toList == [32, 72, 84, 84, 80, 47, 49, 46, 49]) = true := by rw [ByteArray.toList_eq, h1]; rfl
                    have HV := Lib.hid hv
                    clear hv h1
                    go_wp2_with fail
                    go_quiet (fail)
                    go_wp2_with fail
                    go_ret3
                    exact ⟨by rw [HV.out]; rfl, _, rfl⟩
                  · rw [if_neg (fun e => h1 e.2)] at hv
                    have q1 : ((y.extract j y.size).toList == [32, 72, 84, 84, 80, 47, 49, 46, 49]) = false := by rw [ByteArray.toList_eq, beq_eq_false_iff_ne]; exact h1
                    have HV := Lib.hid hv
                    clear hv h1
                    go_wp2_with fail
                    go_ret3
                    exact ⟨by rw [HV.out]; rfl, 0, rfl⟩
                · have q0 : ((j : Int) == 0) = true := beq_iff_eq.2 (by omega)
                  rw [if_neg (fun e => h0 e.1)] at hv
                  have HV := Lib.hid hv
                  clear hv
                  go_wp2_with fail
                  go_ret3
                  exact ⟨by rw [HV.out]; rfl, 0, rfl⟩
              · have hf := HT.out j hlj
                rw [hJ.out, show tgtC (bt y j) = true by simp [tgtC]; omega] at hf
                have HF := Lib.hid hf
                clear hf
                rw [← E2.out] at h h'
                go_wp2_with fail
                go_round
                case rel => exact ⟨j + 1, by omega, by go_num, HF⟩
                case measure => simp [intOf]; omega
            · have hv := HE2.out j ⟨hj, hJ.out, .inl (by omega)⟩
              have hd : decide ((j : Int) < (y.size : Int)) = false := by simp; omega
              have j1 : (0 : Int) ≤ (j : Int) := by omega
              have j2 : (j : Int) ≤ (y.size : Int) := by omega
              by_cases h0 : 0 < j
              · have q0 : ((j : Int) == 0) = false := by rw [beq_eq_false_iff_ne]; omega
                by_cases h1 : (y.extract j y.size).data.toList = 32 :: http
                · rw [if_pos ⟨h0, h1⟩] at hv
                  have q1 : ((y.extract j y.size).toList == [32, 72, 84, 84, 80, 47, 49, 46, 49]) = true := by rw [ByteArray.toList_eq, h1]; rfl
                  have HV := Lib.hid hv
                  clear hv h1
                  go_wp2_with fail
                  go_quiet (fail)
                  go_wp2_with fail
                  go_ret3
                  exact ⟨by rw [HV.out]; rfl, _, rfl⟩
                · rw [if_neg (fun e => h1 e.2)] at hv
                  have q1 : ((y.extract j y.size).toList == [32, 72, 84, 84, 80, 47, 49, 46, 49]) = false := by rw [ByteArray.toList_eq, beq_eq_false_iff_ne]; exact h1
                  have HV := Lib.hid hv
                  clear hv h1
                  go_wp2_with fail
                  go_ret3
                  exact ⟨by rw [HV.out]; rfl, 0, rfl⟩
              · have q0 : ((j : Int) == 0) = true := beq_iff_eq.2 (by omega)
                rw [if_neg (fun e => h0 e.1)] at hv
                have HV := Lib.hid hv
                clear hv
                go_wp2_with fail
                go_ret3
                exact ⟨by rw [HV.out]; rfl, 0, rfl⟩
      · have hb : (((bt s k).toNat : Int) != 32) = true := by rw [bne_iff_ne]; intro e; exact hq (UInt8.toNat_inj.1 (by show _ = 32; omega))
        have hf := HA.out k hlt
        rw [hR.out, show neC 32 (bt s k) = true by simp [neC, hq]] at hf
        have HF := Lib.hid hf
        clear hf
        rw [← E1.out] at hb
        have HQ := Lib.hid hq
        clear hq
        go_wp2_with fail
        go_round
        case rel => exact ⟨k + 1, by omega, by go_num, HF⟩
        case measure => simp [intOf]; omega
    · have hks : k = s.size := by omega
      have hd : decide ((k : Int) < (s.size : Int)) = false := by simp; omega
      have hq : ((k : Int) == (s.size : Int)) = true := beq_iff_eq.2 (by omega)
      have H := hR.out
      rw [hks, all_take] at H
      have HF := Lib.hid (firstV_miss H)
      clear H
      go_wp2_with fail
      go_ret3
      exact ⟨by rw [HF.out]; rfl, 0, rfl⟩
end Go.Proofs.YtjcbohpemfmpiaaDoor.headLong
