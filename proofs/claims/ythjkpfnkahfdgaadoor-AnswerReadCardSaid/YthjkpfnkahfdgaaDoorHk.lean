/- The words' functions, walked: letters, tokens, values, trimmed texts. -/
import Derived.Test.YthjkpfnkahfdgaaDoorHj
import Derived.Test.YthjkpfnkahfdgaaDoorHe
import Derived.IntWalk
namespace Go.Proofs.YthjkpfnkahfdgaaDoor.answerRead
set_option linter.unusedVariables false
set_option linter.unusedSimpArgs false
open Go.ChangeShapes Go.WideShapes Go.ChangeAt Go.RowKit Go.Hl Go.Hg
/- The words' functions, walked: letters, tokens, targets, values, trimmed texts. -/
theorem byte_all (p : UInt8 → Bool) {s : ByteArray} {k : Nat} (h : k < s.size) : (s.data.toList.take (k + 1)).all p = ((s.data.toList.take k).all p && p (bt s k)) := by
  have hl : k < s.data.toList.length := by simpa using h
  rw [List.take_succ_eq_append_getElem hl, List.all_append]
  have : s.data.toList[k] = bt s k := by unfold bt; rw [List.getElem?_eq_getElem hl]; rfl
  rw [this]
  simp
theorem all_take {p : UInt8 → Bool} {s : ByteArray} : (s.data.toList.take s.size).all p = s.data.toList.all p := by
  rw [List.take_of_length_le (by simp)]
theorem all_not {p : UInt8 → Bool} {s : ByteArray} {k : Nat} (h : k < s.size) (hp : p (bt s k) = false) : s.data.toList.all p = false := by
  have hl : k < s.data.toList.length := by simpa using h
  rw [← Bool.not_eq_true, List.all_eq_true]
  intro ha
  have := ha (bt s k) (by unfold bt; rw [List.getElem?_eq_getElem hl]; simp)
  rw [hp] at this; cases this
theorem empty_eq {s : ByteArray} (h : 0 < s.size) : s.data.toList.isEmpty = false := by
  rw [List.isEmpty_eq_false_iff]
  intro e
  have : s.data.toList.length = 0 := by rw [e]; rfl
  have h : 0 < s.data.size := h
  rw [Array.length_toList] at this
  omega
theorem empty_eq0 {s : ByteArray} (h : s.size = 0) : s.data.toList.isEmpty = true := by
  rw [List.isEmpty_iff]
  exact List.eq_nil_of_length_eq_zero (by simpa using h)
/-- A letter or a digit (0: text.letter). -/
theorem letter (n : Int) (h0 : 0 ≤ n) (h1 : n < 256) (b : Bool) (hb : letN n.toNat = b) (w : World) : Calls Tryd.prog 31 #[.int .u8 n] w fun e w' => e = .returned (.bool b) ∧ w = w' := by
  rcases (by omega : n < 48 ∨ (48 ≤ n ∧ n ≤ 57) ∨ (57 < n ∧ n < 65) ∨ (65 ≤ n ∧ n ≤ 90) ∨ (90 < n ∧ n < 97) ∨ (97 ≤ n ∧ n ≤ 122) ∨ 122 < n) with h | ⟨h, h'⟩ | ⟨h, h'⟩ | ⟨h, h'⟩ | ⟨h, h'⟩ | ⟨h, h'⟩ | h
  all_goals
    have hb' := hb
    simp only [letN, digN, lowN, capN] at hb'
    have HB := Lib.hid hb
    clear hb hb'
    go_enter Tryd.func31, Tryd.ntmps31
    go_wp2
    go_ret
    exact ⟨congrArg (fun b => Ending.returned (Value.bool b)) (by rw [← HB.out, Bool.eq_iff_iff]; simp [letN, digN, lowN, capN]; try omega), rfl⟩
theorem blank (n : Int) (h0 : 0 ≤ n) (h1 : n < 256) (b : Bool) (hb : blkN n.toNat = b) (w : World) : Calls Tryd.prog 30 #[.int .u8 n] w fun e w' => e = .returned (.bool b) ∧ w = w' := by
  rcases (by omega : n < 9 ∨ n = 9 ∨ (9 < n ∧ n < 32) ∨ n = 32 ∨ 32 < n) with h | rfl | ⟨h, h'⟩ | rfl | h
  all_goals
    have HB := Lib.hid hb
    clear hb
    go_enter Tryd.func30, Tryd.ntmps30
    go_wp2
    go_ret
    exact ⟨congrArg (fun b => Ending.returned (Value.bool b)) (by rw [← HB.out, Bool.eq_iff_iff]; simp [blkN]; try omega), rfl⟩
theorem rblank (n : Int) (h0 : 0 ≤ n) (h1 : n < 256) (b : Bool) (hb : blkN n.toNat = b) (w : World) : Calls Tryd.prog 15 #[.int .u8 n] w fun e w' => e = .returned (.bool b) ∧ w = w' := by
  rcases (by omega : n < 9 ∨ n = 9 ∨ (9 < n ∧ n < 32) ∨ n = 32 ∨ 32 < n) with h | rfl | ⟨h, h'⟩ | rfl | h
  all_goals
    have HB := Lib.hid hb
    clear hb
    go_enter Tryd.func15, Tryd.ntmps15
    go_wp2
    go_ret
    exact ⟨congrArg (fun b => Ending.returned (Value.bool b)) (by rw [← HB.out, Bool.eq_iff_iff]; simp [blkN]; try omega), rfl⟩
theorem bt_at {s : ByteArray} {k : Nat} (h : k < s.size) : s[k] = bt s k := bt_eq (s := s) (k := k) h
theorem not_empty (s : ByteArray) : (!s.toList.isEmpty) = decide (0 < s.size) := by
  rw [ByteArray.toList_eq]
  rcases Nat.eq_zero_or_pos s.size with h0 | h0
  · rw [empty_eq0 h0, h0]; rfl
  · rw [empty_eq h0, decide_eq_true h0]; rfl
theorem ne_tok {s : ByteArray} {p : UInt8 → Bool} (h : (s.data.toList.take s.size).all p = true) (b : Bool) (hb : b = decide (0 < s.size)) : b = (!s.data.toList.isEmpty && s.data.toList.all p) := by
  rw [all_take] at h
  rw [h, Bool.and_true, hb]
  rcases Nat.eq_zero_or_pos s.size with h0 | h0
  · rw [empty_eq0 h0, h0]; rfl
  · rw [empty_eq h0, decide_eq_true h0]; rfl
/- Words and values, walked: loops over a text's bytes. Printed by gen_words.py. -/
def sgI (n : Int) : Int := Lib.indexByte signs n.toNat.toUInt8
theorem sgI_all : ∀ n, n < 256 → (signs.contains (UInt8.ofNat n) = true ∧ 0 ≤ Lib.indexByte signs (UInt8.ofNat n)) ∨ (signs.contains (UInt8.ofNat n) = false ∧ Lib.indexByte signs (UInt8.ofNat n) < 0) := by decide +kernel
theorem sgI_yes {c : UInt8} (h : signs.contains c = true) : 0 ≤ sgI (c.toNat : Int) := by
  rcases sgI_all c.toNat c.toNat_lt with ⟨_, a⟩ | ⟨a, _⟩
  · exact a
  · rw [UInt8.ofNat_toNat, h] at a; cases a
theorem sgI_no {c : UInt8} (h : signs.contains c = false) : sgI (c.toNat : Int) < 0 := by
  rcases sgI_all c.toNat c.toNat_lt with ⟨a, _⟩ | ⟨_, a⟩
  · rw [UInt8.ofNat_toNat, h] at a; cases a
  · exact a
theorem sign (n : Int) (w : World) : Calls Tryd.prog 32 #[.string ⟨#[33, 35, 36, 37, 38, 39, 42, 43, 45, 46, 94, 95, 96, 124, 126]⟩, .int .u8 n] w fun e w' => e = .returned (.int .i64 (sgI n)) ∧ w = w' :=
  (lib_IndexByte _ n w).mono fun e w' ⟨h, k⟩ => ⟨h, k.symm⟩
def neC (c x : UInt8) : Bool := x != c
theorem toList_empty {s : ByteArray} (h : s.size = 0) : s.toList.isEmpty = true := by rw [ByteArray.toList_eq]; exact empty_eq0 h
theorem toList_full {s : ByteArray} (h : 0 < s.size) : s.toList.isEmpty = false := by rw [ByteArray.toList_eq]; exact empty_eq h
theorem val_empty {s : ByteArray} (h : s.data.toList.all valC = true) (h0 : s.size = 0) : val s.data.toList = true := by
  unfold val; rw [h, empty_eq0 h0]; rfl
theorem bt_first {s : ByteArray} (h0 : 0 < s.size) : s.data.toList.headD 0 = bt s 0 := by
  unfold bt
  cases s.data.toList with
  | nil => rfl
  | cons b l => rfl
theorem bt_last {s : ByteArray} (h0 : 0 < s.size) : s.data.toList.getLastD 0 = bt s (s.size - 1) := by
  unfold bt
  have e : s.size = s.data.toList.length := (Array.length_toList (xs := s.data)).symm
  rw [e, ← List.getLast?_eq_getElem?, List.getLastD_eq_getLast?]
theorem val_full {s : ByteArray} (h : s.data.toList.all valC = true) (h0 : 0 < s.size) : val s.data.toList = (!blkN (bt s 0).toNat && !blkN (bt s (s.size - 1)).toNat) := by
  unfold val; rw [h, empty_eq h0, bt_first h0, bt_last h0]; rfl
theorem contains_all {c : UInt8} (l : List UInt8) : l.contains c = !l.all (neC c) := by
  induction l with
  | nil => rfl
  | cons b l ih =>
    rw [List.contains_cons, List.all_cons, ih]
    by_cases h : c = b
    · subst h; simp [neC]
    · have h2 : (c == b) = false := beq_eq_false_iff_ne.2 h
      have h3 : neC c b = true := by unfold neC; rw [bne_iff_ne]; exact fun e => h e.symm
      rw [h2, h3]; simp
set_option maxRecDepth 8000 in
theorem token (s : ByteArray) (hs : s.size ≤ 5000) (w : World) : Calls Tryd.prog 21 #[.string s] w fun e w' => e = .returned (.bool (tkn s.data.toList)) ∧ w = w' := by
  have ha := fun k (h : k < s.size) => byte_all tokC h
  have hn := fun k (h : k < s.size) => all_not (p := tokC) h
  have HA := Lib.hid ha
  have HN := Lib.hid hn
  clear ha hn
  go_enter Tryd.func21, Tryd.ntmps21
  go_wp2_with fail
  go_loop [3, 6] (fun _ i => ∃ k : Nat, k ≤ s.size ∧ i = .int .i64 k ∧ Hid ((s.data.toList.take k).all tokC = true)) (fun _ i => s.size - (intOf i).toNat)
  case atStart => exact ⟨0, Nat.zero_le _, rfl, Lib.hid rfl⟩
  case round =>
    obtain ⟨k, hk, rfl, hR⟩ := hrel
    by_cases hlt : k < s.size
    · have h256 := (bt s k).toNat_lt
      have e := bt_at hlt
      have E1 := Lib.hid e
      clear e
      have J := fun (y : World) => sign ((bt s k).toNat : Int) y
      cases hl : letN (bt s k).toNat with
      | true =>
        have hw := show tokC (bt s k) = true by unfold tokC; rw [hl]; rfl
        have LT := fun (y : World) => letter ((bt s k).toNat : Int) (by omega) (by omega) true (by simpa using hl) y
        have hf := HA.out k hlt
        rw [hR.out, show tokC (bt s k) = true from hw] at hf
        have HF := Lib.hid hf
        clear hf
        have LT2 := LT
        rw [← E1.out] at LT2 J
        have HL := Lib.hid hl
        clear hl hw LT
        go_wp2_with (first | (go_at_call 31; with_reducible refine (LT2 _).mono ?_; rintro e w' ⟨rfl, rfl⟩) | (go_at_call 32; with_reducible refine (J _).mono ?_; rintro e w' ⟨rfl, rfl⟩) | fail)
        go_round
        case rel => exact ⟨k + 1, by omega, by go_num, HF⟩
        case measure => simp [intOf]; omega
      | false =>
        have LT := fun (y : World) => letter ((bt s k).toNat : Int) (by omega) (by omega) false (by simpa using hl) y
        cases hc : signs.contains (bt s k) with
        | true =>
          have hw := show tokC (bt s k) = true by unfold tokC; rw [hl, hc]; rfl
          have hj := sgI_yes hc
          rw [← E1.out] at hj
          have hf := HA.out k hlt
          rw [hR.out, show tokC (bt s k) = true from hw] at hf
          have HF := Lib.hid hf
          clear hf
          have LT2 := LT
          rw [← E1.out] at LT2 J
          have HL := Lib.hid hl
          have HC := Lib.hid hc
          clear hl hc hw LT
          go_wp2_with (first | (go_at_call 31; with_reducible refine (LT2 _).mono ?_; rintro e w' ⟨rfl, rfl⟩) | (go_at_call 32; with_reducible refine (J _).mono ?_; rintro e w' ⟨rfl, rfl⟩) | fail)
          go_round
          case rel => exact ⟨k + 1, by omega, by go_num, HF⟩
          case measure => simp [intOf]; omega
        | false =>
          have hw := show tokC (bt s k) = false by unfold tokC; rw [hl, hc]; rfl
          have hj := sgI_no hc
          rw [← E1.out] at hj
          have hf := HN.out k hlt (hw)
          have HF := Lib.hid hf
          clear hf
          have LT2 := LT
          rw [← E1.out] at LT2 J
          have HL := Lib.hid hl
          have HC := Lib.hid hc
          clear hl hc hw LT
          go_wp2_with (first | (go_at_call 31; with_reducible refine (LT2 _).mono ?_; rintro e w' ⟨rfl, rfl⟩) | (go_at_call 32; with_reducible refine (J _).mono ?_; rintro e w' ⟨rfl, rfl⟩) | fail)
          go_ret
          exact ⟨by rw [tkn, HF.out, Bool.and_false]; rfl, rfl⟩
    · have hks : k = s.size := by omega
      have hd : decide ((k : Int) < (s.size : Int)) = false := by simp; omega
      have H := hR.out
      rw [hks] at H
      have HT := Lib.hid (ne_tok H)
      clear H
      go_wp2
      go_ret
      refine ⟨?_, rfl⟩
      show Ending.returned (Value.bool (!s.toList.isEmpty)) = _
      exact congrArg (fun b => Ending.returned (Value.bool b)) (HT.out _ (not_empty s))
set_option maxRecDepth 8000 in
theorem value (s : ByteArray) (hs : s.size ≤ 5000) (w : World) : Calls Tryd.prog 22 #[.string s] w fun e w' => e = .returned (.bool (val s.data.toList)) ∧ w = w' := by
  have ha := fun k (h : k < s.size) => byte_all valC h
  have hn := fun k (h : k < s.size) => all_not (p := valC) h
  have HA := Lib.hid ha
  have HN := Lib.hid hn
  clear ha hn
  go_enter Tryd.func22, Tryd.ntmps22
  go_wp2_with fail
  go_loop [3, 4, 7] (fun _ _ i => ∃ k : Nat, k ≤ s.size ∧ i = .int .i64 k ∧ Hid ((s.data.toList.take k).all valC = true)) (fun _ _ i => s.size - (intOf i).toNat)
  case atStart => exact ⟨0, Nat.zero_le _, rfl, Lib.hid rfl⟩
  case round =>
    obtain ⟨k, hk, rfl, hR⟩ := hrel
    by_cases hlt : k < s.size
    · have h256 := (bt s k).toNat_lt
      have e := bt_at hlt
      have E1 := Lib.hid e
      clear e
      rcases (by omega : (bt s k).toNat < 9 ∨ (bt s k).toNat = 9 ∨ (9 < (bt s k).toNat ∧ (bt s k).toNat < 32) ∨ (32 ≤ (bt s k).toNat ∧ (bt s k).toNat < 127) ∨ (bt s k).toNat = 127 ∨ 127 < (bt s k).toNat) with h | h | ⟨h, h'⟩ | ⟨h, h'⟩ | h | h
      · have hf := HN.out k hlt (by simp [valC]; omega)
        have HF := Lib.hid hf
        clear hf
        have q9 : (((bt s k).toNat : Int) == 9) = false := by rw [beq_eq_false_iff_ne]; omega
        have p9 : (((bt s k).toNat : Int) != 9) = true := by rw [bne_iff_ne]; omega
        have q7 : (((bt s k).toNat : Int) == 127) = false := by rw [beq_eq_false_iff_ne]; omega
        have hx : (bt s k).toNat < 32 := by omega
        have HH := Lib.hid h
        clear h
        rw [← E1.out] at hx q9 p9 q7
        go_wp2_with fail
        go_ret
        exact ⟨by rw [val, HF.out, Bool.false_and]; rfl, rfl⟩
      · have hf := HA.out k hlt
        rw [hR.out, show valC (bt s k) = true from by simp [valC]; omega] at hf
        have HF := Lib.hid hf
        clear hf
        have q9 : (((bt s k).toNat : Int) == 9) = true := beq_iff_eq.2 (by omega)
        have p9 : (((bt s k).toNat : Int) != 9) = false := by rw [bne_eq_false_iff_eq]; omega
        have q7 : (((bt s k).toNat : Int) == 127) = false := by rw [beq_eq_false_iff_ne]; omega
        have hx : (bt s k).toNat < 32 := by omega
        have HH := Lib.hid h
        clear h
        rw [← E1.out] at hx q9 p9 q7
        go_wp2_with fail
        go_round
        case rel => exact ⟨k + 1, by omega, by go_num, HF⟩
        case measure => simp [intOf]; omega
      · have hf := HN.out k hlt (by simp [valC]; omega)
        have HF := Lib.hid hf
        clear hf
        have q9 : (((bt s k).toNat : Int) == 9) = false := by rw [beq_eq_false_iff_ne]; omega
        have p9 : (((bt s k).toNat : Int) != 9) = true := by rw [bne_iff_ne]; omega
        have q7 : (((bt s k).toNat : Int) == 127) = false := by rw [beq_eq_false_iff_ne]; omega
        have hx : (bt s k).toNat < 32 := by omega
        have HH := Lib.hid h
        clear h
        rw [← E1.out] at hx q9 p9 q7
        go_wp2_with fail
        go_ret
        exact ⟨by rw [val, HF.out, Bool.false_and]; rfl, rfl⟩
      · have hf := HA.out k hlt
        rw [hR.out, show valC (bt s k) = true from by simp [valC]; omega] at hf
        have HF := Lib.hid hf
        clear hf
        have q9 : (((bt s k).toNat : Int) == 9) = false := by rw [beq_eq_false_iff_ne]; omega
        have p9 : (((bt s k).toNat : Int) != 9) = true := by rw [bne_iff_ne]; omega
        have q7 : (((bt s k).toNat : Int) == 127) = false := by rw [beq_eq_false_iff_ne]; omega
        have hx : (bt s k).toNat ≥ 32 := by omega
        have HH := Lib.hid h
        clear h
        rw [← E1.out] at hx q9 p9 q7
        go_wp2_with fail
        go_round
        case rel => exact ⟨k + 1, by omega, by go_num, HF⟩
        case measure => simp [intOf]; omega
      · have hf := HN.out k hlt (by simp [valC]; omega)
        have HF := Lib.hid hf
        clear hf
        have q9 : (((bt s k).toNat : Int) == 9) = false := by rw [beq_eq_false_iff_ne]; omega
        have p9 : (((bt s k).toNat : Int) != 9) = true := by rw [bne_iff_ne]; omega
        have q7 : (((bt s k).toNat : Int) == 127) = true := beq_iff_eq.2 (by omega)
        have hx : (bt s k).toNat ≥ 32 := by omega
        have HH := Lib.hid h
        clear h
        rw [← E1.out] at hx q9 p9 q7
        go_wp2_with fail
        go_ret
        exact ⟨by rw [val, HF.out, Bool.false_and]; rfl, rfl⟩
      · have hf := HA.out k hlt
        rw [hR.out, show valC (bt s k) = true from by simp [valC]; omega] at hf
        have HF := Lib.hid hf
        clear hf
        have q9 : (((bt s k).toNat : Int) == 9) = false := by rw [beq_eq_false_iff_ne]; omega
        have p9 : (((bt s k).toNat : Int) != 9) = true := by rw [bne_iff_ne]; omega
        have q7 : (((bt s k).toNat : Int) == 127) = false := by rw [beq_eq_false_iff_ne]; omega
        have hx : (bt s k).toNat ≥ 32 := by omega
        have HH := Lib.hid h
        clear h
        rw [← E1.out] at hx q9 p9 q7
        go_wp2_with fail
        go_round
        case rel => exact ⟨k + 1, by omega, by go_num, HF⟩
        case measure => simp [intOf]; omega
    · have hks : k = s.size := by omega
      have hd : decide ((k : Int) < (s.size : Int)) = false := by simp; omega
      have H := hR.out
      rw [hks] at H
      rw [all_take] at H
      have HT := Lib.hid H
      clear H
      rcases Nat.eq_zero_or_pos s.size with h0 | h0
      · have he := toList_empty h0
        have HZ := Lib.hid h0
        clear h0
        go_wp2_with fail
        go_ret
        exact ⟨by rw [val_empty HT.out HZ.out]; rfl, rfl⟩
      · have he := toList_full h0
        have g0 : (0 : Int) ≤ (s.size : Int) - 1 := by omega
        have g1 : (s.size : Int) - 1 < (s.size : Int) := by omega
        have gt : ((s.size : Int) - 1).toNat = s.size - 1 := by omega
        have gl : s.size - 1 < s.size := by omega
        have hv := val_full HT.out h0
        have HV := Lib.hid hv
        clear hv
        have f0 := (bt s 0).toNat_lt
        have f1 := (bt s (s.size - 1)).toNat_lt
        have B0 := fun b (hb : blkN (bt s 0).toNat = b) (y : World) => blank ((bt s 0).toNat : Int) (by omega) (by omega) b (by simpa using hb) y
        have B1 := fun b (hb : blkN (bt s (s.size - 1)).toNat = b) (y : World) => blank ((bt s (s.size - 1)).toNat : Int) (by omega) (by omega) b (by simpa using hb) y
        rw [← bt_at h0] at B0
        rw [← bt_at gl] at B1
        cases hb0 : blkN (bt s 0).toNat with
        | true =>
          have C0 := B0 true (by rw [bt_at h0]; exact hb0)
          have H0 := Lib.hid hb0
          clear hb0 B0 B1
          go_wp2_with (first | (go_at_call 30; with_reducible refine (C0 _).mono ?_; rintro e w' ⟨rfl, rfl⟩) | fail)
          go_ret
          exact ⟨by rw [HV.out, H0.out]; rfl, rfl⟩
        | false =>
          have C0 := B0 false (by rw [bt_at h0]; exact hb0)
          cases hb1 : blkN (bt s (s.size - 1)).toNat with
          | true =>
            have C1 := B1 true (by rw [bt_at gl]; exact hb1)
            have H0 := Lib.hid hb0
            have H1 := Lib.hid hb1
            clear hb0 hb1 B0 B1
            go_wp2_with (first | (go_at_call 30; with_reducible refine (C0 _).mono ?_; rintro e w' ⟨rfl, rfl⟩) | (go_at_call 30; with_reducible refine (C1 _).mono ?_; rintro e w' ⟨rfl, rfl⟩) | fail)
            go_ret
            exact ⟨by rw [HV.out, H0.out, H1.out]; rfl, rfl⟩
          | false =>
            have C1 := B1 false (by rw [bt_at gl]; exact hb1)
            have H0 := Lib.hid hb0
            have H1 := Lib.hid hb1
            clear hb0 hb1 B0 B1
            go_wp2_with (first | (go_at_call 30; with_reducible refine (C0 _).mono ?_; rintro e w' ⟨rfl, rfl⟩) | (go_at_call 30; with_reducible refine (C1 _).mono ?_; rintro e w' ⟨rfl, rfl⟩) | fail)
            go_ret
            exact ⟨by rw [HV.out, H0.out, H1.out]; rfl, rfl⟩
set_option maxRecDepth 8000 in
theorem rvalue (s : ByteArray) (hs : s.size ≤ 5000) (w : World) : Calls Tryd.prog 6 #[.string s] w fun e w' => e = .returned (.bool (val s.data.toList)) ∧ w = w' := by
  have ha := fun k (h : k < s.size) => byte_all valC h
  have hn := fun k (h : k < s.size) => all_not (p := valC) h
  have HA := Lib.hid ha
  have HN := Lib.hid hn
  clear ha hn
  go_enter Tryd.func6, Tryd.ntmps6
  go_wp2_with fail
  go_loop [3] (fun i => ∃ k : Nat, k ≤ s.size ∧ i = .int .i64 k ∧ Hid ((s.data.toList.take k).all valC = true)) (fun i => s.size - (intOf i).toNat)
  case atStart => exact ⟨0, Nat.zero_le _, rfl, Lib.hid rfl⟩
  case round =>
    obtain ⟨k, hk, rfl, hR⟩ := hrel
    by_cases hlt : k < s.size
    · have h256 := (bt s k).toNat_lt
      have e := bt_at hlt
      have E1 := Lib.hid e
      clear e
      rcases (by omega : (bt s k).toNat < 9 ∨ (bt s k).toNat = 9 ∨ (9 < (bt s k).toNat ∧ (bt s k).toNat < 32) ∨ (32 ≤ (bt s k).toNat ∧ (bt s k).toNat < 127) ∨ (bt s k).toNat = 127 ∨ 127 < (bt s k).toNat) with h | h | ⟨h, h'⟩ | ⟨h, h'⟩ | h | h
      · have hf := HN.out k hlt (by simp [valC]; omega)
        have HF := Lib.hid hf
        clear hf
        have q9 : (((bt s k).toNat : Int) == 9) = false := by rw [beq_eq_false_iff_ne]; omega
        have p9 : (((bt s k).toNat : Int) != 9) = true := by rw [bne_iff_ne]; omega
        have q7 : (((bt s k).toNat : Int) == 127) = false := by rw [beq_eq_false_iff_ne]; omega
        have hx : (bt s k).toNat < 32 := by omega
        have HH := Lib.hid h
        clear h
        rw [← E1.out] at hx q9 p9 q7
        go_wp2_with fail
        go_ret
        exact ⟨by rw [val, HF.out, Bool.false_and]; rfl, rfl⟩
      · have hf := HA.out k hlt
        rw [hR.out, show valC (bt s k) = true from by simp [valC]; omega] at hf
        have HF := Lib.hid hf
        clear hf
        have q9 : (((bt s k).toNat : Int) == 9) = true := beq_iff_eq.2 (by omega)
        have p9 : (((bt s k).toNat : Int) != 9) = false := by rw [bne_eq_false_iff_eq]; omega
        have q7 : (((bt s k).toNat : Int) == 127) = false := by rw [beq_eq_false_iff_ne]; omega
        have hx : (bt s k).toNat < 32 := by omega
        have HH := Lib.hid h
        clear h
        rw [← E1.out] at hx q9 p9 q7
        go_wp2_with fail
        go_round
        case rel => exact ⟨k + 1, by omega, by go_num, HF⟩
        case measure => simp [intOf]; omega
      · have hf := HN.out k hlt (by simp [valC]; omega)
        have HF := Lib.hid hf
        clear hf
        have q9 : (((bt s k).toNat : Int) == 9) = false := by rw [beq_eq_false_iff_ne]; omega
        have p9 : (((bt s k).toNat : Int) != 9) = true := by rw [bne_iff_ne]; omega
        have q7 : (((bt s k).toNat : Int) == 127) = false := by rw [beq_eq_false_iff_ne]; omega
        have hx : (bt s k).toNat < 32 := by omega
        have HH := Lib.hid h
        clear h
        rw [← E1.out] at hx q9 p9 q7
        go_wp2_with fail
        go_ret
        exact ⟨by rw [val, HF.out, Bool.false_and]; rfl, rfl⟩
      · have hf := HA.out k hlt
        rw [hR.out, show valC (bt s k) = true from by simp [valC]; omega] at hf
        have HF := Lib.hid hf
        clear hf
        have q9 : (((bt s k).toNat : Int) == 9) = false := by rw [beq_eq_false_iff_ne]; omega
        have p9 : (((bt s k).toNat : Int) != 9) = true := by rw [bne_iff_ne]; omega
        have q7 : (((bt s k).toNat : Int) == 127) = false := by rw [beq_eq_false_iff_ne]; omega
        have hx : (bt s k).toNat ≥ 32 := by omega
        have HH := Lib.hid h
        clear h
        rw [← E1.out] at hx q9 p9 q7
        go_wp2_with fail
        go_round
        case rel => exact ⟨k + 1, by omega, by go_num, HF⟩
        case measure => simp [intOf]; omega
      · have hf := HN.out k hlt (by simp [valC]; omega)
        have HF := Lib.hid hf
        clear hf
        have q9 : (((bt s k).toNat : Int) == 9) = false := by rw [beq_eq_false_iff_ne]; omega
        have p9 : (((bt s k).toNat : Int) != 9) = true := by rw [bne_iff_ne]; omega
        have q7 : (((bt s k).toNat : Int) == 127) = true := beq_iff_eq.2 (by omega)
        have hx : (bt s k).toNat ≥ 32 := by omega
        have HH := Lib.hid h
        clear h
        rw [← E1.out] at hx q9 p9 q7
        go_wp2_with fail
        go_ret
        exact ⟨by rw [val, HF.out, Bool.false_and]; rfl, rfl⟩
      · have hf := HA.out k hlt
        rw [hR.out, show valC (bt s k) = true from by simp [valC]; omega] at hf
        have HF := Lib.hid hf
        clear hf
        have q9 : (((bt s k).toNat : Int) == 9) = false := by rw [beq_eq_false_iff_ne]; omega
        have p9 : (((bt s k).toNat : Int) != 9) = true := by rw [bne_iff_ne]; omega
        have q7 : (((bt s k).toNat : Int) == 127) = false := by rw [beq_eq_false_iff_ne]; omega
        have hx : (bt s k).toNat ≥ 32 := by omega
        have HH := Lib.hid h
        clear h
        rw [← E1.out] at hx q9 p9 q7
        go_wp2_with fail
        go_round
        case rel => exact ⟨k + 1, by omega, by go_num, HF⟩
        case measure => simp [intOf]; omega
    · have hks : k = s.size := by omega
      have hd : decide ((k : Int) < (s.size : Int)) = false := by simp; omega
      have H := hR.out
      rw [hks] at H
      rw [all_take] at H
      have HT := Lib.hid H
      clear H
      rcases Nat.eq_zero_or_pos s.size with h0 | h0
      · have he := toList_empty h0
        have HZ := Lib.hid h0
        clear h0
        go_wp2_with fail
        go_ret
        exact ⟨by rw [val_empty HT.out HZ.out]; rfl, rfl⟩
      · have he := toList_full h0
        have g0 : (0 : Int) ≤ (s.size : Int) - 1 := by omega
        have g1 : (s.size : Int) - 1 < (s.size : Int) := by omega
        have gt : ((s.size : Int) - 1).toNat = s.size - 1 := by omega
        have gl : s.size - 1 < s.size := by omega
        have hv := val_full HT.out h0
        have HV := Lib.hid hv
        clear hv
        have f0 := (bt s 0).toNat_lt
        have f1 := (bt s (s.size - 1)).toNat_lt
        have B0 := fun b (hb : blkN (bt s 0).toNat = b) (y : World) => rblank ((bt s 0).toNat : Int) (by omega) (by omega) b (by simpa using hb) y
        have B1 := fun b (hb : blkN (bt s (s.size - 1)).toNat = b) (y : World) => rblank ((bt s (s.size - 1)).toNat : Int) (by omega) (by omega) b (by simpa using hb) y
        rw [← bt_at h0] at B0
        rw [← bt_at gl] at B1
        cases hb0 : blkN (bt s 0).toNat with
        | true =>
          have C0 := B0 true (by rw [bt_at h0]; exact hb0)
          have H0 := Lib.hid hb0
          clear hb0 B0 B1
          go_wp2_with (first | (go_at_call 15; with_reducible refine (C0 _).mono ?_; rintro e w' ⟨rfl, rfl⟩) | fail)
          go_ret
          exact ⟨by rw [HV.out, H0.out]; rfl, rfl⟩
        | false =>
          have C0 := B0 false (by rw [bt_at h0]; exact hb0)
          cases hb1 : blkN (bt s (s.size - 1)).toNat with
          | true =>
            have C1 := B1 true (by rw [bt_at gl]; exact hb1)
            have H0 := Lib.hid hb0
            have H1 := Lib.hid hb1
            clear hb0 hb1 B0 B1
            go_wp2_with (first | (go_at_call 15; with_reducible refine (C0 _).mono ?_; rintro e w' ⟨rfl, rfl⟩) | (go_at_call 15; with_reducible refine (C1 _).mono ?_; rintro e w' ⟨rfl, rfl⟩) | fail)
            go_ret
            exact ⟨by rw [HV.out, H0.out, H1.out]; rfl, rfl⟩
          | false =>
            have C1 := B1 false (by rw [bt_at gl]; exact hb1)
            have H0 := Lib.hid hb0
            have H1 := Lib.hid hb1
            clear hb0 hb1 B0 B1
            go_wp2_with (first | (go_at_call 15; with_reducible refine (C0 _).mono ?_; rintro e w' ⟨rfl, rfl⟩) | (go_at_call 15; with_reducible refine (C1 _).mono ?_; rintro e w' ⟨rfl, rfl⟩) | fail)
            go_ret
            exact ⟨by rw [HV.out, H0.out, H1.out]; rfl, rfl⟩

/- Texts trimmed, walked. Printed by gen_words.py. -/
def strSize : Value → Nat
  | .string x => x.size
  | _ => 0
theorem drop_done0 {x : ByteArray} (h : x.size = 0) : x.data.toList.dropWhile blkC = x.data.toList := by
  have : x.data.toList = [] := List.eq_nil_of_length_eq_zero (by rw [Array.length_toList]; exact h)
  rw [this]; rfl
theorem toList_cons {x : ByteArray} (h : 0 < x.size) : ∃ l, x.data.toList = bt x 0 :: l := by
  have := toList_full h
  rw [ByteArray.toList_eq] at this
  unfold bt
  cases e : x.data.toList with
  | nil => rw [e] at this; cases this
  | cons b l => exact ⟨l, rfl⟩
theorem drop_step {x : ByteArray} (h : 0 < x.size) (hb : blkN (bt x 0).toNat = true) : (x.extract 1 x.size).data.toList.dropWhile blkC = x.data.toList.dropWhile blkC := by
  obtain ⟨l, e⟩ := toList_cons h
  rw [Lib.extract_to_end, e, List.dropWhile_cons, if_pos (show blkC (bt x 0) = true from hb)]
  rfl
theorem toList_snoc {x : ByteArray} (h : 0 < x.size) : ∃ l, x.data.toList = l ++ [bt x (x.size - 1)] ∧ l.length = x.size - 1 := by
  have hl : x.data.toList.length = x.size := Array.length_toList
  have hne : x.data.toList ≠ [] := fun e => by rw [e] at hl; simp at hl; omega
  refine ⟨x.data.toList.dropLast, ?_, by rw [List.length_dropLast, hl]⟩
  have e : bt x (x.size - 1) = x.data.toList.getLast hne := by
    unfold bt
    rw [← hl, ← List.getLast?_eq_getElem?, List.getLast?_eq_some_getLast hne]; rfl
  rw [e, List.dropLast_concat_getLast]
theorem trimR_snoc (l : List UInt8) (b : UInt8) : trimR (l ++ [b]) = if blkC b = true then trimR l else l ++ [b] := by
  unfold trimR
  rw [List.reverse_append, List.reverse_singleton, List.singleton_append, List.dropWhile_cons]
  split
  · rfl
  · rw [List.reverse_cons, List.reverse_reverse]
theorem trimR_done0 {y : ByteArray} (h : y.size = 0) : trimR y.data.toList = y.data.toList := by
  have : y.data.toList = [] := List.eq_nil_of_length_eq_zero (by rw [Array.length_toList]; exact h)
  rw [this]; rfl
theorem trimR_done1 {y : ByteArray} (h : 0 < y.size) (hb : blkN (bt y (y.size - 1)).toNat = false) : trimR y.data.toList = y.data.toList := by
  obtain ⟨l, e, _⟩ := toList_snoc h
  rw [e, trimR_snoc, if_neg]
  show ¬ (blkN (bt y (y.size - 1)).toNat = true)
  rw [hb]; simp
theorem trimR_step {y : ByteArray} (h : 0 < y.size) (hb : blkN (bt y (y.size - 1)).toNat = true) : trimR (y.extract 0 (y.size - 1)).data.toList = trimR y.data.toList := by
  obtain ⟨l, e, hl⟩ := toList_snoc h
  rw [Lib.extract_from_zero, e, trimR_snoc, if_pos (show blkC (bt y (y.size - 1)) = true from hb), ← hl, List.take_left]
theorem ret_of {y : ByteArray} {l : List UInt8} (h : y.data.toList = l) : Ending.returned (Value.string y) = .returned (.string ⟨l.toArray⟩) := by
  rw [← h]
theorem drop_done1 {x : ByteArray} (h : 0 < x.size) (hb : blkN (bt x 0).toNat = false) : x.data.toList.dropWhile blkC = x.data.toList := by
  obtain ⟨l, e⟩ := toList_cons h
  rw [e, List.dropWhile_cons, if_neg]
  show ¬ (blkN (bt x 0).toNat = true)
  rw [hb]; simp
set_option maxRecDepth 8000 in
theorem trim_ (s : ByteArray) (hs : s.size ≤ 5000) (w : World) : Calls Tryd.prog 20 #[.string s] w fun e w' => e = .returned (.string ⟨(trim s.data.toList).toArray⟩) ∧ w = w' := by
  go_enter Tryd.func20, Tryd.ntmps20
  go_wp2_with fail
  go_loop [0] (fun v => ∃ x : ByteArray, v = .string x ∧ Hid (x.size ≤ 5000 ∧ x.data.toList.dropWhile blkC = s.data.toList.dropWhile blkC)) (fun v => strSize v)
  case atStart => exact ⟨s, rfl, Lib.hid ⟨hs, rfl⟩⟩
  case round =>
    obtain ⟨x, rfl, hR⟩ := hrel
    have hx := hR.out.1
    rcases Nat.eq_zero_or_pos x.size with h0 | h0
    · have he := toList_empty h0
      have hd := drop_done0 h0
      rw [hR.out.2] at hd
      have HD := Lib.hid hd
      clear hd
      have H0 := Lib.hid h0
      clear h0
      go_wp2_with fail
      go_loop [0] (fun v => ∃ y : ByteArray, v = .string y ∧ Hid (y.size ≤ 5000 ∧ trimR y.data.toList = trim s.data.toList)) (fun v => strSize v)
      case atStart => exact ⟨x, rfl, Lib.hid ⟨hx, by unfold trim; rw [HD.out]⟩⟩
      case round =>
        obtain ⟨y, rfl, hY⟩ := hrel
        have hy := hY.out.1
        rcases Nat.eq_zero_or_pos y.size with g0 | g0
        · have ge := toList_empty g0
          have HG := Lib.hid (trimR_done0 g0)
          clear g0
          go_wp2_with fail
          go_ret
          exact ⟨ret_of (HG.out.symm.trans hY.out.2), rfl⟩
        · have ge := toList_full g0
          have k0 : (0 : Int) ≤ (y.size : Int) - 1 := by omega
          have k1 : (y.size : Int) - 1 < (y.size : Int) := by omega
          have k2 : ((y.size : Int) - 1).toNat = y.size - 1 := by omega
          have k3 : y.size - 1 < y.size := by omega
          have f1 := (bt y (y.size - 1)).toNat_lt
          have B1 := fun b (hb : blkN (bt y (y.size - 1)).toNat = b) (z : World) => blank ((bt y (y.size - 1)).toNat : Int) (by omega) (by omega) b (by simpa using hb) z
          rw [← bt_at k3] at B1
          cases hb1 : blkN (bt y (y.size - 1)).toNat with
          | true =>
            have C1 := B1 true (by rw [bt_at k3]; exact hb1)
            have H1 := Lib.hid (trimR_step g0 hb1)
            clear hb1 B1
            go_wp2_with (first | (go_at_call 30; with_reducible refine (C1 _).mono ?_; rintro e w' ⟨rfl, rfl⟩) | fail)
            go_round
            case rel => exact ⟨_, rfl, Lib.hid ⟨by rw [ByteArray.size_extract]; omega, H1.out.trans hY.out.2⟩⟩
            case measure =>
              show (y.extract 0 (y.size - 1)).size < y.size
              rw [ByteArray.size_extract]; omega
          | false =>
            have C1 := B1 false (by rw [bt_at k3]; exact hb1)
            have H1 := Lib.hid (trimR_done1 g0 hb1)
            clear hb1 B1
            go_wp2_with (first | (go_at_call 30; with_reducible refine (C1 _).mono ?_; rintro e w' ⟨rfl, rfl⟩) | fail)
            go_ret
            exact ⟨ret_of (H1.out.symm.trans hY.out.2), rfl⟩
    · have he := toList_full h0
      have f0 := (bt x 0).toNat_lt
      have B0 := fun b (hb : blkN (bt x 0).toNat = b) (y : World) => blank ((bt x 0).toNat : Int) (by omega) (by omega) b (by simpa using hb) y
      rw [← bt_at h0] at B0
      cases hb0 : blkN (bt x 0).toNat with
      | true =>
        have C0 := B0 true (by rw [bt_at h0]; exact hb0)
        have H0 := Lib.hid (drop_step h0 hb0)
        clear hb0 B0
        go_wp2_with (first | (go_at_call 30; with_reducible refine (C0 _).mono ?_; rintro e w' ⟨rfl, rfl⟩) | fail)
        go_round
        case rel => exact ⟨_, rfl, Lib.hid ⟨by rw [ByteArray.size_extract]; omega, H0.out.trans hR.out.2⟩⟩
        case measure =>
          show (x.extract 1 x.size).size < x.size
          rw [ByteArray.size_extract]; omega
      | false =>
        have C0 := B0 false (by rw [bt_at h0]; exact hb0)
        have hd := drop_done1 h0 hb0
        rw [hR.out.2] at hd
        have HD := Lib.hid hd
        clear hd hb0 B0
        go_wp2_with (first | (go_at_call 30; with_reducible refine (C0 _).mono ?_; rintro e w' ⟨rfl, rfl⟩) | fail)
        go_loop [0] (fun v => ∃ y : ByteArray, v = .string y ∧ Hid (y.size ≤ 5000 ∧ trimR y.data.toList = trim s.data.toList)) (fun v => strSize v)
        case atStart => exact ⟨x, rfl, Lib.hid ⟨hx, by unfold trim; rw [HD.out]⟩⟩
        case round =>
          obtain ⟨y, rfl, hY⟩ := hrel
          have hy := hY.out.1
          rcases Nat.eq_zero_or_pos y.size with g0 | g0
          · have ge := toList_empty g0
            have HG := Lib.hid (trimR_done0 g0)
            clear g0
            go_wp2_with fail
            go_ret
            exact ⟨ret_of (HG.out.symm.trans hY.out.2), rfl⟩
          · have ge := toList_full g0
            have k0 : (0 : Int) ≤ (y.size : Int) - 1 := by omega
            have k1 : (y.size : Int) - 1 < (y.size : Int) := by omega
            have k2 : ((y.size : Int) - 1).toNat = y.size - 1 := by omega
            have k3 : y.size - 1 < y.size := by omega
            have f1 := (bt y (y.size - 1)).toNat_lt
            have B1 := fun b (hb : blkN (bt y (y.size - 1)).toNat = b) (z : World) => blank ((bt y (y.size - 1)).toNat : Int) (by omega) (by omega) b (by simpa using hb) z
            rw [← bt_at k3] at B1
            cases hb1 : blkN (bt y (y.size - 1)).toNat with
            | true =>
              have C1 := B1 true (by rw [bt_at k3]; exact hb1)
              have H1 := Lib.hid (trimR_step g0 hb1)
              clear hb1 B1
              go_wp2_with (first | (go_at_call 30; with_reducible refine (C1 _).mono ?_; rintro e w' ⟨rfl, rfl⟩) | fail)
              go_round
              case rel => exact ⟨_, rfl, Lib.hid ⟨by rw [ByteArray.size_extract]; omega, H1.out.trans hY.out.2⟩⟩
              case measure =>
                show (y.extract 0 (y.size - 1)).size < y.size
                rw [ByteArray.size_extract]; omega
            | false =>
              have C1 := B1 false (by rw [bt_at k3]; exact hb1)
              have H1 := Lib.hid (trimR_done1 g0 hb1)
              clear hb1 B1
              go_wp2_with (first | (go_at_call 30; with_reducible refine (C1 _).mono ?_; rintro e w' ⟨rfl, rfl⟩) | fail)
              go_ret
              exact ⟨ret_of (H1.out.symm.trans hY.out.2), rfl⟩
end Go.Proofs.YthjkpfnkahfdgaaDoor.answerRead
