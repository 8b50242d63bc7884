/- Words and values, walked: loops over a text's bytes. Printed by gen_words.py. -/
import Derived.Test.YtjcbohpemfmpiaaDoorHd
import Derived.Test.YtjcbohpemfmpiaaDoorHc
import Derived.IntWalk
namespace Go.Proofs.YtjcbohpemfmpiaaDoor.headLong
set_option linter.unusedVariables false
set_option linter.unusedSimpArgs false
open Go.ChangeShapes Go.WideShapes Go.ChangeAt Go.RowKit Go.Hl Go.Hg
def sgI (n : Int) : Int := Lib.indexByte signs n.toNat.toUInt8
theorem sgI_all : ∀ n, n < 256 → (signs.contains (UInt8.ofNat n) = true ∧ 0 ≤ Lib.indexByte signs (UInt8.ofNat n)) ∨ (signs.contains (UInt8.ofNat n) = false ∧ Lib.indexByte signs (UInt8.ofNat n) < 0) := by decide +kernel
theorem sgI_yes {c : UInt8} (h : signs.contains c = true) : 0 ≤ sgI (c.toNat : Int) := by
  rcases sgI_all c.toNat c.toNat_lt with ⟨_, a⟩ | ⟨a, _⟩
  · exact a
  · rw [UInt8.ofNat_toNat, h] at a; cases a
theorem sgI_no {c : UInt8} (h : signs.contains c = false) : sgI (c.toNat : Int) < 0 := by
  rcases sgI_all c.toNat c.toNat_lt with ⟨a, _⟩ | ⟨_, a⟩
  · rw [UInt8.ofNat_toNat, h] at a; cases a
  · exact a
theorem sign (n : Int) (w : World) : Calls Tryd.prog 53 #[.string ⟨#[33, 35, 36, 37, 38, 39, 42, 43, 45, 46, 94, 95, 96, 124, 126]⟩, .int .u8 n] w fun e w' => e = .returned (.int .i64 (sgI n)) ∧ w = w' :=
  (lib_IndexByte _ n w).mono fun e w' ⟨h, k⟩ => ⟨h, k.symm⟩
def neC (c x : UInt8) : Bool := x != c
theorem toList_empty {s : ByteArray} (h : s.size = 0) : s.toList.isEmpty = true := by rw [ByteArray.toList_eq]; exact empty_eq0 h
theorem toList_full {s : ByteArray} (h : 0 < s.size) : s.toList.isEmpty = false := by rw [ByteArray.toList_eq]; exact empty_eq h
theorem val_empty {s : ByteArray} (h : s.data.toList.all valC = true) (h0 : s.size = 0) : val s.data.toList = true := by
  unfold val; rw [h, empty_eq0 h0]; rfl
theorem bt_first {s : ByteArray} (h0 : 0 < s.size) : s.data.toList.headD 0 = bt s 0 := by
  unfold bt
  cases s.data.toList with
  | nil => rfl
  | cons b l => rfl
theorem bt_last {s : ByteArray} (h0 : 0 < s.size) : s.data.toList.getLastD 0 = bt s (s.size - 1) := by
  unfold bt
  have e : s.size = s.data.toList.length := (Array.length_toList (xs := s.data)).symm
  rw [e, ← List.getLast?_eq_getElem?, List.getLastD_eq_getLast?]
theorem val_full {s : ByteArray} (h : s.data.toList.all valC = true) (h0 : 0 < s.size) : val s.data.toList = (!blkN (bt s 0).toNat && !blkN (bt s (s.size - 1)).toNat) := by
  unfold val; rw [h, empty_eq h0, bt_first h0, bt_last h0]; rfl
theorem contains_all {c : UInt8} (l : List UInt8) : l.contains c = !l.all (neC c) := by
  induction l with
  | nil => rfl
  | cons b l ih =>
    rw [List.contains_cons, List.all_cons, ih]
    by_cases h : c = b
    · subst h; simp [neC]
    · have h2 : (c == b) = false := beq_eq_false_iff_ne.2 h
      have h3 : neC c b = true := by unfold neC; rw [bne_iff_ne]; exact fun e => h e.symm
      rw [h2, h3]; simp
set_option maxRecDepth 8000 in
theorem token (s : ByteArray) (hs : s.size ≤ 5000) (w : World) : Calls Tryd.prog 37 #[.string s] w fun e w' => e = .returned (.bool (tkn s.data.toList)) ∧ w = w' := by
  have ha := fun k (h : k < s.size) => byte_all tokC h
  have hn := fun k (h : k < s.size) => all_not (p := tokC) h
  have HA := Lib.hid ha
  have HN := Lib.hid hn
  clear ha hn
  go_enter Tryd.func37, Tryd.ntmps37
  go_wp2_with fail
  go_loop [3, 6] (fun _ i => ∃ k : Nat, k ≤ s.size ∧ i = .int .i64 k ∧ Hid ((s.data.toList.take k).all tokC = true)) (fun _ i => s.size - (intOf i).toNat)
  case atStart => exact ⟨0, Nat.zero_le _, rfl, Lib.hid rfl⟩
  case round =>
    obtain ⟨k, hk, rfl, hR⟩ := hrel
    by_cases hlt : k < s.size
    · have h256 := (bt s k).toNat_lt
      have e := bt_at hlt
      have E1 := Lib.hid e
      clear e
      have J := fun (y : World) => sign ((bt s k).toNat : Int) y
      cases hl : letN (bt s k).toNat with
      | true =>
        have hw := show tokC (bt s k) = true by unfold tokC; rw [hl]; rfl
        have LT := fun (y : World) => letter ((bt s k).toNat : Int) (by omega) (by omega) true (by simpa using hl) y
        have hf := HA.out k hlt
        rw [hR.out, show tokC (bt s k) = true from hw] at hf
        have HF := Lib.hid hf
        clear hf
        have LT2 := LT
        rw [← E1.out] at LT2 J
        have HL := Lib.hid hl
        clear hl hw LT
        go_wp2_with (first | (go_at_call 52; with_reducible refine (LT2 _).mono ?_; rintro e w' ⟨rfl, rfl⟩) | (go_at_call 53; with_reducible refine (J _).mono ?_; rintro e w' ⟨rfl, rfl⟩) | fail)
        go_round
        case rel => exact ⟨k + 1, by omega, by go_num, HF⟩
        case measure => simp [intOf]; omega
      | false =>
        have LT := fun (y : World) => letter ((bt s k).toNat : Int) (by omega) (by omega) false (by simpa using hl) y
        cases hc : signs.contains (bt s k) with
        | true =>
          have hw := show tokC (bt s k) = true by unfold tokC; rw [hl, hc]; rfl
          have hj := sgI_yes hc
          rw [← E1.out] at hj
          have hf := HA.out k hlt
          rw [hR.out, show tokC (bt s k) = true from hw] at hf
          have HF := Lib.hid hf
          clear hf
          have LT2 := LT
          rw [← E1.out] at LT2 J
          have HL := Lib.hid hl
          have HC := Lib.hid hc
          clear hl hc hw LT
          go_wp2_with (first | (go_at_call 52; with_reducible refine (LT2 _).mono ?_; rintro e w' ⟨rfl, rfl⟩) | (go_at_call 53; with_reducible refine (J _).mono ?_; rintro e w' ⟨rfl, rfl⟩) | fail)
          go_round
          case rel => exact ⟨k + 1, by omega, by go_num, HF⟩
          case measure => simp [intOf]; omega
        | false =>
          have hw := show tokC (bt s k) = false by unfold tokC; rw [hl, hc]; rfl
          have hj := sgI_no hc
          rw [← E1.out] at hj
          have hf := HN.out k hlt (hw)
          have HF := Lib.hid hf
          clear hf
          have LT2 := LT
          rw [← E1.out] at LT2 J
          have HL := Lib.hid hl
          have HC := Lib.hid hc
          clear hl hc hw LT
          go_wp2_with (first | (go_at_call 52; with_reducible refine (LT2 _).mono ?_; rintro e w' ⟨rfl, rfl⟩) | (go_at_call 53; with_reducible refine (J _).mono ?_; rintro e w' ⟨rfl, rfl⟩) | fail)
          go_ret
          exact ⟨by rw [tkn, HF.out, Bool.and_false]; rfl, rfl⟩
    · have hks : k = s.size := by omega
      have hd : decide ((k : Int) < (s.size : Int)) = false := by simp; omega
      have H := hR.out
      rw [hks] at H
      have HT := Lib.hid (ne_tok H)
      clear H
      go_wp2
      go_ret
      refine ⟨?_, rfl⟩
      show Ending.returned (Value.bool (!s.toList.isEmpty)) = _
      exact congrArg (fun b => Ending.returned (Value.bool b)) (HT.out _ (not_empty s))
set_option maxRecDepth 8000 in
theorem in_ (s : ByteArray) (c : UInt8) (b : Bool) (hb : s.data.toList.contains c = b) (hs : s.size ≤ 5000) (w : World) : Calls Tryd.prog 57 #[.string s, .int .u8 (c.toNat : Int)] w fun e w' => e = .returned (.bool (b)) ∧ w = w' := by
  have HB := Lib.hid hb
  clear hb
  have ha := fun k (h : k < s.size) => byte_all (neC c) h
  have hn := fun k (h : k < s.size) => all_not (p := (neC c)) h
  have HA := Lib.hid ha
  have HN := Lib.hid hn
  clear ha hn
  go_enter Tryd.func57, Tryd.ntmps57
  go_wp2_with fail
  go_loop [5] (fun i => ∃ k : Nat, k ≤ s.size ∧ i = .int .i64 k ∧ Hid ((s.data.toList.take k).all (neC c) = true)) (fun i => s.size - (intOf i).toNat)
  case atStart => exact ⟨0, Nat.zero_le _, rfl, Lib.hid rfl⟩
  case round =>
    obtain ⟨k, hk, rfl, hR⟩ := hrel
    by_cases hlt : k < s.size
    · have h256 := (bt s k).toNat_lt
      have e := bt_at hlt
      have E1 := Lib.hid e
      clear e
      have hc256 := c.toNat_lt
      by_cases hq : bt s k = c
      · have hb : ((((bt s k).toNat : Int)) == (c.toNat : Int)) = true := by rw [hq]; exact beq_self_eq_true _
        have hf := HN.out k hlt (by simp [neC, hq])
        have HF := Lib.hid hf
        clear hf
        rw [← E1.out] at hb
        have HQ := Lib.hid hq
        clear hq
        go_wp2_with fail
        go_ret
        exact ⟨by rw [← HB.out, contains_all, HF.out]; rfl, rfl⟩
      · have hb : ((((bt s k).toNat : Int)) == (c.toNat : Int)) = false := by rw [beq_eq_false_iff_ne]; intro e; exact hq (UInt8.toNat_inj.1 (by omega))
        have hf := HA.out k hlt
        rw [hR.out, show neC c (bt s k) = true from by simp [neC, hq]] at hf
        have HF := Lib.hid hf
        clear hf
        rw [← E1.out] at hb
        have HQ := Lib.hid hq
        clear hq
        go_wp2_with fail
        go_round
        case rel => exact ⟨k + 1, by omega, by go_num, HF⟩
        case measure => simp [intOf]; omega
    · have hks : k = s.size := by omega
      have hd : decide ((k : Int) < (s.size : Int)) = false := by simp; omega
      have H := hR.out
      rw [hks] at H
      rw [all_take] at H
      have HT := Lib.hid H
      clear H
      go_wp2
      go_ret
      exact ⟨by rw [← HB.out, contains_all, HT.out]; rfl, rfl⟩
theorem in_signs (c : UInt8) (b : Bool) (hb : signs.contains c = b) (w : World) : Calls Tryd.prog 57 #[.string ⟨#[33, 35, 36, 37, 38, 39, 42, 43, 45, 46, 94, 95, 96, 124, 126]⟩, .int .u8 (c.toNat : Int)] w fun e w' => e = .returned (.bool b) ∧ w = w' :=
  in_ ⟨#[33, 35, 36, 37, 38, 39, 42, 43, 45, 46, 94, 95, 96, 124, 126]⟩ c b hb (by decide) w
set_option maxRecDepth 8000 in
theorem rtoken (s : ByteArray) (hs : s.size ≤ 5000) (w : World) : Calls Tryd.prog 42 #[.string s] w fun e w' => e = .returned (.bool (tkn s.data.toList)) ∧ w = w' := by
  have ha := fun k (h : k < s.size) => byte_all tokC h
  have hn := fun k (h : k < s.size) => all_not (p := tokC) h
  have HA := Lib.hid ha
  have HN := Lib.hid hn
  clear ha hn
  go_enter Tryd.func42, Tryd.ntmps42
  go_wp2_with fail
  go_loop [3] (fun i => ∃ k : Nat, k ≤ s.size ∧ i = .int .i64 k ∧ Hid ((s.data.toList.take k).all tokC = true)) (fun i => s.size - (intOf i).toNat)
  case atStart => exact ⟨0, Nat.zero_le _, rfl, Lib.hid rfl⟩
  case round =>
    obtain ⟨k, hk, rfl, hR⟩ := hrel
    by_cases hlt : k < s.size
    · have h256 := (bt s k).toNat_lt
      have e := bt_at hlt
      have E1 := Lib.hid e
      clear e
      have ND := fun b (hb : digN (bt s k).toNat = b) (y : World) => rdigit ((bt s k).toNat : Int) (by omega) (by omega) b (by simpa using hb) y
      have NL := fun b (hb : (lowN (bt s k).toNat || capN (bt s k).toNat) = b) (y : World) => rletter ((bt s k).toNat : Int) (by omega) (by omega) b (by simpa using hb) y
      have NI := fun b (hb : signs.contains (bt s k) = b) (y : World) => in_signs (bt s k) b hb y
      cases hd : digN (bt s k).toNat with
      | true =>
        have hw := show tokC (bt s k) = true by unfold tokC letN; rw [hd]; rfl
        have C1 := ND true hd
        have hf := HA.out k hlt
        rw [hR.out, show tokC (bt s k) = true from hw] at hf
        have HF := Lib.hid hf
        clear hf
        rw [← E1.out] at C1
        have HD := Lib.hid hd
        clear hd hw ND NL NI
        go_wp2_with (first | (go_at_call 50; with_reducible refine (C1 _).mono ?_; rintro e w' ⟨rfl, rfl⟩) | (go_at_call 56; with_reducible refine (C2 _).mono ?_; rintro e w' ⟨rfl, rfl⟩) | (go_at_call 57; with_reducible refine (C3 _).mono ?_; rintro e w' ⟨rfl, rfl⟩) | fail)
        go_round
        case rel => exact ⟨k + 1, by omega, by go_num, HF⟩
        case measure => simp [intOf]; omega
      | false =>
        have C1 := ND false hd
        cases hl : (lowN (bt s k).toNat || capN (bt s k).toNat) with
        | true =>
          have hw := show tokC (bt s k) = true by unfold tokC letN; rw [hd, hl]; rfl
          have C2 := NL true hl
          have hf := HA.out k hlt
          rw [hR.out, show tokC (bt s k) = true from hw] at hf
          have HF := Lib.hid hf
          clear hf
          rw [← E1.out] at C1 C2
          have HD := Lib.hid hd
          have HL := Lib.hid hl
          clear hd hl hw ND NL NI
          go_wp2_with (first | (go_at_call 50; with_reducible refine (C1 _).mono ?_; rintro e w' ⟨rfl, rfl⟩) | (go_at_call 56; with_reducible refine (C2 _).mono ?_; rintro e w' ⟨rfl, rfl⟩) | (go_at_call 57; with_reducible refine (C3 _).mono ?_; rintro e w' ⟨rfl, rfl⟩) | fail)
          go_round
          case rel => exact ⟨k + 1, by omega, by go_num, HF⟩
          case measure => simp [intOf]; omega
        | false =>
          have C2 := NL false hl
          cases hc : signs.contains (bt s k) with
          | true =>
            have hw := show tokC (bt s k) = true by unfold tokC letN; rw [hd, hl, hc]; rfl
            have C3 := NI true hc
            have hf := HA.out k hlt
            rw [hR.out, show tokC (bt s k) = true from hw] at hf
            have HF := Lib.hid hf
            clear hf
            rw [← E1.out] at C1 C2 C3
            have HD := Lib.hid hd
            have HL := Lib.hid hl
            have HC := Lib.hid hc
            clear hd hl hc hw ND NL NI
            go_wp2_with (first | (go_at_call 50; with_reducible refine (C1 _).mono ?_; rintro e w' ⟨rfl, rfl⟩) | (go_at_call 56; with_reducible refine (C2 _).mono ?_; rintro e w' ⟨rfl, rfl⟩) | (go_at_call 57; with_reducible refine (C3 _).mono ?_; rintro e w' ⟨rfl, rfl⟩) | fail)
            go_round
            case rel => exact ⟨k + 1, by omega, by go_num, HF⟩
            case measure => simp [intOf]; omega
          | false =>
            have hw := show tokC (bt s k) = false by unfold tokC letN; rw [hd, hl, hc]; rfl
            have C3 := NI false hc
            have hf := HN.out k hlt (hw)
            have HF := Lib.hid hf
            clear hf
            rw [← E1.out] at C1 C2 C3
            have HD := Lib.hid hd
            have HL := Lib.hid hl
            have HC := Lib.hid hc
            clear hd hl hc hw ND NL NI
            go_wp2_with (first | (go_at_call 50; with_reducible refine (C1 _).mono ?_; rintro e w' ⟨rfl, rfl⟩) | (go_at_call 56; with_reducible refine (C2 _).mono ?_; rintro e w' ⟨rfl, rfl⟩) | (go_at_call 57; with_reducible refine (C3 _).mono ?_; rintro e w' ⟨rfl, rfl⟩) | fail)
            go_ret
            exact ⟨by rw [tkn, HF.out, Bool.and_false]; rfl, rfl⟩
    · have hks : k = s.size := by omega
      have hd : decide ((k : Int) < (s.size : Int)) = false := by simp; omega
      have H := hR.out
      rw [hks] at H
      have HT := Lib.hid (ne_tok H)
      clear H
      go_wp2
      go_ret
      refine ⟨?_, rfl⟩
      show Ending.returned (Value.bool (!s.toList.isEmpty)) = _
      exact congrArg (fun b => Ending.returned (Value.bool b)) (HT.out _ (not_empty s))
set_option maxRecDepth 8000 in
theorem value (s : ByteArray) (hs : s.size ≤ 5000) (w : World) : Calls Tryd.prog 41 #[.string s] w fun e w' => e = .returned (.bool (val s.data.toList)) ∧ w = w' := by
  have ha := fun k (h : k < s.size) => byte_all valC h
  have hn := fun k (h : k < s.size) => all_not (p := valC) h
  have HA := Lib.hid ha
  have HN := Lib.hid hn
  clear ha hn
  go_enter Tryd.func41, Tryd.ntmps41
  go_wp2_with fail
  go_loop [3, 4, 7] (fun _ _ i => ∃ k : Nat, k ≤ s.size ∧ i = .int .i64 k ∧ Hid ((s.data.toList.take k).all valC = true)) (fun _ _ i => s.size - (intOf i).toNat)
  case atStart => exact ⟨0, Nat.zero_le _, rfl, Lib.hid rfl⟩
  case round =>
    obtain ⟨k, hk, rfl, hR⟩ := hrel
    by_cases hlt : k < s.size
    · have h256 := (bt s k).toNat_lt
      have e := bt_at hlt
      have E1 := Lib.hid e
      clear e
      rcases (by omega : (bt s k).toNat < 9 ∨ (bt s k).toNat = 9 ∨ (9 < (bt s k).toNat ∧ (bt s k).toNat < 32) ∨ (32 ≤ (bt s k).toNat ∧ (bt s k).toNat < 127) ∨ (bt s k).toNat = 127 ∨ 127 < (bt s k).toNat) with h | h | ⟨h, h'⟩ | ⟨h, h'⟩ | h | h
      · have hf := HN.out k hlt (by simp [valC]; omega)
        have HF := Lib.hid hf
        clear hf
        have q9 : (((bt s k).toNat : Int) == 9) = false := by rw [beq_eq_false_iff_ne]; omega
        have p9 : (((bt s k).toNat : Int) != 9) = true := by rw [bne_iff_ne]; omega
        have q7 : (((bt s k).toNat : Int) == 127) = false := by rw [beq_eq_false_iff_ne]; omega
        have hx : (bt s k).toNat < 32 := by omega
        have HH := Lib.hid h
        clear h
        rw [← E1.out] at hx q9 p9 q7
        go_wp2_with fail
        go_ret
        exact ⟨by rw [val, HF.out, Bool.false_and]; rfl, rfl⟩
      · have hf := HA.out k hlt
        rw [hR.out, show valC (bt s k) = true from by simp [valC]; omega] at hf
        have HF := Lib.hid hf
        clear hf
        have q9 : (((bt s k).toNat : Int) == 9) = true := beq_iff_eq.2 (by omega)
        have p9 : (((bt s k).toNat : Int) != 9) = false := by rw [bne_eq_false_iff_eq]; omega
        have q7 : (((bt s k).toNat : Int) == 127) = false := by rw [beq_eq_false_iff_ne]; omega
        have hx : (bt s k).toNat < 32 := by omega
        have HH := Lib.hid h
        clear h
        rw [← E1.out] at hx q9 p9 q7
        go_wp2_with fail
        go_round
        case rel => exact ⟨k + 1, by omega, by go_num, HF⟩
        case measure => simp [intOf]; omega
      · have hf := HN.out k hlt (by simp [valC]; omega)
        have HF := Lib.hid hf
        clear hf
        have q9 : (((bt s k).toNat : Int) == 9) = false := by rw [beq_eq_false_iff_ne]; omega
        have p9 : (((bt s k).toNat : Int) != 9) = true := by rw [bne_iff_ne]; omega
        have q7 : (((bt s k).toNat : Int) == 127) = false := by rw [beq_eq_false_iff_ne]; omega
        have hx : (bt s k).toNat < 32 := by omega
        have HH := Lib.hid h
        clear h
        rw [← E1.out] at hx q9 p9 q7
        go_wp2_with fail
        go_ret
        exact ⟨by rw [val, HF.out, Bool.false_and]; rfl, rfl⟩
      · have hf := HA.out k hlt
        rw [hR.out, show valC (bt s k) = true from by simp [valC]; omega] at hf
        have HF := Lib.hid hf
        clear hf
        have q9 : (((bt s k).toNat : Int) == 9) = false := by rw [beq_eq_false_iff_ne]; omega
        have p9 : (((bt s k).toNat : Int) != 9) = true := by rw [bne_iff_ne]; omega
        have q7 : (((bt s k).toNat : Int) == 127) = false := by rw [beq_eq_false_iff_ne]; omega
        have hx : (bt s k).toNat ≥ 32 := by omega
        have HH := Lib.hid h
        clear h
        rw [← E1.out] at hx q9 p9 q7
        go_wp2_with fail
        go_round
        case rel => exact ⟨k + 1, by omega, by go_num, HF⟩
        case measure => simp [intOf]; omega
      · have hf := HN.out k hlt (by simp [valC]; omega)
        have HF := Lib.hid hf
        clear hf
        have q9 : (((bt s k).toNat : Int) == 9) = false := by rw [beq_eq_false_iff_ne]; omega
        have p9 : (((bt s k).toNat : Int) != 9) = true := by rw [bne_iff_ne]; omega
        have q7 : (((bt s k).toNat : Int) == 127) = true := beq_iff_eq.2 (by omega)
        have hx : (bt s k).toNat ≥ 32 := by omega
        have HH := Lib.hid h
        clear h
        rw [← E1.out] at hx q9 p9 q7
        go_wp2_with fail
        go_ret
        exact ⟨by rw [val, HF.out, Bool.false_and]; rfl, rfl⟩
      · have hf := HA.out k hlt
        rw [hR.out, show valC (bt s k) = true from by simp [valC]; omega] at hf
        have HF := Lib.hid hf
        clear hf
        have q9 : (((bt s k).toNat : Int) == 9) = false := by rw [beq_eq_false_iff_ne]; omega
        have p9 : (((bt s k).toNat : Int) != 9) = true := by rw [bne_iff_ne]; omega
        have q7 : (((bt s k).toNat : Int) == 127) = false := by rw [beq_eq_false_iff_ne]; omega
        have hx : (bt s k).toNat ≥ 32 := by omega
        have HH := Lib.hid h
        clear h
        rw [← E1.out] at hx q9 p9 q7
        go_wp2_with fail
        go_round
        case rel => exact ⟨k + 1, by omega, by go_num, HF⟩
        case measure => simp [intOf]; omega
    · have hks : k = s.size := by omega
      have hd : decide ((k : Int) < (s.size : Int)) = false := by simp; omega
      have H := hR.out
      rw [hks] at H
      rw [all_take] at H
      have HT := Lib.hid H
      clear H
      rcases Nat.eq_zero_or_pos s.size with h0 | h0
      · have he := toList_empty h0
        have HZ := Lib.hid h0
        clear h0
        go_wp2_with fail
        go_ret
        exact ⟨by rw [val_empty HT.out HZ.out]; rfl, rfl⟩
      · have he := toList_full h0
        have g0 : (0 : Int) ≤ (s.size : Int) - 1 := by omega
        have g1 : (s.size : Int) - 1 < (s.size : Int) := by omega
        have gt : ((s.size : Int) - 1).toNat = s.size - 1 := by omega
        have gl : s.size - 1 < s.size := by omega
        have hv := val_full HT.out h0
        have HV := Lib.hid hv
        clear hv
        have f0 := (bt s 0).toNat_lt
        have f1 := (bt s (s.size - 1)).toNat_lt
        have B0 := fun b (hb : blkN (bt s 0).toNat = b) (y : World) => blank ((bt s 0).toNat : Int) (by omega) (by omega) b (by simpa using hb) y
        have B1 := fun b (hb : blkN (bt s (s.size - 1)).toNat = b) (y : World) => blank ((bt s (s.size - 1)).toNat : Int) (by omega) (by omega) b (by simpa using hb) y
        rw [← bt_at h0] at B0
        rw [← bt_at gl] at B1
        cases hb0 : blkN (bt s 0).toNat with
        | true =>
          have C0 := B0 true (by rw [bt_at h0]; exact hb0)
          have H0 := Lib.hid hb0
          clear hb0 B0 B1
          go_wp2_with (first | (go_at_call 55; with_reducible refine (C0 _).mono ?_; rintro e w' ⟨rfl, rfl⟩) | fail)
          go_ret
          exact ⟨by rw [HV.out, H0.out]; rfl, rfl⟩
        | false =>
          have C0 := B0 false (by rw [bt_at h0]; exact hb0)
          cases hb1 : blkN (bt s (s.size - 1)).toNat with
          | true =>
            have C1 := B1 true (by rw [bt_at gl]; exact hb1)
            have H0 := Lib.hid hb0
            have H1 := Lib.hid hb1
            clear hb0 hb1 B0 B1
            go_wp2_with (first | (go_at_call 55; with_reducible refine (C0 _).mono ?_; rintro e w' ⟨rfl, rfl⟩) | (go_at_call 55; with_reducible refine (C1 _).mono ?_; rintro e w' ⟨rfl, rfl⟩) | fail)
            go_ret
            exact ⟨by rw [HV.out, H0.out, H1.out]; rfl, rfl⟩
          | false =>
            have C1 := B1 false (by rw [bt_at gl]; exact hb1)
            have H0 := Lib.hid hb0
            have H1 := Lib.hid hb1
            clear hb0 hb1 B0 B1
            go_wp2_with (first | (go_at_call 55; with_reducible refine (C0 _).mono ?_; rintro e w' ⟨rfl, rfl⟩) | (go_at_call 55; with_reducible refine (C1 _).mono ?_; rintro e w' ⟨rfl, rfl⟩) | fail)
            go_ret
            exact ⟨by rw [HV.out, H0.out, H1.out]; rfl, rfl⟩
set_option maxRecDepth 8000 in
theorem rvalue (s : ByteArray) (hs : s.size ≤ 5000) (w : World) : Calls Tryd.prog 43 #[.string s] w fun e w' => e = .returned (.bool (val s.data.toList)) ∧ w = w' := by
  have ha := fun k (h : k < s.size) => byte_all valC h
  have hn := fun k (h : k < s.size) => all_not (p := valC) h
  have HA := Lib.hid ha
  have HN := Lib.hid hn
  clear ha hn
  go_enter Tryd.func43, Tryd.ntmps43
  go_wp2_with fail
  go_loop [3] (fun i => ∃ k : Nat, k ≤ s.size ∧ i = .int .i64 k ∧ Hid ((s.data.toList.take k).all valC = true)) (fun i => s.size - (intOf i).toNat)
  case atStart => exact ⟨0, Nat.zero_le _, rfl, Lib.hid rfl⟩
  case round =>
    obtain ⟨k, hk, rfl, hR⟩ := hrel
    by_cases hlt : k < s.size
    · have h256 := (bt s k).toNat_lt
      have e := bt_at hlt
      have E1 := Lib.hid e
      clear e
      rcases (by omega : (bt s k).toNat < 9 ∨ (bt s k).toNat = 9 ∨ (9 < (bt s k).toNat ∧ (bt s k).toNat < 32) ∨ (32 ≤ (bt s k).toNat ∧ (bt s k).toNat < 127) ∨ (bt s k).toNat = 127 ∨ 127 < (bt s k).toNat) with h | h | ⟨h, h'⟩ | ⟨h, h'⟩ | h | h
      · have hf := HN.out k hlt (by simp [valC]; omega)
        have HF := Lib.hid hf
        clear hf
        have q9 : (((bt s k).toNat : Int) == 9) = false := by rw [beq_eq_false_iff_ne]; omega
        have p9 : (((bt s k).toNat : Int) != 9) = true := by rw [bne_iff_ne]; omega
        have q7 : (((bt s k).toNat : Int) == 127) = false := by rw [beq_eq_false_iff_ne]; omega
        have hx : (bt s k).toNat < 32 := by omega
        have HH := Lib.hid h
        clear h
        rw [← E1.out] at hx q9 p9 q7
        go_wp2_with fail
        go_ret
        exact ⟨by rw [val, HF.out, Bool.false_and]; rfl, rfl⟩
      · have hf := HA.out k hlt
        rw [hR.out, show valC (bt s k) = true from by simp [valC]; omega] at hf
        have HF := Lib.hid hf
        clear hf
        have q9 : (((bt s k).toNat : Int) == 9) = true := beq_iff_eq.2 (by omega)
        have p9 : (((bt s k).toNat : Int) != 9) = false := by rw [bne_eq_false_iff_eq]; omega
        have q7 : (((bt s k).toNat : Int) == 127) = false := by rw [beq_eq_false_iff_ne]; omega
        have hx : (bt s k).toNat < 32 := by omega
        have HH := Lib.hid h
        clear h
        rw [← E1.out] at hx q9 p9 q7
        go_wp2_with fail
        go_round
        case rel => exact ⟨k + 1, by omega, by go_num, HF⟩
        case measure => simp [intOf]; omega
      · have hf := HN.out k hlt (by simp [valC]; omega)
        have HF := Lib.hid hf
        clear hf
        have q9 : (((bt s k).toNat : Int) == 9) = false := by rw [beq_eq_false_iff_ne]; omega
        have p9 : (((bt s k).toNat : Int) != 9) = true := by rw [bne_iff_ne]; omega
        have q7 : (((bt s k).toNat : Int) == 127) = false := by rw [beq_eq_false_iff_ne]; omega
        have hx : (bt s k).toNat < 32 := by omega
        have HH := Lib.hid h
        clear h
        rw [← E1.out] at hx q9 p9 q7
        go_wp2_with fail
        go_ret
        exact ⟨by rw [val, HF.out, Bool.false_and]; rfl, rfl⟩
      · have hf := HA.out k hlt
        rw [hR.out, show valC (bt s k) = true from by simp [valC]; omega] at hf
        have HF := Lib.hid hf
        clear hf
        have q9 : (((bt s k).toNat : Int) == 9) = false := by rw [beq_eq_false_iff_ne]; omega
        have p9 : (((bt s k).toNat : Int) != 9) = true := by rw [bne_iff_ne]; omega
        have q7 : (((bt s k).toNat : Int) == 127) = false := by rw [beq_eq_false_iff_ne]; omega
        have hx : (bt s k).toNat ≥ 32 := by omega
        have HH := Lib.hid h
        clear h
        rw [← E1.out] at hx q9 p9 q7
        go_wp2_with fail
        go_round
        case rel => exact ⟨k + 1, by omega, by go_num, HF⟩
        case measure => simp [intOf]; omega
      · have hf := HN.out k hlt (by simp [valC]; omega)
        have HF := Lib.hid hf
        clear hf
        have q9 : (((bt s k).toNat : Int) == 9) = false := by rw [beq_eq_false_iff_ne]; omega
        have p9 : (((bt s k).toNat : Int) != 9) = true := by rw [bne_iff_ne]; omega
        have q7 : (((bt s k).toNat : Int) == 127) = true := beq_iff_eq.2 (by omega)
        have hx : (bt s k).toNat ≥ 32 := by omega
        have HH := Lib.hid h
        clear h
        rw [← E1.out] at hx q9 p9 q7
        go_wp2_with fail
        go_ret
        exact ⟨by rw [val, HF.out, Bool.false_and]; rfl, rfl⟩
      · have hf := HA.out k hlt
        rw [hR.out, show valC (bt s k) = true from by simp [valC]; omega] at hf
        have HF := Lib.hid hf
        clear hf
        have q9 : (((bt s k).toNat : Int) == 9) = false := by rw [beq_eq_false_iff_ne]; omega
        have p9 : (((bt s k).toNat : Int) != 9) = true := by rw [bne_iff_ne]; omega
        have q7 : (((bt s k).toNat : Int) == 127) = false := by rw [beq_eq_false_iff_ne]; omega
        have hx : (bt s k).toNat ≥ 32 := by omega
        have HH := Lib.hid h
        clear h
        rw [← E1.out] at hx q9 p9 q7
        go_wp2_with fail
        go_round
        case rel => exact ⟨k + 1, by omega, by go_num, HF⟩
        case measure => simp [intOf]; omega
    · have hks : k = s.size := by omega
      have hd : decide ((k : Int) < (s.size : Int)) = false := by simp; omega
      have H := hR.out
      rw [hks] at H
      rw [all_take] at H
      have HT := Lib.hid H
      clear H
      rcases Nat.eq_zero_or_pos s.size with h0 | h0
      · have he := toList_empty h0
        have HZ := Lib.hid h0
        clear h0
        go_wp2_with fail
        go_ret
        exact ⟨by rw [val_empty HT.out HZ.out]; rfl, rfl⟩
      · have he := toList_full h0
        have g0 : (0 : Int) ≤ (s.size : Int) - 1 := by omega
        have g1 : (s.size : Int) - 1 < (s.size : Int) := by omega
        have gt : ((s.size : Int) - 1).toNat = s.size - 1 := by omega
        have gl : s.size - 1 < s.size := by omega
        have hv := val_full HT.out h0
        have HV := Lib.hid hv
        clear hv
        have f0 := (bt s 0).toNat_lt
        have f1 := (bt s (s.size - 1)).toNat_lt
        have B0 := fun b (hb : blkN (bt s 0).toNat = b) (y : World) => rblank ((bt s 0).toNat : Int) (by omega) (by omega) b (by simpa using hb) y
        have B1 := fun b (hb : blkN (bt s (s.size - 1)).toNat = b) (y : World) => rblank ((bt s (s.size - 1)).toNat : Int) (by omega) (by omega) b (by simpa using hb) y
        rw [← bt_at h0] at B0
        rw [← bt_at gl] at B1
        cases hb0 : blkN (bt s 0).toNat with
        | true =>
          have C0 := B0 true (by rw [bt_at h0]; exact hb0)
          have H0 := Lib.hid hb0
          clear hb0 B0 B1
          go_wp2_with (first | (go_at_call 58; with_reducible refine (C0 _).mono ?_; rintro e w' ⟨rfl, rfl⟩) | fail)
          go_ret
          exact ⟨by rw [HV.out, H0.out]; rfl, rfl⟩
        | false =>
          have C0 := B0 false (by rw [bt_at h0]; exact hb0)
          cases hb1 : blkN (bt s (s.size - 1)).toNat with
          | true =>
            have C1 := B1 true (by rw [bt_at gl]; exact hb1)
            have H0 := Lib.hid hb0
            have H1 := Lib.hid hb1
            clear hb0 hb1 B0 B1
            go_wp2_with (first | (go_at_call 58; with_reducible refine (C0 _).mono ?_; rintro e w' ⟨rfl, rfl⟩) | (go_at_call 58; with_reducible refine (C1 _).mono ?_; rintro e w' ⟨rfl, rfl⟩) | fail)
            go_ret
            exact ⟨by rw [HV.out, H0.out, H1.out]; rfl, rfl⟩
          | false =>
            have C1 := B1 false (by rw [bt_at gl]; exact hb1)
            have H0 := Lib.hid hb0
            have H1 := Lib.hid hb1
            clear hb0 hb1 B0 B1
            go_wp2_with (first | (go_at_call 58; with_reducible refine (C0 _).mono ?_; rintro e w' ⟨rfl, rfl⟩) | (go_at_call 58; with_reducible refine (C1 _).mono ?_; rintro e w' ⟨rfl, rfl⟩) | fail)
            go_ret
            exact ⟨by rw [HV.out, H0.out, H1.out]; rfl, rfl⟩
end Go.Proofs.YtjcbohpemfmpiaaDoor.headLong
