/- Words, first lines, fields and heads, as the document reads them and as the program does: plain lists of bytes. -/
import Derived.Lib.SplitLaws
namespace Go.Hl
set_option linter.unusedVariables false
set_option linter.unusedSimpArgs false
def digN (n : Nat) : Bool := decide (48 ≤ n) && decide (n ≤ 57)
def lowN (n : Nat) : Bool := decide (97 ≤ n) && decide (n ≤ 122)
def capN (n : Nat) : Bool := decide (65 ≤ n) && decide (n ≤ 90)
def letN (n : Nat) : Bool := digN n || (lowN n || capN n)
def signs : List UInt8 := [33, 35, 36, 37, 38, 39, 42, 43, 45, 46, 94, 95, 96, 124, 126]
def http : List UInt8 := [72, 84, 84, 80, 47, 49, 46, 49]
def tokC (c : UInt8) : Bool := letN c.toNat || signs.contains c
def tgtC (c : UInt8) : Bool := decide (33 ≤ c.toNat) && decide (c.toNat ≤ 126)
def valC (c : UInt8) : Bool := !((decide (c.toNat < 32) && !decide (c.toNat = 9)) || decide (c.toNat = 127))
def blkN (n : Nat) : Bool := decide (n = 32) || decide (n = 9)
def blkC (c : UInt8) : Bool := blkN c.toNat
def tkn (l : List UInt8) : Bool := !l.isEmpty && l.all tokC
def tgt (l : List UInt8) : Bool := !l.isEmpty && l.all tgtC
def val (l : List UInt8) : Bool := l.all valC && (l.isEmpty || (!blkC (l.headD 0) && !blkC (l.getLastD 0)))
def trimR (l : List UInt8) : List UInt8 := (l.reverse.dropWhile blkC).reverse
def trim (l : List UInt8) : List UInt8 := trimR (l.dropWhile blkC)

/- One byte cut out. -/
theorem index_no {c : UInt8} : ∀ {l : List UInt8}, c ∉ l → Lib.index l [c] = -1
  | [], _ => rfl
  | b :: l, h => by
    have hb : ¬ (c = b) := fun e => h (by simp [e])
    have hl : c ∉ l := fun e => h (by simp [e])
    have e : [c].isPrefixOf (b :: l) = false := by simp [List.isPrefixOf, hb]
    unfold Lib.index
    rw [e, index_no hl]
    rfl
theorem index_at {c : UInt8} {r : List UInt8} : ∀ {a : List UInt8}, c ∉ a → Lib.index (a ++ c :: r) [c] = a.length
  | [], _ => by
    show Lib.index (c :: r) [c] = 0
    unfold Lib.index
    rw [if_pos (by simp [List.isPrefixOf])]
  | b :: a, h => by
    have hb : ¬ (c = b) := fun e => h (by simp [e])
    have hl : c ∉ a := fun e => h (by simp [e])
    have e : [c].isPrefixOf (b :: (a ++ c :: r)) = false := by simp [List.isPrefixOf, hb]
    show Lib.index (b :: (a ++ c :: r)) [c] = _
    unfold Lib.index
    rw [e, index_at hl]
    have : ((a.length : Int) == -1) = false := by rw [beq_eq_false_iff_ne]; omega
    simp [this]
theorem split_no {c : UInt8} {l : List UInt8} (h : c ∉ l) : Lib.split l [c] = [l] := by
  unfold Lib.split
  rw [Lib.count_miss (index_no h)]
  rfl
theorem drop_len {α : Type} (a r : List α) (c : α) : (a ++ c :: r).drop (a.length + 1) = r := by
  rw [← List.drop_drop, List.drop_left]; rfl
theorem split_at {c : UInt8} {a r : List UInt8} (h : c ∉ a) : Lib.split (a ++ c :: r) [c] = a :: Lib.split r [c] := by
  unfold Lib.split
  have hi := index_at (r := r) h
  rw [Lib.count_hit (by simp) hi, Nat.add_comm]
  show Lib.splitK [c] 0 (Lib.count ((a ++ c :: r).drop (a.length + 1)) [c] + 1) (a ++ c :: r) = _
  rw [drop_len]
  conv => lhs; unfold Lib.splitK
  have e : ((a.length : Int) == -1) = false := by rw [beq_eq_false_iff_ne]; omega
  rw [hi, e]
  simp only [Bool.false_eq_true, if_false, Int.toNat_natCast, Nat.add_zero, List.take_left, List.length_cons, List.length_nil, Nat.zero_add]
  rw [drop_len]
theorem cut_no {c : UInt8} {l : List UInt8} (h : c ∉ l) : Lib.cut l [c] = (l, [], false) := by
  unfold Lib.cut
  rw [index_no h]
  rfl
theorem cut_at {c : UInt8} {a r : List UInt8} (h : c ∉ a) : Lib.cut (a ++ c :: r) [c] = (a, r, true) := by
  unfold Lib.cut
  rw [index_at h, if_pos (by omega)]
  simp only [Int.toNat_natCast, List.take_left, List.length_cons, List.length_nil, Nat.zero_add]
  rw [drop_len]
/-- A list has the byte, or not. -/
theorem part {c : UInt8} : ∀ l : List UInt8, c ∉ l ∨ ∃ a r, l = a ++ c :: r ∧ c ∉ a
  | [] => .inl (by simp)
  | b :: l => by
    by_cases hb : b = c
    · subst hb; exact .inr ⟨[], l, rfl, by simp⟩
    · rcases part (c := c) l with h | ⟨a, r, rfl, h⟩
      · exact .inl (by simp [h]; exact fun e => hb e.symm)
      · exact .inr ⟨b :: a, r, rfl, by simp [h]; exact fun e => hb e.symm⟩
theorem tw_at {c : UInt8} {r : List UInt8} : ∀ {a : List UInt8}, c ∉ a → (a ++ c :: r).takeWhile (· != c) = a ∧ (a ++ c :: r).dropWhile (· != c) = c :: r
  | [], _ => by simp
  | b :: a, h => by
    have hb : b ≠ c := fun e => h (by simp [e])
    have hl : c ∉ a := fun e => h (by simp [e])
    have := tw_at (r := r) hl
    simp [hb, this.1, this.2]
theorem tw_no {c : UInt8} : ∀ {l : List UInt8}, c ∉ l → l.takeWhile (· != c) = l ∧ l.dropWhile (· != c) = []
  | [], _ => by simp
  | b :: l, h => by
    have hb : b ≠ c := fun e => h (by simp [e])
    have hl : c ∉ l := fun e => h (by simp [e])
    have := tw_no hl
    simp [hb, this.1, this.2]

/-- A first line, as the program reads it. -/
def lineF (l : List UInt8) : Option (List UInt8 × List UInt8) :=
  match Lib.split l [32] with
  | [a, b, c] => if tkn a && tgt b && c == http then some (a, b) else none
  | _ => none
/-- .. and as the document does. -/
def firstF (l : List UInt8) : Option (List UInt8 × List UInt8) :=
  match l.dropWhile (· != 32) with
  | [] => none
  | _ :: r => if tkn (l.takeWhile (· != 32)) && !(r.takeWhile tgtC).isEmpty && r.dropWhile tgtC == 32 :: http then some (l.takeWhile (· != 32), r.takeWhile tgtC) else none
theorem http_no : (32 : UInt8) ∉ http := by decide
/-- Behind the bytes of a target there stands a blank and no more of them. -/
theorem dw_tgt {s : List UInt8} : ∀ {b : List UInt8}, (32 : UInt8) ∉ b → (b.all tgtC = true ∧ (b ++ 32 :: s).takeWhile tgtC = b ∧ (b ++ 32 :: s).dropWhile tgtC = 32 :: s) ∨ (b.all tgtC = false ∧ ∀ u, (b ++ 32 :: s).dropWhile tgtC ≠ 32 :: u)
  | [], _ => .inl ⟨rfl, by have : tgtC 32 = false := by decide
                           simp [this]⟩
  | x :: b, h => by
    have hx : x ≠ 32 := fun e => h (by simp [e])
    have hl : (32 : UInt8) ∉ b := fun e => h (by simp [e])
    cases ht : tgtC x with
    | false =>
      refine .inr ⟨by simp [ht], fun u e => ?_⟩
      simp [ht] at e
      exact hx e.1
    | true =>
      rcases dw_tgt (s := s) hl with ⟨h1, h2, h3⟩ | ⟨h1, h2⟩
      · exact .inl ⟨by simp [ht, h1], by simp [ht, h2], by simp [ht, h3]⟩
      · exact .inr ⟨by simp [ht, h1], fun u => by simpa [ht] using h2 u⟩
theorem first_at {a r : List UInt8} (h : (32 : UInt8) ∉ a) : firstF (a ++ 32 :: r) = if tkn a && !(r.takeWhile tgtC).isEmpty && r.dropWhile tgtC == 32 :: http then some (a, r.takeWhile tgtC) else none := by
  unfold firstF
  rw [(tw_at h).1, (tw_at h).2]
theorem line_first (l : List UInt8) : lineF l = firstF l := by
  rcases part (c := 32) l with h | ⟨a, r, rfl, ha⟩
  · unfold lineF firstF
    rw [split_no h, (tw_no h).2]
  · rw [first_at ha]
    rcases part (c := 32) r with h | ⟨b, s, rfl, hb⟩
    · have e : lineF (a ++ 32 :: r) = none := by unfold lineF; rw [split_at ha, split_no h]
      rw [e]
      have hd : (r.dropWhile tgtC == 32 :: http) = false := by
        rw [beq_eq_false_iff_ne]
        intro e
        have : (32 : UInt8) ∈ r.dropWhile tgtC := by rw [e]; simp
        exact h ((List.dropWhile_sublist _).mem this)
      simp [hd]
    · rcases part (c := 32) s with h | ⟨c, u, rfl, hc⟩
      · have e : lineF (a ++ 32 :: (b ++ 32 :: s)) = if tkn a && tgt b && s == http then some (a, b) else none := by unfold lineF; rw [split_at ha, split_at hb, split_no h]
        rw [e]
        rcases dw_tgt (s := s) hb with ⟨h1, h2, h3⟩ | ⟨h1, h2⟩
        · rw [h2, h3]
          have : tgt b = !b.isEmpty := by unfold tgt; rw [h1, Bool.and_true]
          rw [this]
          have e2 : ((32 :: s : List UInt8) == 32 :: http) = (s == http) := by simp
          rw [e2]
        · have e1 : tgt b = false := by unfold tgt; rw [h1, Bool.and_false]
          have e2 : ((b ++ 32 :: s).dropWhile tgtC == 32 :: http) = false := by rw [beq_eq_false_iff_ne]; exact h2 http
          rw [e1, e2]
          simp
      · have e : lineF (a ++ 32 :: (b ++ 32 :: (c ++ 32 :: u))) = none := by
          unfold lineF
          rw [split_at ha, split_at hb, split_at hc]
          rcases part (c := 32) u with h | ⟨d, v, rfl, hd⟩
          · rw [split_no h]
          · rw [split_at hd]
        rw [e]
        have e2 : ((b ++ 32 :: (c ++ 32 :: u)).dropWhile tgtC == 32 :: http) = false := by
          rw [beq_eq_false_iff_ne]
          rcases dw_tgt (s := c ++ 32 :: u) hb with ⟨h1, h2, h3⟩ | ⟨h1, h2⟩
          · rw [h3]
            intro e
            have e : c ++ 32 :: u = http := by simpa using e
            exact http_no (by rw [← e]; simp)
          · exact h2 http
        rw [e2]
        simp

/-- A field's line, as the program reads it. -/
def cutF (l : List UInt8) : Option (List UInt8 × List UInt8) :=
  if (Lib.cut l [58]).2.2 && (tkn (Lib.cut l [58]).1 && val (trim (Lib.cut l [58]).2.1)) then some ((Lib.cut l [58]).1, trim (Lib.cut l [58]).2.1) else none
/-- .. and as the document does. -/
def fieldF (l : List UInt8) : Option (List UInt8 × List UInt8) :=
  match l.dropWhile (· != 58) with
  | [] => none
  | _ :: r => if tkn (l.takeWhile (· != 58)) && val (trim r) then some (l.takeWhile (· != 58), trim r) else none
theorem cut_field (l : List UInt8) : cutF l = fieldF l := by
  unfold cutF fieldF
  rcases part (c := 58) l with h | ⟨a, r, rfl, ha⟩
  · rw [cut_no h, (tw_no h).2]
    simp
  · rw [cut_at ha, (tw_at ha).1, (tw_at ha).2]
    simp

/- Heads. -/
structure Rd where
  m : List UInt8 := []
  t : List UInt8 := []
  fs : List (List UInt8 × List UInt8) := []
inductive Res where
  | bad (e : Int)
  | ok (r : Rd) (n : Nat)
def at0 (b : List UInt8) (i : Nat) : UInt8 := b[i]?.getD 0
def back (b : List UInt8) (i : Nat) : Bool := decide (0 < i) && at0 b (i - 1) == 13
/-- A fault's error at a place. -/
def ferr (i : Nat) : Int := if i < 2000 then 5 else 9
/-- As the program reads. -/
def hrd (b : List UInt8) : Nat → Nat → Nat → Bool → Rd → Res
  | 0, _, _, _, _ => if 2000 < b.length then .bad 9 else .bad 11
  | k + 1, i, fr, bg, r =>
    if at0 b i == 10 then
      if back b i then
        if ((b.take (i - 1)).drop fr).isEmpty && bg then (if 2000 < i + 1 then .bad 9 else .ok r (i + 1))
        else if bg then match fieldF ((b.take (i - 1)).drop fr) with
            | none => .bad (ferr i)
            | some f => if 20 ≤ r.fs.length then .bad (ferr i) else hrd b k (i + 1) (i + 1) true { r with fs := r.fs ++ [f] }
        else match firstF ((b.take (i - 1)).drop fr) with
          | none => .bad (ferr i)
          | some (m, t) => hrd b k (i + 1) (i + 1) true { r with m := m, t := t }
      else .bad (ferr i)
    else if back b i then .bad (ferr i)
    else hrd b k (i + 1) fr bg r
/-- As the document does. -/
def rd (b : List UInt8) : Nat → Nat → Nat → Bool → Rd → Res
  | 0, _, _, _, _ => .bad 11
  | k + 1, i, fr, bg, r =>
    if 2000 ≤ i then .bad 9
    else if at0 b i == 10 then
      if back b i then
        if bg then
          if ((b.take (i - 1)).drop fr).isEmpty then .ok r (i + 1)
          else match fieldF ((b.take (i - 1)).drop fr) with
            | none => .bad 5
            | some f => if 20 ≤ r.fs.length then .bad 5 else rd b k (i + 1) (i + 1) true { r with fs := r.fs ++ [f] }
        else match firstF ((b.take (i - 1)).drop fr) with
          | none => .bad 5
          | some (m, t) => rd b k (i + 1) (i + 1) true { r with m := m, t := t }
      else .bad 5
    else if back b i then .bad 5
    else rd b k (i + 1) fr bg r
theorem ferr_lt {i : Nat} (h : i < 2000) : ferr i = 5 := if_pos h
theorem ferr_ge {i : Nat} (h : 2000 ≤ i) : ferr i = 9 := if_neg (by omega)
theorem hrd_large {b : List UInt8} (hb : 2000 < b.length) : ∀ (k i fr : Nat) (bg : Bool) (r : Rd), 2000 ≤ i → hrd b k i fr bg r = .bad 9
  | 0, i, fr, bg, r, _ => if_pos hb
  | k + 1, i, fr, bg, r, h => by
    have e := ferr_ge h
    unfold hrd
    split
    · split
      · split
        · rw [if_pos (by omega)]
        · split
          · split
            · rw [e]
            · split
              · rw [e]
              · exact hrd_large hb k _ _ _ _ (by omega)
          · split
            · rw [e]
            · exact hrd_large hb k _ _ _ _ (by omega)
      · rw [e]
    · split
      · rw [e]
      · exact hrd_large hb k _ _ _ _ (by omega)
theorem hrd_rd {b : List UInt8} : ∀ (k i fr : Nat) (bg : Bool) (r : Rd), i + k = b.length → i ≤ 2000 → hrd b k i fr bg r = rd b k i fr bg r
  | 0, i, fr, bg, r, h, hi => if_neg (by omega)
  | k + 1, i, fr, bg, r, h, hi => by
    by_cases h2 : 2000 ≤ i
    · rw [hrd_large (by omega) _ _ _ _ _ h2]
      unfold rd
      rw [if_pos h2]
    · have e := ferr_lt (i := i) (by omega)
      unfold hrd rd
      rw [if_neg h2, e]
      have ih := fun fr bg r => hrd_rd (b := b) k (i + 1) fr bg r (by omega) (by omega)
      cases bg with
      | true =>
        simp only [ih, Bool.and_true, if_true]
        rw [if_neg (show ¬ 2000 < i + 1 by omega)]
      | false =>
        simp only [ih, Bool.and_false, Bool.false_eq_true, if_false]
def read (b : List UInt8) : Res := rd b b.length 0 0 false {}
theorem hread (b : List UInt8) : hrd b b.length 0 0 false {} = read b := hrd_rd _ _ _ _ _ (by omega) (by omega)
end Go.Hl
