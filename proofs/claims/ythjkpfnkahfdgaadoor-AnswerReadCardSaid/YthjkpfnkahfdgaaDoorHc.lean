/- An answer's head, as it is written and as it is read: plain lists of bytes. -/
import Derived.Test.YthjkpfnkahfdgaaDoorHa
namespace Go.An
set_option linter.unusedVariables false
set_option linter.unusedSimpArgs false
open Go.Hl
/-- Lines, an end of a line between them. -/
def join : List UInt8 → List (List UInt8) → List UInt8
  | l, [] => l
  | l, m :: r => l ++ 13 :: 10 :: join m r
def Fine (l : List UInt8) : Prop := l ≠ [] ∧ (13 : UInt8) ∉ l
theorem index_skip {q r : List UInt8} : ∀ {a : List UInt8} {k : Nat}, (13 : UInt8) ∉ a → Lib.index r (13 :: q) = k → Lib.index (a ++ r) (13 :: q) = ((a.length + k : Nat) : Int)
  | [], k, _, h => by rw [List.nil_append, h]; simp
  | b :: a, k, h, hk => by
    have hb : ¬ ((13 : UInt8) = b) := fun e => h (by simp [e])
    have hl : (13 : UInt8) ∉ a := fun e => h (by simp [e])
    have e : (13 :: q).isPrefixOf (b :: (a ++ r)) = false := by simp [List.isPrefixOf, hb]
    show Lib.index (b :: (a ++ r)) (13 :: q) = _
    unfold Lib.index
    rw [e, index_skip hl hk]
    have : (((a.length + k : Nat) : Int) == -1) = false := by rw [beq_eq_false_iff_ne]; omega
    simp only [Bool.false_eq_true, if_false, this, List.length_cons]
    omega
theorem index_no2 {q : List UInt8} : ∀ {l : List UInt8}, (13 : UInt8) ∉ l → Lib.index l (13 :: q) = -1
  | [], _ => rfl
  | b :: l, h => by
    have hb : ¬ ((13 : UInt8) = b) := fun e => h (by simp [e])
    have hl : (13 : UInt8) ∉ l := fun e => h (by simp [e])
    have e : (13 :: q).isPrefixOf (b :: l) = false := by simp [List.isPrefixOf, hb]
    unfold Lib.index
    rw [e, index_no2 hl]
    rfl
theorem index_here (q r : List UInt8) : Lib.index (13 :: q ++ r) (13 :: q) = ((0 : Nat) : Int) := by
  show Lib.index (13 :: (q ++ r)) (13 :: q) = _
  unfold Lib.index
  rw [if_pos (by simp [List.isPrefixOf])]
  rfl
theorem join_head : ∀ {m : List UInt8} {r : List (List UInt8)}, Fine m → ∃ c x, join m r = c :: x ∧ c ≠ 13
  | m, r, ⟨h1, h2⟩ => by
    cases m with
    | nil => exact absurd rfl h1
    | cons c x =>
      have hc : c ≠ 13 := fun e => h2 (by simp [e])
      cases r with
      | nil => exact ⟨c, x, rfl, hc⟩
      | cons n r => exact ⟨c, x ++ 13 :: 10 :: join n r, rfl, hc⟩
/-- The first empty line. -/
theorem index_end (rest : List UInt8) : ∀ (r : List (List UInt8)) (l : List UInt8), Fine l → (∀ x ∈ r, Fine x) → Lib.index (join l r ++ (13 :: 10 :: 13 :: 10 :: rest)) [13, 10, 13, 10] = ((join l r).length : Int)
  | [], l, hl, _ => by
    have := index_skip (q := [10, 13, 10]) (r := 13 :: 10 :: 13 :: 10 :: rest) (a := l) (k := 0) hl.2 (index_here [10, 13, 10] rest)
    simpa [join] using this
  | m :: r, l, hl, hr => by
    have ih := index_end rest r m (hr m List.mem_cons_self) (fun x hx => hr x (List.mem_cons_of_mem _ hx))
    obtain ⟨c, x, hj, hc⟩ := join_head (r := r) (hr m List.mem_cons_self)
    rw [hj] at ih
    have e1 : Lib.index (10 :: (c :: x ++ (13 :: 10 :: 13 :: 10 :: rest))) [13, 10, 13, 10] = (((c :: x).length + 1 : Nat) : Int) := by
      unfold Lib.index
      have e : ([13, 10, 13, 10] : List UInt8).isPrefixOf (10 :: (c :: x ++ (13 :: 10 :: 13 :: 10 :: rest))) = false := by simp [List.isPrefixOf]
      rw [e, ih]
      have : (((c :: x).length : Int) == -1) = false := by rw [beq_eq_false_iff_ne]; omega
      simp only [Bool.false_eq_true, if_false, this]
      omega
    have e2 : Lib.index (13 :: 10 :: (c :: x ++ (13 :: 10 :: 13 :: 10 :: rest))) [13, 10, 13, 10] = (((c :: x).length + 2 : Nat) : Int) := by
      unfold Lib.index
      have e : ([13, 10, 13, 10] : List UInt8).isPrefixOf (13 :: 10 :: (c :: x ++ (13 :: 10 :: 13 :: 10 :: rest))) = false := by simp [List.isPrefixOf, Ne.symm hc]
      rw [e, e1]
      have : ((((c :: x).length + 1 : Nat) : Int) == -1) = false := by rw [beq_eq_false_iff_ne]; omega
      simp only [Bool.false_eq_true, if_false, this]
      omega
    have := index_skip (q := [10, 13, 10]) (a := l) hl.2 e2
    have ej : join l (m :: r) ++ (13 :: 10 :: 13 :: 10 :: rest) = l ++ (13 :: 10 :: (c :: x ++ (13 :: 10 :: 13 :: 10 :: rest))) := by
      show (l ++ 13 :: 10 :: join m r) ++ _ = _
      rw [hj]; simp
    rw [ej, this]
    show _ = ((l ++ 13 :: 10 :: join m r).length : Int)
    rw [hj]; simp; omega
theorem cut_head (rest : List UInt8) (r : List (List UInt8)) (l : List UInt8) (hl : Fine l) (hr : ∀ x ∈ r, Fine x) : Lib.cut (join l r ++ (13 :: 10 :: 13 :: 10 :: rest)) [13, 10, 13, 10] = (join l r, rest, true) := by
  unfold Lib.cut
  rw [index_end rest r l hl hr, if_pos (by omega)]
  simp only [Int.toNat_natCast, List.take_left]
  rw [← List.drop_drop, List.drop_left]
  rfl
theorem split2_no {l : List UInt8} (h : (13 : UInt8) ∉ l) : Lib.split l [13, 10] = [l] := by
  unfold Lib.split
  rw [Lib.count_miss (index_no2 h)]
  rfl
theorem drop_len2 (a r : List UInt8) : (a ++ 13 :: 10 :: r).drop (a.length + 2) = r := by
  rw [← List.drop_drop, List.drop_left]; rfl
theorem split2_at {a r : List UInt8} (h : (13 : UInt8) ∉ a) : Lib.split (a ++ 13 :: 10 :: r) [13, 10] = a :: Lib.split r [13, 10] := by
  unfold Lib.split
  have hi : Lib.index (a ++ 13 :: 10 :: r) [13, 10] = (a.length : Int) := by simpa using index_skip (q := [10]) (a := a) (r := 13 :: 10 :: r) (k := 0) h (index_here [10] r)
  rw [Lib.count_hit (by simp) hi, Nat.add_comm]
  show Lib.splitK [13, 10] 0 (Lib.count ((a ++ 13 :: 10 :: r).drop (a.length + 2)) [13, 10] + 1) (a ++ 13 :: 10 :: r) = _
  rw [drop_len2]
  conv => lhs; unfold Lib.splitK
  have e : ((a.length : Int) == -1) = false := by rw [beq_eq_false_iff_ne]; omega
  rw [hi, e]
  simp only [Bool.false_eq_true, if_false, Int.toNat_natCast, Nat.add_zero, List.take_left, List.length_cons, List.length_nil, Nat.zero_add]
  rw [drop_len2]
theorem split_lines : ∀ (r : List (List UInt8)) (l : List UInt8), Fine l → (∀ x ∈ r, Fine x) → Lib.split (join l r) [13, 10] = l :: r
  | [], l, hl, _ => split2_no hl.2
  | m :: r, l, hl, hr => by
    show Lib.split (l ++ 13 :: 10 :: join m r) [13, 10] = _
    rw [split2_at hl.2, split_lines r m (hr m List.mem_cons_self) (fun x hx => hr x (List.mem_cons_of_mem _ hx))]
/- Numbers. -/
/-- A digit's byte. -/
def dig (n : Nat) : UInt8 := UInt8.ofNat (48 + n)
theorem dig_nat {n : Nat} (h : n < 10) : (dig n).toNat = 48 + n := by unfold dig; simp; omega
/-- A number in decimal, of at most k + 1 digits. -/
def decK : Nat → Nat → List UInt8
  | 0, n => [dig n]
  | k + 1, n => if n < 10 then [dig n] else decK k (n / 10) ++ [dig (n % 10)]
theorem decK_more : ∀ (k n : Nat), n < 10 ^ (k + 1) → decK (k + 1) n = decK k n
  | 0, n, h => by unfold decK; rw [if_pos (by simpa using h)]
  | k + 1, n, h => by
    have e : decK (k + 1 + 1) n = if n < 10 then [dig n] else decK (k + 1) (n / 10) ++ [dig (n % 10)] := rfl
    have e2 : decK (k + 1) n = if n < 10 then [dig n] else decK k (n / 10) ++ [dig (n % 10)] := rfl
    rw [e, e2, decK_more k (n / 10) (by rw [Nat.pow_succ] at h; omega)]
theorem decK_digits : ∀ (k n : Nat), n < 10 ^ (k + 1) → ∀ c ∈ decK k n, 48 ≤ c.toNat ∧ c.toNat ≤ 57
  | 0, n, h, c, hc => by
    have : c = dig n := by simpa [decK] using hc
    subst this
    rw [dig_nat (by simpa using h)]
    have : n < 10 := by simpa using h
    omega
  | k + 1, n, h, c, hc => by
    have e2 : decK (k + 1) n = if n < 10 then [dig n] else decK k (n / 10) ++ [dig (n % 10)] := rfl
    rw [e2] at hc
    split at hc
    · have : c = dig n := by simpa using hc
      subst this
      rw [dig_nat (by omega)]; omega
    · rcases List.mem_append.1 hc with hc | hc
      · exact decK_digits k (n / 10) (by rw [Nat.pow_succ] at h; omega) c hc
      · have : c = dig (n % 10) := by simpa using hc
        subst this
        rw [dig_nat (by omega)]; omega
theorem decK_len : ∀ (k n : Nat), 0 < (decK k n).length ∧ (decK k n).length ≤ k + 1
  | 0, n => by simp [decK]
  | k + 1, n => by
    have e2 : decK (k + 1) n = if n < 10 then [dig n] else decK k (n / 10) ++ [dig (n % 10)] := rfl
    have := decK_len k (n / 10)
    rw [e2]
    split
    · simp
    · simp; omega
theorem dec3 (n : Nat) (h1 : 100 ≤ n) (h2 : n ≤ 999) : decK 18 n = [dig (n / 100), dig (n / 10 % 10), dig (n % 10)] := by
  have e : ∀ k, 2 ≤ k → decK k n = decK 2 n := by
    intro k hk
    induction k with
    | zero => omega
    | succ k ih =>
      by_cases h : k = 1
      · subst h; rfl
      · rw [decK_more k n (by have : 10 ^ 3 ≤ 10 ^ (k + 1) := Nat.pow_le_pow_right (by decide) (by omega); omega), ih (by omega)]
  rw [e 18 (by decide)]
  show (if n < 10 then [dig n] else (if n / 10 < 10 then [dig (n / 10)] else [dig (n / 10 / 10)] ++ [dig (n / 10 % 10)]) ++ [dig (n % 10)]) = _
  rw [if_neg (by omega), if_neg (by omega), show n / 10 / 10 = n / 100 by omega]
  rfl
theorem digit_val {c : UInt8} (h : 48 ≤ c.toNat ∧ c.toNat ≤ 57) : valC c = true ∧ blkC c = false ∧ c ≠ 13 := by
  have e : valC c = true := by
    unfold valC
    have a1 : decide (c.toNat < 32) = false := by simp; omega
    have a2 : decide (c.toNat = 127) = false := by simp; omega
    rw [a1, a2]; rfl
  have e2 : blkC c = false := by
    unfold blkC blkN
    have a1 : decide (c.toNat = 32) = false := by simp; omega
    have a2 : decide (c.toNat = 9) = false := by simp; omega
    rw [a1, a2]; rfl
  exact ⟨e, e2, fun e => by subst e; simp at h⟩
/-- A text of digits is a value. -/
theorem val_digits {l : List UInt8} (h0 : l ≠ []) (h : ∀ c ∈ l, 48 ≤ c.toNat ∧ c.toNat ≤ 57) : val l = true := by
  unfold val
  have h1 : l.all valC = true := List.all_eq_true.2 fun c hc => (digit_val (h c hc)).1
  have h2 : blkC (l.headD 0) = false := by
    cases l with
    | nil => exact absurd rfl h0
    | cons c r => exact (digit_val (h c (by simp))).2.1
  have h3 : blkC (l.getLastD 0) = false := by
    have : l.getLastD 0 ∈ l := by
      rw [List.getLastD_eq_getLast?, List.getLast?_eq_some_getLast h0]
      exact List.getLast_mem h0
    exact (digit_val (h _ this)).2.1
  rw [h1, h2, h3]; simp
/-- A value has no end of a line in it. -/
theorem val_no13 {l : List UInt8} (h : val l = true) : (13 : UInt8) ∉ l := by
  unfold val at h
  rw [Bool.and_eq_true] at h
  intro hc
  have := List.all_eq_true.1 h.1 13 hc
  revert this; decide
theorem trim_val {l : List UInt8} (h : val l = true) : trim (32 :: l) = l := by
  unfold val at h
  rw [Bool.and_eq_true, Bool.or_eq_true] at h
  have e : (32 :: l).dropWhile blkC = l.dropWhile blkC := by
    rw [List.dropWhile_cons]; rfl
  unfold trim
  rw [e]
  rcases h.2 with h0 | h0
  · have : l = [] := by cases l with
      | nil => rfl
      | cons _ _ => cases h0
    subst this; rfl
  · rw [Bool.and_eq_true, Bool.not_eq_true', Bool.not_eq_true'] at h0
    cases hl : l with
    | nil => rfl
    | cons c r =>
      subst hl
      have h1 : blkC c = false := h0.1
      have e1 : (c :: r).dropWhile blkC = c :: r := by rw [List.dropWhile_cons, h1]; rfl
      rw [e1]
      obtain ⟨q, d, hq⟩ : ∃ q d, c :: r = q ++ [d] := ⟨(c :: r).dropLast, (c :: r).getLast (by simp), (List.dropLast_concat_getLast (by simp)).symm⟩
      rw [hq] at h0 ⊢
      have h2 : blkC d = false := by simpa using h0.2
      unfold trimR
      rw [List.reverse_append]
      show ((d :: q.reverse).dropWhile blkC).reverse = _
      rw [List.dropWhile_cons, h2]
      simp
/-- A field's line is read again. -/
theorem field_again {n v : List UInt8} (hn : tkn n = true) (h58 : (58 : UInt8) ∉ n) (hv : val v = true) : fieldF (n ++ 58 :: 32 :: v) = some (n, v) := by
  unfold fieldF
  rw [(tw_at h58).1, (tw_at h58).2]
  simp only [trim_val hv, hn, hv, Bool.and_true, if_true]
end Go.An
