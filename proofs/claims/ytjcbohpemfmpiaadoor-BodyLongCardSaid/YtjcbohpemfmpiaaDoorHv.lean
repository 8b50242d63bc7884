/- Chunks, written: they are chunks; plain. -/
import Derived.Test.YtjcbohpemfmpiaaDoorHu
import Derived.Test.YtjcbohpemfmpiaaDoorHt
namespace Go.Proofs.YtjcbohpemfmpiaaDoor.bodyLong
set_option linter.unusedVariables false
set_option linter.unusedSimpArgs false
open Go.Hl Go.Hg headLong
/-- Chunks, written one behind the other. -/
def bytesOf : List (List Nat × List UInt8) → List UInt8
  | [] => [48, 13, 10, 13, 10]
  | (ds, t) :: r => ds.map hx ++ 13 :: 10 :: (t ++ 13 :: 10 :: bytesOf r)
def Good (c : List Nat × List UInt8) : Prop := (∀ d ∈ c.1, d < 16) ∧ 0 < c.1.length ∧ c.1.length ≤ 8 ∧ hval c.1 0 = c.2.length ∧ 0 < c.2.length
theorem seg_mid (pre m post : List UInt8) : (((pre ++ (m ++ post)).take (pre.length + m.length)).drop pre.length) = m := by
  rw [← List.append_assoc, List.take_left' (by simp), List.drop_left' rfl]
theorem at0_mid (pre post : List UInt8) (c : UInt8) : at0 (pre ++ c :: post) pre.length = c := by
  unfold at0
  rw [List.getElem?_append_right (Nat.le_refl _), Nat.sub_self]
  rfl
theorem at0_mid' {bs pre post : List UInt8} {c : UInt8} {p : Nat} (h : bs = pre ++ c :: post) (hp : p = pre.length) : at0 bs p = c := by
  subst h hp; exact at0_mid _ _ _
theorem seg_mid' {bs pre m post : List UInt8} {p q : Nat} (h : bs = pre ++ (m ++ post)) (hp : p = pre.length) (hq : q = pre.length + m.length) : ((bs.take q).drop p) = m := by
  subst h hp hq; exact seg_mid _ _ _
theorem chunked_of : ∀ (cs : List (List Nat × List UInt8)) (pre : List UInt8), (∀ c ∈ cs, Good c) → Chunked (pre ++ bytesOf cs) pre.length cs ∧ endC pre.length cs = (pre ++ bytesOf cs).length
  | [], pre, _ => by
    refine ⟨⟨⟨?_, by decide, by decide, by simp [bytesOf], ?_, ?_, ?_⟩, by simp [bytesOf], ?_, ?_⟩, by simp [bytesOf, endC]⟩
    · intro d hd; simp at hd; omega
    · exact seg_mid' (post := [13, 10, 13, 10]) (m := [48]) rfl rfl rfl
    · exact at0_mid' (pre := pre ++ [48]) (post := [10, 13, 10]) (by simp [bytesOf]) (by simp)
    · exact at0_mid' (pre := pre ++ [48, 13]) (post := [13, 10]) (by simp [bytesOf]) (by simp)
    · exact at0_mid' (pre := pre ++ [48, 13, 10]) (post := [10]) (by simp [bytesOf]) (by simp)
    · exact at0_mid' (pre := pre ++ [48, 13, 10, 13]) (post := []) (by simp [bytesOf]) (by simp)
  | (ds, t) :: r, pre, h => by
    obtain ⟨g1, g2, g3, g4, g5⟩ := h _ List.mem_cons_self
    have g1 : ∀ d ∈ ds, d < 16 := g1
    have g2 : 0 < ds.length := g2
    have g3 : ds.length ≤ 8 := g3
    have g4 : hval ds 0 = t.length := g4
    have g5 : 0 < t.length := g5
    have e : pre ++ bytesOf ((ds, t) :: r) = (pre ++ ds.map hx ++ [13, 10] ++ t ++ [13, 10]) ++ bytesOf r := by simp [bytesOf]
    have el : (pre ++ ds.map hx ++ [13, 10] ++ t ++ [13, 10]).length = pre.length + ds.length + 2 + t.length + 2 := by simp; omega
    obtain ⟨ih1, ih2⟩ := chunked_of r (pre ++ ds.map hx ++ [13, 10] ++ t ++ [13, 10]) (fun c hc => h c (List.mem_cons_of_mem _ hc))
    rw [← e, el] at ih1
    rw [← e, el] at ih2
    have hl : pre.length + ds.length + 2 + t.length + 2 ≤ (pre ++ bytesOf ((ds, t) :: r)).length := by rw [e, List.length_append, el]; omega
    refine ⟨⟨⟨g1, g2, g3, by omega, ?_, ?_, ?_⟩, g4, g5, hl, ?_, ?_, ?_, ih1⟩, ih2⟩
    · exact seg_mid' (m := ds.map hx) (post := 13 :: 10 :: (t ++ 13 :: 10 :: bytesOf r)) rfl rfl (by simp)
    · exact at0_mid' (pre := pre ++ ds.map hx) (post := 10 :: (t ++ 13 :: 10 :: bytesOf r)) (by simp [bytesOf]) (by simp)
    · exact at0_mid' (pre := pre ++ ds.map hx ++ [13]) (post := t ++ 13 :: 10 :: bytesOf r) (by simp [bytesOf]) (by simp; omega)
    · exact seg_mid' (pre := pre ++ ds.map hx ++ [13, 10]) (m := t) (post := 13 :: 10 :: bytesOf r) (by simp [bytesOf]) (by simp; omega) (by simp; omega)
    · exact at0_mid' (pre := pre ++ ds.map hx ++ [13, 10] ++ t) (post := 10 :: bytesOf r) (by simp [bytesOf]) (by simp; omega)
    · exact at0_mid' (pre := pre ++ ds.map hx ++ [13, 10] ++ t ++ [13]) (post := bytesOf r) (by simp [bytesOf]) (by simp; omega)
/-- The chunks of a text in two parts. -/
def csOf (a b : Nat) (s : List UInt8) : List (List Nat × List UInt8) := (hexD a, s.take a) :: (if b = 0 then [] else [(hexD b, s.drop a)])
theorem csOf_good {a b : Nat} {s : List UInt8} (hs : s.length = a + b) (ha : 1 ≤ a) (ha2 : a ≤ 4100) (hb : b ≤ 4100) : ∀ c ∈ csOf a b s, Good c := by
  have g : ∀ n (t : List UInt8), t.length = n → 1 ≤ n → n ≤ 4100 → Good (hexD n, t) := fun n t ht h1 h2 =>
    ⟨hexD_lt n (by omega), (hexD_len n).1, (hexD_len n).2, by rw [hexD_val n (by omega)]; exact ht.symm, by show 0 < t.length; omega⟩
  intro c hc
  unfold csOf at hc
  rcases List.mem_cons.1 hc with rfl | hc
  · exact g a _ (by rw [List.length_take]; omega) ha ha2
  · by_cases h0 : b = 0
    · rw [if_pos h0] at hc; cases hc
    · rw [if_neg h0, List.mem_singleton] at hc
      subst hc
      exact g b _ (by rw [List.length_drop]; omega) (by omega) hb
theorem outC_csOf {a b : Nat} {s : List UInt8} (hs : s.length = a + b) (ha : 1 ≤ a) : outC [] (csOf a b s) = if 4000 < a + b then (none : Option (List UInt8)) else some s := by
  have h1 : (s.take a).length = a := by rw [List.length_take]; omega
  have h2 : (s.drop a).length = b := by rw [List.length_drop]; omega
  unfold csOf
  show (if 4000 < ([] : List UInt8).length + (s.take a).length then none else outC ([] ++ s.take a) _) = _
  rw [h1, List.length_nil, Nat.zero_add, List.nil_append]
  by_cases h0 : b = 0
  · subst h0
    rw [if_pos rfl]
    have : s.take a = s := by rw [List.take_of_length_le (by omega)]
    by_cases h4 : 4000 < a
    · rw [if_pos h4, if_pos (by omega)]
    · rw [if_neg h4, if_neg (by omega)]
      show some (s.take a) = some s
      rw [this]
  · rw [if_neg h0]
    by_cases h4 : 4000 < a
    · rw [if_pos h4, if_pos (by omega)]
    · rw [if_neg h4]
      show (if 4000 < (s.take a).length + (s.drop a).length then none else outC (s.take a ++ s.drop a) []) = _
      rw [h1, h2]
      by_cases h5 : 4000 < a + b
      · rw [if_pos h5, if_pos h5]
      · rw [if_neg h5, if_neg h5, List.take_append_drop]
        rfl
theorem bytesOf_len {a b : Nat} {s : List UInt8} (hs : s.length = a + b) : (bytesOf (csOf a b s)).length ≤ 20000 ∨ 8200 < a + b := by
  by_cases h : 8200 < a + b
  · exact .inr h
  · refine .inl ?_
    have l1 := (hexD_len a).2
    have l2 := (hexD_len b).2
    unfold csOf
    by_cases h0 : b = 0
    · rw [if_pos h0]; simp [bytesOf]; omega
    · rw [if_neg h0]; simp [bytesOf]; omega
end Go.Proofs.YtjcbohpemfmpiaaDoor.bodyLong
