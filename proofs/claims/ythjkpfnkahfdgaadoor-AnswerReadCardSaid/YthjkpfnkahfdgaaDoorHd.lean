/- An answer's head: its lines, and what they are read as; plain. -/
import Derived.Test.YthjkpfnkahfdgaaDoorHc
namespace Go.An
set_option linter.unusedVariables false
set_option linter.unusedSimpArgs false
open Go.Hl
/-- A status' words. -/
def reasons : List (Nat × List UInt8) := [(200, [79, 75]), (203, [78, 111, 110, 45, 65, 117, 116, 104, 111, 114, 105, 116, 97, 116, 105, 118, 101, 32, 73, 110, 102, 111, 114, 109, 97, 116, 105, 111, 110]), (204, [78, 111, 32, 67, 111, 110, 116, 101, 110, 116]), (300, [77, 117, 108, 116, 105, 112, 108, 101, 32, 67, 104, 111, 105, 99, 101, 115]), (301, [77, 111, 118, 101, 100, 32, 80, 101, 114, 109, 97, 110, 101, 110, 116, 108, 121]), (400, [66, 97, 100, 32, 82, 101, 113, 117, 101, 115, 116]), (404, [78, 111, 116, 32, 70, 111, 117, 110, 100]), (405, [77, 101, 116, 104, 111, 100, 32, 78, 111, 116, 32, 65, 108, 108, 111, 119, 101, 100]), (407, [80, 114, 111, 120, 121, 32, 65, 117, 116, 104, 101, 110, 116, 105, 99, 97, 116, 105, 111, 110, 32, 82, 101, 113, 117, 105, 114, 101, 100]), (410, [71, 111, 110, 101]), (413, [67, 111, 110, 116, 101, 110, 116, 32, 84, 111, 111, 32, 76, 97, 114, 103, 101]), (414, [85, 82, 73, 32, 84, 111, 111, 32, 76, 111, 110, 103]), (501, [78, 111, 116, 32, 73, 109, 112, 108, 101, 109, 101, 110, 116, 101, 100]), (502, [66, 97, 100, 32, 71, 97, 116, 101, 119, 97, 121]), (503, [83, 101, 114, 118, 105, 99, 101, 32, 85, 110, 97, 118, 97, 105, 108, 97, 98, 108, 101])]
def reasonL (n : Nat) : List UInt8 := ((reasons.find? fun p => p.1 == n).map (·.2)).getD [83, 116, 97, 116, 117, 115]
theorem reasonL_in (n : Nat) : reasonL n ∈ [83, 116, 97, 116, 117, 115] :: reasons.map (·.2) := by
  unfold reasonL
  cases h : reasons.find? fun p => p.1 == n with
  | none => exact List.mem_cons_self
  | some p => exact List.mem_cons_of_mem _ (List.mem_map.2 ⟨p, List.mem_of_find?_eq_some h, rfl⟩)
theorem reasonL_all {q : List UInt8 → Bool} (h : ([83, 116, 97, 116, 117, 115] :: reasons.map (·.2)).all q = true) (n : Nat) : q (reasonL n) = true := List.all_eq_true.1 h _ (reasonL_in n)
theorem reasonL_len (n : Nat) : (reasonL n).length ≤ 29 := of_decide_eq_true (reasonL_all (q := fun l => decide (l.length ≤ 29)) (by decide +kernel) n)
theorem reasonL_no13 (n : Nat) : (13 : UInt8) ∉ reasonL n := of_decide_eq_true (reasonL_all (q := fun l => decide ((13 : UInt8) ∉ l)) (by decide +kernel) n)
def bHttp : List UInt8 := [72, 84, 84, 80, 47, 49, 46, 49, 32]
def bType : List UInt8 := [67, 111, 110, 116, 101, 110, 116, 45, 84, 121, 112, 101]
def bLen : List UInt8 := [67, 111, 110, 116, 101, 110, 116, 45, 76, 101, 110, 103, 116, 104]
def bAge : List UInt8 := [65, 103, 101]
def bCache : List UInt8 := [88, 45, 67, 97, 99, 104, 101]
def bHit : List UInt8 := [72, 73, 84]
def bMiss : List UInt8 := [77, 73, 83, 83]
def bConn : List UInt8 := [67, 111, 110, 110, 101, 99, 116, 105, 111, 110]
def bClose : List UInt8 := [99, 108, 111, 115, 101]
/-- The first line. -/
def line0 (n : Nat) : List UInt8 := bHttp ++ decK 18 n ++ 32 :: reasonL n
/-- A field's line. -/
def fline (p : List UInt8 × List UInt8) : List UInt8 := p.1 ++ 58 :: 32 :: p.2
/-- The fields of an answer. -/
def fieldsL (typ : List UInt8) (len : Nat) (age : Option Nat) (hit : Bool) : List (List UInt8 × List UInt8) :=
  (if typ = [] then [] else [(bType, typ)]) ++ (bLen, decK 18 len) :: (match age with | some a => [(bAge, decK 18 a)] | none => []) ++ [(bCache, if hit then bHit else bMiss)]
def NameOK (n : List UInt8) : Prop := tkn n = true ∧ (58 : UInt8) ∉ n ∧ (13 : UInt8) ∉ n
theorem name_ok : ∀ n ∈ [bType, bLen, bAge, bCache, bConn], NameOK n := by
  have h : ([bType, bLen, bAge, bCache, bConn] : List (List UInt8)).all (fun n => tkn n && (decide ((58 : UInt8) ∉ n) && decide ((13 : UInt8) ∉ n))) = true := by decide +kernel
  intro n hn
  have := List.all_eq_true.1 h n hn
  simp only [Bool.and_eq_true, decide_eq_true_eq] at this
  exact this
theorem dec_val (n : Nat) (h : n < 10 ^ 19) : val (decK 18 n) = true := val_digits (by have := (decK_len 18 n).1; intro e; rw [e] at this; simp at this) (decK_digits 18 n h)
theorem dec_no13 (n : Nat) (h : n < 10 ^ 19) : (13 : UInt8) ∉ decK 18 n := val_no13 (dec_val n h)
def FieldOK (p : List UInt8 × List UInt8) : Prop := NameOK p.1 ∧ val p.2 = true
theorem fieldsL_ok {typ : List UInt8} {len : Nat} {age : Option Nat} {hit : Bool} (ht : val typ = true) (hl : len < 10 ^ 19) (ha : ∀ a, age = some a → a < 10 ^ 19) : ∀ p ∈ fieldsL typ len age hit, FieldOK p := by
  intro p hp
  unfold fieldsL at hp
  simp only [List.mem_append, List.mem_cons] at hp
  rcases hp with (hp | (rfl | hp)) | hp
  · by_cases h : typ = []
    · rw [if_pos h] at hp; cases hp
    · rw [if_neg h, List.mem_singleton] at hp; subst hp; exact ⟨name_ok _ (by simp), ht⟩
  · exact ⟨name_ok _ (by simp), dec_val _ hl⟩
  · cases age with
    | none => cases hp
    | some a => have hp : p ∈ [(bAge, decK 18 a)] := hp; rw [List.mem_singleton] at hp; subst hp; exact ⟨name_ok _ (by simp), dec_val _ (ha a rfl)⟩
  · rcases hp with rfl | hp
    · refine ⟨name_ok _ (by simp), ?_⟩
      cases hit <;> decide +kernel
    · cases hp
theorem fline_fine {p : List UInt8 × List UInt8} (h : FieldOK p) : Fine (fline p) := by
  refine ⟨by unfold fline; simp, ?_⟩
  unfold fline
  intro hc
  rcases List.mem_append.1 hc with hc | hc
  · exact h.1.2.2 hc
  · rcases List.mem_cons.1 hc with hc | hc
    · exact absurd hc (by decide)
    · rcases List.mem_cons.1 hc with hc | hc
      · exact absurd hc (by decide)
      · exact val_no13 h.2 hc
theorem fline_again {p : List UInt8 × List UInt8} (h : FieldOK p) : fieldF (fline p) = some p := field_again h.1.1 h.1.2.1 h.2
theorem line0_fine (n : Nat) (h : n < 10 ^ 19) : Fine (line0 n) := by
  refine ⟨by unfold line0 bHttp; simp, ?_⟩
  unfold line0
  intro hc
  rcases List.mem_append.1 hc with hc | hc
  · rcases List.mem_append.1 hc with hc | hc
    · exact absurd hc (by decide)
    · exact dec_no13 n h hc
  · rcases List.mem_cons.1 hc with hc | hc
    · exact absurd hc (by decide)
    · exact reasonL_no13 n hc
/-- A head, as it is written. -/
def headL (n : Nat) (fs : List (List UInt8 × List UInt8)) : List UInt8 := join (line0 n) (fs.map fline) ++ [13, 10, 13, 10]
theorem head_cut (n : Nat) (hn : n < 10 ^ 19) (fs : List (List UInt8 × List UInt8)) (hf : ∀ p ∈ fs, FieldOK p) (rest : List UInt8) :
    Lib.cut (headL n fs ++ rest) [13, 10, 13, 10] = (join (line0 n) (fs.map fline), rest, true) ∧ Lib.split (join (line0 n) (fs.map fline)) [13, 10] = line0 n :: fs.map fline := by
  have h1 : ∀ x ∈ fs.map fline, Fine x := fun x hx => by
    obtain ⟨p, hp, rfl⟩ := List.mem_map.1 hx
    exact fline_fine (hf p hp)
  refine ⟨?_, split_lines _ _ (line0_fine n hn) h1⟩
  have := cut_head rest (fs.map fline) (line0 n) (line0_fine n hn) h1
  unfold headL
  rw [List.append_assoc]
  exact this
theorem lines_len {n : Nat} {typ : List UInt8} {len : Nat} {age : Option Nat} {hit : Bool} (ht : typ.length ≤ 100) : (join (line0 n) ((fieldsL typ len age hit).map fline)).length ≤ 300 := by
  have l1 := (decK_len 18 n).2
  have l2 := (decK_len 18 len).2
  have l3 := reasonL_len n
  by_cases h : typ = []
  · cases age with
    | none => cases hit <;> (simp [fieldsL, fline, join, line0, bHttp, bType, bLen, bAge, bCache, bHit, bMiss, h]; omega)
    | some a =>
      have l4 := (decK_len 18 a).2
      cases hit <;> (simp [fieldsL, fline, join, line0, bHttp, bType, bLen, bAge, bCache, bHit, bMiss, h]; omega)
  · cases age with
    | none => cases hit <;> (simp [fieldsL, fline, join, line0, bHttp, bType, bLen, bAge, bCache, bHit, bMiss, h]; omega)
    | some a =>
      have l4 := (decK_len 18 a).2
      cases hit <;> (simp [fieldsL, fline, join, line0, bHttp, bType, bLen, bAge, bCache, bHit, bMiss, h]; omega)
end Go.An
