/- An answer's lines, as the document writes them, walked. -/
import Derived.Test.YthjkpfnkahfdgaaDoorHg
namespace Go.Proofs.YthjkpfnkahfdgaaDoor.answerRead
set_option linter.unusedVariables false
set_option linter.unusedSimpArgs false
open Go.ChangeShapes Go.WideShapes Go.ChangeAt Go.RowKit Go.Hl Go.Hg Go.An
theorem dec_box (n : Nat) (h : n < 10 ^ 19) : ∃ (D : ByteArray) (d : Nat), D.data.toList = decK 18 n ∧ D.size = d ∧ d ≤ 19 ∧ ∀ y : World, Calls Tryd.prog 11 #[.int .i64 (n : Int)] y fun e w' => e = .returned (.string D) ∧ Below y.heap.size y w' := by
  refine ⟨⟨(decK 18 n).toArray⟩, (decK 18 n).length, rfl, ?_, (decK_len 18 n).2, fun y => dec_ 18 n h (Nat.le_refl _) y⟩
  show (decK 18 n).toArray.size = _
  rw [List.size_toArray]
theorem reason_box (n : Nat) : ∃ (D : ByteArray) (d : Nat), D.data.toList = reasonL n ∧ D.size = d ∧ d ≤ 29 ∧ ∀ y : World, Calls Tryd.prog 26 #[.int .i64 (n : Int)] y fun e w' => e = .returned (.string D) ∧ y = w' := by
  refine ⟨⟨(reasonL n).toArray⟩, (reasonL n).length, rfl, ?_, reasonL_len n, fun y => rreason n y⟩
  show (reasonL n).toArray.size = _
  rw [List.size_toArray]
theorem typ_ne {t : ByteArray} (h : 0 < t.size) : t.data.toList ≠ [] := fun e => by
  have := sz_list t
  rw [e] at this
  simp at this; omega
theorem typ_eq {t : ByteArray} (h : t.size = 0) : t = ⟨#[]⟩ := by
  apply ByteArray.ext
  have := sz_list t
  have e : t.data.toList = [] := List.eq_nil_of_length_eq_zero (by omega)
  apply Array.toList_inj.1
  rw [e]
/-- What the lines are. -/
def LinesAre (n : Nat) (typ : ByteArray) (len : Nat) (age : Option Nat) (hit : Bool) (w : World) (e : Ending) (w' : World) : Prop := ∃ X : ByteArray, X.data.toList = join (line0 n) ((fieldsL typ.data.toList len age hit).map fline) ++ [13, 10] ∧ e = .returned (.string X) ∧ Below w.heap.size w w'
set_option maxRecDepth 100000 in
set_option maxHeartbeats 1600000 in
theorem lines000 (n : Nat) (hn : n < 10 ^ 18) (len : Nat) (hl : len < 10 ^ 18) (age : Int) (ha : age < 0) (w : World) :
    Calls Tryd.prog 16 #[.int .i64 (n : Int), .string ⟨#[]⟩, .int .i64 (len : Int), .int .i64 age, .bool false] w (LinesAre n ⟨#[]⟩ len none false w) := by
  obtain ⟨N, dn, eN, sN, bN, CN⟩ := dec_box n (by omega)
  obtain ⟨Q, dq, eQ, sQ, bQ, CQ⟩ := reason_box n
  obtain ⟨L, dl, eL, sL, bL, CL⟩ := dec_box len (by omega)
  have dg : decide ((0 : Int) ≤ age) = false := by simp; omega
  have B0 := Lib.hid (Below.refl w.heap.size w)
  have HE := Lib.hid (⟨eN, eQ, eL⟩ : N.data.toList = decK 18 n ∧ Q.data.toList = reasonL n ∧ L.data.toList = decK 18 len)
  clear eN eQ eL
  go_enter Tryd.func16, Tryd.ntmps16
  go_wp2_with (first | (go_at_call 11; with_reducible refine (CN _).mono ?_; rintro e w2 ⟨rfl, hB2⟩; have B2 := Lib.hid hB2; clear CN) | (go_at_call 26; with_reducible refine (CQ _).mono ?_; rintro e w3 ⟨rfl, rfl⟩; clear CQ) | (go_at_call 11; with_reducible refine (CL _).mono ?_; rintro e w4 ⟨rfl, hB4⟩; have B4 := Lib.hid (B2.out.trans (hB4.mono B2.out.size)); clear CL) | fail)
  go_ret
  refine ⟨_, ?_, rfl, B4.out⟩
  obtain ⟨eN, eQ, eL⟩ := HE.out
  simp only [ba_app2, eN, eQ, eL]
  simp [fieldsL, fline, join, line0, bHttp, bType, bLen, bAge, bCache, bHit, bMiss]
set_option maxRecDepth 100000 in
set_option maxHeartbeats 1600000 in
theorem lines001 (n : Nat) (hn : n < 10 ^ 18) (len : Nat) (hl : len < 10 ^ 18) (age : Int) (ha : age < 0) (w : World) :
    Calls Tryd.prog 16 #[.int .i64 (n : Int), .string ⟨#[]⟩, .int .i64 (len : Int), .int .i64 age, .bool true] w (LinesAre n ⟨#[]⟩ len none true w) := by
  obtain ⟨N, dn, eN, sN, bN, CN⟩ := dec_box n (by omega)
  obtain ⟨Q, dq, eQ, sQ, bQ, CQ⟩ := reason_box n
  obtain ⟨L, dl, eL, sL, bL, CL⟩ := dec_box len (by omega)
  have dg : decide ((0 : Int) ≤ age) = false := by simp; omega
  have B0 := Lib.hid (Below.refl w.heap.size w)
  have HE := Lib.hid (⟨eN, eQ, eL⟩ : N.data.toList = decK 18 n ∧ Q.data.toList = reasonL n ∧ L.data.toList = decK 18 len)
  clear eN eQ eL
  go_enter Tryd.func16, Tryd.ntmps16
  go_wp2_with (first | (go_at_call 11; with_reducible refine (CN _).mono ?_; rintro e w2 ⟨rfl, hB2⟩; have B2 := Lib.hid hB2; clear CN) | (go_at_call 26; with_reducible refine (CQ _).mono ?_; rintro e w3 ⟨rfl, rfl⟩; clear CQ) | (go_at_call 11; with_reducible refine (CL _).mono ?_; rintro e w4 ⟨rfl, hB4⟩; have B4 := Lib.hid (B2.out.trans (hB4.mono B2.out.size)); clear CL) | fail)
  go_ret
  refine ⟨_, ?_, rfl, B4.out⟩
  obtain ⟨eN, eQ, eL⟩ := HE.out
  simp only [ba_app2, eN, eQ, eL]
  simp [fieldsL, fline, join, line0, bHttp, bType, bLen, bAge, bCache, bHit, bMiss]
set_option maxRecDepth 100000 in
set_option maxHeartbeats 1600000 in
theorem lines010 (n : Nat) (hn : n < 10 ^ 18) (len : Nat) (hl : len < 10 ^ 18) (age : Nat) (ha : age < 10 ^ 18) (w : World) :
    Calls Tryd.prog 16 #[.int .i64 (n : Int), .string ⟨#[]⟩, .int .i64 (len : Int), .int .i64 (age : Int), .bool false] w (LinesAre n ⟨#[]⟩ len (some age) false w) := by
  obtain ⟨N, dn, eN, sN, bN, CN⟩ := dec_box n (by omega)
  obtain ⟨Q, dq, eQ, sQ, bQ, CQ⟩ := reason_box n
  obtain ⟨L, dl, eL, sL, bL, CL⟩ := dec_box len (by omega)
  obtain ⟨A, da, eA, sA, bA, CA⟩ := dec_box age (by omega)
  have dg : (0 : Int) ≤ (age : Int) := by omega
  have B0 := Lib.hid (Below.refl w.heap.size w)
  have HE := Lib.hid (⟨eN, eQ, eL, eA⟩ : N.data.toList = decK 18 n ∧ Q.data.toList = reasonL n ∧ L.data.toList = decK 18 len ∧ A.data.toList = decK 18 age)
  clear eN eQ eL eA
  go_enter Tryd.func16, Tryd.ntmps16
  go_wp2_with (first | (go_at_call 11; with_reducible refine (CN _).mono ?_; rintro e w2 ⟨rfl, hB2⟩; have B2 := Lib.hid hB2; clear CN) | (go_at_call 26; with_reducible refine (CQ _).mono ?_; rintro e w3 ⟨rfl, rfl⟩; clear CQ) | (go_at_call 11; with_reducible refine (CL _).mono ?_; rintro e w4 ⟨rfl, hB4⟩; have B4 := Lib.hid (B2.out.trans (hB4.mono B2.out.size)); clear CL) | (go_at_call 11; with_reducible refine (CA _).mono ?_; rintro e w5 ⟨rfl, hB5⟩; have B5 := Lib.hid (B4.out.trans (hB5.mono B4.out.size)); clear CA) | fail)
  go_ret
  refine ⟨_, ?_, rfl, B5.out⟩
  obtain ⟨eN, eQ, eL, eA⟩ := HE.out
  simp only [ba_app2, eN, eQ, eL, eA]
  simp [fieldsL, fline, join, line0, bHttp, bType, bLen, bAge, bCache, bHit, bMiss]
set_option maxRecDepth 100000 in
set_option maxHeartbeats 1600000 in
theorem lines011 (n : Nat) (hn : n < 10 ^ 18) (len : Nat) (hl : len < 10 ^ 18) (age : Nat) (ha : age < 10 ^ 18) (w : World) :
    Calls Tryd.prog 16 #[.int .i64 (n : Int), .string ⟨#[]⟩, .int .i64 (len : Int), .int .i64 (age : Int), .bool true] w (LinesAre n ⟨#[]⟩ len (some age) true w) := by
  obtain ⟨N, dn, eN, sN, bN, CN⟩ := dec_box n (by omega)
  obtain ⟨Q, dq, eQ, sQ, bQ, CQ⟩ := reason_box n
  obtain ⟨L, dl, eL, sL, bL, CL⟩ := dec_box len (by omega)
  obtain ⟨A, da, eA, sA, bA, CA⟩ := dec_box age (by omega)
  have dg : (0 : Int) ≤ (age : Int) := by omega
  have B0 := Lib.hid (Below.refl w.heap.size w)
  have HE := Lib.hid (⟨eN, eQ, eL, eA⟩ : N.data.toList = decK 18 n ∧ Q.data.toList = reasonL n ∧ L.data.toList = decK 18 len ∧ A.data.toList = decK 18 age)
  clear eN eQ eL eA
  go_enter Tryd.func16, Tryd.ntmps16
  go_wp2_with (first | (go_at_call 11; with_reducible refine (CN _).mono ?_; rintro e w2 ⟨rfl, hB2⟩; have B2 := Lib.hid hB2; clear CN) | (go_at_call 26; with_reducible refine (CQ _).mono ?_; rintro e w3 ⟨rfl, rfl⟩; clear CQ) | (go_at_call 11; with_reducible refine (CL _).mono ?_; rintro e w4 ⟨rfl, hB4⟩; have B4 := Lib.hid (B2.out.trans (hB4.mono B2.out.size)); clear CL) | (go_at_call 11; with_reducible refine (CA _).mono ?_; rintro e w5 ⟨rfl, hB5⟩; have B5 := Lib.hid (B4.out.trans (hB5.mono B4.out.size)); clear CA) | fail)
  go_ret
  refine ⟨_, ?_, rfl, B5.out⟩
  obtain ⟨eN, eQ, eL, eA⟩ := HE.out
  simp only [ba_app2, eN, eQ, eL, eA]
  simp [fieldsL, fline, join, line0, bHttp, bType, bLen, bAge, bCache, bHit, bMiss]
set_option maxRecDepth 100000 in
set_option maxHeartbeats 1600000 in
theorem lines100 (n : Nat) (hn : n < 10 ^ 18) (typ : ByteArray) (h0 : 0 < typ.size) (h1 : typ.size ≤ 100) (len : Nat) (hl : len < 10 ^ 18) (age : Int) (ha : age < 0) (w : World) :
    Calls Tryd.prog 16 #[.int .i64 (n : Int), .string typ, .int .i64 (len : Int), .int .i64 age, .bool false] w (LinesAre n typ len none false w) := by
  obtain ⟨N, dn, eN, sN, bN, CN⟩ := dec_box n (by omega)
  obtain ⟨Q, dq, eQ, sQ, bQ, CQ⟩ := reason_box n
  obtain ⟨L, dl, eL, sL, bL, CL⟩ := dec_box len (by omega)
  have dg : decide ((0 : Int) ≤ age) = false := by simp; omega
  obtain ⟨tz, hz⟩ : ∃ k, typ.size = k := ⟨_, rfl⟩
  have he : typ.toList.isEmpty = false := by
    rw [ByteArray.toList_eq]
    cases hq : typ.data.toList with
    | nil => exact absurd hq (typ_ne h0)
    | cons a l => rfl
  have B0 := Lib.hid (Below.refl w.heap.size w)
  have HE := Lib.hid (⟨eN, eQ, eL⟩ : N.data.toList = decK 18 n ∧ Q.data.toList = reasonL n ∧ L.data.toList = decK 18 len)
  clear eN eQ eL
  go_enter Tryd.func16, Tryd.ntmps16
  go_wp2_with (first | (go_at_call 11; with_reducible refine (CN _).mono ?_; rintro e w2 ⟨rfl, hB2⟩; have B2 := Lib.hid hB2; clear CN) | (go_at_call 26; with_reducible refine (CQ _).mono ?_; rintro e w3 ⟨rfl, rfl⟩; clear CQ) | (go_at_call 11; with_reducible refine (CL _).mono ?_; rintro e w4 ⟨rfl, hB4⟩; have B4 := Lib.hid (B2.out.trans (hB4.mono B2.out.size)); clear CL) | fail)
  go_ret
  refine ⟨_, ?_, rfl, B4.out⟩
  obtain ⟨eN, eQ, eL⟩ := HE.out
  simp only [ba_app2, eN, eQ, eL]
  simp [fieldsL, fline, join, line0, bHttp, bType, bLen, bAge, bCache, bHit, bMiss, typ_ne h0]
set_option maxRecDepth 100000 in
set_option maxHeartbeats 1600000 in
theorem lines101 (n : Nat) (hn : n < 10 ^ 18) (typ : ByteArray) (h0 : 0 < typ.size) (h1 : typ.size ≤ 100) (len : Nat) (hl : len < 10 ^ 18) (age : Int) (ha : age < 0) (w : World) :
    Calls Tryd.prog 16 #[.int .i64 (n : Int), .string typ, .int .i64 (len : Int), .int .i64 age, .bool true] w (LinesAre n typ len none true w) := by
  obtain ⟨N, dn, eN, sN, bN, CN⟩ := dec_box n (by omega)
  obtain ⟨Q, dq, eQ, sQ, bQ, CQ⟩ := reason_box n
  obtain ⟨L, dl, eL, sL, bL, CL⟩ := dec_box len (by omega)
  have dg : decide ((0 : Int) ≤ age) = false := by simp; omega
  obtain ⟨tz, hz⟩ : ∃ k, typ.size = k := ⟨_, rfl⟩
  have he : typ.toList.isEmpty = false := by
    rw [ByteArray.toList_eq]
    cases hq : typ.data.toList with
    | nil => exact absurd hq (typ_ne h0)
    | cons a l => rfl
  have B0 := Lib.hid (Below.refl w.heap.size w)
  have HE := Lib.hid (⟨eN, eQ, eL⟩ : N.data.toList = decK 18 n ∧ Q.data.toList = reasonL n ∧ L.data.toList = decK 18 len)
  clear eN eQ eL
  go_enter Tryd.func16, Tryd.ntmps16
  go_wp2_with (first | (go_at_call 11; with_reducible refine (CN _).mono ?_; rintro e w2 ⟨rfl, hB2⟩; have B2 := Lib.hid hB2; clear CN) | (go_at_call 26; with_reducible refine (CQ _).mono ?_; rintro e w3 ⟨rfl, rfl⟩; clear CQ) | (go_at_call 11; with_reducible refine (CL _).mono ?_; rintro e w4 ⟨rfl, hB4⟩; have B4 := Lib.hid (B2.out.trans (hB4.mono B2.out.size)); clear CL) | fail)
  go_ret
  refine ⟨_, ?_, rfl, B4.out⟩
  obtain ⟨eN, eQ, eL⟩ := HE.out
  simp only [ba_app2, eN, eQ, eL]
  simp [fieldsL, fline, join, line0, bHttp, bType, bLen, bAge, bCache, bHit, bMiss, typ_ne h0]
set_option maxRecDepth 100000 in
set_option maxHeartbeats 1600000 in
theorem lines110 (n : Nat) (hn : n < 10 ^ 18) (typ : ByteArray) (h0 : 0 < typ.size) (h1 : typ.size ≤ 100) (len : Nat) (hl : len < 10 ^ 18) (age : Nat) (ha : age < 10 ^ 18) (w : World) :
    Calls Tryd.prog 16 #[.int .i64 (n : Int), .string typ, .int .i64 (len : Int), .int .i64 (age : Int), .bool false] w (LinesAre n typ len (some age) false w) := by
  obtain ⟨N, dn, eN, sN, bN, CN⟩ := dec_box n (by omega)
  obtain ⟨Q, dq, eQ, sQ, bQ, CQ⟩ := reason_box n
  obtain ⟨L, dl, eL, sL, bL, CL⟩ := dec_box len (by omega)
  obtain ⟨A, da, eA, sA, bA, CA⟩ := dec_box age (by omega)
  have dg : (0 : Int) ≤ (age : Int) := by omega
  obtain ⟨tz, hz⟩ : ∃ k, typ.size = k := ⟨_, rfl⟩
  have he : typ.toList.isEmpty = false := by
    rw [ByteArray.toList_eq]
    cases hq : typ.data.toList with
    | nil => exact absurd hq (typ_ne h0)
    | cons a l => rfl
  have B0 := Lib.hid (Below.refl w.heap.size w)
  have HE := Lib.hid (⟨eN, eQ, eL, eA⟩ : N.data.toList = decK 18 n ∧ Q.data.toList = reasonL n ∧ L.data.toList = decK 18 len ∧ A.data.toList = decK 18 age)
  clear eN eQ eL eA
  go_enter Tryd.func16, Tryd.ntmps16
  go_wp2_with (first | (go_at_call 11; with_reducible refine (CN _).mono ?_; rintro e w2 ⟨rfl, hB2⟩; have B2 := Lib.hid hB2; clear CN) | (go_at_call 26; with_reducible refine (CQ _).mono ?_; rintro e w3 ⟨rfl, rfl⟩; clear CQ) | (go_at_call 11; with_reducible refine (CL _).mono ?_; rintro e w4 ⟨rfl, hB4⟩; have B4 := Lib.hid (B2.out.trans (hB4.mono B2.out.size)); clear CL) | (go_at_call 11; with_reducible refine (CA _).mono ?_; rintro e w5 ⟨rfl, hB5⟩; have B5 := Lib.hid (B4.out.trans (hB5.mono B4.out.size)); clear CA) | fail)
  go_ret
  refine ⟨_, ?_, rfl, B5.out⟩
  obtain ⟨eN, eQ, eL, eA⟩ := HE.out
  simp only [ba_app2, eN, eQ, eL, eA]
  simp [fieldsL, fline, join, line0, bHttp, bType, bLen, bAge, bCache, bHit, bMiss, typ_ne h0]
set_option maxRecDepth 100000 in
set_option maxHeartbeats 1600000 in
theorem lines111 (n : Nat) (hn : n < 10 ^ 18) (typ : ByteArray) (h0 : 0 < typ.size) (h1 : typ.size ≤ 100) (len : Nat) (hl : len < 10 ^ 18) (age : Nat) (ha : age < 10 ^ 18) (w : World) :
    Calls Tryd.prog 16 #[.int .i64 (n : Int), .string typ, .int .i64 (len : Int), .int .i64 (age : Int), .bool true] w (LinesAre n typ len (some age) true w) := by
  obtain ⟨N, dn, eN, sN, bN, CN⟩ := dec_box n (by omega)
  obtain ⟨Q, dq, eQ, sQ, bQ, CQ⟩ := reason_box n
  obtain ⟨L, dl, eL, sL, bL, CL⟩ := dec_box len (by omega)
  obtain ⟨A, da, eA, sA, bA, CA⟩ := dec_box age (by omega)
  have dg : (0 : Int) ≤ (age : Int) := by omega
  obtain ⟨tz, hz⟩ : ∃ k, typ.size = k := ⟨_, rfl⟩
  have he : typ.toList.isEmpty = false := by
    rw [ByteArray.toList_eq]
    cases hq : typ.data.toList with
    | nil => exact absurd hq (typ_ne h0)
    | cons a l => rfl
  have B0 := Lib.hid (Below.refl w.heap.size w)
  have HE := Lib.hid (⟨eN, eQ, eL, eA⟩ : N.data.toList = decK 18 n ∧ Q.data.toList = reasonL n ∧ L.data.toList = decK 18 len ∧ A.data.toList = decK 18 age)
  clear eN eQ eL eA
  go_enter Tryd.func16, Tryd.ntmps16
  go_wp2_with (first | (go_at_call 11; with_reducible refine (CN _).mono ?_; rintro e w2 ⟨rfl, hB2⟩; have B2 := Lib.hid hB2; clear CN) | (go_at_call 26; with_reducible refine (CQ _).mono ?_; rintro e w3 ⟨rfl, rfl⟩; clear CQ) | (go_at_call 11; with_reducible refine (CL _).mono ?_; rintro e w4 ⟨rfl, hB4⟩; have B4 := Lib.hid (B2.out.trans (hB4.mono B2.out.size)); clear CL) | (go_at_call 11; with_reducible refine (CA _).mono ?_; rintro e w5 ⟨rfl, hB5⟩; have B5 := Lib.hid (B4.out.trans (hB5.mono B4.out.size)); clear CA) | fail)
  go_ret
  refine ⟨_, ?_, rfl, B5.out⟩
  obtain ⟨eN, eQ, eL, eA⟩ := HE.out
  simp only [ba_app2, eN, eQ, eL, eA]
  simp [fieldsL, fline, join, line0, bHttp, bType, bLen, bAge, bCache, bHit, bMiss, typ_ne h0]
end Go.Proofs.YthjkpfnkahfdgaaDoor.answerRead
