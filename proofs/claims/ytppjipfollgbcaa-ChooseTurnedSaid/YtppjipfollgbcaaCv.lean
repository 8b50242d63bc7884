import Derived.Test.YtppjipfollgbcaaProg
import Derived.WalkKit
import Derived.ProofKit
import Derived.KernelRfl
import Derived.Deep.QuietTactic
import Derived.BigQuiet
import Derived.Lib.Hide
namespace Go.Proofs.Ytppjipfollgbcaa.chooseTurned
open Go.ChangeShapes Go.WideShapes Go.ChangeAt Go.RowKit
structure U where
  seg : Int
  size : Int
  live : Int
def HoldsU (w : World) (b o n : Nat) (D : Nat → U) : Prop := ∀ i, i < n → w.cell? ⟨b, o + i * 3, none⟩ = some (.int .i64 (D i).seg) ∧ w.cell? ⟨b, o + i * 3 + 1, none⟩ = some (.int .i64 (D i).size) ∧ w.cell? ⟨b, o + i * 3 + 2, none⟩ = some (.int .i64 (D i).live)
def goodU (u : U) : Bool := decide (-1099511627776 ≤ u.size ∧ -1099511627776 ≤ u.live ∧ u.size ≤ 1099511627776 ∧ u.live ≤ 1099511627776)
theorem goodU_iff {u : U} : goodU u = true ↔ -1099511627776 ≤ u.size ∧ -1099511627776 ≤ u.live ∧ u.size ≤ 1099511627776 ∧ u.live ≤ 1099511627776 := by unfold goodU; exact decide_eq_true_iff
def mayB (D : Nat → U) : Nat → Bool
  | 0 => true
  | k + 1 => mayB D k && goodU (D k)
theorem mayB_succ {D : Nat → U} {k : Nat} : mayB D (k + 1) = (mayB D k && goodU (D k)) := rfl
theorem mayB_false {D : Nat → U} : ∀ {n k : Nat}, k < n → goodU (D k) = false → mayB D n = false
  | 0, k, h, _ => by omega
  | n + 1, k, h, hg => by
    rw [mayB_succ]
    by_cases e : k = n
    · subst e; rw [hg, Bool.and_false]
    · rw [mayB_false (by omega) hg, Bool.false_and]
theorem may (b o n cap : Nat) (D : Nat → U) (w : World) (hH : HoldsU w b o n D) (hb : b < w.heap.size) (hn : n ≤ 20) :
    Calls Try.prog 23 #[.slice (some ⟨b, o, none⟩) n cap] w fun e w' => e = .returned (.bool (mayB D n)) ∧ Below w.heap.size w w' := by
  go_enter Try.func23, Try.ntmps23
  go_wp2
  go_loopw [7] (fun i wr => ∃ k : Nat, k ≤ n ∧ i = .int .i64 k ∧ mayB D k = true ∧ Below w.heap.size w wr) (fun i _ => n - (intOf i).toNat)
  case atStart => exact ⟨0, Nat.zero_le _, rfl, rfl, Below.refl _ _⟩
  case round =>
    obtain ⟨k, hk, rfl, hm, hB⟩ := hrel
    by_cases hlt : k < n
    · obtain ⟨h1, h2, h3⟩ := hH k hlt
      have c1 := (hB.cell (p := ⟨b, o + k * 3, none⟩) hb).trans h1
      have c2 := (hB.cell (p := ⟨b, o + k * 3 + 1, none⟩) hb).trans h2
      have c3 := (hB.cell (p := ⟨b, o + k * 3 + 2, none⟩) hb).trans h3
      clear h1 h2 h3 hH
      have hsz := hB.size
      by_cases hg : goodU (D k) = true
      · have hm' : mayB D (k + 1) = true := by rw [mayB_succ, hm, hg]; rfl
        have hg' := Lib.hid hg
        clear hg
        go_wp2
        all_goals first
          | (exfalso; have := goodU_iff.1 hg'.out; omega)
          | skip
        all_goals first
          | (go_roundw
             case rel => exact ⟨k + 1, by omega, by go_num, hm', hB.alloc (by omega) _⟩
             case measure => simp [intOf]; omega)
          | skip
      · have hg : goodU (D k) = false := by simpa using hg
        have hm' : mayB D n = false := mayB_false hlt hg
        have hg' := Lib.hid hg
        clear hg
        go_wp2
        all_goals first
          | (exfalso; have := hg'.out; have h9 : goodU (D k) = true := goodU_iff.2 (by omega); rw [h9] at this; cases this)
          | skip
        all_goals first
          | (go_ret; exact ⟨by first | rfl | rw [hm'], hB.alloc (by omega) _⟩)
          | skip
    · have hkn := Lib.hid (show k = n by omega)
      have hm' := Lib.hid hm
      clear hm
      have hd : decide (k < n) = false := by simpa using hlt
      go_wp2
      go_ret
      exact ⟨by have := hkn.out; subst this; rw [hm'.out]; rfl, hB⟩

/-- The best so far, and its dead bytes. -/
def vic (D : Nat → U) : Nat → Int × Int
  | 0 => (0, 0)
  | k + 1 => if (vic D k).2 < (D k).size - (D k).live ∨ ((D k).size - (D k).live = (vic D k).2 ∧ 0 < (D k).size - (D k).live ∧ (D k).seg < (vic D k).1) then ((D k).seg, (D k).size - (D k).live) else vic D k
theorem mayB_of {D : Nat → U} : ∀ {n k : Nat}, mayB D n = true → k < n → goodU (D k) = true
  | 0, k, _, h => by omega
  | n + 1, k, hm, h => by
    rw [mayB_succ, Bool.and_eq_true] at hm
    by_cases e : k = n
    · subst e; exact hm.2
    · exact mayB_of hm.1 (by omega)
theorem vic_bounds {D : Nat → U} {n : Nat} (hm : mayB D n = true) : ∀ k, k ≤ n → 0 ≤ (vic D k).2 ∧ (vic D k).2 ≤ 2199023255552
  | 0, _ => by simp [vic]
  | k + 1, h => by
    have ih := vic_bounds hm k (by omega)
    have hg := goodU_iff.1 (mayB_of hm (show k < n by omega))
    unfold vic
    split
    · simp only; omega
    · exact ih
theorem vic_hit {D : Nat → U} {k : Nat} {be de : Int} (hv : vic D k = (be, de)) (h : de < (D k).size - (D k).live ∨ ((D k).size - (D k).live = de ∧ 0 < (D k).size - (D k).live ∧ (D k).seg < be)) : vic D (k + 1) = ((D k).seg, (D k).size - (D k).live) := by
  show (if _ then _ else _) = _
  rw [hv]; exact if_pos h
theorem vic_miss {D : Nat → U} {k : Nat} {be de : Int} (hv : vic D k = (be, de)) (h : ¬ (de < (D k).size - (D k).live ∨ ((D k).size - (D k).live = de ∧ 0 < (D k).size - (D k).live ∧ (D k).seg < be))) : vic D (k + 1) = (be, de) := by
  show (if _ then _ else _) = _
  rw [hv]; exact if_neg h
theorem victim_ok (b o n cap : Nat) (D : Nat → U) (w : World) (hH : HoldsU w b o n D) (hb : b < w.heap.size) (hn : n ≤ 20) (hm : mayB D n = true) :
    Calls Try.prog 7 #[.slice (some ⟨b, o, none⟩) n cap] w fun e w' => e = .returned (.tuple #[.int .i64 (vic D n).1, .bool (decide (0 < (vic D n).2))]) ∧ Below w.heap.size w w' := by
  have HM := Lib.hid hm
  clear hm
  go_enter Try.func7, Try.ntmps7
  go_wp2_with (go_at_call 23; refine (may b o n cap D w hH hb hn).mono ?_; rw [HM.out]; rintro e w1 ⟨rfl, hB1⟩)
  go_loopw [4, 5, 14] (fun be de i wr => ∃ k : Nat, k ≤ n ∧ be = .int .i64 (vic D k).1 ∧ de = .int .i64 (vic D k).2 ∧ i = .int .i64 k ∧ Below w.heap.size w wr) (fun _ _ i _ => n - (intOf i).toNat)
  case atStart => exact ⟨0, Nat.zero_le _, rfl, rfl, rfl, hB1⟩
  case round =>
    obtain ⟨k, hk, rfl, rfl, rfl, hB⟩ := hrel
    by_cases hlt : k < n
    · obtain ⟨h1, h2, h3⟩ := hH k hlt
      have c1 := (hB.cell (p := ⟨b, o + k * 3, none⟩) hb).trans h1
      have c2 := (hB.cell (p := ⟨b, o + k * 3 + 1, none⟩) hb).trans h2
      have c3 := (hB.cell (p := ⟨b, o + k * 3 + 2, none⟩) hb).trans h3
      clear h1 h2 h3 hH
      have hsz := hB.size
      have hbd := vic_bounds HM.out k hk
      have hg := goodU_iff.1 (mayB_of HM.out hlt)
      obtain ⟨be, de, hv⟩ : ∃ be de, vic D k = (be, de) := ⟨_, _, rfl⟩
      rw [hv] at hbd ⊢
      have HV := Lib.hid hv
      clear hv
      simp only at hbd ⊢
      go_wp2
      all_goals first
        | (go_roundw
           case rel => exact ⟨k + 1, by omega, by rw [vic_hit HV.out (by omega)], by rw [vic_hit HV.out (by omega)]; all_goals exact congrArg (Value.int .i64) (by show _ = (D k).size - (D k).live; omega), by go_num, hB.alloc (by omega) _⟩
           case measure => simp [intOf]; omega)
        | (go_roundw
           case rel => exact ⟨k + 1, by omega, by rw [vic_miss HV.out (by omega)], by rw [vic_miss HV.out (by omega)], by go_num, hB.alloc (by omega) _⟩
           case measure => simp [intOf]; omega)
    · have hkn := Lib.hid (show k = n by omega)
      have hd : decide (k < n) = false := by simpa using hlt
      have hbd := vic_bounds HM.out k hk
      obtain ⟨be, de, hv⟩ : ∃ be de, vic D k = (be, de) := ⟨_, _, rfl⟩
      rw [hv] at hbd ⊢
      have HV := Lib.hid hv
      clear hv
      simp only at hbd ⊢
      go_wp2
      all_goals (go_ret2; exact ⟨by have := hkn.out; subst this; rw [HV.out]; rfl, hB⟩)
theorem victim_bad (b o n cap : Nat) (D : Nat → U) (w : World) (hH : HoldsU w b o n D) (hb : b < w.heap.size) (hn : n ≤ 20) (hm : mayB D n = false) :
    Calls Try.prog 7 #[.slice (some ⟨b, o, none⟩) n cap] w fun e w' => e = .returned (.tuple #[.int .i64 0, .bool false]) ∧ Below w.heap.size w w' := by
  have HM := Lib.hid hm
  clear hm
  go_enter Try.func7, Try.ntmps7
  go_wp2_with (go_at_call 23; refine (may b o n cap D w hH hb hn).mono ?_; rw [HM.out]; rintro e w1 ⟨rfl, hB1⟩)
  go_ret2
  exact ⟨rfl, hB1⟩
/-- The dead bytes so far. -/
def ded (D : Nat → U) : Nat → Int
  | 0 => 0
  | k + 1 => ded D k + max ((D k).size - (D k).live) 0
theorem ded_bounds {D : Nat → U} {n : Nat} (hm : mayB D n = true) : ∀ k, k ≤ n → 0 ≤ ded D k ∧ ded D k ≤ 2199023255552 * (k : Int)
  | 0, _ => by simp [ded]
  | k + 1, h => by
    have ih := ded_bounds hm k (by omega)
    have hg := goodU_iff.1 (mayB_of hm (show k < n by omega))
    unfold ded
    omega
theorem dead_ok (b o n cap : Nat) (D : Nat → U) (w : World) (hH : HoldsU w b o n D) (hb : b < w.heap.size) (hn : n ≤ 20) (hm : mayB D n = true) :
    Calls Try.prog 8 #[.slice (some ⟨b, o, none⟩) n cap] w fun e w' => e = .returned (.int .i64 (ded D n)) ∧ Below w.heap.size w w' := by
  have HM := Lib.hid hm
  clear hm
  go_enter Try.func8, Try.ntmps8
  go_wp2_with (go_at_call 23; refine (may b o n cap D w hH hb hn).mono ?_; rw [HM.out]; rintro e w1 ⟨rfl, hB1⟩)
  go_loopw [3, 11] (fun de i wr => ∃ k : Nat, k ≤ n ∧ de = .int .i64 (ded D k) ∧ i = .int .i64 k ∧ Below w.heap.size w wr) (fun _ i _ => n - (intOf i).toNat)
  case atStart => exact ⟨0, Nat.zero_le _, rfl, rfl, hB1⟩
  case round =>
    obtain ⟨k, hk, rfl, rfl, hB⟩ := hrel
    have hbd := ded_bounds HM.out k hk
    by_cases hlt : k < n
    · obtain ⟨h1, h2, h3⟩ := hH k hlt
      have c1 := (hB.cell (p := ⟨b, o + k * 3, none⟩) hb).trans h1
      have c2 := (hB.cell (p := ⟨b, o + k * 3 + 1, none⟩) hb).trans h2
      have c3 := (hB.cell (p := ⟨b, o + k * 3 + 2, none⟩) hb).trans h3
      clear h1 h2 h3 hH
      have hsz := hB.size
      have hg := goodU_iff.1 (mayB_of HM.out hlt)
      obtain ⟨de, hv⟩ : ∃ de, ded D k = de := ⟨_, rfl⟩
      rw [hv] at hbd ⊢
      have HV := Lib.hid hv
      clear hv
      go_wp2
      all_goals
        go_roundw
        case rel => exact ⟨k + 1, by omega, congrArg (Value.int .i64) (by show _ = ded D k + max ((D k).size - (D k).live) 0; rw [HV.out]; split <;> omega), by go_num, hB.alloc (by omega) _⟩
        case measure => simp [intOf]; omega
    · have hkn := Lib.hid (show k = n by omega)
      have hd : decide (k < n) = false := by simpa using hlt
      obtain ⟨de, hv⟩ : ∃ de, ded D k = de := ⟨_, rfl⟩
      rw [hv] at hbd ⊢
      have HV := Lib.hid hv
      clear hv
      go_wp2
      all_goals (go_ret; exact ⟨by have := hkn.out; subst this; rw [HV.out]; rfl, hB⟩)
theorem dead_bad (b o n cap : Nat) (D : Nat → U) (w : World) (hH : HoldsU w b o n D) (hb : b < w.heap.size) (hn : n ≤ 20) (hm : mayB D n = false) :
    Calls Try.prog 8 #[.slice (some ⟨b, o, none⟩) n cap] w fun e w' => e = .returned (.int .i64 0) ∧ Below w.heap.size w w' := by
  have HM := Lib.hid hm
  clear hm
  go_enter Try.func8, Try.ntmps8
  go_wp2_with (go_at_call 23; refine (may b o n cap D w hH hb hn).mono ?_; rw [HM.out]; rintro e w1 ⟨rfl, hB1⟩)
  go_ret
  exact ⟨rfl, hB1⟩
theorem HoldsU.below {w w' : World} {b o n : Nat} {D : Nat → U} {B : Nat} (h : HoldsU w b o n D) (hB : Below B w w') (hb : b < B) : HoldsU w' b o n D := fun i hi =>
  ⟨(hB.cell (p := ⟨b, o + i * 3, none⟩) hb).trans (h i hi).1, (hB.cell (p := ⟨b, o + i * 3 + 1, none⟩) hb).trans (h i hi).2.1, (hB.cell (p := ⟨b, o + i * 3 + 2, none⟩) hb).trans (h i hi).2.2⟩
def D3 : Nat → U
  | 0 => ⟨5, 10, 4⟩
  | 1 => ⟨3, 20, 14⟩
  | _ => ⟨9, 5, 5⟩
def W3 (w : World) : World := w.alloc (Obj.cells #[Value.int IntKind.i64 5, Value.int IntKind.i64 10, Value.int IntKind.i64 4, Value.int IntKind.i64 3, Value.int IntKind.i64 20, Value.int IntKind.i64 14, Value.int IntKind.i64 9, Value.int IntKind.i64 5, Value.int IntKind.i64 5] 27)
theorem holds3 (w : World) : HoldsU (W3 w) w.heap.size 0 3 D3 := fun i hi => by
  have hh : (W3 w).heap[w.heap.size]? = some (Obj.cells #[Value.int IntKind.i64 5, Value.int IntKind.i64 10, Value.int IntKind.i64 4, Value.int IntKind.i64 3, Value.int IntKind.i64 20, Value.int IntKind.i64 14, Value.int IntKind.i64 9, Value.int IntKind.i64 5, Value.int IntKind.i64 5] 27) := by
    show (w.heap.push _)[w.heap.size]? = _
    simp
  match i, hi with
  | 0, _ => refine ⟨?_, ?_, ?_⟩ <;> (simp only [World.cell?, hh]; rfl)
  | 1, _ => refine ⟨?_, ?_, ?_⟩ <;> (simp only [World.cell?, hh]; rfl)
  | 2, _ => refine ⟨?_, ?_, ?_⟩ <;> (simp only [World.cell?, hh]; rfl)
theorem begun (w : World) : Calls Try.prog 6 #[] w fun e w' => e = .returned (.bool true) ∧ Below w.heap.size w w' := by
  have hs : w.heap.size < (W3 w).heap.size := by show _ < (w.heap.push _).size; simp
  go_enter Try.func6, Try.ntmps6
  go_wp2_with (first
    | (go_at_call 7; refine (victim_ok w.heap.size 0 3 3 D3 (W3 w) (holds3 w) hs (by omega) (by decide)).mono ?_; rintro e w1 ⟨rfl, hB1⟩)
    | (go_at_call 8; refine (dead_ok w.heap.size 0 3 3 D3 _ ((holds3 w).below hB1 hs) (by have := hB1.size; omega) (by omega) (by decide)).mono ?_; rintro e w2 ⟨rfl, hB2⟩))
  go_ret
  have e1 : ded D3 3 = 12 := by decide
  have z1 := hB1.size
  have z2 : w.heap.size ≤ (W3 w).heap.size := Nat.le_of_lt hs
  have a0 : Below w.heap.size w (W3 w) := (Below.refl _ _).alloc (Nat.le_refl _) _
  exact ⟨by show Ending.returned (Value.bool (ded D3 3 == 12)) = _; rw [e1]; rfl, (a0.trans (hB1.mono z2)).trans (hB2.mono (by omega))⟩
end Go.Proofs.Ytppjipfollgbcaa.chooseTurned
