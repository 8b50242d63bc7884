/- Numbers by sixteen, as the program reads them, walked. -/
import Derived.Test.YtjcbohpemfmpiaaDoorHl
namespace Go.Proofs.YtjcbohpemfmpiaaDoor.bodyLong
set_option linter.unusedVariables false
set_option linter.unusedSimpArgs false
open Go.ChangeShapes Go.WideShapes Go.ChangeAt Go.RowKit Go.Hl Go.Hg headLong
attribute [local go_sem ↓] Go.wp_at_zero Go.wp_at_succ
/-- A digit by sixteen. -/
def hx (d : Nat) : UInt8 := if d < 10 then UInt8.ofNat (48 + d) else UInt8.ofNat (87 + d)
theorem hx_nat {d : Nat} (h : d < 16) : (hx d).toNat = if d < 10 then 48 + d else 87 + d := by
  unfold hx
  split <;> simp <;> omega
theorem digit_ (d : Nat) (h : d < 16) (w : World) : Calls Tryd.prog 64 #[.int .u8 ((hx d).toNat : Int)] w fun e w' => e = .returned (.int .i64 d) ∧ w = w' := by
  rw [hx_nat h]
  by_cases h1 : d < 10
  · rw [if_pos h1]
    have q1 : decide ((48 : Int) ≤ ((48 + d : Nat) : Int)) = true := by simp; omega
    have q2 : decide (((48 + d : Nat) : Int) ≤ 57) = true := by simp; omega
    go_enter Tryd.func64, Tryd.ntmps64
    go_wp2_with fail
    go_ret
    exact ⟨congrArg (fun z => Ending.returned (Value.int .i64 z)) (show (48 + (d : Int) - 48) = (d : Int) by omega), rfl⟩
  · rw [if_neg h1]
    have q1 : decide ((48 : Int) ≤ ((87 + d : Nat) : Int)) = true := by simp; omega
    have q2 : decide (((87 + d : Nat) : Int) ≤ 57) = false := by simp; omega
    have q3 : decide ((97 : Int) ≤ ((87 + d : Nat) : Int)) = true := by simp; omega
    have q4 : decide (((87 + d : Nat) : Int) ≤ 102) = true := by simp; omega
    go_enter Tryd.func64, Tryd.ntmps64
    go_wp2_with fail
    go_ret
    exact ⟨congrArg (fun z => Ending.returned (Value.int .i64 z)) (show (87 + (d : Int) - 97 + 10) = (d : Int) by omega), rfl⟩
theorem digit_cr (w : World) : Calls Tryd.prog 64 #[.int .u8 13] w fun e w' => e = .returned (.int .i64 (-1)) ∧ w = w' := by
  go_enter Tryd.func64, Tryd.ntmps64
  go_wp2_with fail
  go_ret
  exact ⟨rfl, rfl⟩
/-- A number's value by sixteen. -/
def hval : List Nat → Nat → Nat
  | [], n => n
  | d :: l, n => hval l (n * 16 + d)
theorem hval_snoc (d : Nat) : ∀ (l : List Nat) (n : Nat), hval (l ++ [d]) n = hval l n * 16 + d
  | [], n => rfl
  | e :: l, n => hval_snoc d l (n * 16 + e)
theorem hval_lt : ∀ (l : List Nat) (n m : Nat), (∀ d ∈ l, d < 16) → n < 16 ^ m → hval l n < 16 ^ (m + l.length)
  | [], n, m, _, h => h
  | e :: l, n, m, hd, h => by
    have he := hd e (List.mem_cons_self)
    have := hval_lt l (n * 16 + e) (m + 1) (fun d h => hd d (List.mem_cons_of_mem _ h)) (by rw [Nat.pow_succ]; omega)
    unfold hval
    rw [List.length_cons, Nat.add_comm l.length 1, ← Nat.add_assoc]
    exact this
theorem take_snoc {l : List Nat} {k : Nat} (h : k < l.length) : l.take (k + 1) = l.take k ++ [l[k]] := by
  rw [List.take_add_one, List.getElem?_eq_getElem h]; rfl
theorem or16 (v d : Nat) (hv : v < 2 ^ 58) (hd : d < 16) : bits BinOp.or IntKind.i64 (wrap64 ((v : Int) * 16)) (d : Int) = ((v * 16 + d : Nat) : Int) := by
  have e1 : wrap64 ((v : Int) * 16) = ((v * 16 : Nat) : Int) := by unfold wrap64; omega
  rw [e1]
  unfold bits
  have e2 : (BitVec.ofInt IntKind.i64.bits ((v * 16 : Nat) : Int) ||| BitVec.ofInt IntKind.i64.bits (d : Int)).toNat = v * 16 + d := by
    rw [BitVec.toNat_or, BitVec.ofInt_natCast, BitVec.ofInt_natCast, BitVec.toNat_ofNat, BitVec.toNat_ofNat]
    have b1 : v * 16 % 2 ^ IntKind.i64.bits = v * 16 := Nat.mod_eq_of_lt (by show v * 16 < 2 ^ 64; omega)
    have b2 : d % 2 ^ IntKind.i64.bits = d := Nat.mod_eq_of_lt (by show d < 2 ^ 64; omega)
    rw [b1, b2, Nat.mul_comm v 16]
    exact (Nat.two_pow_add_eq_or_of_lt (i := 4) hd v).symm
  show IntKind.i64.wrap ((BitVec.ofInt IntKind.i64.bits ((v * 16 : Nat) : Int) ||| BitVec.ofInt IntKind.i64.bits (d : Int)).toNat : Int) = _
  rw [e2]
  have e3 : (((v * 16 + d : Nat) : Int) % (2 ^ IntKind.i64.bits : Int)) = ((v * 16 + d : Nat) : Int) := Int.emod_eq_of_lt (by omega) (by show _ < (2 : Int) ^ 64; omega)
  unfold IntKind.wrap
  simp only [e3]
  rw [if_neg]
  have e4 : ¬ ((2 : Int) ^ 63 ≤ ((v * 16 + d : Nat) : Int)) := by omega
  intro h
  rw [Bool.and_eq_true] at h
  exact e4 (of_decide_eq_true h.2)
theorem hval_small (l : List Nat) (hd : ∀ d ∈ l, d < 16) (h8 : l.length ≤ 8) : hval l 0 < 2 ^ 58 := by
  have h1 := hval_lt l 0 0 hd (by decide)
  have h2 : 16 ^ (0 + l.length) ≤ 16 ^ 8 := Nat.pow_le_pow_right (by decide) (by omega)
  have h3 : 16 ^ 8 < 2 ^ 58 := by decide
  omega
set_option maxRecDepth 8000 in
set_option maxHeartbeats 1600000 in
theorem hexa_ (s : ByteArray) (ds : List Nat) (hd : ∀ d ∈ ds, d < 16) (hs : s.data.toList = ds.map hx) (h0 : 0 < ds.length) (h8 : ds.length ≤ 8) (w : World) :
    Calls Tryd.prog 49 #[.string s] w fun e w' => e = .returned (.tuple #[.int .i64 (hval ds 0 : Nat), .bool true]) ∧ w = w' := by
  have hsz : s.size = ds.length := by
    have : s.data.toList.length = ds.length := by rw [hs]; simp
    rw [← this]; exact Array.length_toList.symm
  have hbt : ∀ k, (h : k < ds.length) → bt s k = hx ds[k] := fun k h => by
    unfold bt
    rw [hs, List.getElem?_map, List.getElem?_eq_getElem h]; rfl
  have HD := Lib.hid hd
  have HB := Lib.hid hbt
  clear hbt hd
  go_enter Tryd.func49, Tryd.ntmps49
  go_wp2_with fail
  go_loopw [4, 9] (fun n i wr => ∃ k : Nat, k ≤ ds.length ∧ i = .int .i64 k ∧ n = .int .i64 (hval (ds.take k) 0 : Nat) ∧ w = wr) (fun _ i _ => ds.length - (intOf i).toNat)
  case atStart => exact ⟨0, Nat.zero_le _, rfl, rfl, rfl⟩
  case round =>
    obtain ⟨k, hk, rfl, rfl, rfl⟩ := hrel
    by_cases hlt : k < ds.length
    · have hl : (k : Int) < (ds.length : Int) := by omega
      have hl2 : (k : Int) < (s.size : Int) := by omega
      have hl3 : k < s.size := by omega
      have e1 : s[k] = hx ds[k] := by rw [← HB.out k hlt]; exact bt_eq hl3
      have LD := fun y => digit_ ds[k] (HD.out _ (List.getElem_mem hlt)) y
      have d1 : decide ((8 : Int) ≤ (k : Int)) = false := by simp; omega
      go_wp2_with (first | (go_at_call 64; refine (LD _).mono ?_; rintro e w2 ⟨rfl, rfl⟩) | fail)
      refine ⟨⟨k + 1, by omega, by go_num, ?_, trivial⟩, by simp [intOf]; omega⟩
      rw [take_snoc hlt, hval_snoc, or16 _ _ (hval_small _ (fun d h => HD.out d (List.mem_of_mem_take h)) (by rw [List.length_take]; omega)) (HD.out _ (List.getElem_mem hlt))]
    · have hkk : k = ds.length := by omega
      have hdk : decide ((k : Int) < (s.size : Int)) = false := by simp; omega
      have hne : s.toList.isEmpty = false := by
        rw [ByteArray.toList_eq, hs]
        cases ds with
        | nil => simp at h0
        | cons a l => rfl
      have htk : ds.take k = ds := by rw [hkk, List.take_length]
      rw [htk]
      go_wp2_with fail
      go_ret2
      exact ⟨rfl, rfl⟩
/-- One byte that is no digit. -/
theorem hexa_cr (w : World) : Calls Tryd.prog 49 #[.string ⟨#[13]⟩] w fun e w' => e = .returned (.tuple #[.int .i64 0, .bool false]) ∧ w = w' := by
  go_enter Tryd.func49, Tryd.ntmps49
  go_wp2_with fail
  refine wp_loop_rounds 1 ?_
  rw [rounds_succ]
  go_wp2_with (first | (go_at_call 64; refine (digit_cr _).mono ?_; rintro e w2 ⟨rfl, rfl⟩) | fail)
  go_ret2
  exact ⟨rfl, rfl⟩
end Go.Proofs.YtjcbohpemfmpiaaDoor.bodyLong
