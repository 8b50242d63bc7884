/- The document's reading of all chunks, walked. -/
import Derived.Test.YtjcbohpemfmpiaaDoorHr
namespace Go.Proofs.YtjcbohpemfmpiaaDoor.bodyLong
set_option linter.unusedVariables false
set_option linter.unusedSimpArgs false
open Go.ChangeShapes Go.WideShapes Go.ChangeAt Go.RowKit Go.Hl Go.Hg headLong
theorem mul16 (v d : Nat) (hv : v < 2 ^ 58) (hd : d < 16) : wrap64 (wrap64 ((v : Int) * 16) + (d : Int)) = ((v * 16 + d : Nat) : Int) := by
  have e1 : wrap64 ((v : Int) * 16) = ((v * 16 : Nat) : Int) := by unfold wrap64; omega
  rw [e1]
  unfold wrap64
  omega
/-- The next line, whichever it is. -/
theorem next_ {bs : List UInt8} {p : Nat} {rest : List (List Nat × List UInt8)} (h : Chunked bs p rest) : ∃ ds t, Line bs p ds ∧ hval ds 0 = t.length ∧ p + ds.length + 2 + t.length + 2 ≤ bs.length ∧ (bs.take (p + ds.length + 2 + t.length)).drop (p + ds.length + 2) = t ∧ at0 bs (p + ds.length + 2 + t.length) = 13 ∧ at0 bs (p + ds.length + 2 + t.length + 1) = 10 ∧
    ((t.length = 0 ∧ rest = [] ∧ p + ds.length + 2 + t.length + 2 = p + 5) ∨ (0 < t.length ∧ ∃ r, rest = (ds, t) :: r ∧ Chunked bs (p + ds.length + 2 + t.length + 2) r)) := by
  cases rest with
  | nil =>
    obtain ⟨hL, h5, h13, h10⟩ := h
    refine ⟨[0], [], hL, rfl, h5, ?_, h13, h10, .inl ⟨rfl, rfl, rfl⟩⟩
    rw [List.drop_eq_nil_iff, List.length_take]
    simp only [List.length_singleton, List.length_nil]
    omega
  | cons c r =>
    obtain ⟨ds, t⟩ := c
    obtain ⟨hL, hv, ht0, hend, htx, h13, h10, hch⟩ := h
    exact ⟨ds, t, hL, hv, hend, htx, h13, h10, .inr ⟨ht0, r, rfl, hch⟩⟩
set_option maxRecDepth 100000 in
set_option maxHeartbeats 1600000 in
theorem body_r (bs : List UInt8) (cs : List (List Nat × List UInt8)) (bb cap : Nat) (w : World) (hH : HoldsB w bb 0 bs) (hC : Chunked bs 0 cs) (hb : bb < w.heap.size) (hc : bs.length ≤ cap) (hl : bs.length ≤ 20000) :
    Calls Tryd.prog 25 #[.bool true, .int .i64 0, .slice (some ⟨bb, 0, none⟩) bs.length cap] w fun e w' => e = .returned (BOut (outC [] cs) (endC 0 cs)) ∧ Below w.heap.size w w' := by
  have LE := fun (p : Nat) (y : World) (h : Below w.heap.size w y) hp h1 h2 => end_r bs bb cap p y (hH.below h hb) (Nat.lt_of_lt_of_le hb h.size) hp hl h1 h2
  have HB := Lib.hid (fun (y : World) (h : Below w.heap.size w y) => hH.below h hb)
  have H0 : Hid (∃ rest, Chunked bs 0 rest ∧ outC [] rest = outC [] cs ∧ endC 0 rest = endC 0 cs ∧ Below w.heap.size w w) := ⟨cs, hC, rfl, rfl, Below.refl _ w⟩
  clear hC hH
  go_enter Tryd.func25, Tryd.ntmps25
  go_wp2_with fail
  go_loopw [9, 10] (fun s a wr => ∃ (p : Nat) (acc : List UInt8), s = .string ⟨acc.toArray⟩ ∧ a = .int .i64 p ∧ acc.length ≤ 4000 ∧ Hid (∃ rest, Chunked bs p rest ∧ outC acc rest = outC [] cs ∧ endC p rest = endC 0 cs ∧ Below w.heap.size w wr)) (fun _ a _ => bs.length - (intOf a).toNat)
  case atStart => exact ⟨0, [], rfl, rfl, Nat.zero_le _, H0⟩
  case round =>
    obtain ⟨p, acc, rfl, rfl, hac, hA⟩ := hrel
    obtain ⟨rest, hch, ho, hen, hbw⟩ := hA.out
    obtain ⟨ds, tx, hL, hv, hend, htx, h13, h10, hk⟩ := next_ hch
    obtain ⟨hd, hk0, hk8, hpl, _, e13, e10⟩ := id hL
    have HL := Lib.hid hL
    have HD := Lib.hid hd
    have I0 : Hid (Below w.heap.size w wr) := hbw
    have M := Lib.hid (⟨ho, hen, htx, h13, h10, hk, e13, e10, hv⟩ : _ ∧ _ ∧ _ ∧ _ ∧ _ ∧ _ ∧ _ ∧ _ ∧ _)
    clear hch hL hd ho hen htx h13 h10 hk e13 e10 hbw hA hv
    go_wp2_with fail
    go_loopw [10, 11, 12] (fun a n k wr => ∃ q : Nat, q ≤ ds.length ∧ a = .int .i64 (p + q : Nat) ∧ n = .int .i64 (hval (ds.take q) 0 : Nat) ∧ k = .int .i64 q ∧ Hid (Below w.heap.size w wr)) (fun _ _ k _ => ds.length - (intOf k).toNat)
    case atStart => exact ⟨0, Nat.zero_le _, rfl, rfl, rfl, I0⟩
    case round =>
      obtain ⟨q, hq, rfl, rfl, rfl, hI⟩ := hrel
      have l0 : (0 : Int) ≤ ((p + q : Nat) : Int) := by omega
      have l1 : ((p + q : Nat) : Int) < (bs.length : Int) := by omega
      by_cases hlt : q < ds.length
      · have c1 := byte_of (HB.out _ hI.out) (j := p + q) (by omega) (HL.out.digit hlt)
        have LX := fun y => hexa_r ds[q] (HD.out _ (List.getElem_mem hlt)) y
        have d16 : ((ds[q] : Nat) : Int) < 16 := by have := HD.out _ (List.getElem_mem hlt); omega
        have q8 : ((q : Int) == 8) = false := by rw [beq_eq_false_iff_ne]; omega
        go_wp2_with (first | (go_at_call 34; with_reducible refine (LX _).mono ?_; rintro e w2 ⟨rfl, rfl⟩) | fail)
        refine ⟨⟨q + 1, by omega, by go_num, ?_, by go_num, hI⟩, by simp [intOf]; omega⟩
        have small := hval_small (ds.take q) (fun d h => HD.out d (List.mem_of_mem_take h)) (by rw [List.length_take]; omega)
        have d16' := HD.out _ (List.getElem_mem hlt)
        rw [take_snoc hlt, hval_snoc, mul16 _ _ small d16']
      · have hql : q = ds.length := by omega
        subst hql
        obtain ⟨ho, hen, htx, h13, h10, hk, e13, e10, hv⟩ := M.out
        have c1 := byte_of (HB.out _ hI.out) (j := p + ds.length) (by omega) e13
        rw [List.take_length, hv]
        have k0 : ((ds.length : Int) == 0) = false := by rw [beq_eq_false_iff_ne]; omega
        have ne0 : (((p + ds.length : Nat) : Int) == (bs.length : Int)) = false := by rw [beq_eq_false_iff_ne]; omega
        have LE1 := LE (p + ds.length) wr hI.out (by omega) e13 e10
        rw [Int.natCast_add] at LE1
        have g1 : (p : Int) + (ds.length : Int) + 2 ≤ (bs.length : Int) := by omega
        have sz : (⟨acc.toArray⟩ : ByteArray).size = acc.length := by show acc.toArray.size = _; rw [List.size_toArray]
        clear e13 e10 hv M
        by_cases h4 : 4000 < acc.length + tx.length
        · have g4 : (4000 : Int) - (acc.length : Int) < (tx.length : Int) := by omega
          have hno : outC [] cs = none := by
            rcases hk with ⟨h0, _, _⟩ | ⟨_, r, hr, _⟩
            · omega
            · rw [← ho, hr]; show (if 4000 < acc.length + tx.length then none else _) = none; rw [if_pos h4]
          have HN := Lib.hid hno
          clear hno hk ho hen htx h13 h10
          go_wp2_with (first | (go_at_call 34; with_reducible refine (hexa_rcr _).mono ?_; rintro e w2 ⟨rfl, rfl⟩) | (go_at_call 35; with_reducible refine LE1.mono ?_; rintro e w2 ⟨rfl, hb2⟩; have I2 := Lib.hid (hI.out.trans (hb2.mono hI.out.size)); clear hb2 LE1) | fail)
          go_ret3
          exact ⟨by rw [HN.out]; rfl, I2.out⟩
        · have g4 : decide ((4000 : Int) - (acc.length : Int) < (tx.length : Int)) = false := by simp; omega
          have g5 : decide ((bs.length : Int) - ((p : Int) + (ds.length : Int) + 2) < (tx.length : Int)) = false := by simp; omega
          have g6 : (p : Int) + (ds.length : Int) + 2 ≤ (p : Int) + (ds.length : Int) + 2 + (tx.length : Int) := by omega
          have g7 : (p : Int) + (ds.length : Int) + 2 + (tx.length : Int) ≤ (cap : Int) := by omega
          have g8 : (((p : Int) + (ds.length : Int) + 2 + (tx.length : Int)).toNat - (p + ds.length + 2)) = tx.length := by omega
          have g9 : ((p : Int) + (ds.length : Int) + 2).toNat = p + ds.length + 2 := by omega
          have ga : (0 : Int) ≤ (p : Int) + (ds.length : Int) + 2 := by omega
          have hcv := fun (y : World) (h : Below w.heap.size w y) => (HB.out y h).string (i := p + ds.length + 2 + tx.length) (fr := p + ds.length + 2) (by omega) (by omega)
          simp only [htx, show p + ds.length + 2 + tx.length - (p + ds.length + 2) = tx.length by omega, Nat.zero_add] at hcv
          have HC := Lib.hid hcv
          have LE2 := fun y h => LE (p + ds.length + 2 + tx.length) y h hend h13 h10
          have K := Lib.hid (⟨ho, hen, hk⟩ : _ ∧ _ ∧ _)
          clear ho hen hk hcv htx h13 h10
          go_wp2_with (first | (go_at_call 34; with_reducible refine (hexa_rcr _).mono ?_; rintro e w2 ⟨rfl, rfl⟩) | (go_at_call 35; with_reducible refine LE1.mono ?_; rintro e w2 ⟨rfl, hb2⟩; have I2 := Lib.hid (hI.out.trans (hb2.mono hI.out.size)); have hcv := HC.out _ I2.out; clear hb2 LE1) | fail)
          have LE3 := LE2 w2 I2.out
          push_cast at LE3
          refine LE3.mono ?_
          rintro e w3 ⟨rfl, hb3⟩
          have I3 := Lib.hid (I2.out.trans (hb3.mono I2.out.size))
          clear LE3 LE2 hb3 hcv
          obtain ⟨ho, hen, hk⟩ := K.out
          rcases hk with ⟨h0, hr, hpe⟩ | ⟨h0, r, hr, hch⟩
          · have z0 : ((tx.length : Int) == 0) = true := by rw [beq_iff_eq]; omega
            have V : BOut (outC [] cs) (endC 0 cs) = .tuple #[.string (⟨acc.toArray⟩ ++ ⟨tx.toArray⟩), .int .i64 ((p : Int) + (ds.length : Int) + 2 + 2), .int .i64 0] := by
              have et : tx = [] := List.eq_nil_of_length_eq_zero h0
              have e5 : (p : Int) + (ds.length : Int) + 2 + 2 = ((p + 5 : Nat) : Int) := by omega
              rw [← ho, ← hen, hr, e5, et, ba_app, List.append_nil]
              rfl
            have VV := Lib.hid V
            clear ho hen hr hpe V
            go_wp2_with fail
            go_ret3
            exact ⟨by rw [VV.out]; rfl, I3.out⟩
          · have z0 : ((tx.length : Int) == 0) = false := by rw [beq_eq_false_iff_ne]; omega
            have ho2 : outC (acc ++ tx) r = outC [] cs := by
              rw [← ho, hr]
              show _ = (if 4000 < acc.length + tx.length then none else outC (acc ++ tx) r)
              rw [if_neg h4]
            have H5 : Hid (∃ rest, Chunked bs (p + ds.length + 2 + tx.length + 2) rest ∧ outC (acc ++ tx) rest = outC [] cs ∧ endC (p + ds.length + 2 + tx.length + 2) rest = endC 0 cs ∧ Below w.heap.size w w3) := ⟨r, hch, ho2, by rw [← hen, hr]; rfl, I3.out⟩
            clear ho hen hr hch ho2
            go_wp2_with fail
            refine ⟨⟨p + ds.length + 2 + tx.length + 2, acc ++ tx, by rw [ba_app], by push_cast; rfl, by rw [List.length_append]; omega, H5⟩, by simp [intOf]; omega⟩
end Go.Proofs.YtjcbohpemfmpiaaDoor.bodyLong
