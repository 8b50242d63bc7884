/- All chunks, walked. -/
import Derived.Test.YtjcbohpemfmpiaaDoorHn
namespace Go.Proofs.YtjcbohpemfmpiaaDoor.bodyLong
set_option linter.unusedVariables false
set_option linter.unusedSimpArgs false
open Go.ChangeShapes Go.WideShapes Go.ChangeAt Go.RowKit Go.Hl Go.Hg headLong
attribute [local go_sem ↓] Go.wp_at_zero Go.wp_at_succ
/-- Chunks, one behind the other. -/
def Chunked (bs : List UInt8) : Nat → List (List Nat × List UInt8) → Prop
  | p, [] => Line bs p [0] ∧ p + 5 ≤ bs.length ∧ at0 bs (p + 3) = 13 ∧ at0 bs (p + 4) = 10
  | p, (ds, t) :: r => Line bs p ds ∧ hval ds 0 = t.length ∧ 0 < t.length ∧ p + ds.length + 2 + t.length + 2 ≤ bs.length ∧ (bs.take (p + ds.length + 2 + t.length)).drop (p + ds.length + 2) = t ∧ at0 bs (p + ds.length + 2 + t.length) = 13 ∧ at0 bs (p + ds.length + 2 + t.length + 1) = 10 ∧ Chunked bs (p + ds.length + 2 + t.length + 2) r
/-- Where they end. -/
def endC : Nat → List (List Nat × List UInt8) → Nat
  | p, [] => p + 5
  | p, (ds, t) :: r => endC (p + ds.length + 2 + t.length + 2) r
/-- What they come to. -/
def outC : List UInt8 → List (List Nat × List UInt8) → Option (List UInt8)
  | acc, [] => some acc
  | acc, (_, t) :: r => if 4000 < acc.length + t.length then none else outC (acc ++ t) r
def COut (w : World) (B bb cap : Nat) (bs : List UInt8) (o : Option (List UInt8)) (en : Nat) (e : Ending) (w' : World) : Prop := Below B w w' ∧
  match o with
  | some t => e = .returned (.string ⟨t.toArray⟩) ∧ RH w' B bb cap en bs
  | none => e = .returned (.string ⟨#[]⟩) ∧ ∃ a : Nat, RX w' B bb bs.length cap a 9 ∧ HoldsB w' bb 0 bs
theorem ba_app (a b : List UInt8) : ((⟨a.toArray⟩ : ByteArray) ++ ⟨b.toArray⟩) = ⟨(a ++ b).toArray⟩ := by
  apply ByteArray.ext
  simp [ByteArray.data_append]
theorem keep_fail {B : Nat} {w w2 : World} (h : Below B w w2) (v : Value) : Below B w (w2.setCell ⟨B, 2, none⟩ v) := h.setCell (p := ⟨B, 2, none⟩) (Nat.le_refl _) _
set_option maxRecDepth 100000 in
set_option maxHeartbeats 1600000 in
theorem chunks_ (bs : List UInt8) (cs : List (List Nat × List UInt8)) (B bb cap : Nat) (w : World) (hR : RH w B bb cap 0 bs) (hC : Chunked bs 0 cs) (hb : bb < B) (hc : bs.length ≤ cap) (hl : bs.length ≤ 20000) :
    Calls Tryd.prog 24 #[.pointer (some ⟨B, 0, none⟩)] w (COut w B bb cap bs (outC [] cs) (endC 0 cs)) := by
  have H0 : Hid (∃ rest, Chunked bs 0 rest ∧ outC [] rest = outC [] cs ∧ endC 0 rest = endC 0 cs ∧ RH w B bb cap 0 bs ∧ Below B w w) := ⟨cs, hC, rfl, rfl, hR, Below.refl B w⟩
  clear hR hC
  go_enter Tryd.func24, Tryd.ntmps24
  go_wp2_with fail
  go_loopw [3] (fun s wr => ∃ (p : Nat) (acc : List UInt8), s = .string ⟨acc.toArray⟩ ∧ acc.length ≤ 4000 ∧ (Hid (∃ rest, Chunked bs p rest ∧ outC acc rest = outC [] cs ∧ endC p rest = endC 0 cs ∧ RH wr B bb cap p bs ∧ Below B w wr) ∨ (Hid (outC [] cs = none ∧ RX wr B bb bs.length cap p 9 ∧ HoldsB wr bb 0 bs ∧ Below B w wr)))) (fun _ wr => bs.length - (intOf ((wr.cell? ⟨B, 1, none⟩).getD undef)).toNat)
  case atStart => exact ⟨0, [], rfl, Nat.zero_le _, .inl H0⟩
  case round =>
    obtain ⟨p, acc, rfl, hac, hA | hF⟩ := hrel
    · obtain ⟨rest, hch, ho, hen, hr, hbw⟩ := hA.out
      obtain ⟨x0, x1, x2, y1, y2, hB⟩ := hr.1.facts
      cases rest with
      | nil =>
        obtain ⟨hL, h5, h13, h10⟩ := hch
        have LL : Calls Tryd.prog 32 #[.pointer (some ⟨B, 0, none⟩)] wr fun e w' => e = .returned (.int .i64 0) ∧ RH w' B bb cap (p + 3) bs ∧ Below B wr w' := length_ bs [0] B bb cap p wr hr hL hb hc hl
        have LW0 := fun (y : World) (h : RH y B bb cap (p + 3) bs) => want_ bs B bb cap (p + 3) y h hb (by omega) hc hl h13 h10
        go_wp2_with fail
        with_reducible refine LL.mono ?_
        rintro e w2 ⟨rfl, hr2, hb2⟩
        have G2 := Lib.hid hr2
        have K2 := Lib.hid (hbw.trans hb2)
        obtain ⟨z0, z1, z2, v1, v2, hB2⟩ := hr2.1.facts
        have LW := LW0 w2 hr2
        clear hr2 hb2 LL LW0 x0 x1 x2 y1 y2 hr hbw hA
        go_wp2_with fail
        with_reducible refine LW.mono ?_
        rintro e w3 ⟨⟨v, rfl⟩, hr3, hb3⟩
        go_wp2_with fail
        go_ret
        refine ⟨K2.out.trans hb3, ?_⟩
        rw [← ho, ← hen]
        exact ⟨rfl, hr3⟩
      | cons c rest =>
        obtain ⟨ds, tx⟩ := c
        obtain ⟨hL, hv, ht0, hend, htx, h13, h10, hch⟩ := hch
        have LL := length_ bs ds B bb cap p wr hr hL hb hc hl
        rw [hv] at LL
        have XA := Lib.hid x1
        have hk0 := hL.2.1
        have hpl := hL.2.2.2.1
        generalize hpq : p + ds.length + 2 = q at LL hend htx h13 h10 hch hpl
        have LW0 := fun (y : World) (h : RH y B bb cap (q + tx.length) bs) => want_ bs B bb cap (q + tx.length) y h hb (by omega) hc hl h13 h10
        have sz : (⟨acc.toArray⟩ : ByteArray).size = acc.length := by show acc.toArray.size = _; rw [List.size_toArray]
        have n0 : (((tx.length : Int)) == 0) = false := by rw [beq_eq_false_iff_ne]; omega
        by_cases h4 : 4000 < acc.length + tx.length
        · have g4 : (4000 : Int) - (acc.length : Int) < (tx.length : Int) := by omega
          have hno : outC [] cs = none := by rw [← ho]; show (if 4000 < acc.length + tx.length then none else _) = none; rw [if_pos h4]
          go_wp2_with fail
          with_reducible refine LL.mono ?_
          rintro e w2 ⟨rfl, hr2, hb2⟩
          have G2 : Hid (outC [] cs = none ∧ RX (w2.setCell ⟨B, 2, none⟩ (.int .i64 9)) B bb bs.length cap q 9 ∧ HoldsB (w2.setCell ⟨B, 2, none⟩ (.int .i64 9)) bb 0 bs ∧ Below B w (w2.setCell ⟨B, 2, none⟩ (.int .i64 9))) :=
            ⟨hno, hr2.1.fail 9, hr2.2.below ((Below.refl B w2).setCell (p := ⟨B, 2, none⟩) (Nat.le_refl _) _) hb, keep_fail (hbw.trans hb2) _⟩
          obtain ⟨z0, z1, z2, v1, v2, hB2⟩ := hr2.1.facts
          clear hr2 hb2 LL LW0 x0 x1 x2 y1 y2 hr hbw hA ho hen htx h13 h10 hch hno
          go_wp2_with fail
          refine ⟨⟨q, acc, rfl, hac, .inr G2⟩, ?_⟩
          obtain ⟨_, s1, _⟩ := G2.out.2.1.facts
          rw [s1, XA.out]
          simp [intOf]
          omega
        · have g4 : decide ((4000 : Int) - (acc.length : Int) < (tx.length : Int)) = false := by simp; omega
          have g5 : decide ((bs.length : Int) - (q : Int) < (tx.length : Int)) = false := by simp; omega
          go_wp2_with fail
          with_reducible refine LL.mono ?_
          rintro e w2 ⟨rfl, hr2, hb2⟩
          have G2 : Hid (RH w2 B bb cap q bs ∧ Below B w w2) := ⟨hr2, hbw.trans hb2⟩
          obtain ⟨z0, z1, z2, v1, v2, hB2⟩ := hr2.1.facts
          have HC := Lib.hid hch
          have HO := Lib.hid ho
          have HE := Lib.hid hen
          clear hr2 hb2 LL x0 x1 x2 y1 y2 hr hbw hA ho hen hch
          go_wp2_with fail
          go_quiet (fail)
          have H3 : Hid (RH (w2.drewN nq) B bb cap q bs ∧ Below B w (w2.drewN nq)) := ⟨G2.out.1, Below.drewN' G2.out.2 nq⟩
          clear z0 z1 z2 v1 v2 hB2 G2
          generalize w2.drewN nq = w3 at H3
          obtain ⟨z0, z1, z2, v1, v2, hB2⟩ := H3.out.1.1.facts
          have hcv := H3.out.1.text (i := q + tx.length) (fr := q) (by omega) (by omega)
          rw [htx, show q + tx.length - q = tx.length by omega] at hcv
          have m0 : (q : Int) ≤ (q : Int) + (tx.length : Int) := by omega
          have m1 : (q : Int) + (tx.length : Int) ≤ (cap : Int) := by omega
          have m2 : (((q : Int) + (tx.length : Int)).toNat - q) = tx.length := by omega
          have m4 : q < cap := by omega
          clear htx
          go_wp2_with fail
          go_quiet (fail)
          go_wp2_with fail
          have H4 : Hid (RH ((w3.drewN nq).setCell ⟨B, 1, none⟩ (.int .i64 ((q : Int) + (tx.length : Int)))) B bb cap (q + tx.length) bs ∧ Below B w ((w3.drewN nq).setCell ⟨B, 1, none⟩ (.int .i64 ((q : Int) + (tx.length : Int))))) := ⟨(H3.out.1.drew nq).step hb (q + tx.length) _ (by omega), keep_step H3.out.2 nq _⟩
          clear z0 z1 z2 v1 v2 hB2 hcv H3
          generalize (w3.drewN nq).setCell ⟨B, 1, none⟩ (.int .i64 ((q : Int) + (tx.length : Int))) = w4 at H4
          have LW := LW0 w4 H4.out.1
          refine LW.mono ?_
          rintro e w5 ⟨⟨v, rfl⟩, hr5, hb5⟩
          have ho2 : outC (acc ++ tx) rest = outC [] cs := by
            rw [← HO.out]
            show _ = (if 4000 < acc.length + tx.length then none else outC (acc ++ tx) rest)
            rw [if_neg h4]
          have H5 : Hid (∃ rest, Chunked bs (q + tx.length + 2) rest ∧ outC (acc ++ tx) rest = outC [] cs ∧ endC (q + tx.length + 2) rest = endC 0 cs ∧ RH w5 B bb cap (q + tx.length + 2) bs ∧ Below B w w5) := ⟨rest, HC.out, ho2, by rw [← HE.out]; show _ = endC (p + ds.length + 2 + tx.length + 2) rest; rw [hpq], hr5, H4.out.2.trans hb5⟩
          obtain ⟨_, s1, _⟩ := hr5.1.facts
          clear hb5 ho2 LW LW0 H4
          go_wp2_with fail
          refine ⟨⟨q + tx.length + 2, acc ++ tx, ?_, by rw [List.length_append]; omega, .inl H5⟩, ?_⟩
          · rw [ba_app]
          · rw [s1, XA.out]
            simp [intOf]
            omega
    · obtain ⟨hno, hx, hh, hbw⟩ := hF.out
      obtain ⟨x0, x1, x2, y1, y2, hB⟩ := hx.facts
      go_wp2_with fail
      go_ret
      refine ⟨hbw, ?_⟩
      rw [hno]
      exact ⟨rfl, p, hx, hh⟩
end Go.Proofs.YtjcbohpemfmpiaaDoor.bodyLong
