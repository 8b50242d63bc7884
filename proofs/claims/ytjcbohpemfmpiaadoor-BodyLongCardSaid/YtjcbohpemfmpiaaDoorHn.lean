/- A chunk's length, walked. -/
import Derived.Test.YtjcbohpemfmpiaaDoorHm
namespace Go.Proofs.YtjcbohpemfmpiaaDoor.bodyLong
set_option linter.unusedVariables false
set_option linter.unusedSimpArgs false
open Go.ChangeShapes Go.WideShapes Go.ChangeAt Go.RowKit Go.Hl Go.Hg headLong
attribute [local go_sem ↓] Go.wp_at_zero Go.wp_at_succ
/-- A line with a length. -/
def Line (bs : List UInt8) (p : Nat) (ds : List Nat) : Prop := (∀ d ∈ ds, d < 16) ∧ 0 < ds.length ∧ ds.length ≤ 8 ∧ p + ds.length + 2 ≤ bs.length ∧ ((bs.take (p + ds.length)).drop p) = ds.map hx ∧ at0 bs (p + ds.length) = 13 ∧ at0 bs (p + ds.length + 1) = 10
theorem RH.text {w : World} {B bb cap p : Nat} {bs : List UInt8} (h : RH w B bb cap p bs) {i fr : Nat} (hi : i ≤ bs.length) (hf : fr ≤ i) (n cp : Nat) :
    (convert 23 9 (.slice (some ⟨bb, fr, none⟩) (i - fr) cp)).run Tryd.prog (w.drewN n) = .ok (.string ⟨((bs.take i).drop fr).toArray⟩) (w.drewN n) := by
  have hh : HoldsB (w.drewN n) bb 0 bs := h.2
  have := hh.string hi hf cp
  rw [Nat.zero_add] at this
  exact this
theorem one_of {bs : List UInt8} {a : Nat} (h : a < bs.length) : ((bs.take (a + 1)).drop a) = [at0 bs a] := by
  have h1 : at0 bs a = bs[a] := by unfold at0; rw [List.getElem?_eq_getElem h]; rfl
  rw [h1, List.take_add_one, List.getElem?_eq_getElem h, List.drop_append_of_le_length (by rw [List.length_take]; omega)]
  have : (bs.take a).drop a = [] := by rw [List.drop_eq_nil_iff, List.length_take]; omega
  rw [this]; rfl
theorem Line.digit {bs : List UInt8} {p : Nat} {ds : List Nat} (h : Line bs p ds) {q : Nat} (hq : q < ds.length) : at0 bs (p + q) = hx ds[q] := by
  obtain ⟨_, _, _, hl, ht, _⟩ := h
  have h1 : ((bs.take (p + ds.length)).drop p)[q]? = (ds.map hx)[q]? := by rw [ht]
  rw [List.getElem?_drop, List.getElem?_take_of_lt (by omega), List.getElem?_map, List.getElem?_eq_getElem hq] at h1
  unfold at0
  rw [h1]; rfl
theorem quiet_same' {P : Program} {f : FuncId} {args : Array Value} {w : World} {n : Nat} {v : Value}
    (h : Calls P f args (w.drewN n) fun e w' => e = .returned v ∧ w.drewN n = w') : Calls P f args (w.drewN n) fun e w'' => e = .returned v ∧ ∃ m, w'' = w.drewN m :=
  h.mono fun _ _ ⟨he, hm⟩ => ⟨he, n, hm.symm⟩
set_option maxRecDepth 8000 in
set_option maxHeartbeats 1600000 in
theorem length_ (bs : List UInt8) (ds : List Nat) (B bb cap p : Nat) (w : World) (hR : RH w B bb cap p bs) (hL : Line bs p ds) (hb : bb < B) (hc : bs.length ≤ cap) (hl : bs.length ≤ 20000) :
    Calls Tryd.prog 32 #[.pointer (some ⟨B, 0, none⟩)] w fun e w' => e = .returned (.int .i64 (hval ds 0 : Nat)) ∧ RH w' B bb cap (p + ds.length + 2) bs ∧ Below B w w' := by
  obtain ⟨x0, x1, x2, y1, y2, hB⟩ := hR.1.facts
  obtain ⟨hd, h0, h8, hend, htx, h13, h10⟩ := id hL
  have HL := Lib.hid hL
  have H0 : Hid (RH w B bb cap p bs ∧ Below B w w) := ⟨hR, Below.refl B w⟩
  have HD := Lib.hid hd
  have HT := Lib.hid htx
  have H13 := Lib.hid h13
  have H10 := Lib.hid h10
  clear hL hd htx h13 h10 hR
  go_enter Tryd.func32, Tryd.ntmps32
  go_wp2_with fail
  clear x0 x1 x2 y1 y2 hB
  go_loopw [4, 5] (fun _ _ wr => ∃ a : Nat, p ≤ a ∧ a ≤ p + ds.length ∧ Hid (RH wr B bb cap a bs ∧ Below B w wr)) (fun _ _ wr => bs.length - (intOf ((wr.cell? ⟨B, 1, none⟩).getD undef)).toNat)
  case atStart => exact ⟨p, Nat.le_refl _, by omega, H0⟩
  case round =>
    obtain ⟨a, ha, hak, hR⟩ := hrel
    obtain ⟨x0, x1, x2, y1, y2, hB⟩ := hR.out.1.1.facts
    have l1 : (a : Int) < (bs.length : Int) := by omega
    have l2 : (a : Int) - (p : Int) ≤ 8 := by omega
    have l3 : (a : Int) + 1 ≤ (cap : Int) := by omega
    have m0 : (0 : Int) ≤ (a : Int) := by omega
    have m3 : (((a : Int) + 1).toNat - a) = 1 := by omega
    have m4 : a < cap := by omega
    go_wp2_with fail
    go_quiet (fail)
    have H2 : Hid (RH (wr.drewN nq) B bb cap a bs ∧ Below B w (wr.drewN nq)) := ⟨hR.out.1, Below.drewN' hR.out.2 nq⟩
    have XA := Lib.hid x1
    clear x0 x1 x2 y1 y2 hB hR
    generalize wr.drewN nq = w2 at H2
    obtain ⟨x0, x1, x2, y1, y2, hB⟩ := H2.out.1.1.facts
    have hcv := H2.out.1.text (i := a + 1) (fr := a) (by omega) (Nat.le_succ a)
    rw [one_of (by omega), show a + 1 - a = 1 by omega] at hcv
    by_cases hlt : a < p + ds.length
    · have hdg : at0 bs a = hx (ds[a - p]'(by omega)) := by
        have := HL.out.digit (q := a - p) (by omega)
        rw [← this]; congr 1; omega
      rw [hdg] at hcv
      have LD := fun y => hexa_ ⟨#[hx (ds[a - p]'(by omega))]⟩ [ds[a - p]'(by omega)] (fun d h => by rw [List.mem_singleton] at h; rw [h]; exact HD.out _ (List.getElem_mem _)) rfl (by simp) (by simp) y
      go_wp2_with fail
      go_quiet ((go_at_call 49; exact quiet_same' (LD _)))
      go_wp2_with fail
      have H3 : Hid (RH ((w2.drewN nq).setCell ⟨B, 1, none⟩ (.int .i64 ((a : Int) + 1))) B bb cap (a + 1) bs ∧ Below B w ((w2.drewN nq).setCell ⟨B, 1, none⟩ (.int .i64 ((a : Int) + 1)))) := ⟨(H2.out.1.drew nq).step hb (a + 1) _ (by omega), keep_step H2.out.2 nq _⟩
      refine ⟨⟨a + 1, by omega, by omega, H3⟩, ?_⟩
      obtain ⟨_, z1, _⟩ := H3.out.1.1.facts
      rw [z1, XA.out]
      simp [intOf]
      omega
    · have hdg : at0 bs a = 13 := by rw [show a = p + ds.length by omega]; exact H13.out
      rw [hdg] at hcv
      go_wp2_with fail
      go_quiet ((go_at_call 49; exact quiet_same' (hexa_cr _)))
      have q0 : (((a : Int) - (p : Int)) == 0) = false := by rw [beq_eq_false_iff_ne]; omega
      go_wp2_with fail
      have H3 : Hid (RH (w2.drewN nq) B bb cap a bs ∧ Below B w (w2.drewN nq)) := ⟨H2.out.1, Below.drewN' H2.out.2 nq⟩
      clear x0 x1 x2 y1 y2 hB H2 hcv XA
      generalize w2.drewN nq = w3 at H3
      obtain ⟨x0, x1, x2, y1, y2, hB⟩ := H3.out.1.1.facts
      go_quiet (fail)
      have H4 : Hid (RH (w3.drewN nq) B bb cap a bs ∧ Below B w (w3.drewN nq)) := ⟨H3.out.1, Below.drewN' H3.out.2 nq⟩
      clear x0 x1 x2 y1 y2 hB H3
      generalize w3.drewN nq = w4 at H4
      obtain ⟨x0, x1, x2, y1, y2, hB⟩ := H4.out.1.1.facts
      have ht : (bs.take a).drop p = ds.map hx := by rw [show a = p + ds.length by omega]; exact HT.out
      have hcv := H4.out.1.text (i := a) (fr := p) (by omega) ha
      rw [ht] at hcv
      have LD := fun y => hexa_ ⟨(ds.map hx).toArray⟩ ds HD.out (by simp) h0 h8 y
      have k1 : (p : Int) ≤ (a : Int) := by omega
      have k2 : (a : Int) ≤ (cap : Int) := by omega
      have k3 : p < cap := by omega
      clear ht hdg
      go_wp2_with fail
      go_quiet ((go_at_call 49; exact quiet_same' (LD _)))
      have H5 : Hid (RH (w4.drewN nq) B bb cap a bs ∧ Below B w (w4.drewN nq)) := ⟨H4.out.1, Below.drewN' H4.out.2 nq⟩
      clear x0 x1 x2 y1 y2 hB H4 hcv LD
      generalize w4.drewN nq = w5 at H5
      have LW := want_ bs B bb cap a w5 H5.out.1 hb (by omega) hc hl (by rw [show a = p + ds.length by omega]; exact H13.out) (by rw [show a = p + ds.length by omega]; exact H10.out)
      go_wp2_with (first | (go_at_call 33; with_reducible refine LW.mono ?_; rintro e w6 ⟨⟨v, rfl⟩, hr6, hb6⟩; have G6 := Lib.hid hr6; have K6 := Lib.hid (H5.out.2.trans hb6); clear hr6 hb6) | fail)
      go_ret
      refine ⟨rfl, ?_, K6.out⟩
      rw [show p + ds.length = a by omega]
      exact G6.out
end Go.Proofs.YtjcbohpemfmpiaaDoor.bodyLong
