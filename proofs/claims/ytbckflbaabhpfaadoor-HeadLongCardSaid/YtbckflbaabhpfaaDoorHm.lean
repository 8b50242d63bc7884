/- A head, as the reference reads it, walked. -/
import Derived.Test.YtbckflbaabhpfaaDoorHl
import Derived.Test.YtbckflbaabhpfaaDoorHh
namespace Go.Proofs.YtbckflbaabhpfaaDoor.headLong
set_option linter.unusedVariables false
set_option linter.unusedSimpArgs false
open Go.ChangeShapes Go.WideShapes Go.ChangeAt Go.RowKit Go.Hl Go.Hg
section
variable {bs : List UInt8} {k f : Nat} {bg : Bool} {r : Rd}
theorem rs_big (h : k < bs.length) (h2 : 2000 ≤ k) : rd bs (bs.length - k) k f bg r = .bad 9 := by
  rw [hs_succ h]; unfold rd
  rw [if_pos h2]
theorem rs_cont (h : k < bs.length) (h2 : ¬ 2000 ≤ k) (hc : at0 bs k ≠ 10) (hb : back bs k = false) : rd bs (bs.length - k) k f bg r = rd bs (bs.length - (k + 1)) (k + 1) f bg r := by
  rw [hs_succ h]; conv => lhs; unfold rd
  rw [if_neg h2, beq_eq_false_iff_ne.2 hc, hb]; rfl
theorem rs_bad1 (h : k < bs.length) (h2 : ¬ 2000 ≤ k) (hc : at0 bs k ≠ 10) (hb : back bs k = true) : rd bs (bs.length - k) k f bg r = .bad 5 := by
  rw [hs_succ h]; unfold rd
  rw [if_neg h2, beq_eq_false_iff_ne.2 hc, hb]; rfl
theorem rs_bad2 (h : k < bs.length) (h2 : ¬ 2000 ≤ k) (hc : at0 bs k = 10) (hb : back bs k = false) : rd bs (bs.length - k) k f bg r = .bad 5 := by
  rw [hs_succ h]; unfold rd
  rw [if_neg h2, hc, hb]; rfl
theorem rs_ok (h : k < bs.length) (h2 : ¬ 2000 ≤ k) (hc : at0 bs k = 10) (hb : back bs k = true) (hs : (seg bs k f).isEmpty = true) : rd bs (bs.length - k) k f true r = .ok r (k + 1) := by
  unfold seg at hs
  rw [hs_succ h]; unfold rd
  rw [if_neg h2, hc, hb, hs]; rfl
theorem rs_first (h : k < bs.length) (h2 : ¬ 2000 ≤ k) (hc : at0 bs k = 10) (hb : back bs k = true) : rd bs (bs.length - k) k f false r = match firstF (seg bs k f) with | none => .bad 5 | some (m, t) => rd bs (bs.length - (k + 1)) (k + 1) (k + 1) true { r with m := m, t := t } := by
  unfold seg
  rw [hs_succ h]; conv => lhs; unfold rd
  rw [if_neg h2, hc, hb]; rfl
theorem rs_field (h : k < bs.length) (h2 : ¬ 2000 ≤ k) (hc : at0 bs k = 10) (hb : back bs k = true) (hs : (seg bs k f).isEmpty = false) : rd bs (bs.length - k) k f true r = match fieldF (seg bs k f) with | none => .bad 5 | some x => if 20 ≤ r.fs.length then .bad 5 else rd bs (bs.length - (k + 1)) (k + 1) (k + 1) true { r with fs := r.fs ++ [x] } := by
  unfold seg at hs ⊢
  rw [hs_succ h]; conv => lhs; unfold rd
  rw [if_neg h2, hc, hb, hs]; rfl
theorem rs_end : rd bs (bs.length - bs.length) k f bg r = .bad 11 := by
  rw [Nat.sub_self]; rfl
end
/-- The reading so far. -/
def XR (w : World) (B : Nat) (m t : ByteArray) (vf : Value) : Prop := w.heap[B]? = some (.cells #[.string m, .string t, vf, .string ⟨#[]⟩] 28 (0, 0))
/-- How many lines were read. -/
def lnN (bg : Bool) (r : Rd) : Nat := if bg then r.fs.length + 1 else 0
/-- The loop's state. -/
structure RS (w wr : World) (bs : List UInt8) (k f : Nat) (bg : Bool) (r : Rd) (vf : Value) : Prop where
  fle : f ≤ k
  nl : f = 0 ∨ at0 bs (f - 1) = 10
  spec : rd bs (bs.length - k) k f bg r = read bs
  x : XR wr (w.heap.size + 1) ⟨r.m.toArray⟩ ⟨r.t.toArray⟩ vf
  own : wr.ownsRow (w.heap.size + 1 + 1) 46 2 vf r.fs.length (fcells r.fs)
  res : wr.heap[w.heap.size]? = some (.cells #[.string ⟨#[]⟩, .string ⟨#[]⟩, .slice none 0 0, .string ⟨#[]⟩] 28 (0, 0))
  low : Below w.heap.size w wr
  beg : bg = false → r = {} ∧ vf = .slice none 0 0
theorem RS.size {w wr : World} {bs : List UInt8} {k f : Nat} {bg : Bool} {r : Rd} {vf : Value} (h : RS w wr bs k f bg r vf) : w.heap.size + 1 < wr.heap.size := by
  have hX := h.x
  unfold XR at hX
  rcases Nat.lt_or_ge (w.heap.size + 1) wr.heap.size with h | h
  · exact h
  · simp [Array.getElem?_eq_none h] at hX
theorem xrcells {w : World} {B : Nat} {m t : ByteArray} {vf : Value} (h : XR w B m t vf) : w.cell? ⟨B, 0, none⟩ = some (.string m) ∧ w.cell? ⟨B, 1, none⟩ = some (.string t) ∧ w.cell? ⟨B, 2, none⟩ = some vf ∧ w.cell? ⟨B, 3, none⟩ = some (.string ⟨#[]⟩) ∧
    w.frozen? ⟨B, 0, none⟩ = false ∧ w.frozen? ⟨B, 1, none⟩ = false ∧ w.frozen? ⟨B, 2, none⟩ = false := by
  refine ⟨?_, ?_, ?_, ?_, ?_, ?_, ?_⟩ <;> first | (rw [blk_cell h]; rfl) | (simp [World.frozen?, show w.heap[B]? = _ from h])
theorem ZR.drew {w wr : World} (h : ZR w wr) (n : Nat) : ZR w (wr.drewN n) := ⟨h.1, Below.drewN' h.2 n⟩
theorem own_below {w w2 : World} {base : Nat} {v : Value} {n : Nat} {xs : List Value} (h : w.ownsRow base 46 2 v n xs) (hB : Below w.heap.size w w2) : w2.ownsRow base 46 2 v n xs := by
  obtain ⟨h1, h2⟩ := h
  refine ⟨h1, ?_⟩
  rcases h2 with h2 | ⟨g, cap, cur, hv, hg, hh, r⟩
  · exact .inl h2
  · refine .inr ⟨g, cap, cur, hv, hg, ?_, r⟩
    rw [hB.block g (by
      rcases Nat.lt_or_ge g w.heap.size with h | h
      · exact h
      · simp [Array.getElem?_eq_none h] at hh)]; exact hh
theorem own_new {w : World} {base R i : Nat} {v x : Value} {n : Nat} {xs : List Value} {wb : World} (h : wb.ownsRow base 46 2 v n xs) (hr : wb.heap.size ≤ R) (h' : w.ownsRow base 46 2 v n xs) : (w.setCell ⟨R, i, none⟩ x).ownsRow base 46 2 v n xs := by
  obtain ⟨h1, h2⟩ := h'
  refine ⟨h1, ?_⟩
  rcases h2 with h2 | ⟨g, cap, cur, hv, hg, hh, r⟩
  · exact .inl h2
  · refine .inr ⟨g, cap, cur, hv, hg, ?_, r⟩
    have hl := (h.lt g (by rw [hv]; rfl)).2
    have : (w.setCell ⟨R, i, none⟩ x).heap[g]? = w.heap[g]? := by
      show (w.heap.modify R _)[g]? = _
      rw [Array.getElem?_modify, if_neg (by omega)]
    rw [this]; exact hh
theorem after_append_r {w w3 w4 : World} {B : Nat} {m t : ByteArray} {vf : Value} {row : Option Nat} (hX : XR w B m t vf) (h3 : Below (B + 1) w w3) (hg : w3.grownBy w4 row) (hb : B + 1 ≤ w3.heap.size) (hr : ∀ k, row = some k → B + 1 ≤ k) :
    Hid (Below (B + 1) w w4) ∧ Hid (XR w4 B m t vf) ∧ w4.cell? ⟨B, 2, none⟩ = some vf ∧ w4.frozen? ⟨B, 2, none⟩ = false := by
  have R1 := h3.grown hg hb hr
  have XA : XR w4 B m t vf := (R1.block B (by omega)).trans hX
  exact ⟨R1, XA, by rw [blk_cell XA]; rfl, by simp [World.frozen?, show w4.heap[B]? = _ from XA]⟩
theorem bad_end_r {bs : List UInt8} {w w2 : World} {t : Array Value} {x : Int} (hres : read bs = .bad x) (hZ : ZR w w2) (h2 : t[2]? = some (.pointer (some ⟨w.heap.size, 0, none⟩))) (h3 : t[3]? = some (.int .i64 0)) (h4 : t[4]? = some (.int .i64 x)) :
    bodyPost Tryd.prog Tryd.f18 (ROut w (read bs)) Exit.ret { tmps := t, defers := [] } ((((w2.setCell ⟨w.heap.size, 0, none⟩ (.string ⟨#[]⟩)).setCell ⟨w.heap.size, 1, none⟩ (.string ⟨#[]⟩)).setCell ⟨w.heap.size, 2, none⟩ (.slice none 0 0)).setCell ⟨w.heap.size, 3, none⟩ (.string ⟨#[]⟩)) :=
  fin_18 (four_set hZ.1) h2 h3 h4 ⟨four_low hZ.2 (Nat.le_refl _), .inl ⟨x, hres, rfl⟩⟩
theorem bad_end_ra {bs : List UInt8} {w w2 : World} {o : Obj} {t : Array Value} {x : Int} (hres : read bs = .bad x) (hZ : ZR w w2) (h2 : t[2]? = some (.pointer (some ⟨w.heap.size, 0, none⟩))) (h3 : t[3]? = some (.int .i64 0)) (h4 : t[4]? = some (.int .i64 x)) :
    bodyPost Tryd.prog Tryd.f18 (ROut w (read bs)) Exit.ret { tmps := t, defers := [] } (((((w2.setCell ⟨w.heap.size, 0, none⟩ (.string ⟨#[]⟩)).setCell ⟨w.heap.size, 1, none⟩ (.string ⟨#[]⟩)).setCell ⟨w.heap.size, 2, none⟩ (.slice none 0 0)).setCell ⟨w.heap.size, 3, none⟩ (.string ⟨#[]⟩)).alloc o) := by
  have hl : w.heap.size < w2.heap.size := by
    rcases Nat.lt_or_ge w.heap.size w2.heap.size with h' | h'
    · exact h'
    · have := hZ.1; simp [Array.getElem?_eq_none h'] at this
  refine fin_18 ((Below.heap_alloc _ _ _ (by simpa using hl)).trans (four_set hZ.1)) h2 h3 h4 ⟨(four_low hZ.2 (Nat.le_refl _)).alloc (by simp; omega) _, .inl ⟨x, hres, rfl⟩⟩
theorem two_alloc {w w2 : World} {a b : Obj} (h : w.heap.size + 1 < w2.heap.size) : Below (w.heap.size + 1 + 1) w2 ((w2.alloc a).alloc b) := ((Below.refl _ w2).alloc (by omega) a).alloc (by simp; omega) b
theorem two_new (w2 : World) (a b : Obj) : ((w2.alloc a).alloc b).heap[w2.heap.size + 1]? = some b := by have := heap_alloc_new (w2.alloc a) b; simpa using this
theorem x_call {wr w2 : World} {B : Nat} {m t : ByteArray} {vf : Value} (h : XR wr B m t vf) (hB : Below wr.heap.size wr w2) : XR w2 B m t vf := by
  unfold XR at h ⊢
  rw [hB.block B (by
    rcases Nat.lt_or_ge B wr.heap.size with h' | h'
    · exact h'
    · simp [Array.getElem?_eq_none h'] at h)]; exact h
theorem field_rs {w w2 w4 : World} {bs : List UInt8} {k : Nat} {r : Rd} {m t : List UInt8} {vf v' : Value} (hZ : ZR w w2) (R1 : Below (w.heap.size + 1 + 1) w2 w4) (XA : XR w4 (w.heap.size + 1) ⟨r.m.toArray⟩ ⟨r.t.toArray⟩ vf)
    (ho : w4.ownsRow (w.heap.size + 1 + 1) 46 2 v' (r.fs.length + 1) (fcells r.fs ++ [.string ⟨m.toArray⟩, .string ⟨t.toArray⟩])) (hc : at0 bs k = 10)
    (hv : rd bs (bs.length - (k + 1)) (k + 1) (k + 1) true { r with fs := r.fs ++ [(m, t)] } = read bs) :
    RS w (w4.setCell ⟨w.heap.size + 1, 2, none⟩ v') bs (k + 1) (k + 1) true { r with fs := r.fs ++ [(m, t)] } v' := by
  have hL : Below (w.heap.size + 1) w2 (w4.setCell ⟨w.heap.size + 1, 2, none⟩ v') := (R1.mono (Nat.le_succ _)).setCell (p := ⟨w.heap.size + 1, 2, none⟩) (Nat.le_refl _) _
  exact ⟨Nat.le_refl _, .inr (by simpa using hc), hv, blk_set (i := 2) XA _, by rw [fcells_snoc, List.length_append]; exact own_set_ne ho, (hZ.keep hL).1, (hZ.keep hL).2, fun h => by cases h⟩
theorem first_rs {w wx : World} {bs : List UInt8} {k : Nat} {m t : List UInt8} (hZ : ZR w wx) (hX : XR wx (w.heap.size + 1) ⟨#[]⟩ ⟨#[]⟩ (.slice none 0 0)) (hc : at0 bs k = 10)
    (hv : rd bs (bs.length - (k + 1)) (k + 1) (k + 1) true { m := m, t := t } = read bs) :
    RS w ((wx.setCell ⟨w.heap.size + 1, 0, none⟩ (.string ⟨m.toArray⟩)).setCell ⟨w.heap.size + 1, 1, none⟩ (.string ⟨t.toArray⟩)) bs (k + 1) (k + 1) true { m := m, t := t } (.slice none 0 0) := by
  have hL : Below (w.heap.size + 1) wx ((wx.setCell ⟨w.heap.size + 1, 0, none⟩ (.string ⟨m.toArray⟩)).setCell ⟨w.heap.size + 1, 1, none⟩ (.string ⟨t.toArray⟩)) := ((Below.refl _ wx).setCell (p := ⟨w.heap.size + 1, 0, none⟩) (Nat.le_refl _) _).setCell (p := ⟨w.heap.size + 1, 1, none⟩) (Nat.le_refl _) _
  exact ⟨Nat.le_refl _, .inr (by simpa using hc), hv, blk_set (blk_set hX (i := 0) _) (i := 1) _, World.ownsRow_nil _ _ _ _, (hZ.keep hL).1, (hZ.keep hL).2, fun h => by cases h⟩
set_option maxRecDepth 100000 in
set_option maxHeartbeats 1600000 in
theorem ref_read (bs : List UInt8) (hn : bs.length ≤ 5000) (bb o cap : Nat) (w : World) (hH : HoldsB w bb o bs) (hbb : bb < w.heap.size) (hcap : bs.length ≤ cap) :
    Calls Tryd.prog 18 #[.slice (some ⟨bb, o, none⟩) bs.length cap] w (ROut w (read bs)) := by
  have HH := Lib.hid hH
  have h0 : RS w ((w.alloc (Obj.cells #[.string ⟨#[]⟩, .string ⟨#[]⟩, .slice none 0 0, .string ⟨#[]⟩] 28)).alloc (Obj.cells #[.string ⟨#[]⟩, .string ⟨#[]⟩, .slice none 0 0, .string ⟨#[]⟩] 28)) bs 0 0 false {} (.slice none 0 0) := by
    refine ⟨Nat.le_refl _, .inl rfl, rfl, ?_, World.ownsRow_nil _ _ _ _, ?_, ?_, fun _ => ⟨rfl, rfl⟩⟩
    · have := heap_alloc_new (w.alloc (Obj.cells #[.string ⟨#[]⟩, .string ⟨#[]⟩, .slice none 0 0, .string ⟨#[]⟩] 28)) (Obj.cells #[.string ⟨#[]⟩, .string ⟨#[]⟩, .slice none 0 0, .string ⟨#[]⟩] 28)
      unfold XR
      simpa using this
    · rw [Below.heap_alloc _ _ _ (by simp)]; exact heap_alloc_new w _
    · exact ((Below.refl _ w).alloc (Nat.le_refl _) _).alloc (by simp) _
  have H0 := Lib.hid h0
  clear hH h0
  obtain ⟨i0, hi, hz0, hz1, hz2⟩ := info_parts info46
  go_enter Tryd.func18, Tryd.ntmps18
  go_wp2_with fail
  go_loopw [6, 7, 8] (fun fr ln i wr => ∃ (k f : Nat) (bg : Bool) (r : Rd) (vf : Value), k ≤ bs.length ∧ i = .int .i64 k ∧ fr = .int .i64 f ∧ ln = .int .i64 (lnN bg r : Nat) ∧ Hid (RS w wr bs k f bg r vf)) (fun _ _ i _ => bs.length - (intOf i).toNat)
  case atStart => exact ⟨0, 0, _, _, _, Nat.zero_le _, rfl, rfl, rfl, H0⟩
  case round =>
    obtain ⟨k, f, bg, r, vf, hk, rfl, rfl, rfl, hR⟩ := hrel
    have hsz := hR.out.size
    have HZ : Hid (ZR w wr) := ⟨hR.out.res, hR.out.low⟩
    by_cases hlt : k < bs.length
    · have hb8 := HH.out.below hR.out.low hbb
      have cb := hb8 k hlt
      by_cases h2 : 2000 ≤ k
      · have g2 : (2000 : Int) ≤ (k : Int) := by omega
        clear hb8
        have hv := (rs_big hlt h2).symm.trans hR.out.spec
        have HV := Lib.hid hv.symm
        obtain ⟨z0, z1, z2, z3, y0, y1, y2, y3⟩ := HZ.out.facts
        clear hv
        go_wp2_with fail
        exact bad_end_r HV.out HZ.out (by rfl) (by rfl) (by rfl)
      · have H2 := Lib.hid h2
        have g2 : (k : Int) < 2000 := by omega
        clear h2
        by_cases hk0 : 0 < k
        · have cp := hb8 (k - 1) (by omega)
          have g0 : (0 : Int) ≤ (k : Int) - 1 := by omega
          have gt : ((k : Int) - 1).toNat = k - 1 := by omega
          have gl : (k : Int) - 1 < (bs.length : Int) := by omega
          have e0 : ((k : Int) == 0) = false := by rw [beq_eq_false_iff_ne]; omega
          clear hb8
          by_cases hp : at0 bs (k - 1) = 13
          · have hbk : back bs k = true := by unfold back; rw [decide_eq_true hk0, hp]; rfl
            have q13 : (((at0 bs (k - 1)).toNat : Int) == 13) = true := by rw [hp]; rfl
            have p13 : (((at0 bs (k - 1)).toNat : Int) != 13) = false := by rw [hp]; rfl
            generalize (at0 bs (k - 1)).toNat = pn at cp q13 p13
            have HP := Lib.hid hp
            clear hp
            by_cases hc : at0 bs k = 10
            · have q10 : (((at0 bs k).toNat : Int) == 10) = true := by rw [hc]; rfl
              have p10 : (((at0 bs k).toNat : Int) != 10) = false := by rw [hc]; rfl
              have HC := Lib.hid hc
              have HB := Lib.hid hbk
              clear hc hbk
              generalize (at0 bs k).toNat = cn at cb q10 p10
              have hfk : f ≤ k - 1 := by
                rcases Nat.lt_or_ge f k with h | h
                · omega
                · have e : f = k := by have := hR.out.fle; omega
                  rcases hR.out.nl with h2 | h2
                  · omega
                  · rw [e, HP.out] at h2; exact absurd h2 (by decide)
              have hcv := fun cp => (HH.out.below hR.out.low hbb).string (i := k - 1) (fr := f) (by omega) hfk cp
              have hseg : (⟨((bs.take (k - 1)).drop f).toArray⟩ : ByteArray).data.toList = seg bs k f := by simp [seg]
              have hss : (⟨((bs.take (k - 1)).drop f).toArray⟩ : ByteArray).size ≤ 5000 := by
                show ((bs.take (k - 1)).drop f).toArray.size ≤ 5000
                rw [List.size_toArray, List.length_drop, List.length_take]; omega
              generalize (⟨((bs.take (k - 1)).drop f).toArray⟩ : ByteArray) = s at hcv hseg hss
              have f0 : (f : Int) ≤ (k : Int) - 1 := by omega
              have f1 : (k : Int) - 1 ≤ (cap : Int) := by omega
              have f2 : (((k : Int) - 1).toNat - f) = k - 1 - f := by omega
              have f3 : f < cap := by omega
              have cx := xrcells hR.out.x
              obtain ⟨x0, x1, x2, x3, v0, v1, v2⟩ := cx
              cases bg with
              | false =>
                obtain ⟨er, ev⟩ := hR.out.beg rfl
                subst er ev
                have l0 : lnN false ({} : Rd) = 0 := rfl
                have hff := (rs_first (f := f) (r := {}) hlt H2.out HC.out HB.out).symm.trans hR.out.spec
                rw [← hseg] at hff
                have LF := fun y => ref_first s hss y
                unfold firstV at LF
                rw [l0]
                cases hf : firstF s.data.toList with
                | none =>
                  rw [hf] at hff LF
                  have HV := Lib.hid hff.symm
                  obtain ⟨z0, z1, z2, z3, y0, y1, y2, y3⟩ := HZ.out.facts
                  clear hff hseg hss hf
                  dsimp only at LF
                  go_wp2_with (first | (go_at_call 28; refine (LF _).mono ?_; rintro e w2 ⟨rfl, n, rfl⟩) | fail)
                  exact bad_end_r HV.out (HZ.out.drew n) (by rfl) (by rfl) (by rfl)
                | some mt =>
                  obtain ⟨m, t⟩ := mt
                  rw [hf] at hff LF
                  dsimp only at hff
                  have HFF := Lib.hid hff
                  have HX := Lib.hid hR.out.x
                  clear hff hseg hss hf
                  dsimp only at LF
                  go_wp2_with (first | (go_at_call 28; refine (LF _).mono ?_; rintro e w2 ⟨rfl, n, rfl⟩) | fail)
                  have hS : RS w (((wr.drewN n).setCell ⟨w.heap.size + 1, 0, none⟩ (.string ⟨m.toArray⟩)).setCell ⟨w.heap.size + 1, 1, none⟩ (.string ⟨t.toArray⟩)) bs (k + 1) (k + 1) true { m := m, t := t } (.slice none 0 0) := first_rs (HZ.out.drew n) HX.out HC.out HFF.out
                  have HS1 := Lib.hid hS
                  clear hS
                  go_roundw
                  case rel => exact ⟨k + 1, k + 1, _, _, _, by omega, by go_num, by go_num, by go_num, HS1⟩
                  case measure => simp [intOf]; omega
              | true =>
                have l0 : lnN true r = r.fs.length + 1 := rfl
                rw [l0]
                cases hse : s.toList.isEmpty with
                | true =>
                  have hso : (seg bs k f).isEmpty = true := by rw [← hseg, ← ba_list]; exact hse
                  have hok := (rs_ok hlt H2.out HC.out HB.out hso).symm.trans hR.out.spec
                  obtain ⟨z0, z1, z2, z3, y0, y1, y2, y3⟩ := HZ.out.facts
                  have HV := Lib.hid hok.symm
                  have HO := Lib.hid (own_four (R := w.heap.size) (a := .string ⟨r.m.toArray⟩) (b := .string ⟨r.t.toArray⟩) (c := vf) (d := .string ⟨#[]⟩) hR.out.own (by omega))
                  obtain ⟨va, vc, rfl⟩ := own_form hR.out.own
                  clear hok hseg hss hso
                  go_wp2_with fail
                  exact fin_18 (four_set HZ.out.1) (by rfl) (by rfl) (by rfl) ⟨four_low HZ.out.2 (Nat.le_refl _), .inr ⟨r, k + 1, _, HV.out, by go_num, HO.out⟩⟩
                | false =>
                  have hsn : (seg bs k f).isEmpty = false := by rw [← hseg, ← ba_list]; exact hse
                  have hff := (rs_field hlt H2.out HC.out HB.out hsn).symm.trans hR.out.spec
                  rw [← hseg] at hff
                  have LF := fun y => ref_field s hss y
                  unfold fieldV at LF
                  cases hf : fieldF s.data.toList with
                  | none =>
                    rw [hf] at hff LF
                    have HV := Lib.hid hff.symm
                    clear hff hseg hss hf hsn
                    dsimp only at LF
                    go_wp2_with (first | (go_at_call 29; refine (LF _).mono ?_; rintro e w2 ⟨rfl, hB2⟩; have HZ2 := Lib.hid (HZ.out.call hB2); obtain ⟨z0, z1, z2, z3, y0, y1, y2, y3⟩ := HZ2.out.facts; have hs2 : w.heap.size + 1 < w2.heap.size := (by have := hB2.size; omega); have hs3 : w.heap.size < w2.heap.size := (by omega); clear hB2) | fail)
                    exact bad_end_ra HV.out HZ2.out (by rfl) (by rfl) (by rfl)
                  | some x =>
                    obtain ⟨m, t⟩ := x
                    rw [hf] at hff LF
                    dsimp only at hff LF
                    by_cases h20 : 20 ≤ r.fs.length
                    · rw [if_pos h20] at hff
                      have g20 : (20 : Int) < (r.fs.length : Int) + 1 := by omega
                      have HV := Lib.hid hff.symm
                      clear hff hseg hss hf hsn h20
                      go_wp2_with (first | (go_at_call 29; refine (LF _).mono ?_; rintro e w2 ⟨rfl, hB2⟩; have HZ2 := Lib.hid (HZ.out.call hB2); obtain ⟨z0, z1, z2, z3, y0, y1, y2, y3⟩ := HZ2.out.facts; have hs2 : w.heap.size + 1 < w2.heap.size := (by have := hB2.size; omega); have hs3 : w.heap.size < w2.heap.size := (by omega); clear hB2) | fail)
                      exact bad_end_ra HV.out HZ2.out (by rfl) (by rfl) (by rfl)
                    · rw [if_neg h20] at hff
                      have g20 : (r.fs.length : Int) + 1 ≤ 20 := by omega
                      have H20 := Lib.hid h20
                      have HFF := Lib.hid hff
                      have HO := Lib.hid hR.out.own
                      have HX := Lib.hid hR.out.x
                      obtain ⟨va, vc, rfl⟩ := own_form hR.out.own
                      clear hff hseg hss hf hsn h20
                      go_wp2_with (first | (go_at_call 29; refine (LF _).mono ?_; rintro e w2 ⟨rfl, hB2⟩; have HZ2 := Lib.hid (HZ.out.call hB2); obtain ⟨z0, z1, z2, z3, y0, y1, y2, y3⟩ := HZ2.out.facts; have hs2 : w.heap.size + 1 < w2.heap.size := (by have := hB2.size; omega); have hs3 : w.heap.size < w2.heap.size := (by omega); have OW2 := Lib.hid (own_below HO.out hB2); have XW2 := Lib.hid (x_call HX.out hB2); obtain ⟨x0, x1, x2, x3, v0, v1, v2⟩ := xrcells XW2.out; clear hB2) | (at_builtin; refine wpList_append_own _ rfl _ _ 26 rfl (w.heap.size + 1 + 1) 46 i0 _ 2 32 Tryd.underlying26 hi hz0 hz1 hz2 rfl (by decide) _ r.fs.length (fcells r.fs) rfl ((OW2.out.alloc _).alloc _) ⟨_, 0, none⟩ 1 1 [.string ⟨m.toArray⟩, .string ⟨t.toArray⟩] rfl rfl (World.news_of_block (cs := #[.string ⟨m.toArray⟩, .string ⟨t.toArray⟩]) (t := 46) (fr := (0, 0)) (two_new _ _ _)) (by simp [Value.oneCell']) (by unfold maxLen; omega) (by omega) (by simp; omega) ?_; intro v' w4 hown4 hgrow hnil; have AF := after_append_r XW2.out (two_alloc hs2) hgrow (by simp; omega) (fun r hr => (OW2.out.lt r hr).1); obtain ⟨R1, XA, e2, e3⟩ := AF; obtain ⟨va', vc', rfl⟩ := own_form hown4; have OW := Lib.hid hown4; clear hown4 hgrow hnil) | fail)
                      have HS1 := Lib.hid (field_rs HZ2.out R1.out XA.out OW.out HC.out HFF.out)
                      go_roundw
                      case rel => exact ⟨k + 1, k + 1, true, { r with fs := r.fs ++ [(m, t)] }, _, by omega, by go_num, by go_num, by unfold lnN; simp, HS1⟩
                      case measure => simp [intOf]; omega
            · have q10 : (((at0 bs k).toNat : Int) == 10) = false := by rw [beq_eq_false_iff_ne]; intro e; exact hc (UInt8.toNat_inj.1 (by show _ = 10; omega))
              have p10 : (((at0 bs k).toNat : Int) != 10) = true := by rw [bne_iff_ne]; intro e; exact hc (UInt8.toNat_inj.1 (by show _ = 10; omega))
              have HC := Lib.hid hc
              have HB := Lib.hid hbk
              clear hc hbk
              generalize (at0 bs k).toNat = cn at cb q10 p10
              have hv := (rs_bad1 hlt H2.out HC.out HB.out).symm.trans hR.out.spec
              have HV := Lib.hid hv.symm
              obtain ⟨z0, z1, z2, z3, y0, y1, y2, y3⟩ := HZ.out.facts
              clear hv
              go_wp2_with fail
              exact bad_end_r HV.out HZ.out (by rfl) (by rfl) (by rfl)
          · have hbk : back bs k = false := by unfold back; rw [beq_eq_false_iff_ne.2 hp, Bool.and_false]
            have q13 : (((at0 bs (k - 1)).toNat : Int) == 13) = false := by rw [beq_eq_false_iff_ne]; intro e; exact hp (UInt8.toNat_inj.1 (by show _ = 13; omega))
            have p13 : (((at0 bs (k - 1)).toNat : Int) != 13) = true := by rw [bne_iff_ne]; intro e; exact hp (UInt8.toNat_inj.1 (by show _ = 13; omega))
            generalize (at0 bs (k - 1)).toNat = pn at cp q13 p13
            clear hp
            by_cases hc : at0 bs k = 10
            · have q10 : (((at0 bs k).toNat : Int) == 10) = true := by rw [hc]; rfl
              have p10 : (((at0 bs k).toNat : Int) != 10) = false := by rw [hc]; rfl
              have HC := Lib.hid hc
              have HB := Lib.hid hbk
              clear hc hbk
              generalize (at0 bs k).toNat = cn at cb q10 p10
              have hv := (rs_bad2 hlt H2.out HC.out HB.out).symm.trans hR.out.spec
              have HV := Lib.hid hv.symm
              obtain ⟨z0, z1, z2, z3, y0, y1, y2, y3⟩ := HZ.out.facts
              clear hv
              go_wp2_with fail
              exact bad_end_r HV.out HZ.out (by rfl) (by rfl) (by rfl)
            · have q10 : (((at0 bs k).toNat : Int) == 10) = false := by rw [beq_eq_false_iff_ne]; intro e; exact hc (UInt8.toNat_inj.1 (by show _ = 10; omega))
              have p10 : (((at0 bs k).toNat : Int) != 10) = true := by rw [bne_iff_ne]; intro e; exact hc (UInt8.toNat_inj.1 (by show _ = 10; omega))
              have HC := Lib.hid hc
              have HB := Lib.hid hbk
              clear hc hbk
              generalize (at0 bs k).toNat = cn at cb q10 p10
              have hS : RS w wr bs (k + 1) f bg r vf := ⟨by have := hR.out.fle; omega, hR.out.nl, (rs_cont hlt H2.out HC.out HB.out).symm.trans hR.out.spec, hR.out.x, hR.out.own, hR.out.res, hR.out.low, hR.out.beg⟩
              have HS1 := Lib.hid hS
              clear hS
              go_wp2_with fail
              go_roundw
              case rel => exact ⟨k + 1, f, bg, r, vf, by omega, by go_num, rfl, rfl, HS1⟩
              case measure => simp [intOf]; omega
        · have hbk : back bs k = false := by unfold back; rw [decide_eq_false hk0]; rfl
          have e0 : ((k : Int) == 0) = true := by rw [beq_iff_eq]; omega
          have d0 : decide ((0 : Int) < (k : Int)) = false := by simp; omega
          clear hb8
          by_cases hc : at0 bs k = 10
          · have q10 : (((at0 bs k).toNat : Int) == 10) = true := by rw [hc]; rfl
            have p10 : (((at0 bs k).toNat : Int) != 10) = false := by rw [hc]; rfl
            have HC := Lib.hid hc
            have HB := Lib.hid hbk
            clear hc hbk
            generalize (at0 bs k).toNat = cn at cb q10 p10
            have hv := (rs_bad2 hlt H2.out HC.out HB.out).symm.trans hR.out.spec
            have HV := Lib.hid hv.symm
            obtain ⟨z0, z1, z2, z3, y0, y1, y2, y3⟩ := HZ.out.facts
            clear hv
            go_wp2_with fail
            exact bad_end_r HV.out HZ.out (by rfl) (by rfl) (by rfl)
          · have q10 : (((at0 bs k).toNat : Int) == 10) = false := by rw [beq_eq_false_iff_ne]; intro e; exact hc (UInt8.toNat_inj.1 (by show _ = 10; omega))
            have p10 : (((at0 bs k).toNat : Int) != 10) = true := by rw [bne_iff_ne]; intro e; exact hc (UInt8.toNat_inj.1 (by show _ = 10; omega))
            have HC := Lib.hid hc
            have HB := Lib.hid hbk
            clear hc hbk
            generalize (at0 bs k).toNat = cn at cb q10 p10
            have hS : RS w wr bs (k + 1) f bg r vf := ⟨by have := hR.out.fle; omega, hR.out.nl, (rs_cont hlt H2.out HC.out HB.out).symm.trans hR.out.spec, hR.out.x, hR.out.own, hR.out.res, hR.out.low, hR.out.beg⟩
            have HS1 := Lib.hid hS
            clear hS
            go_wp2_with fail
            go_roundw
            case rel => exact ⟨k + 1, f, bg, r, vf, by omega, by go_num, rfl, rfl, HS1⟩
            case measure => simp [intOf]; omega
    · have hks : k = bs.length := by omega
      have hd : decide ((k : Int) < (bs.length : Int)) = false := by simp; omega
      have hsp := hR.out.spec
      have hke : rd bs (bs.length - k) k f bg r = .bad 11 := by rw [hks]; exact rs_end
      rw [hke] at hsp
      obtain ⟨z0, z1, z2, z3, y0, y1, y2, y3⟩ := HZ.out.facts
      have HV := Lib.hid hsp.symm
      clear hsp hke hks
      go_wp2_with fail
      exact bad_end_r HV.out HZ.out (by rfl) (by rfl) (by rfl)
end Go.Proofs.YtbckflbaabhpfaaDoor.headLong
