/- A head, as the program reads it, walked: the loop. -/
import Derived.Test.YtbckflbaabhpfaaDoorHk
namespace Go.Proofs.YtbckflbaabhpfaaDoor.headLong
set_option linter.unusedVariables false
set_option linter.unusedSimpArgs false
open Go.ChangeShapes Go.WideShapes Go.ChangeAt Go.RowKit Go.Hl Go.Hg
/-- What a reading comes to. -/
def ROut (w : World) (res : Res) (e : Ending) (w' : World) : Prop := Below w.heap.size w w' ∧
  ((∃ x, res = .bad x ∧ e = .returned (.tuple #[zreq, .int .i64 0, .int .i64 x])) ∨
   ∃ r k vf, res = .ok r k ∧ e = .returned (.tuple #[.agg #[.string ⟨r.m.toArray⟩, .string ⟨r.t.toArray⟩, vf, .string ⟨#[]⟩], .int .i64 (k : Nat), .int .i64 0]) ∧ w'.ownsRow w.heap.size 46 2 vf r.fs.length (fcells r.fs))
def seg (bs : List UInt8) (k f : Nat) : List UInt8 := (bs.take (k - 1)).drop f
section
variable {bs : List UInt8} {k f : Nat} {bg : Bool} {r : Rd}
theorem hs_succ (h : k < bs.length) : bs.length - k = (bs.length - (k + 1)) + 1 := by omega
theorem hs_cont (h : k < bs.length) (hc : at0 bs k ≠ 10) (hb : back bs k = false) : hrd bs (bs.length - k) k f bg r = hrd bs (bs.length - (k + 1)) (k + 1) f bg r := by
  rw [hs_succ h]; conv => lhs; unfold hrd
  rw [beq_eq_false_iff_ne.2 hc, hb]; rfl
theorem hs_bad1 (h : k < bs.length) (hc : at0 bs k ≠ 10) (hb : back bs k = true) : hrd bs (bs.length - k) k f bg r = .bad (ferr k) := by
  rw [hs_succ h]; unfold hrd
  rw [beq_eq_false_iff_ne.2 hc, hb]; rfl
theorem hs_bad2 (h : k < bs.length) (hc : at0 bs k = 10) (hb : back bs k = false) : hrd bs (bs.length - k) k f bg r = .bad (ferr k) := by
  rw [hs_succ h]; unfold hrd
  rw [hc, hb]; rfl
theorem hs_ok (h : k < bs.length) (hc : at0 bs k = 10) (hb : back bs k = true) (hs : (seg bs k f).isEmpty = true) : hrd bs (bs.length - k) k f true r = if 2000 < k + 1 then .bad 9 else .ok r (k + 1) := by
  unfold seg at hs
  rw [hs_succ h]; unfold hrd
  rw [hc, hb, hs]; rfl
theorem hs_first (h : k < bs.length) (hc : at0 bs k = 10) (hb : back bs k = true) : hrd bs (bs.length - k) k f false r = match firstF (seg bs k f) with | none => .bad (ferr k) | some (m, t) => hrd bs (bs.length - (k + 1)) (k + 1) (k + 1) true { r with m := m, t := t } := by
  unfold seg
  rw [hs_succ h]; conv => lhs; unfold hrd
  rw [hc, hb, Bool.and_false]; rfl
theorem hs_field (h : k < bs.length) (hc : at0 bs k = 10) (hb : back bs k = true) (hs : (seg bs k f).isEmpty = false) : hrd bs (bs.length - k) k f true r = match fieldF (seg bs k f) with | none => .bad (ferr k) | some x => if 20 ≤ r.fs.length then .bad (ferr k) else hrd bs (bs.length - (k + 1)) (k + 1) (k + 1) true { r with fs := r.fs ++ [x] } := by
  unfold seg at hs ⊢
  rw [hs_succ h]; conv => lhs; unfold hrd
  rw [hc, hb, hs]; rfl
theorem hs_end : hrd bs (bs.length - bs.length) k f bg r = if 2000 < bs.length then .bad 9 else .bad 11 := by
  rw [Nat.sub_self]; rfl
end
/-- The loop's state. -/
structure HS (w wr : World) (bs : List UInt8) (k f : Nat) (bg : Bool) (r : Rd) (vf : Value) : Prop where
  fle : f ≤ k
  nl : f = 0 ∨ at0 bs (f - 1) = 10
  spec : hrd bs (bs.length - k) k f bg r = read bs
  x : XIs wr (w.heap.size + 1) ⟨r.m.toArray⟩ ⟨r.t.toArray⟩ vf bg
  own : wr.ownsRow (w.heap.size + 1 + 1) 46 2 vf r.fs.length (fcells r.fs)
  res : wr.heap[w.heap.size]? = some (.cells #[.string ⟨#[]⟩, .string ⟨#[]⟩, .slice none 0 0, .string ⟨#[]⟩] 28 (0, 0))
  low : Below w.heap.size w wr
  beg : bg = false → r = {} ∧ vf = .slice none 0 0
theorem HS.size {w wr : World} {bs : List UInt8} {k f : Nat} {bg : Bool} {r : Rd} {vf : Value} (h : HS w wr bs k f bg r vf) : w.heap.size + 1 < wr.heap.size := by
  have hX := h.x
  unfold XIs at hX
  rcases Nat.lt_or_ge (w.heap.size + 1) wr.heap.size with h | h
  · exact h
  · simp [Array.getElem?_eq_none h] at hX
abbrev zcells : Array Value := #[.string ⟨#[]⟩, .string ⟨#[]⟩, .slice none 0 0, .string ⟨#[]⟩]
theorem four_set {X : World} {R : Nat} {t : TypeId} {fr : Nat × Nat} {x y z u a b c d : Value} (h : X.heap[R]? = some (.cells #[x, y, z, u] t fr)) :
    ((((X.setCell ⟨R, 0, none⟩ a).setCell ⟨R, 1, none⟩ b).setCell ⟨R, 2, none⟩ c).setCell ⟨R, 3, none⟩ d).heap[R]? = some (.cells #[a, b, c, d] t fr) :=
  blk_set (blk_set (blk_set (blk_set h (i := 0) a) (i := 1) b) (i := 2) c) (i := 3) d
theorem four_low {w X : World} {R B : Nat} {a b c d : Value} (h : Below B w X) (hR : B ≤ R) : Below B w ((((X.setCell ⟨R, 0, none⟩ a).setCell ⟨R, 1, none⟩ b).setCell ⟨R, 2, none⟩ c).setCell ⟨R, 3, none⟩ d) :=
  (((h.setCell (p := ⟨R, 0, none⟩) hR a).setCell (p := ⟨R, 1, none⟩) hR b).setCell (p := ⟨R, 2, none⟩) hR c).setCell (p := ⟨R, 3, none⟩) hR d
theorem xcells {w : World} {B : Nat} {m t : ByteArray} {vf : Value} {bg : Bool} (h : XIs w B m t vf bg) : w.cell? ⟨B, 0, none⟩ = some (.string m) ∧ w.cell? ⟨B, 1, none⟩ = some (.string t) ∧ w.cell? ⟨B, 2, none⟩ = some vf ∧ w.cell? ⟨B, 3, none⟩ = some (.string ⟨#[]⟩) ∧ w.cell? ⟨B, 4, none⟩ = some (.bool bg) := by
  refine ⟨?_, ?_, ?_, ?_, ?_⟩ <;> (rw [blk_cell h]; rfl)
/-- The result's cells are as they were, and may be written. -/
def ZR (w w2 : World) : Prop := w2.heap[w.heap.size]? = some (.cells zcells 28 (0, 0)) ∧ Below w.heap.size w w2
theorem ZR.facts {w w2 : World} (h : ZR w w2) : w2.cell? ⟨w.heap.size, 0, none⟩ = some (.string ⟨#[]⟩) ∧ w2.cell? ⟨w.heap.size, 1, none⟩ = some (.string ⟨#[]⟩) ∧ w2.cell? ⟨w.heap.size, 2, none⟩ = some (.slice none 0 0) ∧ w2.cell? ⟨w.heap.size, 3, none⟩ = some (.string ⟨#[]⟩) ∧
    w2.frozen? ⟨w.heap.size, 0, none⟩ = false ∧ w2.frozen? ⟨w.heap.size, 1, none⟩ = false ∧ w2.frozen? ⟨w.heap.size, 2, none⟩ = false ∧ w2.frozen? ⟨w.heap.size, 3, none⟩ = false := by
  have h0 := h.1
  refine ⟨by rw [blk_cell h0]; rfl, by rw [blk_cell h0]; rfl, by rw [blk_cell h0]; rfl, by rw [blk_cell h0]; rfl, ?_, ?_, ?_, ?_⟩ <;> simp [World.frozen?, h0]
theorem ZR.call {w wr w2 : World} (h : ZR w wr) (hB : Below wr.heap.size wr w2) : ZR w w2 := by
  have hs := h.2.size
  have hlt : w.heap.size < wr.heap.size := by
    rcases Nat.lt_or_ge w.heap.size wr.heap.size with h' | h'
    · exact h'
    · have := h.1; simp [Array.getElem?_eq_none h'] at this
  exact ⟨(hB.block _ hlt).trans h.1, h.2.trans (hB.mono hs)⟩
theorem ZR.keep {w wr w2 : World} (h : ZR w wr) (hB : Below (w.heap.size + 1) wr w2) : ZR w w2 :=
  ⟨(hB.block _ (Nat.lt_succ_self _)).trans h.1, h.2.trans (hB.mono (Nat.le_succ _))⟩
theorem ba_list (s : ByteArray) : s.toList = s.data.toList := ByteArray.toList_eq s
theorem own_one {w : World} {R base i : Nat} {e : TypeId} {size : Nat} {v x : Value} {n : Nat} {xs : List Value} (h : w.ownsRow base e size v n xs) (hR : R < base) : (w.setCell ⟨R, i, none⟩ x).ownsRow base e size v n xs := by
  obtain ⟨h1, h2⟩ := h
  refine ⟨h1, ?_⟩
  rcases h2 with h2 | ⟨g, cap, cur, hv, hg, hh, r⟩
  · exact .inl h2
  · refine .inr ⟨g, cap, cur, hv, hg, ?_, r⟩
    have : (w.setCell ⟨R, i, none⟩ x).heap[g]? = w.heap[g]? := by
      show (w.heap.modify R _)[g]? = _
      rw [Array.getElem?_modify, if_neg (by omega)]
    rw [this]; exact hh
theorem own_less {w : World} {R base : Nat} {e : TypeId} {size : Nat} {v : Value} {n : Nat} {xs : List Value} (h : w.ownsRow base e size v n xs) (hR : R ≤ base) : w.ownsRow R e size v n xs := by
  obtain ⟨h1, h2⟩ := h
  refine ⟨h1, ?_⟩
  rcases h2 with h2 | ⟨g, cap, cur, hv, hg, hh, r⟩
  · exact .inl h2
  · exact .inr ⟨g, cap, cur, hv, Nat.le_trans hR hg, hh, r⟩
theorem own_four {X : World} {R base : Nat} {v a b c d : Value} {n : Nat} {xs : List Value} (h : X.ownsRow base 46 2 v n xs) (hR : R < base) :
    ((((X.setCell ⟨R, 0, none⟩ a).setCell ⟨R, 1, none⟩ b).setCell ⟨R, 2, none⟩ c).setCell ⟨R, 3, none⟩ d).ownsRow R 46 2 v n xs :=
  own_less (own_one (own_one (own_one (own_one h hR) hR) hR) hR) (Nat.le_of_lt hR)
theorem ba_back (a : ByteArray) : (⟨a.data.toList.toArray⟩ : ByteArray) = a := rfl
theorem bad_end {bs : List UInt8} {w w2 : World} {t : Array Value} {x : Int} (hres : read bs = .bad x) (hZ : ZR w w2) (h2 : t[2]? = some (.pointer (some ⟨w.heap.size, 0, none⟩))) (h3 : t[3]? = some (.int .i64 0)) (h4 : t[4]? = some (.int .i64 x)) :
    bodyPost Tryd.prog Tryd.f17 (ROut w (read bs)) Exit.ret { tmps := t, defers := [] } ((((w2.setCell ⟨w.heap.size, 0, none⟩ (.string ⟨#[]⟩)).setCell ⟨w.heap.size, 1, none⟩ (.string ⟨#[]⟩)).setCell ⟨w.heap.size, 2, none⟩ (.slice none 0 0)).setCell ⟨w.heap.size, 3, none⟩ (.string ⟨#[]⟩)) :=
  fin_17 (four_set hZ.1) h2 h3 h4 ⟨four_low hZ.2 (Nat.le_refl _), .inl ⟨x, hres, rfl⟩⟩
set_option maxRecDepth 100000 in
set_option maxHeartbeats 1600000 in
theorem head_read (bs : List UInt8) (hn : bs.length ≤ 5000) (bb o cap : Nat) (mx : Int) (w : World) (hH : HoldsB w bb o bs) (hbb : bb < w.heap.size) (hm : w.cell? ⟨1, 0, none⟩ = some (.int .i64 mx)) (h1 : 1 < w.heap.size) (hcap : bs.length ≤ cap) :
    Calls Tryd.prog 17 #[.slice (some ⟨bb, o, none⟩) bs.length cap] w (ROut w (read bs)) := by
  have HH := Lib.hid hH
  have hmlow : ∀ wr, Below w.heap.size w wr → wr.cell? ⟨1, 0, none⟩ = some (.int .i64 mx) := fun wr h => (h.cell (p := ⟨1, 0, none⟩) h1).trans hm
  have HM := Lib.hid hmlow
  have h0 : HS w ((w.alloc (Obj.cells #[.string ⟨#[]⟩, .string ⟨#[]⟩, .slice none 0 0, .string ⟨#[]⟩] 28)).alloc (Obj.cells #[.string ⟨#[]⟩, .string ⟨#[]⟩, .slice none 0 0, .string ⟨#[]⟩, .bool false] 59)) bs 0 0 false {} (.slice none 0 0) := by
    refine ⟨Nat.le_refl _, .inl rfl, hread bs, ?_, World.ownsRow_nil _ _ _ _, ?_, ?_, fun _ => ⟨rfl, rfl⟩⟩
    · have := heap_alloc_new (w.alloc (Obj.cells #[.string ⟨#[]⟩, .string ⟨#[]⟩, .slice none 0 0, .string ⟨#[]⟩] 28)) (Obj.cells #[.string ⟨#[]⟩, .string ⟨#[]⟩, .slice none 0 0, .string ⟨#[]⟩, .bool false] 59)
      unfold XIs
      simpa using this
    · rw [Below.heap_alloc _ _ _ (by simp)]; exact heap_alloc_new w _
    · exact ((Below.refl _ w).alloc (Nat.le_refl _) _).alloc (by simp) _
  have H0 := Lib.hid h0
  clear hH hmlow hm h0
  go_enter Tryd.func17, Tryd.ntmps17
  go_wp2_with fail
  go_loopw [6, 15] (fun fr i wr => ∃ (k f : Nat) (bg : Bool) (r : Rd) (vf : Value), k ≤ bs.length ∧ i = .int .i64 k ∧ fr = .int .i64 f ∧ Hid (HS w wr bs k f bg r vf)) (fun _ i _ => bs.length - (intOf i).toNat)
  case atStart => exact ⟨0, 0, _, _, _, Nat.zero_le _, rfl, rfl, H0⟩
  case round =>
    obtain ⟨k, f, bg, r, vf, hk, rfl, rfl, hR⟩ := hrel
    have hsz := hR.out.size
    have HZ : Hid (ZR w wr) := ⟨hR.out.res, hR.out.low⟩
    by_cases hlt : k < bs.length
    · have hb8 := HH.out.below hR.out.low hbb
      have cb := hb8 k hlt
      have W26 := fun y => wrong k (by omega) y
      by_cases hk0 : 0 < k
      · have cp := hb8 (k - 1) (by omega)
        have g0 : (0 : Int) ≤ (k : Int) - 1 := by omega
        have gt : ((k : Int) - 1).toNat = k - 1 := by omega
        have gl : (k : Int) - 1 < (bs.length : Int) := by omega
        clear hb8
        by_cases hp : at0 bs (k - 1) = 13
        · have hbk : back bs k = true := by unfold back; rw [decide_eq_true hk0, hp]; rfl
          have q13 : (((at0 bs (k - 1)).toNat : Int) == 13) = true := by rw [hp]; rfl
          generalize (at0 bs (k - 1)).toNat = pn at cp q13
          have HP := Lib.hid hp
          clear hp
          by_cases hc : at0 bs k = 10
          · have q10 : (((at0 bs k).toNat : Int) == 10) = true := by rw [hc]; rfl
            have p10 : (((at0 bs k).toNat : Int) != 10) = false := by rw [hc]; rfl
            have HC := Lib.hid hc
            have HB := Lib.hid hbk
            clear hc hbk
            generalize (at0 bs k).toNat = cn at cb q10 p10
            have hfk : f ≤ k - 1 := by
              rcases Nat.lt_or_ge f k with h | h
              · omega
              · have e : f = k := by have := hR.out.fle; omega
                rcases hR.out.nl with h2 | h2
                · omega
                · rw [e, HP.out] at h2; exact absurd h2 (by decide)
            have hcv := fun cp => (HH.out.below hR.out.low hbb).string (i := k - 1) (fr := f) (by omega) hfk cp
            have hseg : (⟨((bs.take (k - 1)).drop f).toArray⟩ : ByteArray).data.toList = seg bs k f := by simp [seg]
            have hss : (⟨((bs.take (k - 1)).drop f).toArray⟩ : ByteArray).size ≤ 5000 := by
              show ((bs.take (k - 1)).drop f).toArray.size ≤ 5000
              rw [List.size_toArray, List.length_drop, List.length_take]; omega
            generalize (⟨((bs.take (k - 1)).drop f).toArray⟩ : ByteArray) = s at hcv hseg hss
            have f0 : (f : Int) ≤ (k : Int) - 1 := by omega
            have f1 : (k : Int) - 1 ≤ (cap : Int) := by omega
            have f2 : (((k : Int) - 1).toNat - f) = k - 1 - f := by omega
            have f3 : f < cap := by omega
            have cx := xcells hR.out.x
            obtain ⟨x0, x1, x2, x3, x4⟩ := cx
            have k1 : 1 < w.heap.size + 1 := by omega
            have m1 := HM.out wr hR.out.low
            cases bg with
            | false =>
              obtain ⟨er, ev⟩ := hR.out.beg rfl
              subst er ev
              have LA := line_a s hss (w.heap.size + 1) mx wr hR.out.x m1 k1
              have hff := (hs_first (f := f) (r := {}) hlt HC.out HB.out).symm.trans hR.out.spec
              rw [← hseg, ← line_first] at hff
              have HFF := Lib.hid hff
              clear hff m1 hseg hss
              cases hse : s.toList.isEmpty with
              | true =>
                go_wp2_with fail
                refine LA.mono ?_
                rintro e w2 ⟨hlow, ⟨hno, rfl, hx⟩ | ⟨a, b2, hyes, rfl, hx⟩⟩
                · have hv := HFF.out
                  rw [hno] at hv
                  have HV := Lib.hid hv.symm
                  have HZ := Lib.hid (HZ.out.keep hlow)
                  clear hv hno hx hlow
                  go_wp2_with (first | (go_at_call 26; refine (W26 _).mono ?_; rintro e w2 ⟨rfl, hB2⟩; have HZ2 := Lib.hid (HZ.out.call hB2); obtain ⟨z0, z1, z2, z3, y0, y1, y2, y3⟩ := HZ2.out.facts; clear hB2) | fail)
                  exact bad_end HV.out HZ2.out (by rfl) (by rfl) (by rfl)
                · have hv := HFF.out
                  rw [hyes] at hv
                  have hS : HS w w2 bs (k + 1) (k + 1) true { m := a.data.toList, t := b2.data.toList } (.slice none 0 0) := ⟨Nat.le_refl _, .inr (by simpa using HC.out), hv, by rw [ba_back, ba_back]; exact hx, World.ownsRow_nil _ _ _ _, (HZ.out.keep hlow).1, (HZ.out.keep hlow).2, fun h => by cases h⟩
                  have HS1 := Lib.hid hS
                  clear hS hv hyes hx hlow
                  go_wp2_with fail
                  go_roundw
                  case rel => exact ⟨k + 1, k + 1, _, _, _, by omega, by go_num, by go_num, HS1⟩
                  case measure => simp [intOf]; omega
              | false =>
                go_wp2_with fail
                refine LA.mono ?_
                rintro e w2 ⟨hlow, ⟨hno, rfl, hx⟩ | ⟨a, b2, hyes, rfl, hx⟩⟩
                · have hv := HFF.out
                  rw [hno] at hv
                  have HV := Lib.hid hv.symm
                  have HZ := Lib.hid (HZ.out.keep hlow)
                  clear hv hno hx hlow
                  go_wp2_with (first | (go_at_call 26; refine (W26 _).mono ?_; rintro e w2 ⟨rfl, hB2⟩; have HZ2 := Lib.hid (HZ.out.call hB2); obtain ⟨z0, z1, z2, z3, y0, y1, y2, y3⟩ := HZ2.out.facts; clear hB2) | fail)
                  exact bad_end HV.out HZ2.out (by rfl) (by rfl) (by rfl)
                · have hv := HFF.out
                  rw [hyes] at hv
                  have hS : HS w w2 bs (k + 1) (k + 1) true { m := a.data.toList, t := b2.data.toList } (.slice none 0 0) := ⟨Nat.le_refl _, .inr (by simpa using HC.out), hv, by rw [ba_back, ba_back]; exact hx, World.ownsRow_nil _ _ _ _, (HZ.out.keep hlow).1, (HZ.out.keep hlow).2, fun h => by cases h⟩
                  have HS1 := Lib.hid hS
                  clear hS hv hyes hx hlow
                  go_wp2_with fail
                  go_roundw
                  case rel => exact ⟨k + 1, k + 1, _, _, _, by omega, by go_num, by go_num, HS1⟩
                  case measure => simp [intOf]; omega
            | true =>
              cases hse : s.toList.isEmpty with
              | true =>
                have hso : (seg bs k f).isEmpty = true := by rw [← hseg, ← ba_list]; exact hse
                have hok := (hs_ok hlt HC.out HB.out hso).symm.trans hR.out.spec
                clear m1 hseg hss hso
                have hend : bodyPost Tryd.prog Tryd.f17 (ROut w (read bs)) Exit.ret { tmps := #[], defers := [] } wr → True := fun _ => trivial
                clear hend
                obtain ⟨z0, z1, z2, z3, y0, y1, y2, y3⟩ := HZ.out.facts
                by_cases h2 : 2000 < k + 1
                · rw [if_pos h2] at hok
                  have HV := Lib.hid hok.symm
                  clear hok
                  go_wp2_with fail
                  exact bad_end HV.out HZ.out (by rfl) (by rfl) (by rfl)
                · rw [if_neg h2] at hok
                  have HV := Lib.hid hok.symm
                  have HO := Lib.hid (own_four (R := w.heap.size) (a := .string ⟨r.m.toArray⟩) (b := .string ⟨r.t.toArray⟩) (c := vf) (d := .string ⟨#[]⟩) hR.out.own (by omega))
                  obtain ⟨va, vc, rfl⟩ := own_form hR.out.own
                  clear hok
                  go_wp2_with fail
                  exact fin_17 (four_set HZ.out.1) (by rfl) (by rfl) (by rfl) ⟨four_low HZ.out.2 (Nat.le_refl _), .inr ⟨r, k + 1, _, HV.out, by go_num, HO.out⟩⟩
              | false =>
                have hsn : (seg bs k f).isEmpty = false := by rw [← hseg, ← ba_list]; exact hse
                have hff := (hs_field hlt HC.out HB.out hsn).symm.trans hR.out.spec
                rw [← hseg] at hff
                have HFF := Lib.hid hff
                have LB := line_b s hss (w.heap.size + 1) mx ⟨r.m.toArray⟩ ⟨r.t.toArray⟩ vf r.fs wr hR.out.x hR.out.own m1 k1
                clear hff m1 hseg hss hsn
                go_wp2_with fail
                refine LB.mono ?_
                rintro e w2 ⟨hlow, ⟨hno, rfl⟩ | ⟨x, v2, hyes, hle, rfl, hx, ho⟩⟩
                · have hv := HFF.out
                  have hv2 : Res.bad (ferr k) = read bs := by
                    rcases hno with hno | hno
                    · rw [hno] at hv; exact hv
                    · cases hq : fieldF s.data.toList with
                      | none => rw [hq] at hv; exact hv
                      | some _ => rw [hq] at hv; dsimp only at hv; rw [if_pos hno] at hv; exact hv
                  have HV := Lib.hid hv2.symm
                  have HZ := Lib.hid (HZ.out.keep hlow)
                  clear hv hv2 hno hlow
                  go_wp2_with (first | (go_at_call 26; refine (W26 _).mono ?_; rintro e w2 ⟨rfl, hB2⟩; have HZ2 := Lib.hid (HZ.out.call hB2); obtain ⟨z0, z1, z2, z3, y0, y1, y2, y3⟩ := HZ2.out.facts; clear hB2) | fail)
                  exact bad_end HV.out HZ2.out (by rfl) (by rfl) (by rfl)
                · have hv := HFF.out
                  rw [hyes] at hv
                  dsimp only at hv
                  rw [if_neg (by omega)] at hv
                  have hS : HS w w2 bs (k + 1) (k + 1) true { r with fs := r.fs ++ [x] } v2 := ⟨Nat.le_refl _, .inr (by simpa using HC.out), hv, hx, by rw [List.length_append]; exact ho, (HZ.out.keep hlow).1, (HZ.out.keep hlow).2, fun h => by cases h⟩
                  have HS1 := Lib.hid hS
                  clear hS hv hyes hx hlow ho
                  go_wp2_with fail
                  go_roundw
                  case rel => exact ⟨k + 1, k + 1, _, _, _, by omega, by go_num, by go_num, HS1⟩
                  case measure => simp [intOf]; omega
          · have q10 : (((at0 bs k).toNat : Int) == 10) = false := by rw [beq_eq_false_iff_ne]; intro e; exact hc (UInt8.toNat_inj.1 (by show _ = 10; omega))
            have p10 : (((at0 bs k).toNat : Int) != 10) = true := by rw [bne_iff_ne]; intro e; exact hc (UInt8.toNat_inj.1 (by show _ = 10; omega))
            have HC := Lib.hid hc
            have HB := Lib.hid hbk
            clear hc hbk
            generalize (at0 bs k).toNat = cn at cb q10 p10
            have hv := (hs_bad1 hlt HC.out HB.out).symm.trans hR.out.spec
            have HV := Lib.hid hv.symm
            clear hv
            go_wp2_with (first | (go_at_call 26; refine (W26 _).mono ?_; rintro e w2 ⟨rfl, hB2⟩; have HZ2 := Lib.hid (HZ.out.call hB2); obtain ⟨z0, z1, z2, z3, y0, y1, y2, y3⟩ := HZ2.out.facts; clear hB2) | fail)
            exact bad_end HV.out HZ2.out (by rfl) (by rfl) (by rfl)
        · have hbk : back bs k = false := by unfold back; rw [beq_eq_false_iff_ne.2 hp, Bool.and_false]
          have q13 : (((at0 bs (k - 1)).toNat : Int) == 13) = false := by rw [beq_eq_false_iff_ne]; intro e; exact hp (UInt8.toNat_inj.1 (by show _ = 13; omega))
          generalize (at0 bs (k - 1)).toNat = pn at cp q13
          clear hp
          by_cases hc : at0 bs k = 10
          · have q10 : (((at0 bs k).toNat : Int) == 10) = true := by rw [hc]; rfl
            have p10 : (((at0 bs k).toNat : Int) != 10) = false := by rw [hc]; rfl
            have HC := Lib.hid hc
            have HB := Lib.hid hbk
            clear hc hbk
            generalize (at0 bs k).toNat = cn at cb q10 p10
            have hv := (hs_bad2 hlt HC.out HB.out).symm.trans hR.out.spec
            have HV := Lib.hid hv.symm
            clear hv
            go_wp2_with (first | (go_at_call 26; refine (W26 _).mono ?_; rintro e w2 ⟨rfl, hB2⟩; have HZ2 := Lib.hid (HZ.out.call hB2); obtain ⟨z0, z1, z2, z3, y0, y1, y2, y3⟩ := HZ2.out.facts; clear hB2) | fail)
            exact bad_end HV.out HZ2.out (by rfl) (by rfl) (by rfl)
          · have q10 : (((at0 bs k).toNat : Int) == 10) = false := by rw [beq_eq_false_iff_ne]; intro e; exact hc (UInt8.toNat_inj.1 (by show _ = 10; omega))
            have p10 : (((at0 bs k).toNat : Int) != 10) = true := by rw [bne_iff_ne]; intro e; exact hc (UInt8.toNat_inj.1 (by show _ = 10; omega))
            have HC := Lib.hid hc
            have HB := Lib.hid hbk
            clear hc hbk
            generalize (at0 bs k).toNat = cn at cb q10 p10
            have hS : HS w wr bs (k + 1) f bg r vf := ⟨by have := hR.out.fle; omega, hR.out.nl, (hs_cont hlt HC.out HB.out).symm.trans hR.out.spec, hR.out.x, hR.out.own, hR.out.res, hR.out.low, hR.out.beg⟩
            have HS1 := Lib.hid hS
            clear hS
            go_wp2_with fail
            go_roundw
            case rel => exact ⟨k + 1, f, bg, r, vf, by omega, by go_num, rfl, HS1⟩
            case measure => simp [intOf]; omega
      · have hbk : back bs k = false := by unfold back; rw [decide_eq_false hk0]; rfl
        have d0 : decide ((0 : Int) < (k : Int)) = false := by simp; omega
        clear hb8
        by_cases hc : at0 bs k = 10
        · have q10 : (((at0 bs k).toNat : Int) == 10) = true := by rw [hc]; rfl
          have p10 : (((at0 bs k).toNat : Int) != 10) = false := by rw [hc]; rfl
          have HC := Lib.hid hc
          have HB := Lib.hid hbk
          clear hc hbk
          generalize (at0 bs k).toNat = cn at cb q10 p10
          have hv := (hs_bad2 hlt HC.out HB.out).symm.trans hR.out.spec
          have HV := Lib.hid hv.symm
          clear hv
          go_wp2_with (first | (go_at_call 26; refine (W26 _).mono ?_; rintro e w2 ⟨rfl, hB2⟩; have HZ2 := Lib.hid (HZ.out.call hB2); obtain ⟨z0, z1, z2, z3, y0, y1, y2, y3⟩ := HZ2.out.facts; clear hB2) | fail)
          exact bad_end HV.out HZ2.out (by rfl) (by rfl) (by rfl)
        · have q10 : (((at0 bs k).toNat : Int) == 10) = false := by rw [beq_eq_false_iff_ne]; intro e; exact hc (UInt8.toNat_inj.1 (by show _ = 10; omega))
          have p10 : (((at0 bs k).toNat : Int) != 10) = true := by rw [bne_iff_ne]; intro e; exact hc (UInt8.toNat_inj.1 (by show _ = 10; omega))
          have HC := Lib.hid hc
          have HB := Lib.hid hbk
          clear hc hbk
          generalize (at0 bs k).toNat = cn at cb q10 p10
          have hS : HS w wr bs (k + 1) f bg r vf := ⟨by have := hR.out.fle; omega, hR.out.nl, (hs_cont hlt HC.out HB.out).symm.trans hR.out.spec, hR.out.x, hR.out.own, hR.out.res, hR.out.low, hR.out.beg⟩
          have HS1 := Lib.hid hS
          clear hS
          go_wp2_with fail
          go_roundw
          case rel => exact ⟨k + 1, f, bg, r, vf, by omega, by go_num, rfl, HS1⟩
          case measure => simp [intOf]; omega
    · have hks : k = bs.length := by omega
      have hd : decide ((k : Int) < (bs.length : Int)) = false := by simp; omega
      have hsp := hR.out.spec
      have hke : hrd bs (bs.length - k) k f bg r = if 2000 < bs.length then .bad 9 else .bad 11 := by rw [hks]; exact hs_end
      rw [hke] at hsp
      obtain ⟨z0, z1, z2, z3, y0, y1, y2, y3⟩ := HZ.out.facts
      by_cases h2 : 2000 < bs.length
      · rw [if_pos h2] at hsp
        have HV := Lib.hid hsp.symm
        clear hsp hke hks
        go_wp2_with fail
        exact bad_end HV.out HZ.out (by rfl) (by rfl) (by rfl)
      · rw [if_neg h2] at hsp
        have HV := Lib.hid hsp.symm
        clear hsp hke hks
        go_wp2_with fail
        exact bad_end HV.out HZ.out (by rfl) (by rfl) (by rfl)
end Go.Proofs.YtbckflbaabhpfaaDoor.headLong
