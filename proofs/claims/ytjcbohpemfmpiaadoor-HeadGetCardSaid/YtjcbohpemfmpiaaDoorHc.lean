/- HeadGet, its walk: HgCut. -/
import Derived.Test.YtjcbohpemfmpiaaDoorHg
namespace Go
theorem step_append_own' {P : Program} (w : World) {ops : Array Oper} {o : Oper} {a : Act} {K : Act → World → Prop} {Q : Exit → Act → World → Prop} {E : Prop} (hgd : o.guard = none) (s x : Operand) (t : TypeId)
    (ho : o.op = .call { callee := .builtin .append, args := #[s, x], argTypes := #[t, t] })
    (base : Nat) (e : TypeId) (i : TypeInfo) (z : Value) (size bytes : Nat) (ht : P.underlying t = some (.slice e)) (hi : P.info? e = some i) (hz : i.zero = some z)
    (hsize : i.size = size) (hby : i.bytes = bytes) (hzs : z.cells.size = size) (hsz : 0 < size)
    (v : Value) (n : Nat) (xs : List Value) (hs : a.eval s = v) (hown : w.ownsRow base e size v n xs)
    (ad : Addr) (m c : Nat) (news : List Value) (hx : a.eval x = .slice (some ad) m c) (hl : news.length = m * size) (hnews : ∀ j u, news[j]? = some u → w.cell? (ad.add j) = some u) (h1 : ∀ u ∈ news, u.oneCell' = true)
    (h63 : n + m ≤ maxLen) (hbytes : (n + m) * bytes ≤ 140737488355328) (hbase : base ≤ w.heap.size)
    (h : ∀ v' w', w'.ownsRow base e size v' (n + m) (xs ++ news) → w.grownBy w' v.ownBlock → (v' = .slice none 0 0 ↔ v = .slice none 0 0 ∧ m = 0) → K (a.put o.dst v') w') :
    if Region.wanted o (yielded ops a.tmps) = true then Oper.wp P o a w K Q else E := by
  have hw : Region.wanted o (yielded ops a.tmps) = true := by simp [Region.wanted, hgd]
  rw [if_pos hw]
  exact wp_append_own w s x t ho base e i z size bytes ht hi hz hsize hby hzs hsz v n xs hs hown ad m c news hx hl hnews h1 h63 hbytes hbase h
end Go
namespace Go.Proofs.YtjcbohpemfmpiaaDoor.headGet
open Go.ChangeShapes Go.WideShapes Go.ChangeAt Go.RowKit Go.Hg
attribute [local go_sem ↓] Go.wp_at_zero Go.wp_at_succ
def cutS (s : ByteArray) (m : Nat) : ByteArray := if m < s.size then s.extract 0 m else s
theorem cutS_le (s : ByteArray) (m : Nat) : (cutS s m).size ≤ m := by
  unfold cutS
  split
  · rw [ByteArray.size_extract]; omega
  · omega
theorem law1_Cut (s : ByteArray) (m : Nat) (hm : m ≤ 1000) (w : World) : Calls Tryd.prog 9 #[.string s, .int .i64 m] w fun e w' => e = .returned (.string (cutS s m)) ∧ w' = w := by
  by_cases h : m < s.size
  · have hc : cutS s m = s.extract 0 m := if_pos h
    rw [hc]
    clear hc
    have h0 : (0 : Int) ≤ (m : Int) := by omega
    have h1 : (m : Int) ≤ (s.size : Int) := by omega
    have h2 : (m : Int) < (s.size : Int) := by omega
    go_enter Tryd.func9, Tryd.ntmps9
    go_wp2_with fail
    go_ret
    exact ⟨rfl, rfl⟩
  · have hc : cutS s m = s := if_neg h
    rw [hc]
    clear hc
    have h1 : (s.size : Int) ≤ (m : Int) := by omega
    go_enter Tryd.func9, Tryd.ntmps9
    go_wp2_with fail
    go_ret
    exact ⟨rfl, rfl⟩
/-- The fields that are kept, cut. -/
def FC (N V : Nat → ByteArray) : Nat → List Value
  | 0 => []
  | k + 1 => FC N V k ++ [.string (cutS (N k) 30), .string (cutS (V k) 150)]
theorem FC_len (N V : Nat → ByteArray) : ∀ n, (FC N V n).length = n * 2
  | 0 => rfl
  | n + 1 => by rw [FC, List.length_append, FC_len N V n]; simp; omega
theorem FC_get (N V : Nat → ByteArray) : ∀ n i, i < n → (FC N V n)[i * 2]? = some (.string (cutS (N i) 30)) ∧ (FC N V n)[i * 2 + 1]? = some (.string (cutS (V i) 150))
  | 0, i, h => by omega
  | n + 1, i, h => by
    have hl := FC_len N V n
    rw [FC]
    by_cases e : i < n
    · have := FC_get N V n i e
      rw [List.getElem?_append_left (by omega), List.getElem?_append_left (by omega)]
      exact this
    · have : i = n := by omega
      subst this
      rw [List.getElem?_append_right (by omega), List.getElem?_append_right (by omega), hl]
      rw [show i * 2 - i * 2 = 0 by omega, show i * 2 + 1 - i * 2 = 1 by omega]
      exact ⟨rfl, rfl⟩
theorem holdsF_of_own {w : World} {base g c n : Nat} {N V : Nat → ByteArray} (h : w.ownsRow base 46 2 (.slice (some ⟨g, 0, none⟩) n c) n (FC N V n)) : HoldsF w g 0 n (fun i => cutS (N i) 30) (fun i => cutS (V i) 150) := fun i hi => by
  obtain ⟨h1, h2⟩ := FC_get N V n i hi
  rw [Nat.zero_add]
  exact ⟨(h.cellAt (i * 2) (by omega)).trans h1, (h.cellAt (i * 2 + 1) (by omega)).trans h2⟩
theorem info46 : (Tryd.prog.info? 46).map (fun i => (i.zero, i.size, i.bytes)) = some (some (.agg #[.string ByteArray.empty, .string ByteArray.empty]), 2, 32) := by kernel_rfl
/-- The request's box, and the result's. -/
structure Box (w w' : World) (sl : Value) : Prop where
  box : w'.heap[w.heap.size]? = some (.cells #[.string ⟨#[]⟩, .string ⟨#[]⟩, sl, .string ⟨#[]⟩] 28 (0, 0))
  res : w'.heap[w.heap.size + 1]? = some (.cells #[.string ⟨#[]⟩, .string ⟨#[]⟩, .slice none 0 0, .string ⟨#[]⟩] 28 (0, 0))
  bel : Below w.heap.size w w'
  siz : w.heap.size + 2 ≤ w'.heap.size
theorem Box.drew {w w' : World} {sl : Value} (h : Box w w' sl) : Box w w'.drew sl := ⟨h.box, h.res, h.bel.drew, h.siz⟩
theorem Box.drewN {w w' : World} {sl : Value} (h : Box w w' sl) (k : Nat) : Box w (w'.drewN k) sl := ⟨h.box, h.res, ⟨h.bel.os, h.bel.tape, h.bel.output, h.bel.size, h.bel.block⟩, h.siz⟩
theorem Box.store {w w' : World} {sl : Value} (h : Box w w' sl) {i : Nat} (hi : i = 0 ∨ i = 1 ∨ i = 3) : Box w (w'.setCell ⟨w.heap.size, i, none⟩ (.string ⟨#[]⟩)) sl := by
  refine ⟨?_, ?_, h.bel.setCell (Nat.le_refl _) _, by simpa [World.setCell] using h.siz⟩
  · rw [blk_set h.box]
    rcases hi with rfl | rfl | rfl <;> rfl
  · rw [Below.heap_setCell _ _ _ _ (by simp)]; exact h.res
theorem Box.put {w w' : World} {sl sl' : Value} (h : Box w w' sl) : Box w (w'.setCell ⟨w.heap.size, 2, none⟩ sl') sl' := by
  refine ⟨?_, ?_, h.bel.setCell (Nat.le_refl _) _, by simpa [World.setCell] using h.siz⟩
  · rw [blk_set h.box]; rfl
  · rw [Below.heap_setCell _ _ _ _ (by simp)]; exact h.res
theorem Box.alloc {w w' : World} {sl : Value} (h : Box w w' sl) (o : Obj) : Box w (w'.alloc o) sl :=
  ⟨by rw [Below.heap_alloc _ _ _ (by have := h.siz; omega)]; exact h.box, by rw [Below.heap_alloc _ _ _ (by have := h.siz; omega)]; exact h.res, h.bel.alloc (by have := h.siz; omega) _, by have := h.siz; simp; omega⟩
theorem Box.grown {w w' w2 : World} {sl : Value} {row : Option Nat} (h : Box w w' sl) (hg : w'.grownBy w2 row) (hr : ∀ r, row = some r → w.heap.size + 2 ≤ r) : Box w w2 sl := by
  have z := h.siz
  have hne : ∀ k, k < w.heap.size + 2 → some k ≠ row := fun k hk e => by have := hr k e.symm; omega
  exact ⟨by rw [hg.block _ (by omega) (hne _ (by omega))]; exact h.box, by rw [hg.block _ (by omega) (hne _ (by omega))]; exact h.res, h.bel.grown hg (by omega) (fun r hr' => by have := hr r hr'; omega), by have := hg.size; omega⟩
theorem Box.c0 {w w' : World} {sl : Value} (h : Box w w' sl) : w'.cell? ⟨w.heap.size, 0, none⟩ = some (.string ⟨#[]⟩) := (blk_cell h.box 0).trans rfl
theorem Box.c1 {w w' : World} {sl : Value} (h : Box w w' sl) : w'.cell? ⟨w.heap.size, 1, none⟩ = some (.string ⟨#[]⟩) := (blk_cell h.box 1).trans rfl
theorem Box.c2 {w w' : World} {sl : Value} (h : Box w w' sl) : w'.cell? ⟨w.heap.size, 2, none⟩ = some sl := (blk_cell h.box 2).trans rfl
theorem Box.c3 {w w' : World} {sl : Value} (h : Box w w' sl) : w'.cell? ⟨w.heap.size, 3, none⟩ = some (.string ⟨#[]⟩) := (blk_cell h.box 3).trans rfl
theorem Box.fr {w w' : World} {sl : Value} (h : Box w w' sl) (i : Nat) : w'.frozen? ⟨w.heap.size, i, none⟩ = false := by simp [World.frozen?, h.box]
theorem Box.all {w w' : World} {sl : Value} (h : Box w w' sl) : Box w w'.drew sl ∧ w'.drew.cell? ⟨w.heap.size, 0, none⟩ = some (.string ⟨#[]⟩) ∧ w'.drew.cell? ⟨w.heap.size, 1, none⟩ = some (.string ⟨#[]⟩) ∧ w'.drew.cell? ⟨w.heap.size, 3, none⟩ = some (.string ⟨#[]⟩) := ⟨h.drew, h.drew.c0, h.drew.c1, h.drew.c3⟩
theorem Box.r0 {w w' : World} {sl : Value} (h : Box w w' sl) : w'.cell? ⟨w.heap.size + 1, 0, none⟩ = some (.string ⟨#[]⟩) := (blk_cell h.res 0).trans rfl
theorem Box.r1 {w w' : World} {sl : Value} (h : Box w w' sl) : w'.cell? ⟨w.heap.size + 1, 1, none⟩ = some (.string ⟨#[]⟩) := (blk_cell h.res 1).trans rfl
theorem Box.r2 {w w' : World} {sl : Value} (h : Box w w' sl) : w'.cell? ⟨w.heap.size + 1, 2, none⟩ = some (.slice none 0 0) := (blk_cell h.res 2).trans rfl
theorem Box.r3 {w w' : World} {sl : Value} (h : Box w w' sl) : w'.cell? ⟨w.heap.size + 1, 3, none⟩ = some (.string ⟨#[]⟩) := (blk_cell h.res 3).trans rfl
theorem Box.fs {w w' : World} {sl : Value} (h : Box w w' sl) (i : Nat) : w'.frozen? ⟨w.heap.size + 1, i, none⟩ = false := by simp [World.frozen?, h.res]
theorem Box.fin {w wr : World} {sl v : Value} (h : Box w wr sl) :
    (((((wr.setCell ⟨w.heap.size, 2, none⟩ v).setCell ⟨w.heap.size + 1, 0, none⟩ (.string ⟨#[]⟩)).setCell ⟨w.heap.size + 1, 1, none⟩ (.string ⟨#[]⟩)).setCell ⟨w.heap.size + 1, 2, none⟩ v).setCell ⟨w.heap.size + 1, 3, none⟩ (.string ⟨#[]⟩)).heap[w.heap.size + 1]? = some (.cells #[.string ⟨#[]⟩, .string ⟨#[]⟩, v, .string ⟨#[]⟩] 28 (0, 0)) ∧
    Below w.heap.size w (((((wr.setCell ⟨w.heap.size, 2, none⟩ v).setCell ⟨w.heap.size + 1, 0, none⟩ (.string ⟨#[]⟩)).setCell ⟨w.heap.size + 1, 1, none⟩ (.string ⟨#[]⟩)).setCell ⟨w.heap.size + 1, 2, none⟩ v).setCell ⟨w.heap.size + 1, 3, none⟩ (.string ⟨#[]⟩)) := by
  refine ⟨?_, ((((h.bel.setCell (Nat.le_refl _) _).setCell (by simp) _).setCell (by simp) _).setCell (by simp) _).setCell (by simp) _⟩
  rw [blk_set (blk_set (blk_set (blk_set (h.put (sl' := v)).res _) _) _) _]
  rfl
theorem own_mono {w : World} {base base' : Nat} {e : TypeId} {size : Nat} {v : Value} {n : Nat} {xs : List Value} (h : w.ownsRow base e size v n xs) (hb : base' ≤ base) : w.ownsRow base' e size v n xs := by
  obtain ⟨h1, h2⟩ := h
  refine ⟨h1, ?_⟩
  rcases h2 with h2 | ⟨g, cap, cur, hv, hg, hh, r⟩
  · exact .inl h2
  · exact .inr ⟨g, cap, cur, hv, by omega, hh, r⟩
theorem own_fin {w wr : World} {g ca n : Nat} {xs : List Value} {v : Value} (hv : v = .slice (some ⟨g, 0, none⟩) n ca) (h : wr.ownsRow (w.heap.size + 2) 46 2 v n xs) (hg : w.heap.size + 2 ≤ g) :
    (((((wr.setCell ⟨w.heap.size, 2, none⟩ v).setCell ⟨w.heap.size + 1, 0, none⟩ (.string ⟨#[]⟩)).setCell ⟨w.heap.size + 1, 1, none⟩ (.string ⟨#[]⟩)).setCell ⟨w.heap.size + 1, 2, none⟩ v).setCell ⟨w.heap.size + 1, 3, none⟩ (.string ⟨#[]⟩)).ownsRow w.heap.size 46 2 v n xs := by
  subst hv
  have hne : ∀ k, k < w.heap.size + 2 → (Value.slice (some ⟨g, 0, none⟩) n ca).ownBlock ≠ some k := fun k hk e => by
    have : g = k := by simpa [Value.ownBlock] using e
    omega
  exact own_mono (ownsRow_setCell_other (ownsRow_setCell_other (ownsRow_setCell_other (ownsRow_setCell_other (ownsRow_setCell_other h (hne _ (by simp)) _) (hne _ (by simp)) _) (hne _ (by simp)) _) (hne _ (by simp)) _) (hne _ (by simp)) _) (by omega)
def BoxS (w w' : World) (sl : Value) : Prop := Box w w' sl
theorem Box.keep {w w' : World} {sl : Value} {i : Nat} (hi : i = 0 ∨ i = 1 ∨ i = 3) (h : Box w w' sl ∧ w'.cell? ⟨w.heap.size, 0, none⟩ = some (.string ⟨#[]⟩) ∧ w'.cell? ⟨w.heap.size, 1, none⟩ = some (.string ⟨#[]⟩) ∧ w'.cell? ⟨w.heap.size, 3, none⟩ = some (.string ⟨#[]⟩)) :
    Box w (w'.setCell ⟨w.heap.size, i, none⟩ (.string ⟨#[]⟩)).drew sl ∧ (w'.setCell ⟨w.heap.size, i, none⟩ (.string ⟨#[]⟩)).drew.cell? ⟨w.heap.size, 0, none⟩ = some (.string ⟨#[]⟩) ∧ (w'.setCell ⟨w.heap.size, i, none⟩ (.string ⟨#[]⟩)).drew.cell? ⟨w.heap.size, 1, none⟩ = some (.string ⟨#[]⟩) ∧ (w'.setCell ⟨w.heap.size, i, none⟩ (.string ⟨#[]⟩)).drew.cell? ⟨w.heap.size, 3, none⟩ = some (.string ⟨#[]⟩) := by
  have q := (h.1.store hi).drew
  exact ⟨q, q.c0, q.c1, q.c3⟩
set_option maxRecDepth 8000 in
set_option maxHeartbeats 1600000 in
theorem law16_CutA (b o n cap : Nat) (N V : Nat → ByteArray) (w : World) (hH : HoldsF w b o n N V) (hb : b < w.heap.size) (hn : 0 < n) (hgt : 25 < n) (hnc : n ≤ cap) (hcm : cap ≤ maxLen) :
    Calls Tryd.prog 8 #[.agg #[.string ⟨#[]⟩, .string ⟨#[]⟩, .slice (some ⟨b, o, none⟩) n cap, .string ⟨#[]⟩]] w fun e' w' => ∃ v, e' = .returned (.agg #[.string ⟨#[]⟩, .string ⟨#[]⟩, v, .string ⟨#[]⟩]) ∧ w'.ownsRow w.heap.size 46 2 v 25 (FC N V 25) ∧ Below w.heap.size w w' := by
  obtain ⟨i0, hi, hz0, hz1, hz2⟩ := info_parts info46
  have CE30 : ∀ x, Calls Tryd.prog 9 #[.string ⟨#[]⟩, .int .i64 30] x fun e w' => e = .returned (.string ⟨#[]⟩) ∧ w' = x := fun x => law1_Cut ⟨#[]⟩ 30 (by omega) x
  have CE300 : ∀ x, Calls Tryd.prog 9 #[.string ⟨#[]⟩, .int .i64 300] x fun e w' => e = .returned (.string ⟨#[]⟩) ∧ w' = x := fun x => law1_Cut ⟨#[]⟩ 300 (by omega) x
  have hmx : maxLen = 9223372036854775807 := rfl
  go_enter Tryd.func8, Tryd.ntmps8
  go_wp2_with fail
  obtain ⟨W0, hW0⟩ : ∃ W0, W0 = ((w.alloc (Obj.cells #[Value.string ⟨#[]⟩, Value.string ⟨#[]⟩, Value.slice (some ⟨b, o, none⟩) n cap, Value.string ⟨#[]⟩] 28)).alloc (Obj.cells #[Value.string ⟨#[]⟩, Value.string ⟨#[]⟩, Value.slice none 0 0, Value.string ⟨#[]⟩] 28)) := ⟨_, rfl⟩
  rw [← hW0]
  have g0 : W0.heap[w.heap.size]? = some (.cells #[Value.string ⟨#[]⟩, Value.string ⟨#[]⟩, Value.slice (some ⟨b, o, none⟩) n cap, Value.string ⟨#[]⟩] 28 (0, 0)) := by
    rw [hW0, Below.heap_alloc _ _ _ (by simp)]; exact heap_alloc_new w _
  have g1 : W0.heap[w.heap.size + 1]? = some (.cells #[Value.string ⟨#[]⟩, Value.string ⟨#[]⟩, Value.slice none 0 0, Value.string ⟨#[]⟩] 28 (0, 0)) := by
    have := heap_alloc_new (w.alloc (Obj.cells #[Value.string ⟨#[]⟩, Value.string ⟨#[]⟩, Value.slice (some ⟨b, o, none⟩) n cap, Value.string ⟨#[]⟩] 28)) (Obj.cells #[Value.string ⟨#[]⟩, Value.string ⟨#[]⟩, Value.slice none 0 0, Value.string ⟨#[]⟩] 28)
    rw [← hW0] at this; simpa using this
  have gB : Below w.heap.size w W0 := by rw [hW0]; exact ((Below.refl _ w).alloc (Nat.le_refl _) _).alloc (by simp) _
  have gs : W0.heap.size = w.heap.size + 2 := by rw [hW0]; simp
  clear hW0
  have BX : Box w W0 (.slice (some ⟨b, o, none⟩) n cap) := ⟨g0, g1, gB, by omega⟩
  clear g0 g1 gB gs
  have c0 := BX.c0
  have c1 := BX.c1
  have c3 := BX.c3
  have f0 := BX.fr 0
  have f1 := BX.fr 1
  have f3 := BX.fr 3
  go_region_held3 (fun w' => Box w w' (.slice (some ⟨b, o, none⟩) n cap) ∧ w'.cell? ⟨w.heap.size, 0, none⟩ = some (.string ⟨#[]⟩) ∧ w'.cell? ⟨w.heap.size, 1, none⟩ = some (.string ⟨#[]⟩) ∧ w'.cell? ⟨w.heap.size, 3, none⟩ = some (.string ⟨#[]⟩))
    (first | exact BX.all | exact (BX.store (.inl rfl)).all | exact ((BX.store (.inl rfl)).store (.inr (.inl rfl))).all | exact (((BX.store (.inl rfl)).store (.inr (.inl rfl))).store (.inr (.inr rfl))).all | exact ⟨BX, c0, c1, c3⟩ | assumption | go_keep)
    (first | (go_at_call 9; with_reducible refine (CE30 _).mono ?_; rintro e w' ⟨rfl, rfl⟩) | (go_at_call 9; with_reducible refine (CE300 _).mono ?_; rintro e w' ⟨rfl, rfl⟩))
  have BX1 := (((BX.store (.inl rfl)).store (.inr (.inl rfl))).store (.inr (.inr rfl))).drew
  obtain ⟨W1, hW1⟩ : ∃ W1, W1 = (((W0.setCell ⟨w.heap.size, 0, none⟩ (.string ⟨#[]⟩)).setCell ⟨w.heap.size, 1, none⟩ (.string ⟨#[]⟩)).setCell ⟨w.heap.size, 3, none⟩ (.string ⟨#[]⟩)).drew := ⟨_, rfl⟩
  rw [← hW1] at BX1 ⊢
  clear hW1 BX c0 c1 c3 f0 f1 f3
  have BM := BX1
  have q25 : (25 : Int) ≤ (cap : Int) := by omega
  have q26 : (25 : Int) < (n : Int) := by omega
  have c2 := BM.c2
  have f2 := BM.fr 2
  go_wp2_with fail
  have BN := BM.put (sl' := .slice (some ⟨b, o, none⟩) 25 cap)
  go_loopw [3, 4] (fun v i wr => ∃ k : Nat, k ≤ 25 ∧ i = .int .i64 k ∧ wr.ownsRow (w.heap.size + 2) 46 2 v k (FC N V k) ∧ Box w wr (.slice (some ⟨b, o, none⟩) 25 cap)) (fun _ i _ => 25 - (intOf i).toNat)
  case atStart => exact ⟨0, Nat.zero_le _, rfl, World.ownsRow_nil _ _ _ _, BN⟩
  case round =>
    clear BN
    obtain ⟨k, hk, rfl, hown, hX⟩ := hrel
    have d2 := hX.c2
    have hsz := hX.siz
    by_cases hlt : k < 25
    · obtain ⟨h1, h2⟩ := hH k (by omega)
      have e1 := (hX.bel.cell (p := ⟨b, o + k * 2, none⟩) hb).trans h1
      have e2 := (hX.bel.cell (p := ⟨b, o + k * 2 + 1, none⟩) hb).trans h2
      have CN : ∀ x, Calls Tryd.prog 9 #[.string (N k), .int .i64 30] x fun e w' => e = .returned (.string (cutS (N k) 30)) ∧ w' = x := fun x => law1_Cut (N k) 30 (by omega) x
      have CV : ∀ x, Calls Tryd.prog 9 #[.string (V k), .int .i64 150] x fun e w' => e = .returned (.string (cutS (V k) 150)) ∧ w' = x := fun x => law1_Cut (V k) 150 (by omega) x
      have q1 : (0 : Int) ≤ (k : Int) := by omega
      have q2 : (k : Int) < ((25 : Nat) : Int) := by omega
      have hF : FC N V (k + 1) = FC N V k ++ [.string (cutS (N k) 30), .string (cutS (V k) 150)] := rfl
      have HF := Lib.hid hF
      generalize cutS (N k) 30 = s' at CN HF
      generalize cutS (V k) 150 = x' at CV HF
      generalize N k = s at e1 CN
      generalize V k = x at e2 CV
      have hne := fun h => (absurd (hown.lt b h).1 (by omega) : False)
      have hne2 := fun h => (absurd (hown.lt w.heap.size h).1 (by omega) : False)
      have hbr : b < wr.heap.size := by omega
      have hBr : w.heap.size < wr.heap.size := by omega
      clear h1 h2 hF
      go_wp2_with fail
      go_region_held3 (fun w' => w'.cell? ⟨w.heap.size, 2, none⟩ = some (.slice (some ⟨b, o, none⟩) 25 cap) ∧ w'.cell? ⟨b, o + k * 2, none⟩ = some (.string s) ∧ w'.cell? ⟨b, o + k * 2 + 1, none⟩ = some (.string x))
        (first | go_keep | (refine ⟨?_, ?_, ?_⟩ <;> first | (rw [hgrow.cell_far _ (by simp; omega) (Ne.symm hne)]; assumption) | (rw [hgrow.cell_far _ (by simp; omega) (Ne.symm hne2)]; assumption)) | (go_split_ands; refine ⟨?_, ?_, ?_⟩ <;> first | (rw [hgrow.cell_far _ (by simp; omega) (Ne.symm hne)]; assumption) | (rw [hgrow.cell_far _ (by simp; omega) (Ne.symm hne2)]; assumption)))
        (first | (go_at_call 9; with_reducible refine (CN _).mono ?_; rintro e w' ⟨rfl, rfl⟩) | (go_at_call 9; with_reducible refine (CV _).mono ?_; rintro e w' ⟨rfl, rfl⟩) | (refine step_append_own' _ (by rfl) _ _ _ (by rfl) (w.heap.size + 2) 46 i0 _ 2 32 Tryd.underlying26 hi hz0 hz1 hz2 rfl (by omega) _ k (FC N V k) (by rfl) ((hown.alloc _).drew) ⟨_, 0, none⟩ 1 1 [.string s', .string x'] (by rfl) (by rfl) (World.news_of_block (cs := #[.string s', .string x']) (t := 46) (fr := (0, 0)) (heap_alloc_new wr _)) (by simp [Value.oneCell']) (by unfold maxLen; omega) (by omega) (by simp; omega) ?_; intro v' w2 hown2 hgrow hnil) | fail)
      have X2 := ((hX.alloc _).drew).grown hgrow (fun r hr => (hown.lt r hr).1)
      have R2 : w2.ownsRow (w.heap.size + 2) 46 2 v' (k + 1) (FC N V (k + 1)) := by rw [HF.out]; exact hown2
      clear hgrow hown hown2 hne hne2 d2 e1 e2 hX CN CV hnil
      go_wp2
      go_roundw
      case rel => first | exact ⟨k + 1, by omega, by go_num, R2, X2⟩ | ((repeat apply Exists.intro); exact ⟨⟨k + 1, by omega, by go_num, R2, X2⟩, rfl⟩)
      case measure => simp [intOf]; omega
    · have hd : decide ((k : Int) < ((25 : Nat) : Int)) = false := by simp; omega
      obtain rfl : k = 25 := by omega
      have d0 := hX.c0
      have d1 := hX.c1
      have d3 := hX.c3
      have fr := hX.fr 2
      have r0 := hX.r0
      have r1 := hX.r1
      have r2 := hX.r2
      have r3 := hX.r3
      have s0 := hX.fs 0
      have s1 := hX.fs 1
      have s2 := hX.fs 2
      have s3 := hX.fs 3
      obtain ⟨g, ca, rfl, hgb, hgl⟩ := hown.form (by omega)
      have HO := Lib.hid hown
      have HX := Lib.hid hX
      clear hown hX
      go_wp2_with fail
      (try simp only [Exit.inBlock, Exit.then])
      refine bodyPost_ret (results_cell_row (p := 2) (ty := 28) rfl _ _ (w.heap.size + 1) 28 _ (0, 0) _ rfl HX.out.fin.1 Tryd.underlying28 rfl (by kernel_rfl)) rfl ?_
      exact ⟨_, rfl, own_fin rfl HO.out hgb, HX.out.fin.2⟩
set_option maxRecDepth 8000 in
set_option maxHeartbeats 1600000 in
theorem law16_CutB (b o n cap : Nat) (N V : Nat → ByteArray) (w : World) (hH : HoldsF w b o n N V) (hb : b < w.heap.size) (hn : 0 < n) (hgt : n ≤ 25) (hnc : n ≤ cap) (hcm : cap ≤ maxLen) :
    Calls Tryd.prog 8 #[.agg #[.string ⟨#[]⟩, .string ⟨#[]⟩, .slice (some ⟨b, o, none⟩) n cap, .string ⟨#[]⟩]] w fun e' w' => ∃ v, e' = .returned (.agg #[.string ⟨#[]⟩, .string ⟨#[]⟩, v, .string ⟨#[]⟩]) ∧ w'.ownsRow w.heap.size 46 2 v n (FC N V n) ∧ Below w.heap.size w w' := by
  obtain ⟨i0, hi, hz0, hz1, hz2⟩ := info_parts info46
  have CE30 : ∀ x, Calls Tryd.prog 9 #[.string ⟨#[]⟩, .int .i64 30] x fun e w' => e = .returned (.string ⟨#[]⟩) ∧ w' = x := fun x => law1_Cut ⟨#[]⟩ 30 (by omega) x
  have CE300 : ∀ x, Calls Tryd.prog 9 #[.string ⟨#[]⟩, .int .i64 300] x fun e w' => e = .returned (.string ⟨#[]⟩) ∧ w' = x := fun x => law1_Cut ⟨#[]⟩ 300 (by omega) x
  have hmx : maxLen = 9223372036854775807 := rfl
  go_enter Tryd.func8, Tryd.ntmps8
  go_wp2_with fail
  obtain ⟨W0, hW0⟩ : ∃ W0, W0 = ((w.alloc (Obj.cells #[Value.string ⟨#[]⟩, Value.string ⟨#[]⟩, Value.slice (some ⟨b, o, none⟩) n cap, Value.string ⟨#[]⟩] 28)).alloc (Obj.cells #[Value.string ⟨#[]⟩, Value.string ⟨#[]⟩, Value.slice none 0 0, Value.string ⟨#[]⟩] 28)) := ⟨_, rfl⟩
  rw [← hW0]
  have g0 : W0.heap[w.heap.size]? = some (.cells #[Value.string ⟨#[]⟩, Value.string ⟨#[]⟩, Value.slice (some ⟨b, o, none⟩) n cap, Value.string ⟨#[]⟩] 28 (0, 0)) := by
    rw [hW0, Below.heap_alloc _ _ _ (by simp)]; exact heap_alloc_new w _
  have g1 : W0.heap[w.heap.size + 1]? = some (.cells #[Value.string ⟨#[]⟩, Value.string ⟨#[]⟩, Value.slice none 0 0, Value.string ⟨#[]⟩] 28 (0, 0)) := by
    have := heap_alloc_new (w.alloc (Obj.cells #[Value.string ⟨#[]⟩, Value.string ⟨#[]⟩, Value.slice (some ⟨b, o, none⟩) n cap, Value.string ⟨#[]⟩] 28)) (Obj.cells #[Value.string ⟨#[]⟩, Value.string ⟨#[]⟩, Value.slice none 0 0, Value.string ⟨#[]⟩] 28)
    rw [← hW0] at this; simpa using this
  have gB : Below w.heap.size w W0 := by rw [hW0]; exact ((Below.refl _ w).alloc (Nat.le_refl _) _).alloc (by simp) _
  have gs : W0.heap.size = w.heap.size + 2 := by rw [hW0]; simp
  clear hW0
  have BX : Box w W0 (.slice (some ⟨b, o, none⟩) n cap) := ⟨g0, g1, gB, by omega⟩
  clear g0 g1 gB gs
  have c0 := BX.c0
  have c1 := BX.c1
  have c3 := BX.c3
  have f0 := BX.fr 0
  have f1 := BX.fr 1
  have f3 := BX.fr 3
  go_region_held3 (fun w' => Box w w' (.slice (some ⟨b, o, none⟩) n cap) ∧ w'.cell? ⟨w.heap.size, 0, none⟩ = some (.string ⟨#[]⟩) ∧ w'.cell? ⟨w.heap.size, 1, none⟩ = some (.string ⟨#[]⟩) ∧ w'.cell? ⟨w.heap.size, 3, none⟩ = some (.string ⟨#[]⟩))
    (first | exact BX.all | exact (BX.store (.inl rfl)).all | exact ((BX.store (.inl rfl)).store (.inr (.inl rfl))).all | exact (((BX.store (.inl rfl)).store (.inr (.inl rfl))).store (.inr (.inr rfl))).all | exact ⟨BX, c0, c1, c3⟩ | assumption | go_keep)
    (first | (go_at_call 9; with_reducible refine (CE30 _).mono ?_; rintro e w' ⟨rfl, rfl⟩) | (go_at_call 9; with_reducible refine (CE300 _).mono ?_; rintro e w' ⟨rfl, rfl⟩))
  have BX1 := (((BX.store (.inl rfl)).store (.inr (.inl rfl))).store (.inr (.inr rfl))).drew
  obtain ⟨W1, hW1⟩ : ∃ W1, W1 = (((W0.setCell ⟨w.heap.size, 0, none⟩ (.string ⟨#[]⟩)).setCell ⟨w.heap.size, 1, none⟩ (.string ⟨#[]⟩)).setCell ⟨w.heap.size, 3, none⟩ (.string ⟨#[]⟩)).drew := ⟨_, rfl⟩
  rw [← hW1] at BX1 ⊢
  clear hW1 BX c0 c1 c3 f0 f1 f3
  have BM := BX1
  have q26 : (n : Int) ≤ 25 := by omega
  have c2 := BM.c2
  have f2 := BM.fr 2
  go_wp2_with fail
  have BN := BM
  go_loopw [3, 4] (fun v i wr => ∃ k : Nat, k ≤ n ∧ i = .int .i64 k ∧ wr.ownsRow (w.heap.size + 2) 46 2 v k (FC N V k) ∧ Box w wr (.slice (some ⟨b, o, none⟩) n cap)) (fun _ i _ => n - (intOf i).toNat)
  case atStart => exact ⟨0, Nat.zero_le _, rfl, World.ownsRow_nil _ _ _ _, BN⟩
  case round =>
    clear BN
    obtain ⟨k, hk, rfl, hown, hX⟩ := hrel
    have d2 := hX.c2
    have hsz := hX.siz
    by_cases hlt : k < n
    · obtain ⟨h1, h2⟩ := hH k (by omega)
      have e1 := (hX.bel.cell (p := ⟨b, o + k * 2, none⟩) hb).trans h1
      have e2 := (hX.bel.cell (p := ⟨b, o + k * 2 + 1, none⟩) hb).trans h2
      have CN : ∀ x, Calls Tryd.prog 9 #[.string (N k), .int .i64 30] x fun e w' => e = .returned (.string (cutS (N k) 30)) ∧ w' = x := fun x => law1_Cut (N k) 30 (by omega) x
      have CV : ∀ x, Calls Tryd.prog 9 #[.string (V k), .int .i64 150] x fun e w' => e = .returned (.string (cutS (V k) 150)) ∧ w' = x := fun x => law1_Cut (V k) 150 (by omega) x
      have q1 : (0 : Int) ≤ (k : Int) := by omega
      have q2 : (k : Int) < ((n : Nat) : Int) := by omega
      have hF : FC N V (k + 1) = FC N V k ++ [.string (cutS (N k) 30), .string (cutS (V k) 150)] := rfl
      have HF := Lib.hid hF
      generalize cutS (N k) 30 = s' at CN HF
      generalize cutS (V k) 150 = x' at CV HF
      generalize N k = s at e1 CN
      generalize V k = x at e2 CV
      have hne := fun h => (absurd (hown.lt b h).1 (by omega) : False)
      have hne2 := fun h => (absurd (hown.lt w.heap.size h).1 (by omega) : False)
      have hbr : b < wr.heap.size := by omega
      have hBr : w.heap.size < wr.heap.size := by omega
      clear h1 h2 hF
      go_wp2_with fail
      go_region_held3 (fun w' => w'.cell? ⟨w.heap.size, 2, none⟩ = some (.slice (some ⟨b, o, none⟩) n cap) ∧ w'.cell? ⟨b, o + k * 2, none⟩ = some (.string s) ∧ w'.cell? ⟨b, o + k * 2 + 1, none⟩ = some (.string x))
        (first | go_keep | (refine ⟨?_, ?_, ?_⟩ <;> first | (rw [hgrow.cell_far _ (by simp; omega) (Ne.symm hne)]; assumption) | (rw [hgrow.cell_far _ (by simp; omega) (Ne.symm hne2)]; assumption)) | (go_split_ands; refine ⟨?_, ?_, ?_⟩ <;> first | (rw [hgrow.cell_far _ (by simp; omega) (Ne.symm hne)]; assumption) | (rw [hgrow.cell_far _ (by simp; omega) (Ne.symm hne2)]; assumption)))
        (first | (go_at_call 9; with_reducible refine (CN _).mono ?_; rintro e w' ⟨rfl, rfl⟩) | (go_at_call 9; with_reducible refine (CV _).mono ?_; rintro e w' ⟨rfl, rfl⟩) | (refine step_append_own' _ (by rfl) _ _ _ (by rfl) (w.heap.size + 2) 46 i0 _ 2 32 Tryd.underlying26 hi hz0 hz1 hz2 rfl (by omega) _ k (FC N V k) (by rfl) ((hown.alloc _).drew) ⟨_, 0, none⟩ 1 1 [.string s', .string x'] (by rfl) (by rfl) (World.news_of_block (cs := #[.string s', .string x']) (t := 46) (fr := (0, 0)) (heap_alloc_new wr _)) (by simp [Value.oneCell']) (by unfold maxLen; omega) (by omega) (by simp; omega) ?_; intro v' w2 hown2 hgrow hnil) | fail)
      have X2 := ((hX.alloc _).drew).grown hgrow (fun r hr => (hown.lt r hr).1)
      have R2 : w2.ownsRow (w.heap.size + 2) 46 2 v' (k + 1) (FC N V (k + 1)) := by rw [HF.out]; exact hown2
      clear hgrow hown hown2 hne hne2 d2 e1 e2 hX CN CV hnil
      go_wp2
      go_roundw
      case rel => first | exact ⟨k + 1, by omega, by go_num, R2, X2⟩ | ((repeat apply Exists.intro); exact ⟨⟨k + 1, by omega, by go_num, R2, X2⟩, rfl⟩)
      case measure => simp [intOf]; omega
    · have hd : decide ((k : Int) < ((n : Nat) : Int)) = false := by simp; omega
      obtain rfl : k = n := by omega
      have d0 := hX.c0
      have d1 := hX.c1
      have d3 := hX.c3
      have fr := hX.fr 2
      have r0 := hX.r0
      have r1 := hX.r1
      have r2 := hX.r2
      have r3 := hX.r3
      have s0 := hX.fs 0
      have s1 := hX.fs 1
      have s2 := hX.fs 2
      have s3 := hX.fs 3
      obtain ⟨g, ca, rfl, hgb, hgl⟩ := hown.form (by omega)
      have HO := Lib.hid hown
      have HX := Lib.hid hX
      clear hown hX
      go_wp2_with fail
      (try simp only [Exit.inBlock, Exit.then])
      refine bodyPost_ret (results_cell_row (p := 2) (ty := 28) rfl _ _ (w.heap.size + 1) 28 _ (0, 0) _ rfl HX.out.fin.1 Tryd.underlying28 rfl (by kernel_rfl)) rfl ?_
      exact ⟨_, rfl, own_fin rfl HO.out hgb, HX.out.fin.2⟩
end Go.Proofs.YtjcbohpemfmpiaaDoor.headGet
