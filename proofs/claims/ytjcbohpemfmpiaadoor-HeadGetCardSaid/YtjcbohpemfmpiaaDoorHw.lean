/- HeadGet, its walk: HgWalk. -/
import Derived.Test.YtjcbohpemfmpiaaDoorHo
import Derived.Test.YtjcbohpemfmpiaaDoorHv
import Derived.Test.YtjcbohpemfmpiaaDoorHe
namespace Go.Proofs.YtjcbohpemfmpiaaDoor.headGet
open Go.ChangeShapes Go.WideShapes Go.ChangeAt Go.RowKit Go.Hg
attribute [local go_sem ↓] Go.wp_at_zero Go.wp_at_succ
def strOf : Value → ByteArray
  | .string s => s
  | _ => ⟨#[]⟩
theorem holdsS_of_own {w : World} {base g c m : Nat} {N V : Nat → ByteArray} {nm : ByteArray} {n : Nat} (h : w.ownsRow base 9 1 (.slice (some ⟨g, 0, none⟩) m c) m (GV N V nm n)) : HoldsS w g m (fun i => strOf ((GV N V nm n)[i]?.getD (.string ⟨#[]⟩))) := fun i hi => by
  have hl : (GV N V nm n).length = m * 1 := h.1
  have e := h.cellAt i (by omega)
  have hi' : i < (GV N V nm n).length := by omega
  obtain ⟨s, hs⟩ := GV_one N V nm n _ (List.getElem_mem hi')
  rw [e]
  simp only [List.getElem?_eq_getElem hi', Option.getD_some, hs, strOf]
theorem eq_own {x : World} {b1 b2 : Nat} {v1 v2 : Value} {N V : Nat → ByteArray} {nm : ByteArray} {m n : Nat} (hm : m ≤ 25) (h1 : x.ownsRow b1 9 1 v1 m (GV N V nm n)) (h2 : x.ownsRow b2 9 1 v2 m (GV N V nm n)) :
    Calls Tryd.prog 10 #[v1, v2] x fun e w' => e = .returned (.bool true) ∧ Below x.heap.size x w' := by
  rcases Nat.eq_zero_or_pos m with h0 | h0
  · subst h0
    have f : ∀ {b : Nat} {v : Value}, x.ownsRow b 9 1 v 0 (GV N V nm n) → ∃ a c, v = .slice a 0 c := fun h => by
      rcases h.2 with ⟨rfl, _⟩ | ⟨g, cap, cur, rfl, _⟩
      · exact ⟨_, _, rfl⟩
      · exact ⟨_, _, rfl⟩
    obtain ⟨a, c, rfl⟩ := f h1
    obtain ⟨a', c', rfl⟩ := f h2
    exact eq_none a a' c c' x
  · obtain ⟨g, c, rfl, _, _⟩ := h1.form h0
    obtain ⟨g', c', rfl, _, _⟩ := h2.form h0
    exact eq_texts g g' m c c' _ x (holdsS_of_own h1) (holdsS_of_own h2) hm
theorem below_tr {B : Nat} {w x x1 y : World} (h : Below B w x) (k : Below x1.heap.size x1 y) (e1 : x1.heap = x.heap) (e2 : x1.os = x.os) (e3 : x1.tape = x.tape) (e4 : x1.output = x.output) (hB : B ≤ x.heap.size) : Below B w y :=
  ⟨k.os.trans (e2.trans h.os), k.tape.trans (e3.trans h.tape), k.output.trans (e4.trans h.output), Nat.le_trans h.size (by have := k.size; rw [e1] at this; exact this), fun i hi => (k.block i (by rw [e1]; omega)).trans (by rw [e1]; exact h.block i hi)⟩
theorem HoldsF.same {w w' : World} {b o n : Nat} {N V : Nat → ByteArray} (h : HoldsF w b o n N V) (hw : w'.heap = w.heap) : HoldsF w' b o n N V := fun i hi => by
  have := h i hi
  simpa only [World.cell?, hw] using this
theorem own_same {w w' : World} {base : Nat} {e : TypeId} {size : Nat} {v : Value} {n : Nat} {xs : List Value} (h : w.ownsRow base e size v n xs) (hw : w'.heap = w.heap) : w'.ownsRow base e size v n xs := by
  obtain ⟨h1, h2⟩ := h
  exact ⟨h1, by rw [hw]; exact h2⟩
theorem own_below' {w w1 w' : World} {base : Nat} {e : TypeId} {size : Nat} {v : Value} {n : Nat} {xs : List Value} (h : w.ownsRow base e size v n xs) (hB : Below w1.heap.size w1 w') (hw : w1.heap = w.heap) : w'.ownsRow base e size v n xs := by
  obtain ⟨h1, h2⟩ := h
  refine own_below (w := w1) ⟨h1, ?_⟩ hB
  rw [hw]; exact h2
theorem HoldsF.below' {w w1 w' : World} {b o n : Nat} {N V : Nat → ByteArray} (h : HoldsF w b o n N V) (hB : Below w1.heap.size w1 w') (hw : w1.heap = w.heap) (hb : b < w.heap.size) : HoldsF w' b o n N V := by
  refine HoldsF.below (w := w1) (fun i hi => ?_) hB (by rw [hw]; exact hb)
  have := h i hi
  simpa only [World.cell?, hw] using this
theorem lt_below' {b : Nat} {w w1 w' : World} (h : Below w1.heap.size w1 w') (hw : w1.heap = w.heap) (hb : b < w.heap.size) : b < w'.heap.size := by have := h.size; rw [hw] at this; omega
theorem cell_below' {w w1 w' : World} {p : Addr} {v : Value} (h : w.cell? p = some v) (hB : Below w1.heap.size w1 w') (hw : w1.heap = w.heap) (hp : p.block < w.heap.size) : w'.cell? p = some v := by
  rw [hB.cell (by rw [hw]; exact hp)]
  simpa only [World.cell?, hw] using h
set_option maxRecDepth 8000 in
set_option maxHeartbeats 1600000 in
theorem walk_m (m : Nat) (b o n cap : Nat) (N V : Nat → ByteArray) (nm : ByteArray) (w : World) (hbeg : Calls Tryd.prog 6 #[] w fun e w' => e = .returned (.bool true) ∧ Below w.heap.size w w')
    (hcut : ∀ x, Below w.heap.size w x → Calls Tryd.prog 8 #[.agg #[.string ⟨#[]⟩, .string ⟨#[]⟩, .slice (some ⟨b, o, none⟩) n cap, .string ⟨#[]⟩]] x fun e' w' => ∃ g c, e' = .returned (.agg #[.string ⟨#[]⟩, .string ⟨#[]⟩, .slice (some ⟨g, 0, none⟩) m c, .string ⟨#[]⟩]) ∧ HoldsF w' g 0 m (fun i => cutS (N i) 30) (fun i => cutS (V i) 150) ∧ g < w'.heap.size ∧ Below x.heap.size x w')
    (hm0 : 0 < m) (hm : m ≤ 25) :
    Calls Tryd.prog 4 #[.slice (some ⟨b, o, none⟩) n cap, .string nm] w fun e w' => e = .returned (.bool true) ∧ Below w.heap.size w w' := by
  have CM : ∀ x, Calls Tryd.prog 9 #[.string nm, .int .i64 30] x fun e w' => e = .returned (.string (cutS nm 30)) ∧ w' = x := fun x => law1_Cut nm 30 (by omega) x
  have hle := cutS_le nm 30
  generalize cutS nm 30 = nm' at CM hle
  go_enter Tryd.func4, Tryd.ntmps4
  go_wp2_with (first
    | (go_at_call 6; refine hbeg.mono ?_; rintro e w1 ⟨rfl, hB1⟩)
    | (go_at_call 8; refine (hcut _ hB1).mono ?_; rintro e w2 ⟨g, c, rfl, HF, hg, hB2⟩)
    | (go_at_call 9; with_reducible refine (CM _).mono ?_; rintro e w' ⟨rfl, rfl⟩)
    | fail)
  obtain ⟨X, hX⟩ : ∃ X, X = w2.alloc (Obj.cells #[Value.string ⟨#[]⟩, Value.string ⟨#[]⟩, Value.slice (some ⟨g, 0, none⟩) m c, Value.string ⟨#[]⟩] 28) := ⟨_, rfl⟩
  rw [← hX]
  have cR : X.cell? ⟨w2.heap.size, 2, none⟩ = some (.slice (some ⟨g, 0, none⟩) m c) := by rw [hX, blk_cell (heap_alloc_new w2 _)]; rfl
  have lR : w2.heap.size < X.heap.size := by rw [hX]; simp
  have z1 := hB1.size
  have z2 := hB2.size
  have HFX : HoldsF X g 0 m (fun i => cutS (N i) 30) (fun i => cutS (V i) 150) := by rw [hX]; exact HF.below ((Below.refl _ w2).alloc (Nat.le_refl _) _) hg
  have hgX : g < X.heap.size := by rw [hX]; simp; omega
  have BX : Below w.heap.size w X := by rw [hX]; exact (hB1.trans (hB2.mono z1)).alloc (by omega) _
  have hsN : ∀ i, i < m → ((fun i => cutS (N i) 30) i).size ≤ 1000 := fun i _ => by have := cutS_le (N i) 30; show (cutS (N i) 30).size ≤ 1000; omega
  generalize (fun i => cutS (N i) 30) = N' at HFX hsN
  generalize (fun i => cutS (V i) 150) = V' at HFX
  generalize w2.heap.size = R at cR lR ⊢
  have hgl := GV_len N' V' nm' m
  have GetC := fun (x0 x : World) (hw : x.heap = x0.heap) (h1 : HoldsF x0 g 0 m N' V') (h2 : g < x0.heap.size) => head_Get g 0 m c N' V' nm' x (h1.same hw) (by rw [hw]; exact h2) hm hsN (by omega)
  have ValC := fun (x0 x : World) (hw : x.heap = x0.heap) (h1 : HoldsF x0 g 0 m N' V') (h2 : g < x0.heap.size) => ref_Values g 0 m c N' V' nm' x (h1.same hw) (by rw [hw]; exact h2) hm hsN (by omega)
  have EqC := fun (x0 x : World) (hw : x.heap = x0.heap) (b1 b2 : Nat) (v1 v2 : Value) (h1 : x0.ownsRow b1 9 1 v1 (GV N' V' nm' m).length (GV N' V' nm' m)) (h2 : x0.ownsRow b2 9 1 v2 (GV N' V' nm' m).length (GV N' V' nm' m)) => eq_own (x := x) (b1 := b1) (b2 := b2) (v1 := v1) (v2 := v2) (by omega) (own_same h1 hw) (own_same h2 hw)
  clear hX HF hB2 hB1 hcut hbeg z1 z2 CM hsN
  go_region_held3 (fun w' => w'.cell? ⟨R, 2, none⟩ = some (.slice (some ⟨g, 0, none⟩) m c))
    (first | go_keep | exact cell_below' cR b1 rfl lR | exact cell_below' cR b2 rfl lR | exact cell_below' (cell_below' cR b1 rfl lR) b2 rfl (lt_below' b1 rfl lR) | exact cell_below' (cell_below' cR b2 rfl lR) b1 rfl (lt_below' b2 rfl lR) | exact cell_below' (cell_below' (cell_below' cR b1 rfl lR) b2 rfl (lt_below' b1 rfl lR)) b3 rfl (lt_below' b2 rfl (lt_below' b1 rfl lR)) | exact cell_below' (cell_below' (cell_below' cR b2 rfl lR) b1 rfl (lt_below' b2 rfl lR)) b3 rfl (lt_below' b1 rfl (lt_below' b2 rfl lR)))
    (first
      | (go_at_call 11; refine (GetC _ _ (by rfl) HFX hgX).mono ?_; rintro e w3 ⟨v1, rfl, o1, b1⟩)
      | (go_at_call 11; refine (GetC _ _ (by rfl) (HFX.below' b2 rfl hgX) (lt_below' b2 rfl hgX)).mono ?_; rintro e w3 ⟨v1, rfl, o1, b1⟩)
      | (go_at_call 12; refine (ValC _ _ (by rfl) HFX hgX).mono ?_; rintro e w4 ⟨v2, rfl, o2, b2⟩)
      | (go_at_call 12; refine (ValC _ _ (by rfl) (HFX.below' b1 rfl hgX) (lt_below' b1 rfl hgX)).mono ?_; rintro e w4 ⟨v2, rfl, o2, b2⟩)
      | (go_at_call 10; refine (EqC _ _ (by rfl) _ _ _ _ (own_below' o1 b2 rfl) o2).mono ?_; rintro e w5 ⟨rfl, b3⟩)
      | (go_at_call 10; refine (EqC _ _ (by rfl) _ _ _ _ o1 (own_below' o2 b1 rfl)).mono ?_; rintro e w5 ⟨rfl, b3⟩)
      | fail)
  have R1 := below_tr BX b1 rfl rfl rfl rfl BX.size
  have R2 := below_tr R1 b2 rfl rfl rfl rfl R1.size
  have R3 := below_tr R2 b3 rfl rfl rfl rfl R2.size
  go_wp2
  go_ret
  exact ⟨rfl, R3⟩
theorem walk0 (b : Option Addr) (cap : Nat) (nm : ByteArray) (w : World) (hbeg : Calls Tryd.prog 6 #[] w fun e w' => e = .returned (.bool true) ∧ Below w.heap.size w w') :
    Calls Tryd.prog 4 #[.slice b 0 cap, .string nm] w fun e w' => e = .returned (.bool true) ∧ Below w.heap.size w w' := by
  have CM : ∀ x, Calls Tryd.prog 9 #[.string nm, .int .i64 30] x fun e w' => e = .returned (.string (cutS nm 30)) ∧ w' = x := fun x => law1_Cut nm 30 (by omega) x
  generalize cutS nm 30 = nm' at CM
  go_enter Tryd.func4, Tryd.ntmps4
  go_wp2_with (first
    | (go_at_call 6; refine hbeg.mono ?_; rintro e w1 ⟨rfl, hB1⟩)
    | (go_at_call 8; refine (law16_Cut0 b cap _).mono ?_; rintro e w2 ⟨rfl, hB2⟩)
    | (go_at_call 9; with_reducible refine (CM _).mono ?_; rintro e w' ⟨rfl, rfl⟩)
    | fail)
  obtain ⟨X, hX⟩ : ∃ X, X = w2.alloc (Obj.cells #[Value.string ⟨#[]⟩, Value.string ⟨#[]⟩, Value.slice none 0 0, Value.string ⟨#[]⟩] 28) := ⟨_, rfl⟩
  rw [← hX]
  have cR : X.cell? ⟨w2.heap.size, 2, none⟩ = some (.slice none 0 0) := by rw [hX, blk_cell (heap_alloc_new w2 _)]; rfl
  have lR : w2.heap.size < X.heap.size := by rw [hX]; simp
  have z1 := hB1.size
  have z2 := hB2.size
  have BX : Below w.heap.size w X := by rw [hX]; exact (hB1.trans (hB2.mono z1)).alloc (by omega) _
  generalize w2.heap.size = R at cR lR ⊢
  clear hX hB2 hB1 hbeg z1 z2 CM
  go_region_held3 (fun w' => w'.cell? ⟨R, 2, none⟩ = some (.slice none 0 0))
    (first | go_keep | exact cell_below' cR b1 rfl lR | exact cell_below' cR b2 rfl lR | exact cell_below' (cell_below' cR b1 rfl lR) b2 rfl (lt_below' b1 rfl lR) | exact cell_below' (cell_below' cR b2 rfl lR) b1 rfl (lt_below' b2 rfl lR) | exact cell_below' (cell_below' (cell_below' cR b1 rfl lR) b2 rfl (lt_below' b1 rfl lR)) b3 rfl (lt_below' b2 rfl (lt_below' b1 rfl lR)) | exact cell_below' (cell_below' (cell_below' cR b2 rfl lR) b1 rfl (lt_below' b2 rfl lR)) b3 rfl (lt_below' b1 rfl (lt_below' b2 rfl lR)))
    (first
      | (go_at_call 11; refine (head_Get0 _ _ _ _).mono ?_; rintro e w3 ⟨rfl, b1⟩)
      | (go_at_call 12; refine (ref_Values0 _ _ _ _).mono ?_; rintro e w4 ⟨rfl, b2⟩)
      | (go_at_call 10; refine (eq_none _ _ _ _ _).mono ?_; rintro e w5 ⟨rfl, b3⟩)
      | fail)
  have R1 := below_tr BX b1 rfl rfl rfl rfl BX.size
  have R2 := below_tr R1 b2 rfl rfl rfl rfl R1.size
  have R3 := below_tr R2 b3 rfl rfl rfl rfl R2.size
  go_wp2
  go_ret
  exact ⟨rfl, R3⟩
theorem walk_all (a : Option Addr) (n cap : Nat) (nm : ByteArray) (w : World) (hbeg : Calls Tryd.prog 6 #[] w fun e w' => e = .returned (.bool true) ∧ Below w.heap.size w w') (hnc : n ≤ cap) (hcm : cap ≤ maxLen)
    (h : 1 ≤ n → ∃ (b o : Nat) (N V : Nat → ByteArray), a = some ⟨b, o, none⟩ ∧ b < w.heap.size ∧ HoldsF w b o n N V) :
    Calls Tryd.prog 4 #[.slice a n cap, .string nm] w fun e w' => e = .returned (.bool true) ∧ Below w.heap.size w w' := by
  rcases Nat.eq_zero_or_pos n with h0 | h0
  · subst h0; exact walk0 a cap nm w hbeg
  · obtain ⟨b, o, N, V, rfl, hb, hH⟩ := h h0
    have fin : ∀ {m : Nat} {x w' : World} {v : Value}, 0 < m → w'.ownsRow x.heap.size 46 2 v m (FC N V m) → ∃ g c, v = .slice (some ⟨g, 0, none⟩) m c ∧ HoldsF w' g 0 m (fun i => cutS (N i) 30) (fun i => cutS (V i) 150) ∧ g < w'.heap.size := fun hm hown => by
      obtain ⟨g, c, rfl, _, hg⟩ := hown.form hm
      exact ⟨g, c, rfl, holdsF_of_own hown, hg⟩
    by_cases hgt : 25 < n
    · exact walk_m 25 b o n cap N V nm w hbeg (fun x hx => (law16_CutA b o n cap N V x (hH.below hx hb) (by have := hx.size; omega) h0 hgt hnc hcm).mono fun e w' he => by
        cases e with
        | returned v =>
          obtain ⟨v', hv, hown, hB⟩ := he
          obtain ⟨g, c, rfl, h1, h2⟩ := fin (by omega) hown
          exact ⟨g, c, hv, h1, h2, hB⟩
        | _ => obtain ⟨v', hv, _⟩ := he; cases hv) (by omega) (by omega)
    · exact walk_m n b o n cap N V nm w hbeg (fun x hx => (law16_CutB b o n cap N V x (hH.below hx hb) (by have := hx.size; omega) h0 (by omega) hnc hcm).mono fun e w' he => by
        cases e with
        | returned v =>
          obtain ⟨v', hv, hown, hB⟩ := he
          obtain ⟨g, c, rfl, h1, h2⟩ := fin (by omega) hown
          exact ⟨g, c, hv, h1, h2, hB⟩
        | _ => obtain ⟨v', hv, _⟩ := he; cases hv) (by omega) (by omega)
end Go.Proofs.YtjcbohpemfmpiaaDoor.headGet
