/- A first line, as the program reads it, walked. -/
import Derived.Test.YtjcbohpemfmpiaaDoorHh
namespace Go.Proofs.YtjcbohpemfmpiaaDoor.headLong
set_option linter.unusedVariables false
set_option linter.unusedSimpArgs false
open Go.ChangeShapes Go.WideShapes Go.ChangeAt Go.RowKit Go.Hl Go.Hg
/-- The reader's cells. -/
def XIs (w : World) (B : Nat) (m t : ByteArray) (vf : Value) (bg : Bool) : Prop := w.heap[B]? = some (.cells #[.string m, .string t, vf, .string ⟨#[]⟩, .bool bg] 59 (0, 0))
def sp : ByteArray := ⟨#[32]⟩
def pieces (s : ByteArray) : List ByteArray := Lib.splitB sp 0 (Lib.countB s sp) s
theorem pieces_len (s : ByteArray) : (pieces s).length = Lib.countB s sp + 1 := Lib.splitB_all sp (by decide) 0 _ s rfl
theorem pieces_data (s : ByteArray) : (pieces s).map (·.data.toList) = Lib.split s.data.toList [32] := Lib.splitB_data sp 0 _ s
theorem lineF_ne {s : ByteArray} (h : (pieces s).length ≠ 3) : lineF s.data.toList = none := by
  unfold lineF
  rw [← pieces_data]
  match hp : pieces s with
  | [] => rfl
  | [_] => rfl
  | [_, _] => rfl
  | [_, _, _] => rw [hp] at h; exact absurd rfl h
  | _ :: _ :: _ :: _ :: _ => rfl
theorem lineF_3 {s a b c : ByteArray} (h : pieces s = [a, b, c]) : lineF s.data.toList = if tkn a.data.toList && tgt b.data.toList && c.data.toList == http then some (a.data.toList, b.data.toList) else none := by
  unfold lineF
  rw [← pieces_data, h]
  rfl
theorem pieces_le {s a : ByteArray} (h : a ∈ pieces s) : a.size ≤ s.size := by
  have key : ∀ (k : Nat) (s : ByteArray), ∀ a ∈ Lib.splitB sp 0 k s, a.size ≤ s.size := by
    intro k
    induction k with
    | zero => intro s a h; simp [Lib.splitB] at h; rw [h]; exact Nat.le_refl _
    | succ k ih =>
      intro s a h
      unfold Lib.splitB at h
      split at h
      · simp at h; rw [h]; exact Nat.le_refl _
      · rw [List.mem_cons] at h
        rcases h with rfl | h
        · rw [ByteArray.size_extract]; omega
        · have := ih _ _ h
          rw [ByteArray.size_extract] at this; omega
  exact key _ _ _ h
theorem cell_set_ne {w : World} {B N i j : Nat} {v : Value} (h : N ≠ B) : (w.setCell ⟨B, i, none⟩ v).cell? ⟨N, j, none⟩ = w.cell? ⟨N, j, none⟩ := by
  have e : (w.setCell ⟨B, i, none⟩ v).heap[N]? = w.heap[N]? := by
    show (w.heap.modify B _)[N]? = _
    rw [Array.getElem?_modify, if_neg (fun e => h e.symm)]
  simp only [World.cell?, e]
/-- What a first line does to the reader. -/
def LineA (w : World) (B : Nat) (s : ByteArray) (e : Ending) (w' : World) : Prop :=
  Below B w w' ∧ ((lineF s.data.toList = none ∧ e = .returned (.bool false) ∧ XIs w' B ⟨#[]⟩ ⟨#[]⟩ (.slice none 0 0) true) ∨
    ∃ a b : ByteArray, lineF s.data.toList = some (a.data.toList, b.data.toList) ∧ e = .returned (.bool true) ∧ XIs w' B a b (.slice none 0 0) true)
set_option maxRecDepth 8000 in
set_option maxHeartbeats 1600000 in
theorem line_a (s : ByteArray) (hs : s.size ≤ 5000) (B : Nat) (m : Int) (w : World) (hX : XIs w B ⟨#[]⟩ ⟨#[]⟩ (.slice none 0 0) false) (hm : w.cell? ⟨1, 0, none⟩ = some (.int .i64 m)) (hB : 1 < B) :
    Calls Tryd.prog 27 #[.pointer (some ⟨B, 0, none⟩), .string s] w (LineA w B s) := by
  have hlt : B < w.heap.size := by
    unfold XIs at hX
    rcases Nat.lt_or_ge B w.heap.size with h | h
    · exact h
    · simp [Array.getElem?_eq_none h] at hX
  have c4 : w.cell? ⟨B, 4, none⟩ = some (.bool false) := by rw [blk_cell hX]; rfl
  have f4 : w.frozen? ⟨B, 4, none⟩ = false := by simp [World.frozen?, show w.heap[B]? = _ from hX]
  have hX1 := blk_set (i := 4) hX (.bool true)
  have LS : ∀ m' y, y.cell? ⟨1, 0, none⟩ = some (.int .i64 m') → Calls Tryd.prog 36 #[.string s, .string ⟨#[32]⟩] y fun e w' => e = .returned (.slice (some ⟨y.heap.size, 0, none⟩) (pieces s).length (pieces s).length) ∧ w' = y.alloc (.cells ((pieces s).map Value.string).toArray 9) := fun m' y hy => by
    rw [pieces_len]
    exact lib_Split s sp m' y (by omega) hy (by decide)
  have gB : Below B w (w.setCell ⟨B, 4, none⟩ (.bool true)) := (Below.refl B w).setCell (p := ⟨B, 4, none⟩) (Nat.le_refl _) _
  have hm1 := (gB.cell (p := ⟨1, 0, none⟩) hB).trans hm
  have hX1 : XIs (w.setCell ⟨B, 4, none⟩ (.bool true)) B ⟨#[]⟩ ⟨#[]⟩ (.slice none 0 0) true := hX1
  by_cases h3 : (pieces s).length = 3
  · obtain ⟨a, b, c, hp⟩ : ∃ a b c, pieces s = [a, b, c] := by
      match hq : pieces s, h3 with
      | [a, b, c], _ => exact ⟨a, b, c, rfl⟩
    have la := pieces_le (s := s) (a := a) (by rw [hp]; simp)
    have lb := pieces_le (s := s) (a := b) (by rw [hp]; simp)
    have lc := pieces_le (s := s) (a := c) (by rw [hp]; simp)
    have hv := lineF_3 hp
    have hsz1 : (w.setCell ⟨B, 4, none⟩ (.bool true)).heap.size = w.heap.size := by simp
    have L := LS m _ hm1
    rw [hp, hsz1] at L
    have L : Calls Tryd.prog 36 #[.string s, .string ⟨#[32]⟩] (w.setCell ⟨B, 4, none⟩ (.bool true)) fun e w' => e = .returned (.slice (some ⟨w.heap.size, 0, none⟩) 3 3) ∧ w' = (w.setCell ⟨B, 4, none⟩ (.bool true)).alloc (.cells #[.string a, .string b, .string c] 9) := L
    have fa : ∀ w2, w2 = (w.setCell ⟨B, 4, none⟩ (.bool true)).alloc (.cells #[.string a, .string b, .string c] 9) → w2.cell? ⟨w.heap.size, 0, none⟩ = some (.string a) ∧ w2.cell? ⟨w.heap.size, 1, none⟩ = some (.string b) ∧ w2.cell? ⟨w.heap.size, 2, none⟩ = some (.string c) ∧ Hid (XIs w2 B ⟨#[]⟩ ⟨#[]⟩ (.slice none 0 0) true ∧ Below B w w2) := by
      intro w2 hw2
      subst hw2
      have hn := heap_alloc_new (w.setCell ⟨B, 4, none⟩ (.bool true)) (Obj.cells #[Value.string a, Value.string b, Value.string c] 9)
      rw [hsz1] at hn
      refine ⟨by rw [blk_cell hn]; rfl, by rw [blk_cell hn]; rfl, by rw [blk_cell hn]; rfl, Lib.hid ⟨?_, gB.alloc (by simp; omega) _⟩⟩
      unfold XIs at hX1 ⊢
      rw [Below.heap_alloc _ _ _ (by simp; exact hlt)]
      exact hX1
    have FA := Lib.hid fa
    have TA : ∀ x, tkn a.data.toList = x → ∀ y, Calls Tryd.prog 37 #[.string a] y fun e w' => e = .returned (.bool x) ∧ y = w' := fun x hx y => hx ▸ token a (by omega) y
    have TB : ∀ x, tgt b.data.toList = x → ∀ y, Calls Tryd.prog 38 #[.string b] y fun e w' => e = .returned (.bool x) ∧ y = w' := fun x hx y => hx ▸ target b (by omega) y
    clear LS hX hX1 gB fa hm hm1 hp h3
    cases ha : tkn a.data.toList with
    | false =>
        have CA := TA false ha
        have CB := TB _ rfl
        rw [ha] at hv
        have HV := Lib.hid hv
        clear TA TB ha hv
        go_enter Tryd.func27, Tryd.ntmps27
        go_wp2_with (first | (go_at_call 36; refine L.mono ?_; rintro e w2 ⟨rfl, hw2⟩; obtain ⟨p0, p1, p2, HO⟩ := FA.out w2 hw2; clear hw2) | (go_at_call 37; with_reducible refine (CA _).mono ?_; rintro e w' ⟨rfl, rfl⟩) | (go_at_call 38; with_reducible refine (CB _).mono ?_; rintro e w' ⟨rfl, rfl⟩) | fail)
        go_ret
        exact ⟨HO.out.2, .inl ⟨HV.out, rfl, HO.out.1⟩⟩
    | true =>
      have CA := TA true ha
      cases hb : tgt b.data.toList with
      | false =>
        have CB := TB false hb
        rw [ha, hb] at hv
        have HV := Lib.hid hv
        clear TA TB ha hb hv
        go_enter Tryd.func27, Tryd.ntmps27
        go_wp2_with (first | (go_at_call 36; refine L.mono ?_; rintro e w2 ⟨rfl, hw2⟩; obtain ⟨p0, p1, p2, HO⟩ := FA.out w2 hw2; clear hw2) | (go_at_call 37; with_reducible refine (CA _).mono ?_; rintro e w' ⟨rfl, rfl⟩) | (go_at_call 38; with_reducible refine (CB _).mono ?_; rintro e w' ⟨rfl, rfl⟩) | fail)
        go_ret
        exact ⟨HO.out.2, .inl ⟨HV.out, rfl, HO.out.1⟩⟩
      | true =>
        have CB := TB true hb
        by_cases hc : c.data.toList = http
        · have q3 : (c.toList == [72, 84, 84, 80, 47, 49, 46, 49]) = true := by rw [ByteArray.toList_eq, hc]; rfl
          rw [ha, hb, hc] at hv
          have HV := Lib.hid hv
          clear TA TB ha hb hc hv
          go_enter Tryd.func27, Tryd.ntmps27
          go_wp2_with (first | (go_at_call 36; refine L.mono ?_; rintro e w2 ⟨rfl, hw2⟩; obtain ⟨p0, p1, p2, HO⟩ := FA.out w2 hw2; clear hw2) | (go_at_call 37; with_reducible refine (CA _).mono ?_; rintro e w' ⟨rfl, rfl⟩) | (go_at_call 38; with_reducible refine (CB _).mono ?_; rintro e w' ⟨rfl, rfl⟩) | fail)
          have HX2 := HO.out.1
          have c0 : w2.cell? ⟨B, 0, none⟩ = some (.string ⟨#[]⟩) := by rw [blk_cell HX2]; rfl
          have c1 : w2.cell? ⟨B, 1, none⟩ = some (.string ⟨#[]⟩) := by rw [blk_cell HX2]; rfl
          have f0 : w2.frozen? ⟨B, 0, none⟩ = false := by simp [World.frozen?, show w2.heap[B]? = _ from HX2]
          have f1 : w2.frozen? ⟨B, 1, none⟩ = false := by simp [World.frozen?, show w2.heap[B]? = _ from HX2]
          obtain ⟨N, hN⟩ : ∃ N, N = w.heap.size := ⟨_, rfl⟩
          rw [← hN] at p0 p1 p2 hlt ⊢
          have hne : N ≠ B := by omega
          have HH := Lib.hid HX2
          clear hN HX2 p2
          go_region_held3 (fun w' => w'.cell? ⟨N, 0, none⟩ = some (.string a) ∧ w'.cell? ⟨N, 1, none⟩ = some (.string b)) (first | exact ⟨p0, p1⟩ | exact ⟨(cell_set_ne hne).trans p0, (cell_set_ne hne).trans p1⟩ | exact ⟨(cell_set_ne hne).trans ((cell_set_ne hne).trans p0), (cell_set_ne hne).trans ((cell_set_ne hne).trans p1)⟩) (fail)
          have Y0 : XIs ((w2.setCell ⟨B, 0, none⟩ (.string a)).setCell ⟨B, 1, none⟩ (.string b)).drew B a b (.slice none 0 0) true := blk_set (blk_set (i := 0) HH.out (.string a)) (i := 1) (.string b)
          have YB := ((HO.out.2.setCell (p := ⟨B, 0, none⟩) (Nat.le_refl _) (.string a)).setCell (p := ⟨B, 1, none⟩) (Nat.le_refl _) (.string b)).drew
          generalize ((w2.setCell ⟨B, 0, none⟩ (.string a)).setCell ⟨B, 1, none⟩ (.string b)).drew = Y at Y0 YB ⊢
          have YY := Lib.hid (⟨Y0, YB⟩ : XIs Y B a b (.slice none 0 0) true ∧ Below B w Y)
          clear Y0 YB c0 c1 f0 f1 p0 p1 HO HH
          go_wp2_with fail
          go_ret
          exact ⟨YY.out.2, .inr ⟨a, b, HV.out, rfl, YY.out.1⟩⟩
        · have q3 : (c.toList == [72, 84, 84, 80, 47, 49, 46, 49]) = false := by rw [ByteArray.toList_eq, beq_eq_false_iff_ne]; exact hc
          rw [ha, hb, beq_eq_false_iff_ne.2 hc] at hv
          have HV := Lib.hid hv
          clear TA TB ha hb hc hv
          go_enter Tryd.func27, Tryd.ntmps27
          go_wp2_with (first | (go_at_call 36; refine L.mono ?_; rintro e w2 ⟨rfl, hw2⟩; obtain ⟨p0, p1, p2, HO⟩ := FA.out w2 hw2; clear hw2) | (go_at_call 37; with_reducible refine (CA _).mono ?_; rintro e w' ⟨rfl, rfl⟩) | (go_at_call 38; with_reducible refine (CB _).mono ?_; rintro e w' ⟨rfl, rfl⟩) | fail)
          go_ret
          exact ⟨HO.out.2, .inl ⟨HV.out, rfl, HO.out.1⟩⟩
  · have hf := lineF_ne h3
    have q3 : (((pieces s).length : Int) != 3) = true := by rw [bne_iff_ne]; omega
    have fin : LineA w B s (.returned (.bool false)) ((w.setCell ⟨B, 4, none⟩ (.bool true)).alloc (.cells ((pieces s).map Value.string).toArray 9)) := by
      refine ⟨gB.alloc (by simp; omega) _, .inl ⟨hf, rfl, ?_⟩⟩
      unfold XIs at hX1 ⊢
      rw [Below.heap_alloc _ _ _ (by simp; exact hlt)]
      exact hX1
    have FIN := Lib.hid fin
    have L := LS m _ hm1
    clear LS hX hX1 gB fin hf h3 hm hm1 
    generalize (pieces s).length = n at q3 L
    go_enter Tryd.func27, Tryd.ntmps27
    go_wp2_with (first | (go_at_call 36; refine L.mono ?_; rintro e w2 ⟨rfl, rfl⟩) | fail)
    go_ret
    exact FIN.out
end Go.Proofs.YtjcbohpemfmpiaaDoor.headLong
