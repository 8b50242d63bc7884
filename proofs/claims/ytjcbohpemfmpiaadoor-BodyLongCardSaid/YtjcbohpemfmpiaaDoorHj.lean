/- A field's line, as the program reads it, walked. -/
import Derived.Test.YtjcbohpemfmpiaaDoorHi
import Derived.Deep.AppendLies
namespace Go.Proofs.YtjcbohpemfmpiaaDoor.headLong
set_option linter.unusedVariables false
set_option linter.unusedSimpArgs false
open Go.ChangeShapes Go.WideShapes Go.ChangeAt Go.RowKit Go.Hl Go.Hg
theorem own_same {w w' : World} {base : Nat} {e : TypeId} {size : Nat} {v : Value} {n : Nat} {xs : List Value} (h : w.ownsRow base e size v n xs) (hw : w'.heap = w.heap) : w'.ownsRow base e size v n xs := by
  obtain ⟨h1, h2⟩ := h
  exact ⟨h1, by rw [hw]; exact h2⟩
theorem Below.drewN' {B : Nat} {a w : World} (h : Below B a w) (n : Nat) : Below B a (w.drewN n) := ⟨h.os, h.tape, h.output, h.size, h.block⟩
/-- The cells of fields. -/
def fcells : List (List UInt8 × List UInt8) → List Value
  | [] => []
  | f :: l => .string ⟨f.1.toArray⟩ :: .string ⟨f.2.toArray⟩ :: fcells l
theorem fcells_len : ∀ l, (fcells l).length = l.length * 2
  | [] => rfl
  | f :: l => by simp [fcells, fcells_len l]; omega
theorem fcells_snoc (f : List UInt8 × List UInt8) : ∀ l, fcells (l ++ [f]) = fcells l ++ [.string ⟨f.1.toArray⟩, .string ⟨f.2.toArray⟩]
  | [] => rfl
  | g :: l => by simp [fcells, fcells_snoc f l]
/-- What the program's cut of a line comes to. -/
theorem cutF_no {s : ByteArray} (h : (Lib.cut s.data.toList [58]).2.2 = false) : fieldF s.data.toList = none := by
  rw [← cut_field]; unfold cutF; rw [h]; rfl
theorem cut_len (l : List UInt8) : (Lib.cut l [58]).1.length ≤ l.length ∧ (Lib.cut l [58]).2.1.length ≤ l.length := by
  rcases Hl.part (c := 58) l with h | ⟨a, r, rfl, h⟩
  · rw [cut_no h]; exact ⟨Nat.le_refl _, Nat.zero_le _⟩
  · rw [cut_at h]; simp; omega
theorem cutF_yes {s : ByteArray} (h : (Lib.cut s.data.toList [58]).2.2 = true) : fieldF s.data.toList = if tkn (Lib.cut s.data.toList [58]).1 && val (trim (Lib.cut s.data.toList [58]).2.1) then some ((Lib.cut s.data.toList [58]).1, trim (Lib.cut s.data.toList [58]).2.1) else none := by
  rw [← cut_field]; unfold cutF; rw [h, Bool.true_and]
theorem own_form {w : World} {base n : Nat} {v : Value} {xs : List Value} (h : w.ownsRow base 46 2 v n xs) : ∃ a c, v = .slice a n c := by
  rcases h.2 with ⟨rfl, h0⟩ | ⟨g, cap, cur, rfl, _⟩
  · have h1 := h.1
    have : n = 0 := by rw [h0] at h1; simp at h1; omega
    subst this; exact ⟨_, _, rfl⟩
  · exact ⟨_, _, rfl⟩
theorem info46 : (Tryd.prog.info? 46).map (fun i => (i.zero, i.size, i.bytes)) = some (some (.agg #[.string ByteArray.empty, .string ByteArray.empty]), 2, 32) := by kernel_rfl
theorem after_append {w w3 w4 : World} {B : Nat} {m t : ByteArray} {vf : Value} {row : Option Nat} (hX : XIs w B m t vf true) (h3 : Below (B + 1) w w3) (hg : w3.grownBy w4 row) (hb : B + 1 ≤ w3.heap.size) (hr : ∀ k, row = some k → B + 1 ≤ k) :
    Hid (Below (B + 1) w w4) ∧ Hid (XIs w4 B m t vf true) ∧ w4.cell? ⟨B, 2, none⟩ = some vf ∧ w4.frozen? ⟨B, 2, none⟩ = false := by
  have R1 := h3.grown hg hb hr
  have XA : XIs w4 B m t vf true := (R1.block B (by omega)).trans hX
  exact ⟨R1, XA, by rw [blk_cell XA]; rfl, by simp [World.frozen?, show w4.heap[B]? = _ from XA]⟩
theorem own_set_ne {w : World} {B i : Nat} {e : TypeId} {size : Nat} {v x : Value} {n : Nat} {xs : List Value} (h : w.ownsRow (B + 1) e size v n xs) : (w.setCell ⟨B, i, none⟩ x).ownsRow (B + 1) e size v n xs := by
  obtain ⟨h1, h2⟩ := h
  refine ⟨h1, ?_⟩
  rcases h2 with h2 | ⟨g, cap, cur, hv, hg, hh, r⟩
  · exact .inl h2
  · refine .inr ⟨g, cap, cur, hv, hg, ?_, r⟩
    have : (w.setCell ⟨B, i, none⟩ x).heap[g]? = w.heap[g]? := by
      show (w.heap.modify B _)[g]? = _
      rw [Array.getElem?_modify, if_neg (by omega)]
    rw [this]; exact hh
/-- What a field's line does to the reader. -/
def LineB (w : World) (B : Nat) (m t : ByteArray) (fs : List (List UInt8 × List UInt8)) (s : ByteArray) (e : Ending) (w' : World) : Prop :=
  Below B w w' ∧ (((fieldF s.data.toList = none ∨ 20 ≤ fs.length) ∧ e = .returned (.bool false)) ∨
    ∃ f vf, fieldF s.data.toList = some f ∧ fs.length < 20 ∧ e = .returned (.bool true) ∧ XIs w' B m t vf true ∧ w'.ownsRow (B + 1) 46 2 vf (fs.length + 1) (fcells (fs ++ [f])))
set_option maxRecDepth 8000 in
set_option maxHeartbeats 1600000 in
theorem line_b (s : ByteArray) (hs : s.size ≤ 5000) (B : Nat) (mx : Int) (m t : ByteArray) (vf : Value) (fs : List (List UInt8 × List UInt8)) (w : World) (hX : XIs w B m t vf true) (hO : w.ownsRow (B + 1) 46 2 vf fs.length (fcells fs)) (hm : w.cell? ⟨1, 0, none⟩ = some (.int .i64 mx)) (hB : 1 < B) :
    Calls Tryd.prog 27 #[.pointer (some ⟨B, 0, none⟩), .string s] w (LineB w B m t fs s) := by
  have hlt : B < w.heap.size := by
    unfold XIs at hX
    rcases Nat.lt_or_ge B w.heap.size with h | h
    · exact h
    · simp [Array.getElem?_eq_none h] at hX
  have c4 : w.cell? ⟨B, 4, none⟩ = some (.bool true) := by rw [blk_cell hX]; rfl
  have c2 : w.cell? ⟨B, 2, none⟩ = some vf := by rw [blk_cell hX]; rfl
  have f2 : w.frozen? ⟨B, 2, none⟩ = false := by simp [World.frozen?, show w.heap[B]? = _ from hX]
  have LC : Calls Tryd.prog 39 #[.string s, .string ⟨#[58]⟩] w fun e w' => e = .returned (.tuple #[.string ⟨(Lib.cut s.data.toList [58]).1.toArray⟩, .string ⟨(Lib.cut s.data.toList [58]).2.1.toArray⟩, .bool (Lib.cut s.data.toList [58]).2.2]) ∧ ∃ n, w' = w.drewN n := lib_Cut s ⟨#[58]⟩ mx w (by omega) hm
  obtain ⟨va, vc, rfl⟩ := own_form hO
  have HX := Lib.hid hX
  have HO := Lib.hid hO
  have fb : ∀ n, Below B w (w.drewN n) := fun n => ⟨rfl, rfl, rfl, Nat.le_refl _, fun _ _ => rfl⟩
  have FB := Lib.hid fb
  have hl := cut_len s.data.toList
  have hcn := @cutF_no s
  have hcy := @cutF_yes s
  have sl : s.data.toList.length = s.size := Array.length_toList
  clear hX hO fb
  generalize (Lib.cut s.data.toList [58]).1 = N at LC hl hcy
  generalize (Lib.cut s.data.toList [58]).2.1 = V at LC hl hcy
  generalize (Lib.cut s.data.toList [58]).2.2 = ok at LC hcn hcy
  have sN : (⟨N.toArray⟩ : ByteArray).size ≤ 5000 := by show N.toArray.size ≤ 5000; rw [List.size_toArray]; omega
  have sV : (⟨V.toArray⟩ : ByteArray).size ≤ 5000 := by show V.toArray.size ≤ 5000; rw [List.size_toArray]; omega
  have CT : ∀ y, Calls Tryd.prog 40 #[.string ⟨V.toArray⟩] y fun e w' => e = .returned (.string ⟨(trim V).toArray⟩) ∧ y = w' := fun y => trim_ ⟨V.toArray⟩ sV y
  have sT : (⟨(trim V).toArray⟩ : ByteArray).size ≤ 5000 := by show (trim V).toArray.size ≤ 5000; rw [List.size_toArray]; have := trim_len V; omega
  have TN : ∀ x, tkn N = x → ∀ y, Calls Tryd.prog 37 #[.string ⟨N.toArray⟩] y fun e w' => e = .returned (.bool x) ∧ y = w' := fun x hx y => hx ▸ token ⟨N.toArray⟩ sN y
  have TV : ∀ x, val (trim V) = x → ∀ y, Calls Tryd.prog 41 #[.string ⟨(trim V).toArray⟩] y fun e w' => e = .returned (.bool x) ∧ y = w' := fun x hx y => hx ▸ value ⟨(trim V).toArray⟩ sT y
  generalize trim V = T at CT TV hcy
  clear sN sV sT hl sl hm hs
  cases ok with
  | false =>
    have HF := Lib.hid (hcn rfl)
    have CN := TN _ rfl
    have CV := TV _ rfl
    clear hcn hcy TN TV
    go_enter Tryd.func27, Tryd.ntmps27
    go_wp2_with (first | (go_at_call 39; refine LC.mono ?_; rintro e w2 ⟨rfl, n, rfl⟩) | (go_at_call 40; with_reducible refine (CT _).mono ?_; rintro e w' ⟨rfl, rfl⟩) | (go_at_call 37; with_reducible refine (CN _).mono ?_; rintro e w' ⟨rfl, rfl⟩) | (go_at_call 41; with_reducible refine (CV _).mono ?_; rintro e w' ⟨rfl, rfl⟩) | fail)
    go_ret
    exact ⟨FB.out _, .inl ⟨.inl HF.out, rfl⟩⟩
  | true =>
    have hv := hcy rfl
    clear hcn hcy
    cases hn : tkn N with
    | false =>
      rw [hn] at hv
      have HF := Lib.hid hv
      have CN := TN false hn
      have CV := TV _ rfl
      clear hv hn TN TV
      go_enter Tryd.func27, Tryd.ntmps27
      go_wp2_with (first | (go_at_call 39; refine LC.mono ?_; rintro e w2 ⟨rfl, n, rfl⟩) | (go_at_call 40; with_reducible refine (CT _).mono ?_; rintro e w' ⟨rfl, rfl⟩) | (go_at_call 37; with_reducible refine (CN _).mono ?_; rintro e w' ⟨rfl, rfl⟩) | (go_at_call 41; with_reducible refine (CV _).mono ?_; rintro e w' ⟨rfl, rfl⟩) | fail)
      go_ret
      exact ⟨FB.out _, .inl ⟨.inl HF.out, rfl⟩⟩
    | true =>
      have CN := TN true hn
      cases hw : val T with
      | false =>
        rw [hn, hw] at hv
        have HF := Lib.hid hv
        have CV := TV false hw
        clear hv hn hw TN TV
        go_enter Tryd.func27, Tryd.ntmps27
        go_wp2_with (first | (go_at_call 39; refine LC.mono ?_; rintro e w2 ⟨rfl, n, rfl⟩) | (go_at_call 40; with_reducible refine (CT _).mono ?_; rintro e w' ⟨rfl, rfl⟩) | (go_at_call 37; with_reducible refine (CN _).mono ?_; rintro e w' ⟨rfl, rfl⟩) | (go_at_call 41; with_reducible refine (CV _).mono ?_; rintro e w' ⟨rfl, rfl⟩) | fail)
        go_ret
        exact ⟨FB.out _, .inl ⟨.inl HF.out, rfl⟩⟩
      | true =>
        rw [hn, hw] at hv
        have HF := Lib.hid hv
        have CV := TV true hw
        clear hv hn hw TN TV
        by_cases h20 : 20 ≤ fs.length
        · have H20 := Lib.hid h20
          have g20 : (20 : Int) ≤ (fs.length : Int) := by omega
          clear h20
          go_enter Tryd.func27, Tryd.ntmps27
          go_wp2_with (first | (go_at_call 39; refine LC.mono ?_; rintro e w2 ⟨rfl, n, rfl⟩) | (go_at_call 40; with_reducible refine (CT _).mono ?_; rintro e w' ⟨rfl, rfl⟩) | (go_at_call 37; with_reducible refine (CN _).mono ?_; rintro e w' ⟨rfl, rfl⟩) | (go_at_call 41; with_reducible refine (CV _).mono ?_; rintro e w' ⟨rfl, rfl⟩) | fail)
          go_ret
          exact ⟨FB.out _, .inl ⟨.inr H20.out, rfl⟩⟩
        · have H20 := Lib.hid h20
          obtain ⟨i0, hi, hz0, hz1, hz2⟩ := info_parts info46
          have g20 : (fs.length : Int) < 20 := by omega
          go_enter Tryd.func27, Tryd.ntmps27
          go_wp2_with (first | (go_at_call 39; refine LC.mono ?_; rintro e w2 ⟨rfl, n, rfl⟩) | (go_at_call 40; with_reducible refine (CT _).mono ?_; rintro e w' ⟨rfl, rfl⟩) | (go_at_call 37; with_reducible refine (CN _).mono ?_; rintro e w' ⟨rfl, rfl⟩) | (go_at_call 41; with_reducible refine (CV _).mono ?_; rintro e w' ⟨rfl, rfl⟩) | (at_builtin; refine wpList_append_own _ rfl _ _ 26 rfl (B + 1) 46 i0 _ 2 32 Tryd.underlying26 hi hz0 hz1 hz2 rfl (by decide) _ fs.length (fcells fs) rfl ((own_same HO.out (by rfl)).alloc _) ⟨_, 0, none⟩ 1 1 [.string ⟨N.toArray⟩, .string ⟨T.toArray⟩] rfl rfl (World.news_of_block (cs := #[.string ⟨N.toArray⟩, .string ⟨T.toArray⟩]) (t := 46) (fr := (0, 0)) (heap_alloc_new _ _)) (by simp [Value.oneCell']) (by unfold maxLen; omega) (by omega) (by simp; omega) ?_; intro v' w4 hown4 hgrow hnil; have AF := after_append (t := t) (m := m) HX.out (Below.alloc (B := B + 1) (Below.drewN' (Below.refl (B + 1) w) n) hlt (Obj.cells #[Value.string ⟨N.toArray⟩, Value.string ⟨T.toArray⟩] 46)) hgrow (by simp; omega) (fun r hr => ((own_same HO.out (by rfl)).lt r hr).1); obtain ⟨R1, XA, e2, e3⟩ := AF; obtain ⟨va', vc', rfl⟩ := own_form hown4; have OW := Lib.hid hown4; clear hown4 hgrow hnil) | fail)
          go_ret
          exact ⟨((R1.out.mono (Nat.le_succ B)).setCell (p := ⟨B, 2, none⟩) (Nat.le_refl _) _), .inr ⟨(N, T), _, HF.out, by have := H20.out; omega, rfl, blk_set (i := 2) XA.out _, by rw [fcells_snoc]; exact own_set_ne OW.out⟩⟩
end Go.Proofs.YtjcbohpemfmpiaaDoor.headLong
