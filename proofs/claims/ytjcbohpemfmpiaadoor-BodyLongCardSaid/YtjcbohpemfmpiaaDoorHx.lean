/- Chunks written by the program, walked. -/
import Derived.Test.YtjcbohpemfmpiaaDoorHv
import Derived.Test.YtjcbohpemfmpiaaDoorHw
import Derived.Lib.ConvBytes
import Derived.Deep.AppendLies
import Derived.Deep.RegionHeld3
namespace Go.Proofs.YtjcbohpemfmpiaaDoor.bodyLong
set_option linter.unusedVariables false
set_option linter.unusedSimpArgs false
open Go.ChangeShapes Go.WideShapes Go.ChangeAt Go.RowKit Go.Hl Go.Hg headLong
attribute [local go_sem ↓] Go.wp_at_zero Go.wp_at_succ
theorem info3 : (Tryd.prog.info? 3).map (fun i => (i.zero, i.size, i.bytes)) = some (some (.int .i64 0), 1, 8) := by kernel_rfl
/-- A number's text by sixteen. -/
def hexT (n : Nat) : ByteArray := ⟨((hexD n).map hx).toArray⟩
theorem one_cell {w : World} {sb : Nat} {x : Value} (h : w.cell? ⟨sb, 0, none⟩ = some x) (j : Nat) (u : Value) (hu : [x][j]? = some u) : w.cell? ((⟨sb, 0, none⟩ : Addr).add j) = some u := by
  cases j with
  | zero => simp at hu; subst hu; simpa [Addr.add] using h
  | succ j => simp at hu
/-- What FormatInt by 16 says. -/
def FmtOK (W : World) : Prop := ∀ (n : Nat) (y : World), n ≤ 4100 → Below W.heap.size W y → Calls Tryd.prog 23 #[.int .i64 (n : Int), .int .i64 16] y fun e w' => e = .returned (.string (hexT n)) ∧ Below y.heap.size y w'
theorem sz_list (S : ByteArray) : S.data.toList.length = S.size := Array.length_toList
theorem hexT_size (n : Nat) : (hexT n).size ≤ 8 := by
  show ((hexD n).map hx).toArray.size ≤ 8
  rw [List.size_toArray, List.length_map]
  exact (hexD_len n).2
theorem ba_app2 (x y : ByteArray) : (x ++ y).data.toList = x.data.toList ++ y.data.toList := by simp [ByteArray.data_append]
theorem ba_ext (x : ByteArray) (i j : Nat) : (x.extract i j).data.toList = (x.data.toList.take j).drop i := by simp [ByteArray.data_extract, List.drop_take]
theorem out_list2 {S X1 T X2 : ByteArray} {a b : Nat} (hS : S.size = a + b) (hb0 : 1 ≤ b) (h1 : (({ data := #[] } : ByteArray) ++ (hexT a ++ { data := #[13, 10] } ++ S.extract 0 a ++ { data := #[13, 10] })) = X1) (h2 : S.extract a (a + b) = T)
    (h3 : X1 ++ (hexT b ++ { data := #[13, 10] } ++ T.extract 0 b ++ { data := #[13, 10] }) = X2) :
    (X2 ++ { data := #[48] } ++ { data := #[13, 10] } ++ { data := #[13, 10] } : ByteArray).data.toList = bytesOf (csOf a b S.data.toList) := by
  have l := sz_list S
  have e1 : S.data.toList.take (a + b) = S.data.toList := List.take_of_length_le (by omega)
  have e2 : (S.data.toList.drop a).take b = S.data.toList.drop a := List.take_of_length_le (by rw [List.length_drop]; omega)
  subst h1 h2 h3
  unfold csOf
  rw [if_neg (by omega)]
  simp only [ba_app2, ba_ext, e1, e2, List.drop_zero]
  simp [bytesOf, hexT]
theorem out_list1 {S X1 : ByteArray} {a : Nat} (hS : S.size = a) (h1 : (({ data := #[] } : ByteArray) ++ (hexT a ++ { data := #[13, 10] } ++ S.extract 0 a ++ { data := #[13, 10] })) = X1) :
    (X1 ++ { data := #[48] } ++ { data := #[13, 10] } ++ { data := #[13, 10] } : ByteArray).data.toList = bytesOf (csOf a 0 S.data.toList) := by
  have l := sz_list S
  subst h1
  unfold csOf
  rw [if_pos rfl]
  simp only [ba_app2, ba_ext, List.drop_zero]
  simp [bytesOf, hexT]
set_option maxRecDepth 100000 in
set_option maxHeartbeats 1600000 in
theorem out_ (S : ByteArray) (a b : Nat) (hS : S.size = a + b) (ha : 1 ≤ a) (ha2 : a ≤ 4100) (hb0 : 1 ≤ b) (hb2 : b ≤ 4100) (W w : World) (hW : Below W.heap.size W w) (sb : Nat) (hsb : sb < w.heap.size) (hcell : w.cell? ⟨sb, 0, none⟩ = some (.int .i64 (a : Int))) (LF : FmtOK W) :
    Calls Tryd.prog 14 #[.string S, .slice (some ⟨sb, 0, none⟩) 1 1] w fun e w' => ∃ (X : ByteArray) (y : World), X.data.toList = bytesOf (csOf a b S.data.toList) ∧ Below W.heap.size W y ∧ e = .returned (.slice (some ⟨y.heap.size, 0, none⟩) X.size (grownCap y X.size 0 5)) ∧ w' = Lib.bytesWorld y 5 X := by
  obtain ⟨i0, hi, hz0, hz1, hz2⟩ := info_parts info3
  have CV := fun (y : World) (s : ByteArray) => Lib.run_convert_string_bytes (P := Tryd.prog) y 9 23 5 s Tryd.underlying9 Tryd.underlying23 Tryd.underlying5
  have hws := hW.size
  have LA := fun (y : World) (h : Below W.heap.size W y) => LF a y ha2 h
  have LB := fun (y : World) (h : Below W.heap.size W y) => LF b y hb2 h
  have HS := Lib.hid hS
  clear LF
  go_enter Tryd.func14, Tryd.ntmps14
  go_wp2_with (first
    | (at_builtin; refine wpList_append_own _ rfl (.const (.slice none 0 0)) _ 38 rfl W.heap.size 3 i0 (.int .i64 0) 1 8 Tryd.underlying38 hi hz0 hz1 hz2 rfl (by decide) _ 0 [] rfl (World.ownsRow_nil _ _ _ _) ⟨sb, 0, none⟩ 1 1 [.int .i64 (a : Int)] rfl rfl (one_cell hcell) (by simp [Value.oneCell']) (by unfold maxLen; omega) (by omega) hws ?_; intro v1 w1 hown0 hgrow1 hnil1; have hown1 : w1.ownsRow W.heap.size 3 1 v1 1 [.int .i64 (a : Int)] := hown0; clear hown0 hnil1; obtain ⟨g0, cp0, rfl, hg0b, hg0l⟩ := hown1.form (by omega))
    | (at_builtin; refine wpList_append_own _ rfl _ _ 38 rfl W.heap.size 3 i0 (.int .i64 0) 1 8 Tryd.underlying38 hi hz0 hz1 hz2 rfl (by decide) _ 1 [.int .i64 (a : Int)] rfl (hown1.alloc _) ⟨_, 0, none⟩ 1 1 [.int .i64 ((a : Int) + (b : Int))] rfl rfl (World.news_of_block (cs := #[.int .i64 ((a : Int) + (b : Int))]) (t := 3) (fr := (0, 0)) (heap_alloc_new _ _)) (by simp [Value.oneCell']) (by unfold maxLen; omega) (by omega) (Nat.le_trans hws (Nat.le_trans hgrow1.size (by simp))) ?_; intro v2 w2 hown2 hgrow2 hnil2; obtain ⟨g, cp, rfl, hgb, hgl⟩ := hown2.form (by omega); clear hnil2)
    | fail)
  have c0 : w2.cell? ⟨g, 0, none⟩ = some (.int .i64 (a : Int)) := (hown2.cellAt 0 (by omega)).trans rfl
  have c1 : w2.cell? ⟨g, 1, none⟩ = some (.int .i64 ((a : Int) + (b : Int))) := (hown2.cellAt 1 (by omega)).trans rfl
  have HB1 : Below W.heap.size W w1 := hW.grown hgrow1 hws (fun r hr => by have hr : (none : Option Nat) = some r := hr; cases hr)
  have HB2 : Below W.heap.size W w2 := (HB1.alloc HB1.size _).grown hgrow2 (by have := HB1.size; simp; omega) (fun r hr => by have hr : some g0 = some r := hr; cases hr; exact hg0b)
  have hla := fun y h => LA y h
  clear hgrow1 hgrow2 hown1 hown2 hi hz0 hz1 hz2 hcell hsb hg0b hg0l HB1
  have e1 : (a : Int) ≤ (a : Int) + (b : Int) := by omega
  have e0 : (0 : Int) < (a : Int) := by omega
  refine wp_loop_rounds 4 ?_
  obtain ⟨fa, hfa⟩ : ∃ k, (hexT a).size = k := ⟨_, rfl⟩
  have hfa8 : fa ≤ 8 := by rw [← hfa]; exact hexT_size a
  obtain ⟨fb, hfb⟩ : ∃ k, (hexT b).size = k := ⟨_, rfl⟩
  have hfb8 : fb ≤ 8 := by rw [← hfb]; exact hexT_size b
  have em : min (a : Int) ((a : Int) + (b : Int)) = (a : Int) := by omega
  rw [rounds_succ]
  go_wp2_with fail
  have n1 : ¬ (9223372036854775807 < fa + 2) := by omega
  have n2 : ¬ (9223372036854775807 < fa + 2 + a) := by omega
  have n3 : ¬ (9223372036854775807 < fa + 2 + a + 2) := by omega
  go_region_held3 (fun _ => True) (trivial) ((go_at_call 23; with_reducible refine (LA _ (by first | exact HB2 | exact HB2.drew | exact HB2.drew.drew)).mono ?_; rintro e w3 ⟨rfl, hB3⟩))
  have HB3 : Below W.heap.size W w3 := HB2.drew.trans (hB3.mono HB2.size)
  have hgl3 : g < w3.heap.size := Nat.lt_of_lt_of_le hgl hB3.size
  have c3 := (hB3.cell (p := ⟨g, 1, none⟩) hgl).trans c1
  obtain ⟨X1, hX1⟩ : ∃ X : ByteArray, (({ data := #[] } : ByteArray) ++ (hexT a ++ { data := #[13, 10] } ++ S.extract 0 a ++ { data := #[13, 10] })) = X := ⟨_, rfl⟩
  rw [hX1]
  have hX1s : X1.size = fa + a + 4 := by
    rw [← hX1]; simp only [ByteArray.size_append, ByteArray.size_extract, hfa, hS]
    show 0 + (fa + 2 + (min a (a + b) - 0) + 2) = _; omega
  have HX1 := Lib.hid hX1
  clear hX1 c0 c1 hB3 HB2 hgl
  have em2 : min ((a : Int) + (b : Int)) (b : Int) = (b : Int) := by omega
  have e02 : (0 : Int) < (b : Int) := by omega
  go_wp2_with fail
  obtain ⟨T, hT⟩ : ∃ X : ByteArray, S.extract a (a + b) = X := ⟨_, rfl⟩
  rw [hT]
  have hTs : T.size = b := by rw [← hT, ByteArray.size_extract, hS]; omega
  have HT := Lib.hid hT
  clear hT
  rw [rounds_succ]
  go_wp2_with fail
  have n4 : ¬ (9223372036854775807 < fb + 2) := by omega
  have n5 : ¬ (9223372036854775807 < fb + 2 + b) := by omega
  have n6 : ¬ (9223372036854775807 < fb + 2 + b + 2) := by omega
  have n7 : ¬ (9223372036854775807 < fa + a + 4 + (fb + 2 + b + 2)) := by omega
  go_region_held3 (fun _ => True) (trivial) ((go_at_call 23; with_reducible refine (LB _ (by first | exact HB3 | exact HB3.drew | exact HB3.drew.drew)).mono ?_; rintro e w4 ⟨rfl, hB4⟩))
  have HB4 : Below W.heap.size W w4 := HB3.drew.trans (hB4.mono HB3.size)
  obtain ⟨X2, hX2⟩ : ∃ X : ByteArray, (X1 ++ (hexT b ++ { data := #[13, 10] } ++ T.extract 0 b ++ { data := #[13, 10] })) = X := ⟨_, rfl⟩
  rw [hX2]
  have hX2s : X2.size = fa + a + 4 + (fb + b + 4) := by
    rw [← hX2]; simp only [ByteArray.size_append, ByteArray.size_extract, hfb, hX1s, hTs]
    show fa + a + 4 + (fb + 2 + (min b b - 0) + 2) = _; omega
  have HX2 := Lib.hid hX2
  clear hX2 c3 hB4 HB3
  go_wp2_with fail
  rw [rounds_succ]
  go_wp2_with fail
  go_ret
  have e3 : (X2 ++ { data := #[48] } ++ { data := #[13, 10] } ++ { data := #[13, 10] } : ByteArray).size = fa + a + 4 + (fb + b + 4) + 1 + 2 + 2 := by
    simp only [ByteArray.size_append, hX2s]; rfl
  have e4 := out_list2 hS hb0 HX1.out HT.out HX2.out
  clear HX1 HT HX2 CV LA LB
  generalize (X2 ++ { data := #[48] } ++ { data := #[13, 10] } ++ { data := #[13, 10] } : ByteArray) = X at e3 e4
  rw [← e3]
  exact ⟨X, w4, e4, HB4, rfl, rfl⟩
set_option maxRecDepth 100000 in
set_option maxHeartbeats 1600000 in
theorem out0_ (S : ByteArray) (a : Nat) (hS : S.size = a) (ha : 1 ≤ a) (ha2 : a ≤ 4100) (W w : World) (hW : Below W.heap.size W w) (sb : Nat) (hsb : sb < w.heap.size) (hcell : w.cell? ⟨sb, 0, none⟩ = some (.int .i64 (a : Int))) (LF : FmtOK W) :
    Calls Tryd.prog 14 #[.string S, .slice (some ⟨sb, 0, none⟩) 1 1] w fun e w' => ∃ (X : ByteArray) (y : World), X.data.toList = bytesOf (csOf a 0 S.data.toList) ∧ Below W.heap.size W y ∧ e = .returned (.slice (some ⟨y.heap.size, 0, none⟩) X.size (grownCap y X.size 0 5)) ∧ w' = Lib.bytesWorld y 5 X := by
  obtain ⟨i0, hi, hz0, hz1, hz2⟩ := info_parts info3
  have CV := fun (y : World) (s : ByteArray) => Lib.run_convert_string_bytes (P := Tryd.prog) y 9 23 5 s Tryd.underlying9 Tryd.underlying23 Tryd.underlying5
  have hws := hW.size
  have LA := fun (y : World) (h : Below W.heap.size W y) => LF a y ha2 h
  have HS := Lib.hid hS
  clear LF
  go_enter Tryd.func14, Tryd.ntmps14
  go_wp2_with (first
    | (at_builtin; refine wpList_append_own _ rfl (.const (.slice none 0 0)) _ 38 rfl W.heap.size 3 i0 (.int .i64 0) 1 8 Tryd.underlying38 hi hz0 hz1 hz2 rfl (by decide) _ 0 [] rfl (World.ownsRow_nil _ _ _ _) ⟨sb, 0, none⟩ 1 1 [.int .i64 (a : Int)] rfl rfl (one_cell hcell) (by simp [Value.oneCell']) (by unfold maxLen; omega) (by omega) hws ?_; intro v1 w1 hown0 hgrow1 hnil1; have hown1 : w1.ownsRow W.heap.size 3 1 v1 1 [.int .i64 (a : Int)] := hown0; clear hown0 hnil1; obtain ⟨g0, cp0, rfl, hg0b, hg0l⟩ := hown1.form (by omega))
    | (at_builtin; refine wpList_append_own _ rfl _ _ 38 rfl W.heap.size 3 i0 (.int .i64 0) 1 8 Tryd.underlying38 hi hz0 hz1 hz2 rfl (by decide) _ 1 [.int .i64 (a : Int)] rfl (hown1.alloc _) ⟨_, 0, none⟩ 1 1 [.int .i64 (a : Int)] rfl rfl (World.news_of_block (cs := #[.int .i64 (a : Int)]) (t := 3) (fr := (0, 0)) (heap_alloc_new _ _)) (by simp [Value.oneCell']) (by unfold maxLen; omega) (by omega) (Nat.le_trans hws (Nat.le_trans hgrow1.size (by simp))) ?_; intro v2 w2 hown2 hgrow2 hnil2; obtain ⟨g, cp, rfl, hgb, hgl⟩ := hown2.form (by omega); clear hnil2)
    | fail)
  have c0 : w2.cell? ⟨g, 0, none⟩ = some (.int .i64 (a : Int)) := (hown2.cellAt 0 (by omega)).trans rfl
  have c1 : w2.cell? ⟨g, 1, none⟩ = some (.int .i64 (a : Int)) := (hown2.cellAt 1 (by omega)).trans rfl
  have HB1 : Below W.heap.size W w1 := hW.grown hgrow1 hws (fun r hr => by have hr : (none : Option Nat) = some r := hr; cases hr)
  have HB2 : Below W.heap.size W w2 := (HB1.alloc HB1.size _).grown hgrow2 (by have := HB1.size; simp; omega) (fun r hr => by have hr : some g0 = some r := hr; cases hr; exact hg0b)
  have hla := fun y h => LA y h
  clear hgrow1 hgrow2 hown1 hown2 hi hz0 hz1 hz2 hcell hsb hg0b hg0l HB1
  have e0 : (0 : Int) < (a : Int) := by omega
  refine wp_loop_rounds 4 ?_
  obtain ⟨fa, hfa⟩ : ∃ k, (hexT a).size = k := ⟨_, rfl⟩
  have hfa8 : fa ≤ 8 := by rw [← hfa]; exact hexT_size a
  have em : min (a : Int) (a : Int) = (a : Int) := by omega
  have em3 : min (a : Int) 0 = 0 := by omega
  rw [rounds_succ]
  go_wp2_with fail
  have n1 : ¬ (9223372036854775807 < fa + 2) := by omega
  have n2 : ¬ (9223372036854775807 < fa + 2 + a) := by omega
  have n3 : ¬ (9223372036854775807 < fa + 2 + a + 2) := by omega
  go_region_held3 (fun _ => True) (trivial) ((go_at_call 23; with_reducible refine (LA _ (by first | exact HB2 | exact HB2.drew | exact HB2.drew.drew)).mono ?_; rintro e w3 ⟨rfl, hB3⟩))
  have HB3 : Below W.heap.size W w3 := HB2.drew.trans (hB3.mono HB2.size)
  have hgl3 : g < w3.heap.size := Nat.lt_of_lt_of_le hgl hB3.size
  have c3 := (hB3.cell (p := ⟨g, 1, none⟩) hgl).trans c1
  obtain ⟨X1, hX1⟩ : ∃ X : ByteArray, (({ data := #[] } : ByteArray) ++ (hexT a ++ { data := #[13, 10] } ++ S.extract 0 a ++ { data := #[13, 10] })) = X := ⟨_, rfl⟩
  rw [hX1]
  have hX1s : X1.size = fa + a + 4 := by
    rw [← hX1]; simp only [ByteArray.size_append, ByteArray.size_extract, hfa, hS]
    show 0 + (fa + 2 + (min a a - 0) + 2) = _; omega
  have HX1 := Lib.hid hX1
  clear hX1 c0 c1 hB3 HB2 hgl
  go_wp2_with fail
  rw [rounds_succ]
  go_wp2_with fail
  rw [rounds_succ]
  go_wp2_with fail
  go_ret
  have e3 : (X1 ++ { data := #[48] } ++ { data := #[13, 10] } ++ { data := #[13, 10] } : ByteArray).size = fa + a + 4 + 1 + 2 + 2 := by
    simp only [ByteArray.size_append, hX1s]; rfl
  have e4 := out_list1 hS HX1.out
  clear HX1 CV LA
  generalize (X1 ++ { data := #[48] } ++ { data := #[13, 10] } ++ { data := #[13, 10] } : ByteArray) = X at e3 e4
  rw [← e3]
  exact ⟨X, w3, e4, HB3, rfl, rfl⟩
theorem FmtOK.below {W w : World} (h : FmtOK W) (hW : Below W.heap.size W w) : FmtOK w := fun n y hn hy => h n y hn (hW.trans (hy.mono hW.size))
/-- What body.Chunks gives. -/
def OutOK (S : ByteArray) (a b : Nat) (w : World) (e : Ending) (w' : World) : Prop := ∃ (X : ByteArray) (y : World), X.data.toList = bytesOf (csOf a b S.data.toList) ∧ Below w.heap.size w y ∧ e = .returned (.slice (some ⟨y.heap.size, 0, none⟩) X.size (grownCap y X.size 0 5)) ∧ w' = Lib.bytesWorld y 5 X
theorem outA (S : ByteArray) (a b : Nat) (hS : S.size = a + b) (ha : 1 ≤ a) (ha2 : a ≤ 4100) (hb2 : b ≤ 4100) (w : World) (sb : Nat) (hsb : sb < w.heap.size) (hcell : w.cell? ⟨sb, 0, none⟩ = some (.int .i64 (a : Int))) (LF : FmtOK w) :
    Calls Tryd.prog 14 #[.string S, .slice (some ⟨sb, 0, none⟩) 1 1] w (OutOK S a b w) := by
  by_cases h : b = 0
  · subst h
    exact out0_ S a hS ha ha2 w w (Below.refl _ w) sb hsb hcell LF
  · exact out_ S a b hS ha ha2 (by omega) hb2 w w (Below.refl _ w) sb hsb hcell LF
end Go.Proofs.YtjcbohpemfmpiaaDoor.bodyLong
