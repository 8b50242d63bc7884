/- AnswerRead, walked. -/
import Derived.Test.YthjkpfnkahfdgaaDoorHp
namespace Go.Proofs.YthjkpfnkahfdgaaDoor.answerRead
set_option linter.unusedVariables false
set_option linter.unusedSimpArgs false
open Go.ChangeShapes Go.WideShapes Go.ChangeAt Go.RowKit Go.Hl Go.Hg Go.An
attribute [local go_sem ↓] Go.wp_at_zero Go.wp_at_succ
theorem below_keep {w w' : World} {p : Addr} {v : Value} (hB : Below w.heap.size w w') (h : w.cell? p = some v) : w'.cell? p = some v := (hB.cell (World.block_lt_of_cell? _ _ h)).trans h
theorem headK (n : Nat) (fs : List (List UInt8 × List UInt8)) : ∃ k, (headL n fs).length = k := ⟨_, rfl⟩
theorem ba_len {X : ByteArray} {l : List UInt8} (h : X.data.toList = l) : X = ⟨l.toArray⟩ := ba_of h
theorem bw_below {B : Nat} {w y : World} {s : ByteArray} (h : Below B w y) (hB : B ≤ y.heap.size) : Below B w (Lib.bytesWorld y 5 s) :=
  h.trans ⟨rfl, rfl, rfl, by rw [Lib.bytesWorld_size]; omega, fun k hk => Lib.bytesWorld_at_old y 5 s k (by omega)⟩
set_option maxRecDepth 100000 in
set_option maxHeartbeats 3200000 in
theorem walk00 (n : Nat) (h1 : 100 ≤ n) (h2 : n ≤ 999) (typ t : ByteArray) (ht0 : t.size = 0) (ht : t.size ≤ 100) (hv : val t.data.toList = true)
    (CT : ∀ y : World, Calls Tryd.prog 5 #[.string typ, .int .i64 100] y fun e w' => e = .returned (.string t) ∧ y = w')
    (len : Nat) (hl : len ≤ 1099511627776) (age : Int) (ha : age < 0) (ha2 : age ≤ 2199023255552) (hit : Bool)
    (b : Option Addr) (rn cap k : Nat) (hk : k ≤ 20) (CS : ∀ y : World, Calls Tryd.prog 9 #[.slice b rn cap, .int .i64 20] y fun e w' => e = .returned (.slice b k cap) ∧ y = w')
    (ys : List UInt8) (hys : ys.length = k) (w : World) (hY : ∀ a, b = some a → ∀ j, j < k → w.cell? (a.add j) = some (.int .u8 ((at0 ys j).toNat : Int))) (hbk : b = none → k = 0)
    (mx : Int) (hm : w.cell? ⟨0, 0, none⟩ = some (.int .i64 mx)) (h0 : 0 < w.heap.size)
    (hb : Calls Tryd.prog 4 #[] w fun e w' => e = .returned (.bool true) ∧ Below w.heap.size w w') :
    Calls Tryd.prog 3 #[.int .i64 (n : Int), .string typ, .int .i64 (len : Int), .int .i64 age, .bool hit, .slice b rn cap] w fun e w' => e = .returned (.bool true) ∧ Below w.heap.size w w' := by
  have CV : ∀ y : World, Calls Tryd.prog 6 #[.string t] y fun e w' => e = .returned (.bool true) ∧ y = w' := fun y => by
    have := rvalue t (by omega) y
    rw [hv] at this
    exact this
  have g1 : decide ((n : Int) < 100) = false := by simp; omega
  have g2 : decide ((999 : Int) < (n : Int)) = false := by simp; omega
  have g3 : decide ((len : Int) < 0) = false := by simp
  have g4 : decide ((1099511627776 : Int) < (len : Int)) = false := by simp; omega
  have g5 : decide ((2199023255552 : Int) < age) = false := by simp; omega
  have CH := fun y : World => head_ ht (lines_all n (by omega) t ht len (by omega) age (by omega) hit y)
  have KC := fun (y : World) (s : ByteArray) => Lib.run_convert_string_bytes (P := Tryd.prog) y 9 22 5 s Tryd.underlying9 Tryd.underlying22 Tryd.underlying5
  obtain ⟨fs, hfs⟩ : ∃ fs, fieldsL t.data.toList len (ageO age) hit = fs := ⟨_, rfl⟩
  have hag : ageO age = none := by unfold ageO; rw [if_pos ha]
  have hct : cnt t.data.toList (ageO age) = 2 := by rw [hag]; unfold cnt; simp [typ_eq ht0]
  have hfl : fs.length = 2 := by rw [← hfs, fs_cnt, hct]
  have hfo : ∀ p ∈ fs, FieldOK p := by rw [← hfs]; exact fieldsL_ok hv (by omega) (fun a h => by rw [hag] at h; cases h)
  have hfz : ∀ p ∈ fs, p.1.length ≤ 200 ∧ p.2.length ≤ 200 := by rw [← hfs]; exact fs_short (by rw [sz_list]; exact ht)
  have hjl : (join (line0 n) (fs.map fline)).length ≤ 300 := by rw [← hfs]; exact lines_len (by rw [sz_list]; exact ht)
  have VAL := fun (B0 : Nat) (y : World) (vf : Value) (ho : y.ownsRow B0 44 2 vf 2 (fcells fs)) => values_ (typ := t.data.toList) (by rw [sz_list]; exact ht) len (ageO age) hit (B0 := B0) (y := y) (vf := vf) (by rw [hct, hfs]; exact ho)
  rw [hct] at VAL
  rw [hfs] at CH
  have TN : t.toList.isEmpty = true := by rw [typ_eq ht0, ByteArray.toList_eq]; rfl
  obtain ⟨D, dz, eD, sD, bD, CD⟩ := dec_box len (by omega)
  have eD' := ba_of eD
  obtain ⟨E, zE, CE, RE⟩ := error_x n h1 h2
  go_enter Tryd.func3, Tryd.ntmps3
  go_wp2_with (first
    | (go_at_call 4; with_reducible refine hb.mono ?_; rintro e w1 ⟨rfl, hB1⟩)
    | (go_at_call 5; with_reducible refine (CT _).mono ?_; rintro e w2 ⟨rfl, rfl⟩)
    | (go_at_call 6; with_reducible refine (CV _).mono ?_; rintro e w2 ⟨rfl, rfl⟩)
    | (go_at_call 7; with_reducible refine (CH _).mono ?_; rintro e w2 ⟨X, hX, rfl, hB2⟩; have hXz : X.size ≤ 304 := (by rw [← sz_list X, hX]; unfold headL; rw [List.length_append]; have : ([13, 10, 13, 10] : List UInt8).length = 4 := rfl; omega); have HB2 := hB1.trans (hB2.mono hB1.size); have AX := app_x w w2 HB2 X (by omega) b k cap (by omega) ys hys hY hbk; have BX := Lib.hid (bw_below (s := X) HB2 HB2.size); clear CH hB1 hB2 HB2)
    | (go_at_call 9; with_reducible refine (CS _).mono ?_; rintro e w2 ⟨rfl, rfl⟩)
    | (at_builtin; refine wpList_appB rfl _ _ rfl rfl w.heap.size _ _ _ _ _ _ X.data.toList ys rfl rfl AX ?_; intro g3 c3 w3 hH3 hB3 hg3; have B3 := Lib.hid (BX.out.trans hB3); have RX := read_x (c := c3) h1 h2 hfo hfz (by omega) (by omega) (by omega) hX hys hk (((B3.out.cell (p := ⟨0, 0, none⟩) h0)).trans hm) (by have := B3.out.size; omega) hH3; rw [hfl] at RX; clear AX hB3 hH3 hX)
    | (go_at_call 8; with_reducible refine RX.mono ?_; rintro e w4 ⟨vf, rfl, ho4, hB4⟩; have B4 := Lib.hid (B3.out.trans (hB4.mono B3.out.size)); obtain ⟨⟨g4, c4, rfl⟩, CL⟩ := VAL _ _ _ ho4; unfold clen at CL; clear RX hB4 ho4 VAL)
    | (go_at_call 10; with_reducible refine CL.mono ?_; rintro e w5 ⟨g5, c5, rfl, hc5, hB5⟩; have B5 := Lib.hid (B4.out.trans (hB5.mono B4.out.size)); rw [← eD'] at hc5; have hg5 := World.block_lt_of_cell? _ _ hc5; clear CL hB5)
    | fail)
  clear CT CV CS hY hbk hb hag hct hfl hfo hfz hjl TN hfs hv hys
  go_region_held3 (fun w' => w'.cell? ⟨g5, 0, none⟩ = some (.string D)) (first | go_keep | assumption) (first | (go_at_call 11; with_reducible refine (CD _).mono ?_; rintro e w6 ⟨rfl, hB6⟩; have hc6 : w6.cell? ⟨g5, 0, none⟩ = some (.string D) := below_keep hB6 (by first | assumption | exact hc5)) | fail)
  have hd5 : (w5.drew).heap.size = w5.heap.size := rfl
  have B6 := Lib.hid ((drewB B5.out 1).trans (hB6.mono (by show w.heap.size ≤ w5.heap.size; have := B5.out.size; omega)))
  clear hB6 hd5 B4 B3 BX hg3 hc5 hg5 CD eD eD'
  go_wp2_with (first
    | (go_at_call 12; with_reducible refine (CE _).mono ?_; rintro e w7 ⟨rfl, hB7⟩; have B7 := Lib.hid (B6.out.trans (hB7.mono B6.out.size)); have R7 := RE mx w7 (by have := B7.out.size; omega) ((B7.out.cell (p := ⟨0, 0, none⟩) h0).trans hm); clear hB7)
    | (go_at_call 8; with_reducible refine R7.mono ?_; rintro e w8 ⟨vf, rfl, hB8⟩; have B8 := Lib.hid ((bw_below (s := E) B7.out B7.out.size).trans (hB8.mono (by have := B7.out.size; omega))); clear R7 hB8 RE)
    | (go_at_call 12; with_reducible refine (CE _).mono ?_; rintro e w9 ⟨rfl, hB9⟩; have B9 := Lib.hid (B8.out.trans (hB9.mono B8.out.size)); clear hB9)
    | fail)
  go_ret
  exact ⟨rfl, B9.out⟩
set_option maxRecDepth 100000 in
set_option maxHeartbeats 3200000 in
theorem walk01 (n : Nat) (h1 : 100 ≤ n) (h2 : n ≤ 999) (typ t : ByteArray) (ht0 : t.size = 0) (ht : t.size ≤ 100) (hv : val t.data.toList = true)
    (CT : ∀ y : World, Calls Tryd.prog 5 #[.string typ, .int .i64 100] y fun e w' => e = .returned (.string t) ∧ y = w')
    (len : Nat) (hl : len ≤ 1099511627776) (age : Int) (ha : 0 ≤ age) (ha2 : age ≤ 2199023255552) (hit : Bool)
    (b : Option Addr) (rn cap k : Nat) (hk : k ≤ 20) (CS : ∀ y : World, Calls Tryd.prog 9 #[.slice b rn cap, .int .i64 20] y fun e w' => e = .returned (.slice b k cap) ∧ y = w')
    (ys : List UInt8) (hys : ys.length = k) (w : World) (hY : ∀ a, b = some a → ∀ j, j < k → w.cell? (a.add j) = some (.int .u8 ((at0 ys j).toNat : Int))) (hbk : b = none → k = 0)
    (mx : Int) (hm : w.cell? ⟨0, 0, none⟩ = some (.int .i64 mx)) (h0 : 0 < w.heap.size)
    (hb : Calls Tryd.prog 4 #[] w fun e w' => e = .returned (.bool true) ∧ Below w.heap.size w w') :
    Calls Tryd.prog 3 #[.int .i64 (n : Int), .string typ, .int .i64 (len : Int), .int .i64 age, .bool hit, .slice b rn cap] w fun e w' => e = .returned (.bool true) ∧ Below w.heap.size w w' := by
  have CV : ∀ y : World, Calls Tryd.prog 6 #[.string t] y fun e w' => e = .returned (.bool true) ∧ y = w' := fun y => by
    have := rvalue t (by omega) y
    rw [hv] at this
    exact this
  have g1 : decide ((n : Int) < 100) = false := by simp; omega
  have g2 : decide ((999 : Int) < (n : Int)) = false := by simp; omega
  have g3 : decide ((len : Int) < 0) = false := by simp
  have g4 : decide ((1099511627776 : Int) < (len : Int)) = false := by simp; omega
  have g5 : decide ((2199023255552 : Int) < age) = false := by simp; omega
  have CH := fun y : World => head_ ht (lines_all n (by omega) t ht len (by omega) age (by omega) hit y)
  have KC := fun (y : World) (s : ByteArray) => Lib.run_convert_string_bytes (P := Tryd.prog) y 9 22 5 s Tryd.underlying9 Tryd.underlying22 Tryd.underlying5
  obtain ⟨fs, hfs⟩ : ∃ fs, fieldsL t.data.toList len (ageO age) hit = fs := ⟨_, rfl⟩
  have hag : ageO age = some age.toNat := by unfold ageO; rw [if_neg (by omega)]
  have hct : cnt t.data.toList (ageO age) = 3 := by rw [hag]; unfold cnt; simp [typ_eq ht0]
  have hfl : fs.length = 3 := by rw [← hfs, fs_cnt, hct]
  have hfo : ∀ p ∈ fs, FieldOK p := by rw [← hfs]; exact fieldsL_ok hv (by omega) (fun a h => by rw [hag] at h; simp only [Option.some.injEq] at h; omega)
  have hfz : ∀ p ∈ fs, p.1.length ≤ 200 ∧ p.2.length ≤ 200 := by rw [← hfs]; exact fs_short (by rw [sz_list]; exact ht)
  have hjl : (join (line0 n) (fs.map fline)).length ≤ 300 := by rw [← hfs]; exact lines_len (by rw [sz_list]; exact ht)
  have VAL := fun (B0 : Nat) (y : World) (vf : Value) (ho : y.ownsRow B0 44 2 vf 3 (fcells fs)) => values_ (typ := t.data.toList) (by rw [sz_list]; exact ht) len (ageO age) hit (B0 := B0) (y := y) (vf := vf) (by rw [hct, hfs]; exact ho)
  rw [hct] at VAL
  rw [hfs] at CH
  have TN : t.toList.isEmpty = true := by rw [typ_eq ht0, ByteArray.toList_eq]; rfl
  obtain ⟨D, dz, eD, sD, bD, CD⟩ := dec_box len (by omega)
  have eD' := ba_of eD
  obtain ⟨E, zE, CE, RE⟩ := error_x n h1 h2
  go_enter Tryd.func3, Tryd.ntmps3
  go_wp2_with (first
    | (go_at_call 4; with_reducible refine hb.mono ?_; rintro e w1 ⟨rfl, hB1⟩)
    | (go_at_call 5; with_reducible refine (CT _).mono ?_; rintro e w2 ⟨rfl, rfl⟩)
    | (go_at_call 6; with_reducible refine (CV _).mono ?_; rintro e w2 ⟨rfl, rfl⟩)
    | (go_at_call 7; with_reducible refine (CH _).mono ?_; rintro e w2 ⟨X, hX, rfl, hB2⟩; have hXz : X.size ≤ 304 := (by rw [← sz_list X, hX]; unfold headL; rw [List.length_append]; have : ([13, 10, 13, 10] : List UInt8).length = 4 := rfl; omega); have HB2 := hB1.trans (hB2.mono hB1.size); have AX := app_x w w2 HB2 X (by omega) b k cap (by omega) ys hys hY hbk; have BX := Lib.hid (bw_below (s := X) HB2 HB2.size); clear CH hB1 hB2 HB2)
    | (go_at_call 9; with_reducible refine (CS _).mono ?_; rintro e w2 ⟨rfl, rfl⟩)
    | (at_builtin; refine wpList_appB rfl _ _ rfl rfl w.heap.size _ _ _ _ _ _ X.data.toList ys rfl rfl AX ?_; intro g3 c3 w3 hH3 hB3 hg3; have B3 := Lib.hid (BX.out.trans hB3); have RX := read_x (c := c3) h1 h2 hfo hfz (by omega) (by omega) (by omega) hX hys hk (((B3.out.cell (p := ⟨0, 0, none⟩) h0)).trans hm) (by have := B3.out.size; omega) hH3; rw [hfl] at RX; clear AX hB3 hH3 hX)
    | (go_at_call 8; with_reducible refine RX.mono ?_; rintro e w4 ⟨vf, rfl, ho4, hB4⟩; have B4 := Lib.hid (B3.out.trans (hB4.mono B3.out.size)); obtain ⟨⟨g4, c4, rfl⟩, CL⟩ := VAL _ _ _ ho4; unfold clen at CL; clear RX hB4 ho4 VAL)
    | (go_at_call 10; with_reducible refine CL.mono ?_; rintro e w5 ⟨g5, c5, rfl, hc5, hB5⟩; have B5 := Lib.hid (B4.out.trans (hB5.mono B4.out.size)); rw [← eD'] at hc5; have hg5 := World.block_lt_of_cell? _ _ hc5; clear CL hB5)
    | fail)
  clear CT CV CS hY hbk hb hag hct hfl hfo hfz hjl TN hfs hv hys
  go_region_held3 (fun w' => w'.cell? ⟨g5, 0, none⟩ = some (.string D)) (first | go_keep | assumption) (first | (go_at_call 11; with_reducible refine (CD _).mono ?_; rintro e w6 ⟨rfl, hB6⟩; have hc6 : w6.cell? ⟨g5, 0, none⟩ = some (.string D) := below_keep hB6 (by first | assumption | exact hc5)) | fail)
  have hd5 : (w5.drew).heap.size = w5.heap.size := rfl
  have B6 := Lib.hid ((drewB B5.out 1).trans (hB6.mono (by show w.heap.size ≤ w5.heap.size; have := B5.out.size; omega)))
  clear hB6 hd5 B4 B3 BX hg3 hc5 hg5 CD eD eD'
  go_wp2_with (first
    | (go_at_call 12; with_reducible refine (CE _).mono ?_; rintro e w7 ⟨rfl, hB7⟩; have B7 := Lib.hid (B6.out.trans (hB7.mono B6.out.size)); have R7 := RE mx w7 (by have := B7.out.size; omega) ((B7.out.cell (p := ⟨0, 0, none⟩) h0).trans hm); clear hB7)
    | (go_at_call 8; with_reducible refine R7.mono ?_; rintro e w8 ⟨vf, rfl, hB8⟩; have B8 := Lib.hid ((bw_below (s := E) B7.out B7.out.size).trans (hB8.mono (by have := B7.out.size; omega))); clear R7 hB8 RE)
    | (go_at_call 12; with_reducible refine (CE _).mono ?_; rintro e w9 ⟨rfl, hB9⟩; have B9 := Lib.hid (B8.out.trans (hB9.mono B8.out.size)); clear hB9)
    | fail)
  go_ret
  exact ⟨rfl, B9.out⟩
set_option maxRecDepth 100000 in
set_option maxHeartbeats 3200000 in
theorem walk10 (n : Nat) (h1 : 100 ≤ n) (h2 : n ≤ 999) (typ t : ByteArray) (ht0 : 0 < t.size) (ht : t.size ≤ 100) (hv : val t.data.toList = true)
    (CT : ∀ y : World, Calls Tryd.prog 5 #[.string typ, .int .i64 100] y fun e w' => e = .returned (.string t) ∧ y = w')
    (len : Nat) (hl : len ≤ 1099511627776) (age : Int) (ha : age < 0) (ha2 : age ≤ 2199023255552) (hit : Bool)
    (b : Option Addr) (rn cap k : Nat) (hk : k ≤ 20) (CS : ∀ y : World, Calls Tryd.prog 9 #[.slice b rn cap, .int .i64 20] y fun e w' => e = .returned (.slice b k cap) ∧ y = w')
    (ys : List UInt8) (hys : ys.length = k) (w : World) (hY : ∀ a, b = some a → ∀ j, j < k → w.cell? (a.add j) = some (.int .u8 ((at0 ys j).toNat : Int))) (hbk : b = none → k = 0)
    (mx : Int) (hm : w.cell? ⟨0, 0, none⟩ = some (.int .i64 mx)) (h0 : 0 < w.heap.size)
    (hb : Calls Tryd.prog 4 #[] w fun e w' => e = .returned (.bool true) ∧ Below w.heap.size w w') :
    Calls Tryd.prog 3 #[.int .i64 (n : Int), .string typ, .int .i64 (len : Int), .int .i64 age, .bool hit, .slice b rn cap] w fun e w' => e = .returned (.bool true) ∧ Below w.heap.size w w' := by
  have CV : ∀ y : World, Calls Tryd.prog 6 #[.string t] y fun e w' => e = .returned (.bool true) ∧ y = w' := fun y => by
    have := rvalue t (by omega) y
    rw [hv] at this
    exact this
  have g1 : decide ((n : Int) < 100) = false := by simp; omega
  have g2 : decide ((999 : Int) < (n : Int)) = false := by simp; omega
  have g3 : decide ((len : Int) < 0) = false := by simp
  have g4 : decide ((1099511627776 : Int) < (len : Int)) = false := by simp; omega
  have g5 : decide ((2199023255552 : Int) < age) = false := by simp; omega
  have CH := fun y : World => head_ ht (lines_all n (by omega) t ht len (by omega) age (by omega) hit y)
  have KC := fun (y : World) (s : ByteArray) => Lib.run_convert_string_bytes (P := Tryd.prog) y 9 22 5 s Tryd.underlying9 Tryd.underlying22 Tryd.underlying5
  obtain ⟨fs, hfs⟩ : ∃ fs, fieldsL t.data.toList len (ageO age) hit = fs := ⟨_, rfl⟩
  have hag : ageO age = none := by unfold ageO; rw [if_pos ha]
  have hct : cnt t.data.toList (ageO age) = 3 := by rw [hag]; unfold cnt; simp [typ_ne ht0]
  have hfl : fs.length = 3 := by rw [← hfs, fs_cnt, hct]
  have hfo : ∀ p ∈ fs, FieldOK p := by rw [← hfs]; exact fieldsL_ok hv (by omega) (fun a h => by rw [hag] at h; cases h)
  have hfz : ∀ p ∈ fs, p.1.length ≤ 200 ∧ p.2.length ≤ 200 := by rw [← hfs]; exact fs_short (by rw [sz_list]; exact ht)
  have hjl : (join (line0 n) (fs.map fline)).length ≤ 300 := by rw [← hfs]; exact lines_len (by rw [sz_list]; exact ht)
  have VAL := fun (B0 : Nat) (y : World) (vf : Value) (ho : y.ownsRow B0 44 2 vf 3 (fcells fs)) => values_ (typ := t.data.toList) (by rw [sz_list]; exact ht) len (ageO age) hit (B0 := B0) (y := y) (vf := vf) (by rw [hct, hfs]; exact ho)
  rw [hct] at VAL
  rw [hfs] at CH
  have TN : t.toList.isEmpty = false := str_ne ht0
  obtain ⟨D, dz, eD, sD, bD, CD⟩ := dec_box len (by omega)
  have eD' := ba_of eD
  obtain ⟨E, zE, CE, RE⟩ := error_x n h1 h2
  go_enter Tryd.func3, Tryd.ntmps3
  go_wp2_with (first
    | (go_at_call 4; with_reducible refine hb.mono ?_; rintro e w1 ⟨rfl, hB1⟩)
    | (go_at_call 5; with_reducible refine (CT _).mono ?_; rintro e w2 ⟨rfl, rfl⟩)
    | (go_at_call 6; with_reducible refine (CV _).mono ?_; rintro e w2 ⟨rfl, rfl⟩)
    | (go_at_call 7; with_reducible refine (CH _).mono ?_; rintro e w2 ⟨X, hX, rfl, hB2⟩; have hXz : X.size ≤ 304 := (by rw [← sz_list X, hX]; unfold headL; rw [List.length_append]; have : ([13, 10, 13, 10] : List UInt8).length = 4 := rfl; omega); have HB2 := hB1.trans (hB2.mono hB1.size); have AX := app_x w w2 HB2 X (by omega) b k cap (by omega) ys hys hY hbk; have BX := Lib.hid (bw_below (s := X) HB2 HB2.size); clear CH hB1 hB2 HB2)
    | (go_at_call 9; with_reducible refine (CS _).mono ?_; rintro e w2 ⟨rfl, rfl⟩)
    | (at_builtin; refine wpList_appB rfl _ _ rfl rfl w.heap.size _ _ _ _ _ _ X.data.toList ys rfl rfl AX ?_; intro g3 c3 w3 hH3 hB3 hg3; have B3 := Lib.hid (BX.out.trans hB3); have RX := read_x (c := c3) h1 h2 hfo hfz (by omega) (by omega) (by omega) hX hys hk (((B3.out.cell (p := ⟨0, 0, none⟩) h0)).trans hm) (by have := B3.out.size; omega) hH3; rw [hfl] at RX; clear AX hB3 hH3 hX)
    | (go_at_call 8; with_reducible refine RX.mono ?_; rintro e w4 ⟨vf, rfl, ho4, hB4⟩; have B4 := Lib.hid (B3.out.trans (hB4.mono B3.out.size)); obtain ⟨⟨g4, c4, rfl⟩, CL⟩ := VAL _ _ _ ho4; unfold clen at CL; clear RX hB4 ho4 VAL)
    | (go_at_call 10; with_reducible refine CL.mono ?_; rintro e w5 ⟨g5, c5, rfl, hc5, hB5⟩; have B5 := Lib.hid (B4.out.trans (hB5.mono B4.out.size)); rw [← eD'] at hc5; have hg5 := World.block_lt_of_cell? _ _ hc5; clear CL hB5)
    | fail)
  clear CT CV CS hY hbk hb hag hct hfl hfo hfz hjl TN hfs hv hys
  go_region_held3 (fun w' => w'.cell? ⟨g5, 0, none⟩ = some (.string D)) (first | go_keep | assumption) (first | (go_at_call 11; with_reducible refine (CD _).mono ?_; rintro e w6 ⟨rfl, hB6⟩; have hc6 : w6.cell? ⟨g5, 0, none⟩ = some (.string D) := below_keep hB6 (by first | assumption | exact hc5)) | fail)
  have hd5 : (w5.drew).heap.size = w5.heap.size := rfl
  have B6 := Lib.hid ((drewB B5.out 1).trans (hB6.mono (by show w.heap.size ≤ w5.heap.size; have := B5.out.size; omega)))
  clear hB6 hd5 B4 B3 BX hg3 hc5 hg5 CD eD eD'
  go_wp2_with (first
    | (go_at_call 12; with_reducible refine (CE _).mono ?_; rintro e w7 ⟨rfl, hB7⟩; have B7 := Lib.hid (B6.out.trans (hB7.mono B6.out.size)); have R7 := RE mx w7 (by have := B7.out.size; omega) ((B7.out.cell (p := ⟨0, 0, none⟩) h0).trans hm); clear hB7)
    | (go_at_call 8; with_reducible refine R7.mono ?_; rintro e w8 ⟨vf, rfl, hB8⟩; have B8 := Lib.hid ((bw_below (s := E) B7.out B7.out.size).trans (hB8.mono (by have := B7.out.size; omega))); clear R7 hB8 RE)
    | (go_at_call 12; with_reducible refine (CE _).mono ?_; rintro e w9 ⟨rfl, hB9⟩; have B9 := Lib.hid (B8.out.trans (hB9.mono B8.out.size)); clear hB9)
    | fail)
  go_ret
  exact ⟨rfl, B9.out⟩
set_option maxRecDepth 100000 in
set_option maxHeartbeats 3200000 in
theorem walk11 (n : Nat) (h1 : 100 ≤ n) (h2 : n ≤ 999) (typ t : ByteArray) (ht0 : 0 < t.size) (ht : t.size ≤ 100) (hv : val t.data.toList = true)
    (CT : ∀ y : World, Calls Tryd.prog 5 #[.string typ, .int .i64 100] y fun e w' => e = .returned (.string t) ∧ y = w')
    (len : Nat) (hl : len ≤ 1099511627776) (age : Int) (ha : 0 ≤ age) (ha2 : age ≤ 2199023255552) (hit : Bool)
    (b : Option Addr) (rn cap k : Nat) (hk : k ≤ 20) (CS : ∀ y : World, Calls Tryd.prog 9 #[.slice b rn cap, .int .i64 20] y fun e w' => e = .returned (.slice b k cap) ∧ y = w')
    (ys : List UInt8) (hys : ys.length = k) (w : World) (hY : ∀ a, b = some a → ∀ j, j < k → w.cell? (a.add j) = some (.int .u8 ((at0 ys j).toNat : Int))) (hbk : b = none → k = 0)
    (mx : Int) (hm : w.cell? ⟨0, 0, none⟩ = some (.int .i64 mx)) (h0 : 0 < w.heap.size)
    (hb : Calls Tryd.prog 4 #[] w fun e w' => e = .returned (.bool true) ∧ Below w.heap.size w w') :
    Calls Tryd.prog 3 #[.int .i64 (n : Int), .string typ, .int .i64 (len : Int), .int .i64 age, .bool hit, .slice b rn cap] w fun e w' => e = .returned (.bool true) ∧ Below w.heap.size w w' := by
  have CV : ∀ y : World, Calls Tryd.prog 6 #[.string t] y fun e w' => e = .returned (.bool true) ∧ y = w' := fun y => by
    have := rvalue t (by omega) y
    rw [hv] at this
    exact this
  have g1 : decide ((n : Int) < 100) = false := by simp; omega
  have g2 : decide ((999 : Int) < (n : Int)) = false := by simp; omega
  have g3 : decide ((len : Int) < 0) = false := by simp
  have g4 : decide ((1099511627776 : Int) < (len : Int)) = false := by simp; omega
  have g5 : decide ((2199023255552 : Int) < age) = false := by simp; omega
  have CH := fun y : World => head_ ht (lines_all n (by omega) t ht len (by omega) age (by omega) hit y)
  have KC := fun (y : World) (s : ByteArray) => Lib.run_convert_string_bytes (P := Tryd.prog) y 9 22 5 s Tryd.underlying9 Tryd.underlying22 Tryd.underlying5
  obtain ⟨fs, hfs⟩ : ∃ fs, fieldsL t.data.toList len (ageO age) hit = fs := ⟨_, rfl⟩
  have hag : ageO age = some age.toNat := by unfold ageO; rw [if_neg (by omega)]
  have hct : cnt t.data.toList (ageO age) = 4 := by rw [hag]; unfold cnt; simp [typ_ne ht0]
  have hfl : fs.length = 4 := by rw [← hfs, fs_cnt, hct]
  have hfo : ∀ p ∈ fs, FieldOK p := by rw [← hfs]; exact fieldsL_ok hv (by omega) (fun a h => by rw [hag] at h; simp only [Option.some.injEq] at h; omega)
  have hfz : ∀ p ∈ fs, p.1.length ≤ 200 ∧ p.2.length ≤ 200 := by rw [← hfs]; exact fs_short (by rw [sz_list]; exact ht)
  have hjl : (join (line0 n) (fs.map fline)).length ≤ 300 := by rw [← hfs]; exact lines_len (by rw [sz_list]; exact ht)
  have VAL := fun (B0 : Nat) (y : World) (vf : Value) (ho : y.ownsRow B0 44 2 vf 4 (fcells fs)) => values_ (typ := t.data.toList) (by rw [sz_list]; exact ht) len (ageO age) hit (B0 := B0) (y := y) (vf := vf) (by rw [hct, hfs]; exact ho)
  rw [hct] at VAL
  rw [hfs] at CH
  have TN : t.toList.isEmpty = false := str_ne ht0
  obtain ⟨D, dz, eD, sD, bD, CD⟩ := dec_box len (by omega)
  have eD' := ba_of eD
  obtain ⟨E, zE, CE, RE⟩ := error_x n h1 h2
  go_enter Tryd.func3, Tryd.ntmps3
  go_wp2_with (first
    | (go_at_call 4; with_reducible refine hb.mono ?_; rintro e w1 ⟨rfl, hB1⟩)
    | (go_at_call 5; with_reducible refine (CT _).mono ?_; rintro e w2 ⟨rfl, rfl⟩)
    | (go_at_call 6; with_reducible refine (CV _).mono ?_; rintro e w2 ⟨rfl, rfl⟩)
    | (go_at_call 7; with_reducible refine (CH _).mono ?_; rintro e w2 ⟨X, hX, rfl, hB2⟩; have hXz : X.size ≤ 304 := (by rw [← sz_list X, hX]; unfold headL; rw [List.length_append]; have : ([13, 10, 13, 10] : List UInt8).length = 4 := rfl; omega); have HB2 := hB1.trans (hB2.mono hB1.size); have AX := app_x w w2 HB2 X (by omega) b k cap (by omega) ys hys hY hbk; have BX := Lib.hid (bw_below (s := X) HB2 HB2.size); clear CH hB1 hB2 HB2)
    | (go_at_call 9; with_reducible refine (CS _).mono ?_; rintro e w2 ⟨rfl, rfl⟩)
    | (at_builtin; refine wpList_appB rfl _ _ rfl rfl w.heap.size _ _ _ _ _ _ X.data.toList ys rfl rfl AX ?_; intro g3 c3 w3 hH3 hB3 hg3; have B3 := Lib.hid (BX.out.trans hB3); have RX := read_x (c := c3) h1 h2 hfo hfz (by omega) (by omega) (by omega) hX hys hk (((B3.out.cell (p := ⟨0, 0, none⟩) h0)).trans hm) (by have := B3.out.size; omega) hH3; rw [hfl] at RX; clear AX hB3 hH3 hX)
    | (go_at_call 8; with_reducible refine RX.mono ?_; rintro e w4 ⟨vf, rfl, ho4, hB4⟩; have B4 := Lib.hid (B3.out.trans (hB4.mono B3.out.size)); obtain ⟨⟨g4, c4, rfl⟩, CL⟩ := VAL _ _ _ ho4; unfold clen at CL; clear RX hB4 ho4 VAL)
    | (go_at_call 10; with_reducible refine CL.mono ?_; rintro e w5 ⟨g5, c5, rfl, hc5, hB5⟩; have B5 := Lib.hid (B4.out.trans (hB5.mono B4.out.size)); rw [← eD'] at hc5; have hg5 := World.block_lt_of_cell? _ _ hc5; clear CL hB5)
    | fail)
  clear CT CV CS hY hbk hb hag hct hfl hfo hfz hjl TN hfs hv hys
  go_region_held3 (fun w' => w'.cell? ⟨g5, 0, none⟩ = some (.string D)) (first | go_keep | assumption) (first | (go_at_call 11; with_reducible refine (CD _).mono ?_; rintro e w6 ⟨rfl, hB6⟩; have hc6 : w6.cell? ⟨g5, 0, none⟩ = some (.string D) := below_keep hB6 (by first | assumption | exact hc5)) | fail)
  have hd5 : (w5.drew).heap.size = w5.heap.size := rfl
  have B6 := Lib.hid ((drewB B5.out 1).trans (hB6.mono (by show w.heap.size ≤ w5.heap.size; have := B5.out.size; omega)))
  clear hB6 hd5 B4 B3 BX hg3 hc5 hg5 CD eD eD'
  go_wp2_with (first
    | (go_at_call 12; with_reducible refine (CE _).mono ?_; rintro e w7 ⟨rfl, hB7⟩; have B7 := Lib.hid (B6.out.trans (hB7.mono B6.out.size)); have R7 := RE mx w7 (by have := B7.out.size; omega) ((B7.out.cell (p := ⟨0, 0, none⟩) h0).trans hm); clear hB7)
    | (go_at_call 8; with_reducible refine R7.mono ?_; rintro e w8 ⟨vf, rfl, hB8⟩; have B8 := Lib.hid ((bw_below (s := E) B7.out B7.out.size).trans (hB8.mono (by have := B7.out.size; omega))); clear R7 hB8 RE)
    | (go_at_call 12; with_reducible refine (CE _).mono ?_; rintro e w9 ⟨rfl, hB9⟩; have B9 := Lib.hid (B8.out.trans (hB9.mono B8.out.size)); clear hB9)
    | fail)
  go_ret
  exact ⟨rfl, B9.out⟩
end Go.Proofs.YthjkpfnkahfdgaaDoor.answerRead
