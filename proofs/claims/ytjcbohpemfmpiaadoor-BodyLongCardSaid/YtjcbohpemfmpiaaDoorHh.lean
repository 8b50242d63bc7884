/- A field's line, as the document reads it, walked. Printed by gen_field.py. -/
import Derived.Test.YtjcbohpemfmpiaaDoorHg
namespace Go.Proofs.YtjcbohpemfmpiaaDoor.headLong
set_option linter.unusedVariables false
set_option linter.unusedSimpArgs false
open Go.ChangeShapes Go.WideShapes Go.ChangeAt Go.RowKit Go.Hl Go.Hg
/-- What a field's line comes to. -/
def fieldV (l : List UInt8) : Value := match fieldF l with
  | none => .tuple #[.agg #[.string ⟨#[]⟩, .string ⟨#[]⟩], .bool false]
  | some (m, t) => .tuple #[.agg #[.string ⟨m.toArray⟩, .string ⟨t.toArray⟩], .bool true]
theorem fieldV_miss {s : ByteArray} (h : s.data.toList.all (neC 58) = true) : fieldV s.data.toList = .tuple #[.agg #[.string ⟨#[]⟩, .string ⟨#[]⟩], .bool false] := by
  unfold fieldV fieldF
  rw [(tw_no (no_of_all h)).2]
theorem fieldF_at {a r : List UInt8} (h : (58 : UInt8) ∉ a) : fieldF (a ++ 58 :: r) = if tkn a && val (trim r) then some (a, trim r) else none := by
  unfold fieldF
  rw [(tw_at h).1, (tw_at h).2]
theorem fieldV_at {s : ByteArray} {k : Nat} (hk : k < s.size) (h : (s.data.toList.take k).all (neC 58) = true) (hb : bt s k = 58) :
    fieldV s.data.toList = if tkn (s.extract 0 k).data.toList && val (trim (s.extract (k + 1) s.size).data.toList) then .tuple #[.agg #[.string (s.extract 0 k), .string ⟨(trim (s.extract (k + 1) s.size).data.toList).toArray⟩], .bool true] else .tuple #[.agg #[.string ⟨#[]⟩, .string ⟨#[]⟩], .bool false] := by
  unfold fieldV
  rw [parted hk hb, fieldF_at (ex_all h)]
  generalize trim (s.extract (k + 1) s.size).data.toList = v
  generalize s.extract 0 k = m
  cases tkn m.data.toList <;> cases val v <;> rfl
theorem trim_len (l : List UInt8) : (trim l).length ≤ l.length := by
  unfold trim trimR
  rw [List.length_reverse]
  have h1 := (List.dropWhile_sublist blkC (l := (l.dropWhile blkC).reverse)).length_le
  have h2 := (List.dropWhile_sublist blkC (l := l)).length_le
  rw [List.length_reverse] at h1
  omega
theorem fin_field {W : World} {t : Array Value} {B : Nat} {a b : ByteArray} {ok : Bool} {post : Ending → World → Prop} (c0 : W.cell? ⟨B, 0, none⟩ = some (.string a)) (c1 : W.cell? ⟨B, 1, none⟩ = some (.string b)) (h2 : t[2]? = some (.pointer (some ⟨B, 0, none⟩))) (h3 : t[3]? = some (.bool ok))
    (hp : post (.returned (.tuple #[.agg #[.string a, .string b], .bool ok])) W) : bodyPost Tryd.prog Tryd.f29 post Exit.ret { tmps := t, defers := [] } W := by
  refine bodyPost_ret (v := .tuple #[.agg #[.string a, .string b], .bool ok]) ?_ rfl hp
  simp [results, Tryd.results29, h2, h3, c0, c1, go_sem]
theorem two_set {X : World} {B : Nat} {t : TypeId} {fr : Nat × Nat} {x y a b : Value} (h : X.heap[B]? = some (.cells #[x, y] t fr)) : ((X.setCell ⟨B, 0, none⟩ a).setCell ⟨B, 1, none⟩ b).drew.heap[B]? = some (.cells #[a, b] t fr) := by
  have h1 := blk_set h (i := 0) a
  have h2 := blk_set h1 (i := 1) b
  exact h2
theorem fin_none {s : ByteArray} {w : World} {t : Array Value} (h : fieldV s.data.toList = .tuple #[.agg #[.string ⟨#[]⟩, .string ⟨#[]⟩], .bool false]) (h2 : t[2]? = some (.pointer (some ⟨w.heap.size, 0, none⟩)) := by rfl) (h3 : t[3]? = some (.bool false) := by rfl) :
    bodyPost Tryd.prog Tryd.f29 (fun e w' => e = Ending.returned (fieldV s.data.toList) ∧ Below w.heap.size w w') Exit.ret { tmps := t, defers := [] } (w.alloc (Obj.cells #[Value.string ⟨#[]⟩, Value.string ⟨#[]⟩] 46)) := by
  refine fin_field (B := w.heap.size) ?_ ?_ h2 h3 ⟨by rw [h], (Below.refl _ w).alloc (Nat.le_refl _) _⟩
  · rw [blk_cell (heap_alloc_new w _)]; rfl
  · rw [blk_cell (heap_alloc_new w _)]; rfl
set_option maxRecDepth 8000 in
set_option maxHeartbeats 1600000 in
theorem ref_field (s : ByteArray) (hs : s.size ≤ 5000) (w : World) : Calls Tryd.prog 29 #[.string s] w fun e w' => e = .returned (fieldV s.data.toList) ∧ Below w.heap.size w w' := by
  have ha := fun k (h : k < s.size) => byte_all (neC 58) h
  have HA := Lib.hid ha
  clear ha
  go_enter Tryd.func29, Tryd.ntmps29
  go_wp2_with fail
  go_loop [4] (fun i => ∃ k : Nat, k ≤ s.size ∧ i = .int .i64 k ∧ Hid ((s.data.toList.take k).all (neC 58) = true)) (fun i => s.size - (intOf i).toNat)
  case atStart => exact ⟨0, Nat.zero_le _, rfl, Lib.hid rfl⟩
  case round =>
    obtain ⟨k, hk, rfl, hR⟩ := hrel
    by_cases hlt : k < s.size
    · have e := bt_at hlt
      have E1 := Lib.hid e
      clear e
      by_cases hq : bt s k = 58
      · have hb : (((bt s k).toNat : Int) != 58) = false := by rw [hq]; rfl
        rw [← E1.out] at hb
        have HQ := Lib.hid hq
        clear hq
        have hne : ((k : Int) == (s.size : Int)) = false := by rw [beq_eq_false_iff_ne]; omega
        have hsz : (s.extract 0 k).size ≤ 5000 := by rw [ByteArray.size_extract]; omega
        have hsy : (s.extract (k + 1) s.size).size ≤ 5000 := by rw [ByteArray.size_extract]; omega
        have T1 : ∀ b, tkn (s.extract 0 k).data.toList = b → ∀ y, Calls Tryd.prog 42 #[.string (s.extract 0 k)] y fun e w' => e = .returned (.bool b) ∧ y = w' := fun b hb y => hb ▸ rtoken (s.extract 0 k) hsz y
        have T2 := fun y => rtrim_ (s.extract (k + 1) s.size) hsy y
        have hv := fieldV_at hlt hR.out HQ.out
        have hsv : (⟨(trim (s.extract (k + 1) s.size).data.toList).toArray⟩ : ByteArray).size ≤ 5000 := by
          show (trim (s.extract (k + 1) s.size).data.toList).toArray.size ≤ 5000
          rw [List.size_toArray]
          have := trim_len (s.extract (k + 1) s.size).data.toList
          have e : (s.extract (k + 1) s.size).data.toList.length = (s.extract (k + 1) s.size).size := Array.length_toList
          omega
        have T3 : ∀ b, val (trim (s.extract (k + 1) s.size).data.toList) = b → ∀ y, Calls Tryd.prog 43 #[.string ⟨(trim (s.extract (k + 1) s.size).data.toList).toArray⟩] y fun e w' => e = .returned (.bool b) ∧ y = w' := fun b hb y => hb ▸ rvalue ⟨(trim (s.extract (k + 1) s.size).data.toList).toArray⟩ hsv y
        have htr : ∀ v, v = trim (s.extract (k + 1) s.size).data.toList → True := fun _ _ => trivial
        generalize trim (s.extract (k + 1) s.size).data.toList = v at T2 T3 hv hsv
        clear htr hsv
        have k1 : (0 : Int) ≤ (k : Int) + 1 := by omega
        have k2 : (k : Int) + 1 ≤ (s.size : Int) := by omega
        have k3 : ((k : Int) + 1).toNat = k + 1 := by omega
        have k4 : IntKind.i64.wrap ((k : Int) + 1) = (k : Int) + 1 := IntWalk.i64_in _ (by omega)
        cases ht : tkn (s.extract 0 k).data.toList with
        | false =>
          have C1 := T1 false ht
          rw [ht] at hv
          have HV := Lib.hid hv
          clear T1 T3 T2 ht hv k3 k4
          go_wp2_with (first | (go_at_call 42; with_reducible refine (C1 _).mono ?_; rintro e w' ⟨rfl, rfl⟩) | fail)
          exact fin_none HV.out
        | true =>
          have C1 := T1 true ht
          cases hw : val v with
          | false =>
            have C3 := T3 false hw
            rw [ht, hw] at hv
            have HV := Lib.hid hv
            clear T1 T3 ht hw hv k4
            go_wp2_with (first | (go_at_call 42; with_reducible refine (C1 _).mono ?_; rintro e w' ⟨rfl, rfl⟩) | (go_at_call 44; with_reducible refine (T2 _).mono ?_; rintro e w' ⟨rfl, rfl⟩) | (go_at_call 43; with_reducible refine (C3 _).mono ?_; rintro e w' ⟨rfl, rfl⟩) | fail)
            exact fin_none HV.out
          | true =>
            have C3 := T3 true hw
            rw [ht, hw] at hv
            have HV := Lib.hid hv
            clear T1 T3 ht hw hv
            have K4 := Lib.hid k4
            clear k4
            go_wp2_with (first | (go_at_call 42; with_reducible refine (C1 _).mono ?_; rintro e w' ⟨rfl, rfl⟩) | (go_at_call 44; with_reducible refine (T2 _).mono ?_; rintro e w' ⟨rfl, rfl⟩) | (go_at_call 43; with_reducible refine (C3 _).mono ?_; rintro e w' ⟨rfl, rfl⟩) | fail)
            obtain ⟨X, hX⟩ : ∃ X, X = w.alloc (Obj.cells #[Value.string ⟨#[]⟩, Value.string ⟨#[]⟩] 46) := ⟨_, rfl⟩
            rw [← hX]
            have g0 : X.heap[w.heap.size]? = some (.cells #[Value.string ⟨#[]⟩, Value.string ⟨#[]⟩] 46 (0, 0)) := by rw [hX]; exact heap_alloc_new w _
            have gB : Below w.heap.size w X := by rw [hX]; exact (Below.refl _ w).alloc (Nat.le_refl _) _
            obtain ⟨B, hBe⟩ : ∃ B, B = w.heap.size := ⟨_, rfl⟩
            rw [← hBe] at g0 ⊢
            have hBw : w.heap.size ≤ B := by omega
            clear hBe
            have c0 : X.cell? ⟨B, 0, none⟩ = some (.string ⟨#[]⟩) := by rw [blk_cell g0]; rfl
            have c1 : X.cell? ⟨B, 1, none⟩ = some (.string ⟨#[]⟩) := by rw [blk_cell g0]; rfl
            have f0 : X.frozen? ⟨B, 0, none⟩ = false := by simp [World.frozen?, g0]
            have f1 : X.frozen? ⟨B, 1, none⟩ = false := by simp [World.frozen?, g0]
            have GB := Lib.hid gB
            have G0 := Lib.hid g0
            clear hX gB g0
            have k5 := K4.out
            go_region_held3 (fun w' => True) (trivial) (first | (go_at_call 44; with_reducible refine (T2 _).mono ?_; rintro e w' ⟨rfl, rfl⟩))
            have Y0 := two_set (a := .string (s.extract 0 k)) (b := .string ⟨v.toArray⟩) G0.out
            have YB := (((GB.out.setCell (p := ⟨B, 0, none⟩) hBw (.string (s.extract 0 k))).setCell (p := ⟨B, 1, none⟩) hBw (.string ⟨v.toArray⟩))).drew
            generalize ((X.setCell ⟨B, 0, none⟩ (.string (s.extract 0 k))).setCell ⟨B, 1, none⟩ (.string ⟨v.toArray⟩)).drew = Y at Y0 YB ⊢
            have d0 : Y.cell? ⟨B, 0, none⟩ = some (.string (s.extract 0 k)) := by rw [blk_cell Y0]; rfl
            have d1 : Y.cell? ⟨B, 1, none⟩ = some (.string ⟨v.toArray⟩) := by rw [blk_cell Y0]; rfl
            have D0 := Lib.hid d0
            have D1 := Lib.hid d1
            have YY := Lib.hid YB
            clear d0 d1 YB Y0 c0 c1 f0 f1
            go_wp2_with fail
            exact fin_field D0.out D1.out rfl rfl ⟨by rw [HV.out]; rfl, YY.out⟩
      · have hb : (((bt s k).toNat : Int) != 58) = true := by rw [bne_iff_ne]; intro e; exact hq (UInt8.toNat_inj.1 (by show _ = 58; omega))
        have hf := HA.out k hlt
        rw [hR.out, show neC 58 (bt s k) = true by simp [neC, hq]] at hf
        have HF := Lib.hid hf
        clear hf
        rw [← E1.out] at hb
        have HQ := Lib.hid hq
        clear hq
        go_wp2_with fail
        go_round
        case rel => exact ⟨k + 1, by omega, by go_num, HF⟩
        case measure => simp [intOf]; omega
    · have hks : k = s.size := by omega
      have hd : decide ((k : Int) < (s.size : Int)) = false := by simp; omega
      have hq : ((k : Int) == (s.size : Int)) = true := beq_iff_eq.2 (by omega)
      have H := hR.out
      rw [hks, all_take] at H
      have HF := Lib.hid (fieldV_miss H)
      clear H
      go_wp2_with fail
      exact fin_none HF.out
end Go.Proofs.YtjcbohpemfmpiaaDoor.headLong
