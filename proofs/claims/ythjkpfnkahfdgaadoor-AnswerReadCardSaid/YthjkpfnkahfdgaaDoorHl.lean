/- Values of a name, as the document tells them, walked. -/
import Derived.Test.YthjkpfnkahfdgaaDoorHe
namespace Go.Proofs.YthjkpfnkahfdgaaDoor.answerRead
set_option linter.unusedVariables false
set_option linter.unusedSimpArgs false
open Go.ChangeShapes Go.WideShapes Go.ChangeAt Go.RowKit Go.Hg
attribute [local go_sem ↓] Go.wp_at_zero Go.wp_at_succ
/-- The row that is made small. -/
def Row (w wr : World) (s : ByteArray) (cap k : Nat) : Prop :=
  wr.heap[w.heap.size]? = some (.cells (bytesRow (lowTo s k) cap) 5 ((bytesRow s cap).size, (bytesRow s cap).size + 1)) ∧ Below w.heap.size w wr
theorem Row.start (w : World) (s : ByteArray) (cap : Nat) : Row w (w.alloc (.cells (bytesRow s cap) 5 ((bytesRow s cap).size, (bytesRow s cap).size + 1))).drew s cap 0 := by
  refine ⟨?_, ((Below.refl _ w).alloc (Nat.le_refl _) _).drew⟩
  rw [lowTo_zero]
  exact heap_alloc_new w _
theorem Row.cell {w wr : World} {s : ByteArray} {cap k : Nat} (h : Row w wr s cap k) (hk : k < s.size) : wr.cell? ⟨w.heap.size, k, none⟩ = some (.int .u8 (bt s k).toNat) := (blk_cell h.1 k).trans (row_at' hk)
theorem Row.free {w wr : World} {s : ByteArray} {cap k : Nat} (h : Row w wr s cap k) (hk : k < s.size) : wr.frozen? ⟨w.heap.size, k, none⟩ = false := blk_free h.1 (by have := row_le s cap; omega)
theorem Row.set {w wr : World} {s : ByteArray} {cap k : Nat} (h : Row w wr s cap k) (hk : k < s.size) {n : Int} (hn : n = (lowB (bt s k)).toNat) : Row w (wr.setCell ⟨w.heap.size, k, none⟩ (.int .u8 n)) s cap (k + 1) := by
  subst hn
  refine ⟨?_, h.2.setCell (Nat.le_refl _) _⟩
  rw [blk_set h.1, row_set' hk]
theorem Row.stay {w wr : World} {s : ByteArray} {cap k : Nat} (h : Row w wr s cap k) (hk : k < s.size) (hl : lowB (bt s k) = bt s k) : Row w wr s cap (k + 1) := by
  refine ⟨?_, h.2⟩
  rw [lowTo_same' hk hl]; exact h.1
theorem Row.back {w wr : World} {s : ByteArray} {cap k cp : Nat} (h : Row w wr s cap k) (hk : k = s.size) : (convert 22 9 (.slice (some ⟨w.heap.size, 0, none⟩) s.size cp)).run Tryd.prog wr = .ok (.string (low s)) wr := by
  subst hk
  have e : (low s).data.toList.length = s.size := by
    have := low_size s
    rw [Array.length_toList]; exact this
  have := run_convert_bytes_back (P := Tryd.prog) wr 22 9 5 ⟨w.heap.size, 0, none⟩ cp (low s).data.toList Tryd.underlying22 Tryd.underlying5 Tryd.underlying9 (fun j hj => by
    have ea : (⟨w.heap.size, 0, none⟩ : Addr).add j = ⟨w.heap.size, j, none⟩ := by unfold Addr.add; split <;> simp_all
    rw [ea, blk_cell h.1, lowTo_all, bytesRow_at (low s) cap j (by simpa using hj)]
    simp)
  rw [e] at this
  simpa using this
set_option maxRecDepth 8000 in
theorem ref_Lower (s : ByteArray) (hs : s.size ≤ 1000) (w : World) : Calls Tryd.prog 23 #[.string s] w fun e w' => e = .returned (.string (low s)) ∧ Below w.heap.size w w' := by
  have hcv := fun w => run_bytes_of_string (P := Tryd.prog) w 9 22 5 s Tryd.underlying9 Tryd.underlying22 Tryd.underlying5
  go_enter Tryd.func23, Tryd.ntmps23
  go_wp2_with fail
  clear hcv
  generalize grownCap w s.size 0 5 = cap
  go_loopw [4] (fun i wr => ∃ k : Nat, k ≤ s.size ∧ i = .int .i64 k ∧ Row w wr s cap k) (fun i _ => s.size - (intOf i).toNat)
  case atStart => exact ⟨0, Nat.zero_le _, rfl, Row.start _ _ _⟩
  case round =>
    obtain ⟨k, hk, rfl, hR⟩ := hrel
    by_cases hlt : k < s.size
    · have c1 := hR.cell hlt
      have c2 := hR.free hlt
      have hset := fun (n : Int) => hR.set hlt (n := n)
      have hstay := hR.stay hlt
      have hhit := lowB_hit (b := bt s k)
      have hmiss := lowB_miss (b := bt s k)
      have hn := (bt s k).toNat_lt
      generalize (bt s k).toNat = n at c1 hhit hmiss hn
      have HS := Lib.hid hset
      have HY := Lib.hid hstay
      have HH := Lib.hid hhit
      have HM := Lib.hid hmiss
      clear hset hstay hhit hmiss hR
      rcases (by omega : n < 65 ∨ (65 ≤ n ∧ n ≤ 90) ∨ 90 < n) with hg | ⟨hg, hg2⟩ | hg
      · go_wp2
        go_roundw
        case rel => exact ⟨k + 1, by omega, by go_num, HY.out (HM.out (by omega))⟩
        case measure => simp [intOf]; omega
      · go_wp2
        go_roundw
        case rel => exact ⟨k + 1, by omega, by go_num, HS.out _ (by have := HH.out ⟨hg, hg2⟩; omega)⟩
        case measure => simp [intOf]; omega
      · go_wp2
        go_roundw
        case rel => exact ⟨k + 1, by omega, by go_num, HY.out (HM.out (by omega))⟩
        case measure => simp [intOf]; omega
    · have hd : decide ((k : Int) < (s.size : Int)) = false := by simp; omega
      have hbk := fun cp => hR.back (cp := cp) (by omega)
      have HB := Lib.hid hR.2
      clear hR
      go_wp2
      go_ret
      exact ⟨rfl, HB.out⟩

/-- Fields in memory: names and values. -/
def HoldsF (w : World) (b o n : Nat) (N V : Nat → ByteArray) : Prop := ∀ i, i < n → w.cell? ⟨b, o + i * 2, none⟩ = some (.string (N i)) ∧ w.cell? ⟨b, o + i * 2 + 1, none⟩ = some (.string (V i))
theorem HoldsF.below {w w' : World} {b o n : Nat} {N V : Nat → ByteArray} {B : Nat} (h : HoldsF w b o n N V) (hB : Below B w w') (hb : b < B) : HoldsF w' b o n N V := fun i hi =>
  ⟨(hB.cell (p := ⟨b, o + i * 2, none⟩) hb).trans (h i hi).1, (hB.cell (p := ⟨b, o + i * 2 + 1, none⟩) hb).trans (h i hi).2⟩
/-- The values of a name among the first k. -/
def GV (N V : Nat → ByteArray) (nm : ByteArray) : Nat → List Value
  | 0 => []
  | k + 1 => if low (N k) = low nm then GV N V nm k ++ [.string (V k)] else GV N V nm k
theorem GV_hit {N V : Nat → ByteArray} {nm : ByteArray} {k : Nat} (h : low (N k) = low nm) : GV N V nm (k + 1) = GV N V nm k ++ [.string (V k)] := if_pos h
theorem GV_miss {N V : Nat → ByteArray} {nm : ByteArray} {k : Nat} (h : ¬ (low (N k) = low nm)) : GV N V nm (k + 1) = GV N V nm k := if_neg h
theorem GV_len (N V : Nat → ByteArray) (nm : ByteArray) : ∀ k, (GV N V nm k).length ≤ k
  | 0 => Nat.le_refl _
  | k + 1 => by
    have := GV_len N V nm k
    unfold GV
    split
    · rw [List.length_append]; simp; omega
    · omega
theorem GV_one (N V : Nat → ByteArray) (nm : ByteArray) : ∀ k, ∀ u ∈ GV N V nm k, ∃ s, u = .string s
  | 0, u, h => by cases h
  | k + 1, u, h => by
    unfold GV at h
    split at h
    · rw [List.mem_append] at h
      rcases h with h | h
      · exact GV_one N V nm k u h
      · simp at h; exact ⟨_, h⟩
    · exact GV_one N V nm k u h
theorem bytes_eq {a b : ByteArray} : (a.toList == b.toList) = true ↔ a = b := by
  rw [ByteArray.toList_eq, ByteArray.toList_eq, beq_iff_eq]
  constructor
  · intro h
    obtain ⟨a⟩ := a
    obtain ⟨b⟩ := b
    have : a = b := Array.toList_inj.1 h
    rw [this]
  · intro h; rw [h]
theorem bytes_ne {a b : ByteArray} (h : ¬ (a = b)) : (a.toList == b.toList) = false := by
  cases e : (a.toList == b.toList) with
  | false => rfl
  | true => exact absurd (bytes_eq.1 e) h
theorem info9 : (Tryd.prog.info? 9).map (fun i => (i.zero, i.size, i.bytes)) = some (some (.string ByteArray.empty), 1, 16) := by kernel_rfl
theorem two_cell (w : World) (a b : Value) (t : TypeId) : (w.alloc (.cells #[a, b] t)).cell? ⟨w.heap.size, 1, none⟩ = some b := by
  rw [blk_cell (heap_alloc_new w _)]; rfl
set_option maxRecDepth 8000 in
set_option maxHeartbeats 1600000 in
theorem ref_Values (b o n cap : Nat) (N V : Nat → ByteArray) (nm : ByteArray) (w : World) (hH : HoldsF w b o n N V) (hb : b < w.heap.size) (hn : n ≤ 25) (hN : ∀ i, i < n → (N i).size ≤ 1000) (hnm : nm.size ≤ 1000) :
    Calls Tryd.prog 10 #[.slice (some ⟨b, o, none⟩) n cap, .string nm] w fun e w' => ∃ v, e = .returned v ∧ w'.ownsRow w.heap.size 9 1 v (GV N V nm n).length (GV N V nm n) ∧ Below w.heap.size w w' := by
  obtain ⟨i0, hi, hz0, hz1, hz2⟩ := info_parts info9
  go_enter Tryd.func10, Tryd.ntmps10
  go_wp2_with fail
  go_loopw [5, 6] (fun v i wr => ∃ k : Nat, k ≤ n ∧ i = .int .i64 k ∧ wr.ownsRow w.heap.size 9 1 v (GV N V nm k).length (GV N V nm k) ∧ Below w.heap.size w wr) (fun _ i _ => n - (intOf i).toNat)
  case atStart => exact ⟨0, Nat.zero_le _, rfl, World.ownsRow_nil _ _ _ _, Below.refl _ _⟩
  case round =>
    obtain ⟨k, hk, rfl, hown, hB⟩ := hrel
    have hsz := hB.size
    have hbr : b < wr.heap.size := by omega
    by_cases hlt : k < n
    · obtain ⟨h1, h2⟩ := hH k hlt
      have c1 := (hB.cell (p := ⟨b, o + k * 2, none⟩) hb).trans h1
      have c2 := (hB.cell (p := ⟨b, o + k * 2 + 1, none⟩) hb).trans h2
      have hNk := hN k hlt
      have hgl := GV_len N V nm k
      have hhit := GV_hit (N := N) (V := V) (nm := nm) (k := k)
      have hmiss := GV_miss (N := N) (V := V) (nm := nm) (k := k)
      generalize N k = s at c1 hNk hhit hmiss
      generalize V k = x at c2 hhit
      have LS := fun y => ref_Lower s hNk y
      have LM := fun y => ref_Lower nm hnm y
      clear h1 h2 hH
      by_cases hq : low s = low nm
      · have HG := Lib.hid (hhit hq)
        have hq2 : ((low s).toList == (low nm).toList) = true := bytes_eq.2 hq
        clear hhit hmiss hq
        have HO := Lib.hid hown
        have HBB := Lib.hid hB
        clear hown hB
        go_wp2_with (first
          | (go_at_call 23; with_reducible refine (LS _).mono ?_; rintro e w2 ⟨rfl, hB2⟩)
          | (go_at_call 23; with_reducible refine (LM _).mono ?_; rintro e w3 ⟨rfl, hB3⟩; have c5 := (hB3.cell (p := ⟨b, o + k * 2 + 1, none⟩) (lt_below hB2 hbr)).trans ((hB2.cell (p := ⟨b, o + k * 2 + 1, none⟩) hbr).trans c2))
          | (at_builtin; refine wpList_append_own _ rfl _ _ 31 rfl w.heap.size 9 i0 (.string ByteArray.empty) 1 16 Tryd.underlying31 hi hz0 hz1 hz2 rfl (by decide) _ (GV N V nm k).length (GV N V nm k) rfl ((own_below (own_below HO.out hB2) hB3).alloc _) ⟨_, 0, none⟩ 1 1 [.string x] rfl rfl (World.news_of_block (cs := #[.string x]) (t := 9) (fr := (0, 0)) (heap_alloc_new _ _)) (by simp [Value.oneCell']) (by unfold maxLen; omega) (by omega) (by have := hB2.size; have := hB3.size; simp at *; omega) ?_; intro v' w4 hown4 hgrow hnil))
        have z2 := hB2.size
        have z3 := hB3.size
        have R1 : Below w.heap.size w w4 := (((HBB.out.trans (hB2.mono (by omega))).trans (hB3.mono (by omega))).alloc (by omega) _).grown hgrow (by simp; omega) (fun r hr => (HO.out.lt r hr).1)
        have R2 : w4.ownsRow w.heap.size 9 1 v' (GV N V nm (k + 1)).length (GV N V nm (k + 1)) := by
          rw [HG.out, List.length_append]; exact hown4
        clear hown4 hgrow hnil hB2 hB3 z2 z3 LS LM c1 c2 hi hz0 hz1 hz2
        go_wp2
        go_roundw
        case rel => first | exact ⟨k + 1, by omega, by go_num, R2, R1⟩ | ((repeat apply Exists.intro); exact ⟨⟨k + 1, by omega, by go_num, R2, R1⟩, rfl⟩)
        case measure => simp [intOf]; omega
      · have HG := Lib.hid (hmiss hq)
        have hq2 : ((low s).toList == (low nm).toList) = false := bytes_ne hq
        clear hhit hmiss hq
        have HO := Lib.hid hown
        have HBB := Lib.hid hB
        clear hown hB
        go_wp2_with (first
          | (go_at_call 23; with_reducible refine (LS _).mono ?_; rintro e w2 ⟨rfl, hB2⟩)
          | (go_at_call 23; with_reducible refine (LM _).mono ?_; rintro e w3 ⟨rfl, hB3⟩))
        have z2 := hB2.size
        have z3 := hB3.size
        have R1 : Below w.heap.size w w3 := (HBB.out.trans (hB2.mono (by omega))).trans (hB3.mono (by omega))
        have R2 := own_below (own_below HO.out hB2) hB3
        rw [← HG.out] at R2
        go_roundw
        case rel => first | exact ⟨k + 1, by omega, by go_num, R2, R1⟩ | ((repeat apply Exists.intro); exact ⟨⟨k + 1, by omega, by go_num, R2, R1⟩, rfl⟩)
        case measure => simp [intOf]; omega
    · have hd : decide ((k : Int) < (n : Int)) = false := by simp; omega
      have hkn : k = n := by omega
      have HO := Lib.hid hown
      have HB := Lib.hid hB
      clear hown hB
      go_wp2
      go_ret
      subst hkn
      exact ⟨_, rfl, HO.out, HB.out⟩
theorem ref_Values0 (b : Option Addr) (cap : Nat) (nm : ByteArray) (w : World) : Calls Tryd.prog 10 #[.slice b 0 cap, .string nm] w fun e w' => e = .returned (.slice none 0 0) ∧ Below w.heap.size w w' := by
  go_enter Tryd.func10, Tryd.ntmps10
  go_wp2_with fail
  refine wp_loop_rounds 1 ?_
  rw [rounds_succ]
  go_wp2
  go_ret
  exact ⟨rfl, Below.refl _ _⟩

end Go.Proofs.YthjkpfnkahfdgaaDoor.answerRead
