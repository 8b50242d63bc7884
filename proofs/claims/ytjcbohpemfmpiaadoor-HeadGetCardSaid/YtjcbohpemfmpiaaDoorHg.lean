/- HeadGet, its walk: HgGet. -/
import Derived.Test.YtjcbohpemfmpiaaDoorHl
import Derived.Deep.AppendLies
import Derived.Deep.RegionHeld3
import Derived.Deep.DrawnRows
namespace Go.Proofs.YtjcbohpemfmpiaaDoor.headGet
open Go.ChangeShapes Go.WideShapes Go.ChangeAt Go.RowKit Go.Hg
attribute [local go_sem ↓] Go.wp_at_zero Go.wp_at_succ
/-- Fields in memory: names and values. -/
def HoldsF (w : World) (b o n : Nat) (N V : Nat → ByteArray) : Prop := ∀ i, i < n → w.cell? ⟨b, o + i * 2, none⟩ = some (.string (N i)) ∧ w.cell? ⟨b, o + i * 2 + 1, none⟩ = some (.string (V i))
theorem HoldsF.below {w w' : World} {b o n : Nat} {N V : Nat → ByteArray} {B : Nat} (h : HoldsF w b o n N V) (hB : Below B w w') (hb : b < B) : HoldsF w' b o n N V := fun i hi =>
  ⟨(hB.cell (p := ⟨b, o + i * 2, none⟩) hb).trans (h i hi).1, (hB.cell (p := ⟨b, o + i * 2 + 1, none⟩) hb).trans (h i hi).2⟩
/-- The values of a name among the first k. -/
def GV (N V : Nat → ByteArray) (nm : ByteArray) : Nat → List Value
  | 0 => []
  | k + 1 => if low (N k) = low nm then GV N V nm k ++ [.string (V k)] else GV N V nm k
theorem GV_hit {N V : Nat → ByteArray} {nm : ByteArray} {k : Nat} (h : low (N k) = low nm) : GV N V nm (k + 1) = GV N V nm k ++ [.string (V k)] := if_pos h
theorem GV_miss {N V : Nat → ByteArray} {nm : ByteArray} {k : Nat} (h : ¬ (low (N k) = low nm)) : GV N V nm (k + 1) = GV N V nm k := if_neg h
theorem GV_len (N V : Nat → ByteArray) (nm : ByteArray) : ∀ k, (GV N V nm k).length ≤ k
  | 0 => Nat.le_refl _
  | k + 1 => by
    have := GV_len N V nm k
    unfold GV
    split
    · rw [List.length_append]; simp; omega
    · omega
theorem GV_one (N V : Nat → ByteArray) (nm : ByteArray) : ∀ k, ∀ u ∈ GV N V nm k, ∃ s, u = .string s
  | 0, u, h => by cases h
  | k + 1, u, h => by
    unfold GV at h
    split at h
    · rw [List.mem_append] at h
      rcases h with h | h
      · exact GV_one N V nm k u h
      · simp at h; exact ⟨_, h⟩
    · exact GV_one N V nm k u h
theorem bytes_eq {a b : ByteArray} : (a.toList == b.toList) = true ↔ a = b := by
  rw [ByteArray.toList_eq, ByteArray.toList_eq, beq_iff_eq]
  constructor
  · intro h
    obtain ⟨a⟩ := a
    obtain ⟨b⟩ := b
    have : a = b := Array.toList_inj.1 h
    rw [this]
  · intro h; rw [h]
theorem bytes_ne {a b : ByteArray} (h : ¬ (a = b)) : (a.toList == b.toList) = false := by
  cases e : (a.toList == b.toList) with
  | false => rfl
  | true => exact absurd (bytes_eq.1 e) h
theorem info9 : (Tryd.prog.info? 9).map (fun i => (i.zero, i.size, i.bytes)) = some (some (.string ByteArray.empty), 1, 16) := by kernel_rfl
theorem lt_below {B b : Nat} {w w' : World} (h : Below B w w') (hb : b < w.heap.size) : b < w'.heap.size := by have := h.size; omega
theorem two_cell (w : World) (a b : Value) (t : TypeId) : (w.alloc (.cells #[a, b] t)).cell? ⟨w.heap.size, 1, none⟩ = some b := by
  rw [blk_cell (heap_alloc_new w _)]; rfl
set_option maxRecDepth 8000 in
set_option maxHeartbeats 1600000 in
theorem head_Get (b o n cap : Nat) (N V : Nat → ByteArray) (nm : ByteArray) (w : World) (hH : HoldsF w b o n N V) (hb : b < w.heap.size) (hn : n ≤ 25) (hN : ∀ i, i < n → (N i).size ≤ 1000) (hnm : nm.size ≤ 1000) :
    Calls Tryd.prog 11 #[.slice (some ⟨b, o, none⟩) n cap, .string nm] w fun e w' => ∃ v, e = .returned v ∧ w'.ownsRow w.heap.size 9 1 v (GV N V nm n).length (GV N V nm n) ∧ Below w.heap.size w w' := by
  obtain ⟨i0, hi, hz0, hz1, hz2⟩ := info_parts info9
  go_enter Tryd.func11, Tryd.ntmps11
  go_wp2_with fail
  go_loopw [5, 7, 10] (fun v _ i wr => ∃ k : Nat, k ≤ n ∧ i = .int .i64 k ∧ wr.ownsRow w.heap.size 9 1 v (GV N V nm k).length (GV N V nm k) ∧ Below w.heap.size w wr) (fun _ _ i _ => n - (intOf i).toNat)
  case atStart => exact ⟨0, Nat.zero_le _, rfl, World.ownsRow_nil _ _ _ _, Below.refl _ _⟩
  case round =>
    obtain ⟨k, hk, rfl, hown, hB⟩ := hrel
    have hsz := hB.size
    by_cases hlt : k < n
    · obtain ⟨h1, h2⟩ := hH k hlt
      have c1 := (hB.cell (p := ⟨b, o + k * 2, none⟩) hb).trans h1
      have c2 := (hB.cell (p := ⟨b, o + k * 2 + 1, none⟩) hb).trans h2
      have hNk := hN k hlt
      have hgl := GV_len N V nm k
      have hhit := GV_hit (N := N) (V := V) (nm := nm) (k := k)
      have hmiss := GV_miss (N := N) (V := V) (nm := nm) (k := k)
      generalize N k = s at c1 hNk hhit hmiss
      generalize V k = x at c2 hhit
      have LS := fun y => text_Lower s hNk y
      have LM := fun y => text_Lower nm hnm y
      clear h1 h2 hH
      by_cases hq : low s = low nm
      · have HG := Lib.hid (hhit hq)
        have hq2 : ((low s).toList == (low nm).toList) = true := bytes_eq.2 hq
        clear hhit hmiss hq
        have HO := Lib.hid hown
        have HBB := Lib.hid hB
        clear hown hB
        go_wp2_with (first
          | (go_at_call 20; with_reducible refine (LS _).mono ?_; rintro e w2 ⟨rfl, hB2⟩)
          | (go_at_call 20; with_reducible refine (LM _).mono ?_; rintro e w3 ⟨rfl, hB3⟩; have c5 := (hB3.cell (p := ⟨wr.heap.size, 1, none⟩) (lt_below hB2 (by simp))).trans ((hB2.cell (p := ⟨wr.heap.size, 1, none⟩) (by simp)).trans (two_cell _ _ _ _)))
          | (at_builtin; refine wpList_append_own _ rfl _ _ 32 rfl w.heap.size 9 i0 (.string ByteArray.empty) 1 16 Tryd.underlying32 hi hz0 hz1 hz2 rfl (by decide) _ (GV N V nm k).length (GV N V nm k) rfl ((own_below (own_below (HO.out.alloc _) hB2) hB3).alloc _) ⟨_, 0, none⟩ 1 1 [.string x] rfl rfl (World.news_of_block (cs := #[.string x]) (t := 9) (fr := (0, 0)) (heap_alloc_new _ _)) (by simp [Value.oneCell']) (by unfold maxLen; omega) (by omega) (by have := hB2.size; have := hB3.size; simp at *; omega) ?_; intro v' w4 hown4 hgrow hnil))
        have z2 := hB2.size
        have z3 := hB3.size
        have zz : (wr.alloc (Obj.cells #[Value.string s, Value.string x] 46)).heap.size = wr.heap.size + 1 := by simp
        have R1 : Below w.heap.size w w4 := ((((HBB.out.alloc hsz _).trans (hB2.mono (by omega))).trans (hB3.mono (by omega))).alloc (by omega) _).grown hgrow (by simp; omega) (fun r hr => (HO.out.lt r hr).1)
        have R2 : w4.ownsRow w.heap.size 9 1 v' (GV N V nm (k + 1)).length (GV N V nm (k + 1)) := by
          rw [HG.out, List.length_append]; exact hown4
        clear hown4 hgrow hnil hB2 hB3 z2 z3 zz LS LM c1 c2 hi hz0 hz1 hz2
        go_wp2
        go_roundw
        case rel => first | exact ⟨k + 1, by omega, by go_num, R2, R1⟩ | ((repeat apply Exists.intro); exact ⟨⟨k + 1, by omega, by go_num, R2, R1⟩, rfl⟩)
        case measure => simp [intOf]; omega
      · have HG := Lib.hid (hmiss hq)
        have hq2 : ((low s).toList == (low nm).toList) = false := bytes_ne hq
        clear hhit hmiss hq
        have HO := Lib.hid hown
        have HBB := Lib.hid hB
        clear hown hB
        go_wp2_with (first
          | (go_at_call 20; with_reducible refine (LS _).mono ?_; rintro e w2 ⟨rfl, hB2⟩)
          | (go_at_call 20; with_reducible refine (LM _).mono ?_; rintro e w3 ⟨rfl, hB3⟩))
        have z2 := hB2.size
        have z3 := hB3.size
        have zz : (wr.alloc (Obj.cells #[Value.string s, Value.string x] 46)).heap.size = wr.heap.size + 1 := by simp
        have R1 : Below w.heap.size w w3 := ((HBB.out.alloc hsz _).trans (hB2.mono (by omega))).trans (hB3.mono (by omega))
        have R2 := own_below (own_below (HO.out.alloc _) hB2) hB3
        rw [← HG.out] at R2
        go_roundw
        case rel => first | exact ⟨k + 1, by omega, by go_num, R2, R1⟩ | ((repeat apply Exists.intro); exact ⟨⟨k + 1, by omega, by go_num, R2, R1⟩, rfl⟩)
        case measure => simp [intOf]; omega
    · have hd : decide ((k : Int) < (n : Int)) = false := by simp; omega
      have hkn : k = n := by omega
      have HO := Lib.hid hown
      have HB := Lib.hid hB
      clear hown hB
      go_wp2
      go_ret
      subst hkn
      exact ⟨_, rfl, HO.out, HB.out⟩
theorem head_Get0 (b : Option Addr) (cap : Nat) (nm : ByteArray) (w : World) : Calls Tryd.prog 11 #[.slice b 0 cap, .string nm] w fun e w' => e = .returned (.slice none 0 0) ∧ Below w.heap.size w w' := by
  go_enter Tryd.func11, Tryd.ntmps11
  go_wp2_with fail
  refine wp_loop_rounds 1 ?_
  rw [rounds_succ]
  go_wp2
  go_ret
  exact ⟨rfl, Below.refl _ _⟩
end Go.Proofs.YtjcbohpemfmpiaaDoor.headGet
