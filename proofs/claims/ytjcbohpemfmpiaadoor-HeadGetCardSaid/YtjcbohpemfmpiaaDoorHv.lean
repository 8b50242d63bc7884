/- HeadGet, its walk: HgVal. -/
import Derived.Test.YtjcbohpemfmpiaaDoorHg
namespace Go.Proofs.YtjcbohpemfmpiaaDoor.headGet
open Go.ChangeShapes Go.WideShapes Go.ChangeAt Go.RowKit Go.Hg
attribute [local go_sem ↓] Go.wp_at_zero Go.wp_at_succ
set_option maxRecDepth 8000 in
set_option maxHeartbeats 1600000 in
theorem ref_Values (b o n cap : Nat) (N V : Nat → ByteArray) (nm : ByteArray) (w : World) (hH : HoldsF w b o n N V) (hb : b < w.heap.size) (hn : n ≤ 25) (hN : ∀ i, i < n → (N i).size ≤ 1000) (hnm : nm.size ≤ 1000) :
    Calls Tryd.prog 12 #[.slice (some ⟨b, o, none⟩) n cap, .string nm] w fun e w' => ∃ v, e = .returned v ∧ w'.ownsRow w.heap.size 9 1 v (GV N V nm n).length (GV N V nm n) ∧ Below w.heap.size w w' := by
  obtain ⟨i0, hi, hz0, hz1, hz2⟩ := info_parts info9
  go_enter Tryd.func12, Tryd.ntmps12
  go_wp2_with fail
  go_loopw [5, 6] (fun v i wr => ∃ k : Nat, k ≤ n ∧ i = .int .i64 k ∧ wr.ownsRow w.heap.size 9 1 v (GV N V nm k).length (GV N V nm k) ∧ Below w.heap.size w wr) (fun _ i _ => n - (intOf i).toNat)
  case atStart => exact ⟨0, Nat.zero_le _, rfl, World.ownsRow_nil _ _ _ _, Below.refl _ _⟩
  case round =>
    obtain ⟨k, hk, rfl, hown, hB⟩ := hrel
    have hsz := hB.size
    have hbr : b < wr.heap.size := by omega
    by_cases hlt : k < n
    · obtain ⟨h1, h2⟩ := hH k hlt
      have c1 := (hB.cell (p := ⟨b, o + k * 2, none⟩) hb).trans h1
      have c2 := (hB.cell (p := ⟨b, o + k * 2 + 1, none⟩) hb).trans h2
      have hNk := hN k hlt
      have hgl := GV_len N V nm k
      have hhit := GV_hit (N := N) (V := V) (nm := nm) (k := k)
      have hmiss := GV_miss (N := N) (V := V) (nm := nm) (k := k)
      generalize N k = s at c1 hNk hhit hmiss
      generalize V k = x at c2 hhit
      have LS := fun y => ref_Lower s hNk y
      have LM := fun y => ref_Lower nm hnm y
      clear h1 h2 hH
      by_cases hq : low s = low nm
      · have HG := Lib.hid (hhit hq)
        have hq2 : ((low s).toList == (low nm).toList) = true := bytes_eq.2 hq
        clear hhit hmiss hq
        have HO := Lib.hid hown
        have HBB := Lib.hid hB
        clear hown hB
        go_wp2_with (first
          | (go_at_call 21; with_reducible refine (LS _).mono ?_; rintro e w2 ⟨rfl, hB2⟩)
          | (go_at_call 21; with_reducible refine (LM _).mono ?_; rintro e w3 ⟨rfl, hB3⟩; have c5 := (hB3.cell (p := ⟨b, o + k * 2 + 1, none⟩) (lt_below hB2 hbr)).trans ((hB2.cell (p := ⟨b, o + k * 2 + 1, none⟩) hbr).trans c2))
          | (at_builtin; refine wpList_append_own _ rfl _ _ 32 rfl w.heap.size 9 i0 (.string ByteArray.empty) 1 16 Tryd.underlying32 hi hz0 hz1 hz2 rfl (by decide) _ (GV N V nm k).length (GV N V nm k) rfl ((own_below (own_below HO.out hB2) hB3).alloc _) ⟨_, 0, none⟩ 1 1 [.string x] rfl rfl (World.news_of_block (cs := #[.string x]) (t := 9) (fr := (0, 0)) (heap_alloc_new _ _)) (by simp [Value.oneCell']) (by unfold maxLen; omega) (by omega) (by have := hB2.size; have := hB3.size; simp at *; omega) ?_; intro v' w4 hown4 hgrow hnil))
        have z2 := hB2.size
        have z3 := hB3.size
        have R1 : Below w.heap.size w w4 := (((HBB.out.trans (hB2.mono (by omega))).trans (hB3.mono (by omega))).alloc (by omega) _).grown hgrow (by simp; omega) (fun r hr => (HO.out.lt r hr).1)
        have R2 : w4.ownsRow w.heap.size 9 1 v' (GV N V nm (k + 1)).length (GV N V nm (k + 1)) := by
          rw [HG.out, List.length_append]; exact hown4
        clear hown4 hgrow hnil hB2 hB3 z2 z3 LS LM c1 c2 hi hz0 hz1 hz2
        go_wp2
        go_roundw
        case rel => first | exact ⟨k + 1, by omega, by go_num, R2, R1⟩ | ((repeat apply Exists.intro); exact ⟨⟨k + 1, by omega, by go_num, R2, R1⟩, rfl⟩)
        case measure => simp [intOf]; omega
      · have HG := Lib.hid (hmiss hq)
        have hq2 : ((low s).toList == (low nm).toList) = false := bytes_ne hq
        clear hhit hmiss hq
        have HO := Lib.hid hown
        have HBB := Lib.hid hB
        clear hown hB
        go_wp2_with (first
          | (go_at_call 21; with_reducible refine (LS _).mono ?_; rintro e w2 ⟨rfl, hB2⟩)
          | (go_at_call 21; with_reducible refine (LM _).mono ?_; rintro e w3 ⟨rfl, hB3⟩))
        have z2 := hB2.size
        have z3 := hB3.size
        have R1 : Below w.heap.size w w3 := (HBB.out.trans (hB2.mono (by omega))).trans (hB3.mono (by omega))
        have R2 := own_below (own_below HO.out hB2) hB3
        rw [← HG.out] at R2
        go_roundw
        case rel => first | exact ⟨k + 1, by omega, by go_num, R2, R1⟩ | ((repeat apply Exists.intro); exact ⟨⟨k + 1, by omega, by go_num, R2, R1⟩, rfl⟩)
        case measure => simp [intOf]; omega
    · have hd : decide ((k : Int) < (n : Int)) = false := by simp; omega
      have hkn : k = n := by omega
      have HO := Lib.hid hown
      have HB := Lib.hid hB
      clear hown hB
      go_wp2
      go_ret
      subst hkn
      exact ⟨_, rfl, HO.out, HB.out⟩
theorem ref_Values0 (b : Option Addr) (cap : Nat) (nm : ByteArray) (w : World) : Calls Tryd.prog 12 #[.slice b 0 cap, .string nm] w fun e w' => e = .returned (.slice none 0 0) ∧ Below w.heap.size w w' := by
  go_enter Tryd.func12, Tryd.ntmps12
  go_wp2_with fail
  refine wp_loop_rounds 1 ?_
  rw [rounds_succ]
  go_wp2
  go_ret
  exact ⟨rfl, Below.refl _ _⟩
end Go.Proofs.YtjcbohpemfmpiaaDoor.headGet
