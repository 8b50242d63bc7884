/- HeadGet, its walk: HgCut0. -/
import Derived.Test.YtjcbohpemfmpiaaDoorHc
namespace Go.Proofs.YtjcbohpemfmpiaaDoor.headGet
open Go.ChangeShapes Go.WideShapes Go.ChangeAt Go.RowKit Go.Hg
attribute [local go_sem ↓] Go.wp_at_zero Go.wp_at_succ
set_option maxRecDepth 8000 in
set_option maxHeartbeats 1600000 in
theorem law16_Cut0 (b : Option Addr) (cap : Nat) (w : World) :
    Calls Tryd.prog 8 #[.agg #[.string ⟨#[]⟩, .string ⟨#[]⟩, .slice b 0 cap, .string ⟨#[]⟩]] w fun e' w' => e' = .returned (.agg #[.string ⟨#[]⟩, .string ⟨#[]⟩, .slice none 0 0, .string ⟨#[]⟩]) ∧ Below w.heap.size w w' := by
  have CE30 : ∀ x, Calls Tryd.prog 9 #[.string ⟨#[]⟩, .int .i64 30] x fun e w' => e = .returned (.string ⟨#[]⟩) ∧ w' = x := fun x => law1_Cut ⟨#[]⟩ 30 (by omega) x
  have CE300 : ∀ x, Calls Tryd.prog 9 #[.string ⟨#[]⟩, .int .i64 300] x fun e w' => e = .returned (.string ⟨#[]⟩) ∧ w' = x := fun x => law1_Cut ⟨#[]⟩ 300 (by omega) x
  go_enter Tryd.func8, Tryd.ntmps8
  go_wp2_with fail
  obtain ⟨W0, hW0⟩ : ∃ W0, W0 = ((w.alloc (Obj.cells #[Value.string ⟨#[]⟩, Value.string ⟨#[]⟩, Value.slice b 0 cap, Value.string ⟨#[]⟩] 28)).alloc (Obj.cells #[Value.string ⟨#[]⟩, Value.string ⟨#[]⟩, Value.slice none 0 0, Value.string ⟨#[]⟩] 28)) := ⟨_, rfl⟩
  rw [← hW0]
  have g0 : W0.heap[w.heap.size]? = some (.cells #[Value.string ⟨#[]⟩, Value.string ⟨#[]⟩, Value.slice b 0 cap, Value.string ⟨#[]⟩] 28 (0, 0)) := by
    rw [hW0, Below.heap_alloc _ _ _ (by simp)]; exact heap_alloc_new w _
  have g1 : W0.heap[w.heap.size + 1]? = some (.cells #[Value.string ⟨#[]⟩, Value.string ⟨#[]⟩, Value.slice none 0 0, Value.string ⟨#[]⟩] 28 (0, 0)) := by
    have := heap_alloc_new (w.alloc (Obj.cells #[Value.string ⟨#[]⟩, Value.string ⟨#[]⟩, Value.slice b 0 cap, Value.string ⟨#[]⟩] 28)) (Obj.cells #[Value.string ⟨#[]⟩, Value.string ⟨#[]⟩, Value.slice none 0 0, Value.string ⟨#[]⟩] 28)
    rw [← hW0] at this; simpa using this
  have gB : Below w.heap.size w W0 := by rw [hW0]; exact ((Below.refl _ w).alloc (Nat.le_refl _) _).alloc (by simp) _
  have gs : W0.heap.size = w.heap.size + 2 := by rw [hW0]; simp
  clear hW0
  have BX : Box w W0 (.slice b 0 cap) := ⟨g0, g1, gB, by omega⟩
  clear g0 g1 gB gs
  have c0 := BX.c0
  have c1 := BX.c1
  have c3 := BX.c3
  have f0 := BX.fr 0
  have f1 := BX.fr 1
  have f3 := BX.fr 3
  go_region_held3 (fun w' => Box w w' (.slice b 0 cap) ∧ w'.cell? ⟨w.heap.size, 0, none⟩ = some (.string ⟨#[]⟩) ∧ w'.cell? ⟨w.heap.size, 1, none⟩ = some (.string ⟨#[]⟩) ∧ w'.cell? ⟨w.heap.size, 3, none⟩ = some (.string ⟨#[]⟩))
    (first | exact BX.all | exact (BX.store (.inl rfl)).all | exact ((BX.store (.inl rfl)).store (.inr (.inl rfl))).all | exact (((BX.store (.inl rfl)).store (.inr (.inl rfl))).store (.inr (.inr rfl))).all | exact ⟨BX, c0, c1, c3⟩ | assumption | go_keep)
    (first | (go_at_call 9; with_reducible refine (CE30 _).mono ?_; rintro e w' ⟨rfl, rfl⟩) | (go_at_call 9; with_reducible refine (CE300 _).mono ?_; rintro e w' ⟨rfl, rfl⟩))
  have hX := (((BX.store (.inl rfl)).store (.inr (.inl rfl))).store (.inr (.inr rfl))).drew
  obtain ⟨wr, hW1⟩ : ∃ W1, W1 = (((W0.setCell ⟨w.heap.size, 0, none⟩ (.string ⟨#[]⟩)).setCell ⟨w.heap.size, 1, none⟩ (.string ⟨#[]⟩)).setCell ⟨w.heap.size, 3, none⟩ (.string ⟨#[]⟩)).drew := ⟨_, rfl⟩
  rw [← hW1] at hX ⊢
  clear hW1 BX c0 c1 c3 f0 f1 f3
  have d0 := hX.c0
  have d1 := hX.c1
  have d2 := hX.c2
  have d3 := hX.c3
  have fr := hX.fr 2
  have r0 := hX.r0
  have r1 := hX.r1
  have r2 := hX.r2
  have r3 := hX.r3
  have s0 := hX.fs 0
  have s1 := hX.fs 1
  have s2 := hX.fs 2
  have s3 := hX.fs 3
  have HX := Lib.hid hX
  clear hX
  go_wp2_with fail
  refine wp_loop_rounds 1 ?_
  rw [rounds_succ]
  go_wp2_with fail
  (try simp only [Exit.inBlock, Exit.then])
  refine bodyPost_ret (results_cell_row (p := 2) (ty := 28) rfl _ _ (w.heap.size + 1) 28 _ (0, 0) _ rfl HX.out.fin.1 Tryd.underlying28 rfl (by kernel_rfl)) rfl ?_
  exact ⟨rfl, HX.out.fin.2⟩
end Go.Proofs.YtjcbohpemfmpiaaDoor.headGet
