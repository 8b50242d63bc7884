/- A body in chunks read, walked. -/
import Derived.Test.YtjcbohpemfmpiaaDoorHo
namespace Go.Proofs.YtjcbohpemfmpiaaDoor.bodyLong
set_option linter.unusedVariables false
set_option linter.unusedSimpArgs false
open Go.ChangeShapes Go.WideShapes Go.ChangeAt Go.RowKit Go.Hl Go.Hg headLong
/-- What a reading comes to. -/
def BOut (o : Option (List UInt8)) (en : Nat) : Value := match o with
  | some t => .tuple #[.string ⟨t.toArray⟩, .int .i64 en, .int .i64 0]
  | none => .tuple #[.string ⟨#[]⟩, .int .i64 0, .int .i64 9]
set_option maxRecDepth 100000 in
set_option maxHeartbeats 1600000 in
theorem read_ (bs : List UInt8) (cs : List (List Nat × List UInt8)) (bb cap : Nat) (w : World) (hH : HoldsB w bb 0 bs) (hC : Chunked bs 0 cs) (hb : bb < w.heap.size) (hc : bs.length ≤ cap) (hl : bs.length ≤ 20000) :
    Calls Tryd.prog 15 #[.agg #[.bool true, .int .i64 0], .slice (some ⟨bb, 0, none⟩) bs.length cap] w fun e w' => e = .returned (BOut (outC [] cs) (endC 0 cs)) ∧ Below w.heap.size w w' := by
  have LC := fun (y : World) (B : Nat) (h : RH y B bb cap 0 bs) (hB : bb < B) => chunks_ bs cs B bb cap y h hC hB hc hl
  have HH := Lib.hid hH
  clear hH hC
  go_enter Tryd.func15, Tryd.ntmps15
  go_wp2_with fail
  have hA := heap_alloc_new (w.alloc (Obj.cells #[Value.bool true, Value.int IntKind.i64 0] 36)) (Obj.cells #[Value.slice (some ⟨bb, 0, none⟩) bs.length cap, Value.int IntKind.i64 0, Value.int IntKind.i64 0] 54)
  have hs : (w.alloc (Obj.cells #[Value.bool true, Value.int IntKind.i64 0] 36)).heap.size = w.heap.size + 1 := by simp
  have hB0 : Below w.heap.size w ((w.alloc (Obj.cells #[Value.bool true, Value.int IntKind.i64 0] 36)).alloc (Obj.cells #[Value.slice (some ⟨bb, 0, none⟩) bs.length cap, Value.int IntKind.i64 0, Value.int IntKind.i64 0] 54)) := ((Below.refl _ w).alloc (Nat.le_refl _) _).alloc (by simp) _
  rw [hs] at hA
  refine (LC _ (w.heap.size + 1) ⟨hA, HH.out.below hB0 hb⟩ (by omega)).mono ?_
  intro e w2 hr
  obtain ⟨hb2, hout⟩ := hr
  have K2 := Lib.hid (hB0.trans (hb2.mono (Nat.le_succ _)))
  clear hB0 hb2 hA hs LC HH
  cases ho : outC [] cs with
  | none =>
    rw [ho] at hout
    obtain ⟨rfl, a, hx, _⟩ := hout
    obtain ⟨x0, x1, x2, y1, y2, hB⟩ := hx.facts
    clear hx
    have HO := Lib.hid ho
    clear ho
    go_wp2_with fail
    go_quiet (fail)
    go_wp2_with fail
    go_ret3
    refine ⟨?_, Below.drewN' K2.out nq⟩
    rw [HO.out]
    rfl
  | some t =>
    rw [ho] at hout
    obtain ⟨rfl, hx, _⟩ := hout
    obtain ⟨x0, x1, x2, y1, y2, hB⟩ := hx.facts
    clear hx
    have HO := Lib.hid ho
    clear ho
    go_wp2_with fail
    go_quiet (fail)
    go_wp2_with fail
    go_ret3
    refine ⟨?_, Below.drewN' K2.out nq⟩
    rw [HO.out]
    rfl
end Go.Proofs.YtjcbohpemfmpiaaDoor.bodyLong
