/- A message told, walked. -/
import Derived.Test.YtbckflbaabhpfaaDoorHn
namespace Go.Proofs.YtbckflbaabhpfaaDoor.headLong
set_option linter.unusedVariables false
set_option linter.unusedSimpArgs false
open Go.ChangeShapes Go.WideShapes Go.ChangeAt Go.RowKit Go.Hl Go.Hg
theorem fcells_at : ∀ (fs : List (List UInt8 × List UInt8)) (i : Nat) (f : List UInt8 × List UInt8), fs[i]? = some f → (fcells fs)[i * 2]? = some (.string ⟨f.1.toArray⟩) ∧ (fcells fs)[i * 2 + 1]? = some (.string ⟨f.2.toArray⟩)
  | [], i, f, h => by simp at h
  | g :: fs, 0, f, h => by
    simp only [List.getElem?_cons_zero, Option.some.injEq] at h
    subst h
    exact ⟨rfl, rfl⟩
  | g :: fs, i + 1, f, h => by
    simp only [List.getElem?_cons_succ] at h
    have e1 : (i + 1) * 2 = i * 2 + 1 + 1 := by omega
    rw [e1]
    exact fcells_at fs i f h
theorem holds_own {w : World} {base g n c : Nat} {fs : List (List UInt8 × List UInt8)} (h : w.ownsRow base 46 2 (.slice (some ⟨g, 0, none⟩) n c) n (fcells fs)) (hl : fs.length = n) :
    HoldsF w g n (fun i => ⟨(fs[i]?.getD ([], [])).1.toArray⟩) (fun i => ⟨(fs[i]?.getD ([], [])).2.toArray⟩) := fun i hi => by
  obtain ⟨f, hf⟩ : ∃ f, fs[i]? = some f := ⟨_, List.getElem?_eq_getElem (by omega)⟩
  obtain ⟨h1, h2⟩ := fcells_at fs i f hf
  have e : ∀ j, (⟨g, 0, none⟩ : Addr).add j = ⟨g, j, none⟩ := fun j => by unfold Addr.add; by_cases h : j = 0 <;> simp [h]
  have c1 := h.cells rfl _ _ h1
  have c2 := h.cells rfl _ _ h2
  rw [e] at c1 c2
  refine ⟨?_, ?_⟩
  · show _ = some (Value.string ⟨(fs[i]?.getD ([], [])).1.toArray⟩)
    rw [hf]; exact c1
  · show _ = some (Value.string ⟨(fs[i]?.getD ([], [])).2.toArray⟩)
    rw [hf]; exact c2
theorem eq_req {w : World} {b1 b2 : Nat} {v1 v2 : Value} (fs : List (List UInt8 × List UInt8)) (m t u : ByteArray) (h1 : w.ownsRow b1 46 2 v1 fs.length (fcells fs)) (h2 : w.ownsRow b2 46 2 v2 fs.length (fcells fs)) :
    Calls Tryd.prog 19 #[.agg #[.string m, .string t, v1, .string u], .agg #[.string m, .string t, v2, .string u]] w fun e w' => e = .returned (.bool true) ∧ Below w.heap.size w w' := by
  rcases Nat.eq_zero_or_pos fs.length with h0 | h0
  · obtain ⟨a1, c1, rfl⟩ := own_form h1
    obtain ⟨a2, c2, rfl⟩ := own_form h2
    rw [h0]
    exact eq_none m t u a1 a2 c1 c2 w
  · have k1 := h1
    have k2 := h2
    rcases h1.2 with ⟨_, e⟩ | ⟨g1, p1, u1, rfl, _, hh1, l1, m1, _⟩
    · omega
    · rcases h2.2 with ⟨_, e⟩ | ⟨g2, p2, u2, rfl, _, hh2, l2, m2, _⟩
      · omega
      · exact eq_some m t u g1 g2 _ p1 p2 _ _ w (holds_own k1 rfl) (holds_own k2 rfl) ((k1.lt g1 rfl).2) ((k2.lt g2 rfl).2) (by unfold maxLen at m1; omega) l1 l2
/-- What a reading comes to, in one form. -/
def res3 : Res → Rd × Nat × Int
  | .bad x => ({}, 0, x)
  | .ok r k => (r, k, 0)
theorem rout_one {w w' : World} {res : Res} {e : Ending} (h : ROut w res e w') : Below w.heap.size w w' ∧ ∃ a c, e = .returned (.tuple #[.agg #[.string ⟨(res3 res).1.m.toArray⟩, .string ⟨(res3 res).1.t.toArray⟩, .slice a (res3 res).1.fs.length c, .string ⟨#[]⟩], .int .i64 ((res3 res).2.1 : Nat), .int .i64 (res3 res).2.2]) ∧
    w'.ownsRow w.heap.size 46 2 (.slice a (res3 res).1.fs.length c) (res3 res).1.fs.length (fcells (res3 res).1.fs) := by
  obtain ⟨hB, ⟨x, rfl, rfl⟩ | ⟨r, k, vf, rfl, rfl, ho⟩⟩ := h
  · exact ⟨hB, none, 0, rfl, World.ownsRow_nil _ _ _ _⟩
  · obtain ⟨a, c, rfl⟩ := own_form ho
    exact ⟨hB, a, c, rfl, ho⟩
theorem four_cells {w : World} {R : Nat} {a b c d : Value} (h : w.heap[R]? = some (.cells #[a, b, c, d] 28 (0, 0))) : w.cell? ⟨R, 0, none⟩ = some a ∧ w.cell? ⟨R, 1, none⟩ = some b ∧ w.cell? ⟨R, 2, none⟩ = some c ∧ w.cell? ⟨R, 3, none⟩ = some d := by
  refine ⟨?_, ?_, ?_, ?_⟩ <;> (rw [blk_cell h]; rfl)
set_option maxRecDepth 8000 in
set_option maxHeartbeats 1600000 in
theorem tells_ (bs : List UInt8) (hn : bs.length ≤ 5000) (bb o cap : Nat) (mx : Int) (w : World) (hH : HoldsB w bb o bs) (hbb : bb < w.heap.size) (hm : w.cell? ⟨1, 0, none⟩ = some (.int .i64 mx)) (h1 : 1 < w.heap.size) (hcap : bs.length ≤ cap) :
    Calls Tryd.prog 7 #[.slice (some ⟨bb, o, none⟩) bs.length cap] w fun e w' => e = .returned (.bool true) ∧ Below w.heap.size w w' := by
  have H17 := head_read bs hn bb o cap mx w hH hbb hm h1 hcap
  have H18 := fun (y : World) (h : Below w.heap.size w y) => ref_read bs hn bb o cap y (hH.below h hbb) (Nat.lt_of_lt_of_le hbb h.size) hcap
  generalize read bs = res at H17 H18
  have HE := fun (y : World) b1 b2 v1 v2 h1 h2 => @eq_req y b1 b2 v1 v2 (res3 res).1.fs ⟨(res3 res).1.m.toArray⟩ ⟨(res3 res).1.t.toArray⟩ ⟨#[]⟩ h1 h2
  have R1 := fun w' e => @rout_one w w' res e
  have R2 := fun y w' e => @rout_one y w' res e
  generalize (res3 res).1.fs.length = n at HE R1 R2
  generalize (fcells (res3 res).1.fs) = xs at HE R1 R2
  generalize (⟨(res3 res).1.m.toArray⟩ : ByteArray) = m at HE R1 R2
  generalize (⟨(res3 res).1.t.toArray⟩ : ByteArray) = t at HE R1 R2
  generalize (res3 res).2.1 = k at R1 R2
  generalize (res3 res).2.2 = x at R1 R2
  clear hH hm
  go_enter Tryd.func7, Tryd.ntmps7
  go_wp2_with (first | (go_at_call 17; refine H17.mono ?_; intro e w1 hr; obtain ⟨hB1, a1, c1, rfl, ho1⟩ := R1 _ _ hr; have G1 := Lib.hid hB1; have O1 := Lib.hid ho1; clear hr hB1 ho1) | (go_at_call 18; refine (H18 _ (G1.out.alloc G1.out.size _)).mono ?_; intro e w2 hr; obtain ⟨hB2, a2, c2, rfl, ho2⟩ := R2 _ _ _ hr; have G2 := Lib.hid ((G1.out.alloc G1.out.size _).trans (hB2.mono (Nat.le_trans G1.out.size (by simp)))); have q := (hB2.block w1.heap.size (by simp)).trans (heap_alloc_new w1 _); have O3 := Lib.hid (own_below (O1.out.alloc _) hB2); have O2 := Lib.hid ho2; obtain ⟨z0, z1, z2, z3⟩ := four_cells q; have z5 : w1.heap.size < w2.heap.size := (by have := hB2.size; simp at this; omega); clear hr hB2 ho2 q) | (go_at_call 19; refine (HE _ _ _ _ _ (O3.out.alloc _) (O2.out.alloc _)).mono ?_; rintro e w3 ⟨rfl, hB3⟩; have G3 := Lib.hid ((G2.out.alloc G2.out.size _).trans (hB3.mono (Nat.le_trans G2.out.size (by simp)))); clear hB3) | fail)
  go_ret
  exact ⟨rfl, G3.out⟩
end Go.Proofs.YtbckflbaabhpfaaDoor.headLong
