/- Proved: stillroomlaw16.HeadGet returns true, as its tied card says it. Conditions: the two tables that the row lists hold what the program lays, which the card ties to the program's text; none else. -/
import Derived.Test.YtjcbohpemfmpiaaDoorCards
import Derived.Test.YtjcbohpemfmpiaaDoorTie
import Derived.WalkKit
import Derived.ProofKit
import Derived.OpenShut
import Derived.Deep.DeepHandedRow
import Derived.KernelRfl
import Derived.Test.YtjcbohpemfmpiaaDoorT
import Derived.Carry
import Derived.ShutString
import Derived.ChangeMaps5
import Derived.Deep.Slices
import Derived.Test.YtjcbohpemfmpiaaDoorHw
import Derived.Test.YtjcbohpemfmpiaaDoorHeadGetC
namespace Go.Proofs.YtjcbohpemfmpiaaDoor.headGet
open Go.ChangeMaps Go.Hg Go.Ev Go.Ev.YtjcbohpemfmpiaaDoor Go.ChangeShapes Go.WideShapes Go.ChangeAt Go.RowKit
set_option maxRecDepth 100000
set_option linter.unusedVariables false
theorem own : ownKnob Tryd.prog.godebug = none := by kernel_rfl
theorem mixed : Tryd.prog.follows .mixedOrders = true := by kernel_rfl
theorem run : rTrue (call2 tab 100 (fnKey 6) [] hempty n00) = true := by kernel_rfl
theorem begun (w : World) : Calls Tryd.prog 6 #[] w fun e w' => e = .returned (.bool true) ∧ Below w.heap.size w w' :=
  law2_call oneS mixed tab_ok Tryd.func6 (by kernel_rfl) (by kernel_rfl) run (rels_nil.2 rfl) w
theorem cell_block' {w : World} {a : Addr} {v : Value} (h : w.cell? a = some v) : ∃ b o, a = ⟨b, o, none⟩ := by
  obtain ⟨b, o, sp⟩ := a
  unfold World.cell? at h
  simp only at h
  split at h
  · split at h
    · cases h
    · rename_i hs
      cases sp with
      | none => exact ⟨b, o, rfl⟩
      | some x => exact absurd rfl hs
  · cases h
theorem open_fields {P : Program} {H : Type} {enc : TypeId × Value → H} {w : World} {base : Nat} {spare : Nat → Bool} {held : Bool} {fuel : Nat} {t e : TypeId} {cs : List Value} {x : DataW H × List MemPlace} {f0 f1 : Field}
    (ht : P.underlying t = some (.slice e)) (he : P.underlying e = some (.struct #[f0, f1])) (h0 : P.underlying f0.type = some .string) (h1 : P.underlying f1.type = some .string)
    (o0 : f0.offset = 0) (o1 : f1.offset = 1) (c0 : P.cellsOf f0.type = 1) (c1 : P.cellsOf f1.type = 1) (ce : P.cellsOf e = 2) (h : DataW.trod enc P w base spare held fuel t cs = some x) :
    ∃ a len cap, cs = [.slice a len cap] ∧ len ≤ cap ∧ cap ≤ maxLen ∧ (1 ≤ len → ∃ (b o : Nat) (N V : Nat → ByteArray), a = some ⟨b, o, none⟩ ∧ b < w.heap.size ∧ HoldsF w b o len N V) := by
  rcases Go.Deep.open_slice ht h with ⟨hc, _⟩ | ⟨a, len, cap, m, n, D, Pl, hc, _, hl, hm, hmm, _, hx⟩
  · exact ⟨none, 0, 0, hc, Nat.le_refl _, Nat.zero_le _, fun h => by omega⟩
  · refine ⟨some a, len, cap, hc, hl, hm, fun hpos => ?_⟩
    have hlm : len ≤ m := by rw [hmm]; split <;> omega
    have key : ∀ i, i < len → ∃ z0 z1, w.cell? (a.add (i * 2)) = some (.string z0) ∧ w.cell? (a.add (i * 2 + 1)) = some (.string z1) := fun i hi => by
      obtain ⟨cs', e1, e2⟩ := hx i (by omega)
      rw [ce] at e1
      obtain ⟨_, hlen, hcell⟩ := World.cells?_some e1
      obtain ⟨y0, y1, n', _, _, t0, t1⟩ := Go.ChangeShapes.trod_struct2 he e2
      rw [o0, c0] at t0
      rw [o1, c1] at t1
      match cs', hlen with
      | [v0, v1], _ =>
        obtain ⟨z0, ez0, _⟩ := DataW.trod_string h0 t0
        obtain ⟨z1, ez1, _⟩ := DataW.trod_string h1 t1
        simp at ez0 ez1
        subst ez0 ez1
        have q0 := hcell 0 (by omega)
        have q1 := hcell 1 (by omega)
        rw [Go.Deep.add_add] at q0 q1
        exact ⟨z0, z1, q0, q1⟩
    obtain ⟨z, _, hz, _⟩ := key 0 hpos
    have hz : w.cell? a = _ := hz
    obtain ⟨b, o, rfl⟩ := cell_block' hz
    have hb := World.block_lt_of_cell? w _ hz
    have ad : ∀ j, (⟨b, o, none⟩ : Addr).add j = ⟨b, o + j, none⟩ := fun j => by unfold Addr.add; split <;> simp_all
    have key2 : ∀ i, i < len → ∃ z0 z1, w.cell? ⟨b, o + i * 2, none⟩ = some (.string z0) ∧ w.cell? ⟨b, o + i * 2 + 1, none⟩ = some (.string z1) := fun i hi => by
      obtain ⟨z0, z1, q0, q1⟩ := key i hi
      rw [ad] at q0 q1
      rw [← Nat.add_assoc] at q1
      exact ⟨z0, z1, q0, q1⟩
    refine ⟨b, o, fun i => if h : i < len then (key2 i h).choose else ⟨#[]⟩, fun i => if h : i < len then (key2 i h).choose_spec.choose else ⟨#[]⟩, rfl, hb, fun i hi => ?_⟩
    have := (key2 i hi).choose_spec.choose_spec
    simp only [dif_pos hi]
    exact this
theorem contract (H : Type) (enc : TypeId × Value → H) (W : World) (base : Nat) (args : Array Value) (ds gs : List (DataW H)) (before : List MemPlace)
    (hval : ∀ (j : Nat) t v, Tryd.f4.params[j]? = some t → args[j]? = some v → Value.okWide Tryd.prog W .any base t v)
    (hW : DataW.Whole enc Tryd.prog Tryd.f4.params.toList Rows.headGetSpec.vars false W args.toList ds gs before) :
    Calls Tryd.prog 4 args W fun e W' => ∃ v, e = .returned v ∧ Rows.headGetSpec.post enc Tryd.prog Tryd.f4 false true false false W args v W' := by
  have hW' := hW
  have hlt := fun p (hp : p ∈ before) => hW.lt p hp
  obtain ⟨p, q, hA0, hV, rfl, hfz, hnd⟩ := hW
  have hA : DataW.TrodAll enc Tryd.prog W 0 (fun _ => true) true Tryd.f4.params.toList args.toList ds p := hA0
  rw [Tryd.params4] at hA hval
  obtain ⟨v0, vs0, d0, ds0, p0, q0, hargs, rfl, rfl, h0, r0⟩ := trodAll_cons hA
  obtain ⟨v1, vs1, d1, ds1, p1, q1, rfl, rfl, rfl, h1, r1⟩ := trodAll_cons r0
  obtain ⟨rfl, rfl, rfl⟩ := trodAll_nil r1
  obtain rfl : args = #[v0, v1] := by cases args; simp_all
  obtain ⟨rfl, rfl⟩ := trodVars_none hV
  obtain ⟨s, rfl, rfl, rfl, hsm⟩ := open_string Tryd.underlying9 (hval 1 9 v1 rfl rfl) h1
  obtain ⟨sa, sl, sc, rfl⟩ := okWide_slice Tryd.underlying26 (hval 0 26 v0 rfl rfl)
  have hs : sl ≤ sc ∧ sc ≤ maxLen ∧ (1 ≤ sl → ∃ (b o : Nat) (N V : Nat → ByteArray), sa = some ⟨b, o, none⟩ ∧ b < W.heap.size ∧ HoldsF W b o sl N V) := by
    obtain ⟨fuel, hf⟩ := h0
    obtain ⟨a, len, cap, hc, hl, hm, hx⟩ := open_fields Tryd.underlying26 Tryd.underlying46 (by kernel_rfl) (by kernel_rfl) (by kernel_rfl) (by kernel_rfl) (by kernel_rfl) (by kernel_rfl) (by kernel_rfl) hf
    simp [Value.cells] at hc
    obtain ⟨rfl, rfl, rfl⟩ := hc
    exact ⟨hl, hm, hx⟩
  clear hA0
  simp only [List.append_nil] at hW' hlt
  refine (walk_all sa sl sc s W (begun W) hs.1 hs.2.1 hs.2.2).mono fun e W' ⟨he, hg⟩ => ?_
  subst he
  exact ⟨_, rfl, post_of_fresh (pa := p0 ++ ([] ++ [])) (pv := []) hW' (fun _ _ _ => (trodAll_cons_mk (shut_bool Tryd.underlying4 _) trodAll_mk0)) (fun sp hsp => (trodAll_cons_mk (Go.WideElems.Trod_stays (by kernel_rfl) (by kernel_rfl) (of_decide_eq_true (by kernel_rfl)) h0 (fun x hx => hg.same (hlt x hx)) hsp) (trodAll_cons_mk (shut_string Tryd.underlying9 hsm) trodAll_mk0))) (fun _ _ => rfl) (by simp) hg (ok_one (by kernel_rfl) rfl (okWide_bool_mk Tryd.underlying4 _))⟩
noncomputable def laidWorld (os : Os) : World :=
  { World.holding Tryd.prog os ⟨#[], #[], []⟩ with heap := (((World.holding Tryd.prog os ⟨#[], #[], []⟩).heap.modify 5 fun
      | .cells _ t frozen => .cells #[.int .u8 128, .int .u8 191, .int .u8 160, .int .u8 191, .int .u8 128, .int .u8 159, .int .u8 144, .int .u8 191, .int .u8 128, .int .u8 143, .int .u8 0, .int .u8 0, .int .u8 0, .int .u8 0, .int .u8 0, .int .u8 0, .int .u8 0, .int .u8 0, .int .u8 0, .int .u8 0, .int .u8 0, .int .u8 0, .int .u8 0, .int .u8 0, .int .u8 0, .int .u8 0, .int .u8 0, .int .u8 0, .int .u8 0, .int .u8 0, .int .u8 0, .int .u8 0] t frozen
      | o => o).modify 4 fun
      | .cells _ t frozen => .cells (Pinned.utf8FirstZ.map fun (n : Nat) => Value.int .u8 (n : Int)).toArray t frozen
      | o => o) }
theorem laid_met (os : Os) : laidMet Tryd.prog Rows.headGetRow.laid ((laidWorld os).forCall (fun _ _ => 0) ⟨#[], #[.slice none 0 0, .string ⟨#[]⟩], []⟩).memory :=
  laidMet_of_run' 8 (by kernel_rfl) (by kernel_rfl)
theorem reads (os : Os) {H : Type} (enc : TypeId × Value → H) : ∃ places, DataW.whole enc Tryd.prog ((laidWorld os).forCall (fun _ _ => 0) ⟨#[], #[.slice none 0 0, .string ⟨#[]⟩], []⟩).memory Tryd.f4.params.toList Rows.headGetSpec.vars false (#[.slice none 0 0, .string ⟨#[]⟩] : Array Value).toList 8 = some ([.nil, .lit (.string [])], [], places) :=
  ⟨[], by kernel_rfl⟩
theorem lifted (os : Os) (started : os.Started) (H : Type) (enc : TypeId × Value → H) (F : Stop.Interp) :
    ReturnsInHanded {} Tryd.checked os 4 .any ((OpenSpec.ofChange Rows.headGetSpec).preRow enc Tryd.prog Tryd.f4 Rows.headGetRow.domain false Rows.headGetRow.laid) (((OpenSpec.ofChange Rows.headGetSpec).at F).post enc Tryd.prog Tryd.f4 false true false false) := by
  obtain ⟨places, hx⟩ := reads os enc
  refine returnsInHanded_of_row (C := Tryd.checked) (s := OpenSpec.ofChange Rows.headGetSpec) own started (by kernel_rfl) Tryd.func4
    (witness_row_at (enc := enc) (C := Tryd.checked) false (laidWorld os) #[.slice none 0 0, .string ⟨#[]⟩] rfl (by kernel_rfl) (by kernel_rfl) (by kernel_rfl)
      (OpenSpec.preRow_of_cond 8 hx (by kernel_rfl) (fun k hk => by cases hk) (by kernel_rfl) (laid_met os))) ?_
  intro W base args ds gs before hval hW _ _ _ hL hsh _
  exact contract H enc W base args ds gs before hval hW
theorem said : Rows.HeadGetSaid :=
  OpenClaim.holds_of_cond 4 Tryd.f4 rfl rfl rfl rfl rfl rfl rfl ⟨rfl, rfl, rfl, rfl, rfl⟩ rfl rfl rfl rfl rfl (by kernel_rfl) Tryd.func4 closed
    (of_decide_eq_true (by kernel_rfl)) (by unfold Func.isWrapper; first | (rw [if_pos (by decide +kernel)]; kernel_rfl) | (rw [if_neg (by decide +kernel)]; exact ⟨rfl, rfl⟩))
    (fun os started H enc _ F => by rw [OpenClaim.pre_eq_preRow]; exact lifted os started H enc F)
theorem plain (f : FuncId) (fn : Func) (hf : Tryd.pinned.checked.prog.funcNamed "stillroom/stillroomlaw16.HeadGet" = some f) (hfn : Tryd.pinned.checked.prog.funcs[f]? = some fn) :
    false = Tryd.pinned.checked.prog.looks [] ∧ ∀ (j : Nat) t, fn.params[j]? = some t → Tryd.pinned.checked.prog.wantsStandIn t = false := by
  obtain rfl : f = 4 := Option.some.inj ((show Tryd.prog.funcNamed "stillroom/stillroomlaw16.HeadGet" = some 4 by kernel_rfl).symm.trans hf) |>.symm
  obtain rfl : fn = Tryd.f4 := (Option.some.inj (Tryd.func4.symm.trans hfn)).symm
  refine ⟨by kernel_rfl, fun j t ht => ?_⟩
  rw [Tryd.params4] at ht
  rcases j with _ | _ | j
  · obtain rfl := (Option.some.inj ht : 26 = t)
    exact (show Tryd.pinned.checked.prog.wantsStandIn 26 = false by kernel_rfl)
  · obtain rfl := (Option.some.inj ht : 9 = t)
    exact (show Tryd.pinned.checked.prog.wantsStandIn 9 = false by kernel_rfl)
  · simp at ht
theorem g0 : ((Tryd.prog.funcs.toList).all fun fn => !fn.goes) = true := by kernel_rfl
theorem goes : false = Rows.headGetRow.goesBy Tryd.pinned.checked.prog :=
  (goes_no (P := Tryd.pinned.checked.prog) (g0) _).symm
/-- ████ THE CARD ████ -/
theorem proved : Rows.HeadGetCardSaid :=
  Claim7.holds_tied_plain_at .later [] _ _ _ _ said (fun _ h => by cases h) (by kernel_rfl) (fun _ h => by cases h) headGet_row_tie rfl ⟨rfl, rfl⟩ (by kernel_rfl) rfl plain goes
#print axioms proved
end Go.Proofs.YtjcbohpemfmpiaaDoor.headGet
