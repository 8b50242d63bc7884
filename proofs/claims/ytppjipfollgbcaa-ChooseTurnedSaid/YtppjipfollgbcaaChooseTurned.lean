/- Proved: stillroomlaw13.ChooseTurned returns true for all its arguments, and its arguments read afterwards as before. Conditions: none beyond those of the given row. -/
import Derived.Test.YtppjipfollgbcaaRows
import Derived.WalkKit
import Derived.ProofKit
import Derived.OpenShut
import Derived.Carry
import Derived.KernelRfl
import Derived.Deep.Slices
import Derived.Deep.Strs
import Derived.Test.YtppjipfollgbcaaCw
namespace Go.Proofs.Ytppjipfollgbcaa.chooseTurned
open Go.ChangeShapes Go.WideShapes Go.ChangeAt Go.RowKit
set_option maxRecDepth 100000
set_option linter.unusedVariables false
theorem own : ownKnob Try.prog.godebug = none := by kernel_rfl
theorem cell_block {w : World} {a : Addr} {v : Value} (h : w.cell? a = some v) : ∃ b o, a = ⟨b, o, none⟩ := by
  obtain ⟨b, o, sp⟩ := a
  unfold World.cell? at h
  simp only at h
  split at h
  · split at h
    · cases h
    · rename_i hs
      cases sp with
      | none => exact ⟨b, o, rfl⟩
      | some x => exact absurd rfl hs
  · cases h
theorem wf_64 {z : Int} (h : (Lit.int .i64 z).wf = true) : -9223372036854775808 ≤ z ∧ z ≤ 9223372036854775807 := by
  simp [Lit.wf, IntKind.min, IntKind.max, IntKind.signed, IntKind.bits] at h
  omega
theorem open_uses {P : Program} {H : Type} {enc : TypeId × Value → H} {w : World} {base : Nat} {spare : Nat → Bool} {held : Bool} {fuel : Nat} {t e : TypeId} {cs : List Value} {x : DataW H × List MemPlace} {f0 f1 f2 : Field}
    (ht : P.underlying t = some (.slice e)) (he : P.underlying e = some (.struct #[f0, f1, f2])) (h1 : P.underlying f1.type = some (.int .i64)) (h2 : P.underlying f2.type = some (.int .i64))
    (o1 : f1.offset = 1) (o2 : f2.offset = 2) (c1 : P.cellsOf f1.type = 1) (c2 : P.cellsOf f2.type = 1) (ce : P.cellsOf e = 3) (h : DataW.trod enc P w base spare held fuel t cs = some x) :
    ∃ a len cap, cs = [.slice a len cap] ∧ len ≤ cap ∧ cap ≤ maxLen ∧ (1 ≤ len → ∃ (b o : Nat) (S L : Nat → Int), a = some ⟨b, o, none⟩ ∧ b < w.heap.size ∧ ∀ i, i < len → w.cell? ⟨b, o + i * 3 + 1, none⟩ = some (.int .i64 (S i)) ∧ w.cell? ⟨b, o + i * 3 + 2, none⟩ = some (.int .i64 (L i))) := by
  rcases Go.Deep.open_slice ht h with ⟨hc, _⟩ | ⟨a, len, cap, m, n, D, Pl, hc, _, hl, hm, hmm, _, hx⟩
  · exact ⟨none, 0, 0, hc, Nat.le_refl _, Nat.zero_le _, fun h => by omega⟩
  · refine ⟨some a, len, cap, hc, hl, hm, fun hpos => ?_⟩
    have hlm : len ≤ m := by rw [hmm]; split <;> omega
    have key : ∀ i, i < len → ∃ z1 z2, w.cell? (a.add (i * 3 + 1)) = some (.int .i64 z1) ∧ w.cell? (a.add (i * 3 + 2)) = some (.int .i64 z2) := fun i hi => by
      obtain ⟨cs', e1, e2⟩ := hx i (by omega)
      rw [ce] at e1
      obtain ⟨_, hlen, hcell⟩ := World.cells?_some e1
      obtain ⟨y0, y1, y2, n', _, _, _, t1, t2⟩ := Go.Deep.trod_struct3 he e2
      rw [o1, c1] at t1
      rw [o2, c2] at t2
      match cs', hlen with
      | [v0, v1, v2], _ =>
        obtain ⟨z1, ez1, _⟩ := DataW.trod_int h1 t1
        obtain ⟨z2, ez2, _⟩ := DataW.trod_int h2 t2
        simp at ez1 ez2
        subst ez1 ez2
        have q1 := hcell 1 (by omega)
        have q2 := hcell 2 (by omega)
        rw [Go.Deep.add_add] at q1 q2
        exact ⟨z1, z2, q1, q2⟩
    obtain ⟨cs', e1, _⟩ := hx 0 (by omega)
    rw [ce] at e1
    obtain ⟨_, hlen, hcell⟩ := World.cells?_some e1
    have hz := hcell 0 (by omega)
    rw [List.getElem?_eq_getElem (by omega)] at hz
    obtain ⟨b, o, sp⟩ := a
    obtain ⟨b', o', ea⟩ := cell_block hz
    have : sp = none := by
      cases sp with
      | none => rfl
      | some s => exact absurd (congrArg Addr.spot ea) (by show ¬ (some s = none); intro h; cases h)
    subst this
    have hb := World.block_lt_of_cell? w _ hz
    have ad : ∀ j, (⟨b, o, none⟩ : Addr).add j = ⟨b, o + j, none⟩ := fun j => by simp [Addr.add]
    have key2 : ∀ i, i < len → ∃ z1 z2, w.cell? ⟨b, o + i * 3 + 1, none⟩ = some (.int .i64 z1) ∧ w.cell? ⟨b, o + i * 3 + 2, none⟩ = some (.int .i64 z2) := fun i hi => by
      obtain ⟨z1, z2, q1, q2⟩ := key i hi
      rw [ad, ← Nat.add_assoc] at q1 q2
      exact ⟨z1, z2, q1, q2⟩
    refine ⟨b, o, fun i => if h : i < len then (key2 i h).choose else 0, fun i => if h : i < len then (key2 i h).choose_spec.choose else 0, rfl, by rw [ad] at hb; exact hb, fun i hi => ?_⟩
    have := (key2 i hi).choose_spec.choose_spec
    simp only [dif_pos hi]
    exact this
theorem walk_all (a : Option Addr) (len cap : Nat) (turn : Int) (w : World) (hlc : len ≤ cap) (hm : cap ≤ maxLen) (wt : (Lit.int .i64 turn).wf = true)
    (h : 1 ≤ len → ∃ (b o : Nat) (S L : Nat → Int), a = some ⟨b, o, none⟩ ∧ b < w.heap.size ∧ ∀ i, i < len → w.cell? ⟨b, o + i * 3 + 1, none⟩ = some (.int .i64 (S i)) ∧ w.cell? ⟨b, o + i * 3 + 2, none⟩ = some (.int .i64 (L i))) :
    Calls Try.prog 3 #[.slice a len cap, .int .i64 turn] w fun e w' => e = .returned (.bool true) ∧ Below w.heap.size w w' := by
  by_cases h0 : len = 0 ∨ turn < 0
  · exact walk0 a len cap turn w h0
  · obtain ⟨b, o, S, L, rfl, hb, hH⟩ := h (by omega)
    have hw := wf_64 wt
    have hmx : maxLen = 9223372036854775807 := rfl
    exact walk b o len cap S L turn w (by omega) hw.2 (by omega) (by omega) hb hH
theorem post_of_fresh {H : Type} {enc : TypeId × Value → H} {P : Program} {f : Func} {s : ChangeSpec} {apart fresh handsOn again : Bool} {W W' : World} {args : Array Value} {v : Value} {ds gs : List (DataW H)} {before pa pv : List MemPlace}
    (hW : DataW.Whole enc P f.params.toList s.vars apart W args.toList ds gs before)
    (hres : ∀ (b : Nat) (sp : Nat → Bool) (hd : Bool), DataW.TrodAll enc P W' b sp hd f.resultTypes.toList (v.resultList f.resultTypes.size) (s.fn H (ds ++ gs)).results [])
    (hargs : ∀ sp : Nat → Bool, (∀ p ∈ before, sp p.block = true) → DataW.TrodAll enc P W' 0 sp true f.params.toList args.toList (s.fn H (ds ++ gs)).args pa)
    (hvars : ∀ sp : Nat → Bool, (∀ p ∈ before, sp p.block = true) → DataW.TrodVars enc P W' sp s.vars (s.fn H (ds ++ gs)).vars pv)
    (hps : before = pa ++ pv) (hb : Below W.heap.size W W')
    (hok : ∀ (j : Nat) (t : TypeId) (r : Value), f.resultTypes[j]? = some t → (v.resultList f.resultTypes.size)[j]? = some r → Value.okWide P W' .any 0 t r) :
    s.post enc P f apart fresh handsOn again W args v W' := by
  have hlt := fun p (hp : p ∈ before) => hW.lt p hp
  have hold : ∀ p ∈ before, (fun b => decide (b < W.heap.size)) p.block = true := fun p hp => decide_eq_true (hlt p hp)
  refine ⟨ds, gs, before, [], pa, pv, hW, hres _ _ _, hargs _ hold, hvars _ hold, World.keptBut_mono (fun p hp => ⟨hp, Or.inr (by rw [hps] at hp; exact List.mem_append.1 hp)⟩) (hb.frame (· ∈ before)), fun _ => ?_⟩
  obtain ⟨_, _, _, _, _, hz, hn⟩ := hW
  refine ⟨hok, _, _, ([] ++ pa) ++ pv, ⟨[] ++ pa, pv, trodAll_append (hargs _ (fun _ _ => rfl)) (hres _ _ _), hvars _ (fun _ _ => rfl), rfl, fun b off hp => ?_, fun ha => ?_⟩, fun p hp _ => ?_⟩
  · have hin : MemPlace.cell b off ∈ before := by rw [hps]; simpa using hp
    rw [hb.frozen (hlt _ hin)]; exact hz b off hin
  · have := hn ha; rw [hps] at this; simpa using this
  · rw [hps]; simpa using hp
theorem lifted (os : Os) (started : os.Started) (H : Type) (enc : TypeId × Value → H) :
    ReturnsInHanded {} Try.checked os 3 .any (Rows.chooseTurnedSpec.pre6 enc Try.prog Try.f3 Rows.chooseTurnedRow.domain false) (Rows.chooseTurnedSpec.post enc Try.prog Try.f3 false true false false) := by
  refine returnsInHanded_of_change (C := Try.checked) own started (by kernel_rfl) Try.func3
    (ChangeSpec.witness6 (enc := enc) (C := Try.checked) false ⟨#[], #[.slice none 0 0, .int .i64 0], []⟩ 8 (by kernel_rfl) (by kernel_rfl) (by kernel_rfl) (by kernel_rfl)) ?_
  intro W base args ds gs before hval0 hW hcnd _
  have hval : ∀ (j : Nat) t v, Try.f3.params[j]? = some t → args[j]? = some v → Value.okWide Try.prog W .any base t v := hval0
  have hW' := hW
  have hlt := fun p (hp : p ∈ before) => hW.lt p hp
  obtain ⟨p, q, hA0, hV, rfl, hfz, hnd⟩ := hW
  have hA : DataW.TrodAll enc Try.prog W 0 (fun _ => true) true Try.f3.params.toList args.toList ds p := hA0
  rw [Try.params3] at hA hval
  obtain ⟨v0, vs0, d0, ds0, p0, q0, hargs, rfl, rfl, h0, r0⟩ := trodAll_cons hA
  obtain ⟨v1, vs1, d1, ds1, p1, q1, rfl, rfl, rfl, h1, r1⟩ := trodAll_cons r0
  obtain ⟨rfl, rfl, rfl⟩ := trodAll_nil r1
  obtain rfl : args = #[v0, v1] := by cases args; simp_all
  obtain ⟨rfl, rfl⟩ := trodVars_none hV
  obtain ⟨a1, rfl, rfl, rfl, w1⟩ := open_int Try.underlying3 (hval 1 3 v1 rfl rfl) h1
  obtain ⟨sa, sl, sc, rfl⟩ := okWide_slice Try.underlying22 (hval 0 22 v0 rfl rfl)
  have hs : sl ≤ sc ∧ sc ≤ maxLen ∧ (1 ≤ sl → ∃ (b o : Nat) (S L : Nat → Int), sa = some ⟨b, o, none⟩ ∧ b < W.heap.size ∧ ∀ i, i < sl → W.cell? ⟨b, o + i * 3 + 1, none⟩ = some (.int .i64 (S i)) ∧ W.cell? ⟨b, o + i * 3 + 2, none⟩ = some (.int .i64 (L i))) := by
    obtain ⟨fuel, hf⟩ := h0
    obtain ⟨a, len, cap, hc, hl, hm, hx⟩ := open_uses Try.underlying22 Try.underlying26 (by kernel_rfl) (by kernel_rfl) (by kernel_rfl) (by kernel_rfl) (by kernel_rfl) (by kernel_rfl) (by kernel_rfl) hf
    simp [Value.cells] at hc
    obtain ⟨rfl, rfl, rfl⟩ := hc
    exact ⟨hl, hm, hx⟩
  clear hA0 hval0
  simp only [List.append_nil] at hW' hlt
  refine (walk_all sa sl sc a1 W hs.1 hs.2.1 w1 hs.2.2).mono fun e W' ⟨he, hg⟩ => ?_
  subst he
  exact ⟨_, rfl, post_of_fresh (pa := p0 ++ ([] ++ [])) (pv := []) hW' (fun _ _ _ => (trodAll_cons_mk (shut_bool Try.underlying4 _) trodAll_mk0)) (fun sp hsp => (trodAll_cons_mk (Go.WideElems.Trod_stays (by kernel_rfl) (by kernel_rfl) (of_decide_eq_true (by kernel_rfl)) h0 (fun x hx => hg.same (hlt x hx)) hsp) (trodAll_cons_mk (shut_int Try.underlying3 w1) trodAll_mk0))) (fun _ _ => rfl) (by simp)
    hg (ok_one (by kernel_rfl) rfl (okWide_bool_mk Try.underlying4 _))⟩
theorem over : Rows.chooseTurnedRow.holds Try.pinned (OpenSpec.ofChange Rows.chooseTurnedSpec) :=
  OpenClaim.holds_of_wide 3 Try.f3 rfl rfl rfl rfl rfl rfl rfl ⟨rfl, rfl, rfl, rfl, rfl⟩ rfl rfl rfl rfl rfl (by kernel_rfl) Try.func3 (by kernel_rfl)
    (of_decide_eq_true (by kernel_rfl)) (by unfold Func.isWrapper; first | (rw [if_pos (by decide +kernel)]; kernel_rfl) | (rw [if_neg (by decide +kernel)]; exact ⟨rfl, rfl⟩))
    (fun os started H enc _ => lifted os started H enc)
theorem proved : Rows.ChooseTurnedSaid :=
  over
#print axioms proved
end Go.Proofs.Ytppjipfollgbcaa.chooseTurned
