/- AN EVALUATOR OF THE MODEL OF Go, PROVED SOUND, PART 2: what it says of a call holds in every world, on every tape. Conditions: none of its own; each theorem bears its premises. -/
import Derived.Test.YthjkpfnkahfdgaaDoorEv1
import Derived.Great.BuildSlice
import Derived.Laws.AppendOwn
import Derived.Laws.BytesString
import Derived.Laws.MakeOwn
noncomputable section
set_option linter.unusedSimpArgs false
set_option linter.unusedVariables false
namespace Go.Ev
set_option linter.unusedVariables false
section
variable {P : Program} {ρ : Env} {φ : Emb} {w : World}
theorem fieldsOf_eq {t : TypeId} {fs : Array Field} (h : P.underlying t = some (.struct fs)) : P.underlying t = some (.struct (P.fieldsOf t)) := by
  unfold Program.fieldsOf; rw [h]
theorem eqSt_good {t : TypeId} {fs : Array Field} {offs : List (Nat × Sc)} (ht : P.underlying t = some (.struct fs)) (hs : P.stoodInHeld t = false) (ho : cOffs P fs.toList = some offs)
    {x y : V} {κ : Bool → R} (h : (eqK (.st offs) x y κ).good) :
    ∃ r, (∀ κ', eqK (.st offs) x y κ' = κ' r) ∧ ∀ X Y d w, rel ρ φ x X → rel ρ φ y Y → (Op.equalIn (d + 2) t X Y).run P w = .ok r w ∧ ∃ a b, X = .agg a ∧ Y = .agg b := by
  obtain ⟨a, rfl, e⟩ := asAgg_good (show R.good (asAgg x _) from h)
  obtain ⟨b, rfl, e'⟩ := asAgg_good (show R.good (asAgg y _) from h)
  obtain ⟨r, g1, g2⟩ := eqAt_good (ρ := ρ) (φ := φ) ho (show R.good (eqAt offs a b κ) from h)
  refine ⟨r, fun κ' => g1 κ', fun X Y d w hX hY => ?_⟩
  obtain ⟨xs, rfl, hx, _⟩ := rel_agg hX
  obtain ⟨ys, rfl, hy, _⟩ := rel_agg hY
  refine ⟨?_, xs, ys, rfl, rfl⟩
  have hf : P.fieldsOf t = fs := by unfold Program.fieldsOf; rw [ht]
  rw [run_equalIn_struct w (d + 1) t xs ys (fieldsOf_eq ht) hs, hf]
  exact g2 xs ys d w hx hy
theorem eqPlan_good {t : TypeId} {pl : Plan} (hp : cPlan P t = some pl) {x y : V} {κ : Bool → R} (h : (eqK pl x y κ).good) :
    ∃ r, (∀ κ', eqK pl x y κ' = κ' r) ∧ ∀ X Y w, rel ρ φ x X → rel ρ φ y Y → (Op.equal t X Y).run P w = .ok r w := by
  unfold cPlan at hp
  split at hp
  · cases hp
    rename_i hu
    obtain ⟨r, g1, g2⟩ := eqSc_good (ρ := ρ) (φ := φ) (show R.good (eqSc .b x y κ) from h)
    exact ⟨r, fun κ' => g1 κ', fun X Y w hX hY => run_equalSc (by unfold cSc; rw [hu]) (g2 X Y hX hY) 9999⟩
  · rename_i fs hu
    split at hp
    · cases hp
    · rename_i hs
      cases ho : cOffs P fs.toList with
      | none => rw [ho] at hp; cases hp
      | some offs =>
        rw [ho] at hp; cases hp
        obtain ⟨r, g1, g2⟩ := eqSt_good (ρ := ρ) (φ := φ) hu (by simpa using hs) ho h
        exact ⟨r, g1, fun X Y w hX hY => (g2 X Y 9998 w hX hY).1⟩
  · rename_i e hu
    split at hp
    · rename_i s hs
      cases hp
      obtain ⟨r, g1, g2⟩ := refK_good (P := P) (ρ := ρ) (φ := φ) (u := .ptr) (t := t) ⟨e, s, hu, hs⟩ (show R.good (refK .ptr x y κ) from h)
      exact ⟨r, fun κ' => g1 κ', fun X Y w hX hY => g2 X Y 9999 w hX hY⟩
    · cases hp
  · rename_i e hu
    cases hp
    obtain ⟨r, g1, g2⟩ := refK_good (P := P) (ρ := ρ) (φ := φ) (u := .sl) (t := t) ⟨e, hu⟩ (show R.good (refK .sl x y κ) from h)
    exact ⟨r, fun κ' => g1 κ', fun X Y w hX hY => g2 X Y 9999 w hX hY⟩
  · rename_i k e hu
    cases hp
    obtain ⟨r, g1, g2⟩ := refK_good (P := P) (ρ := ρ) (φ := φ) (u := .map) (t := t) ⟨k, e, hu⟩ (show R.good (refK .map x y κ) from h)
    exact ⟨r, fun κ' => g1 κ', fun X Y w hX hY => g2 X Y 9999 w hX hY⟩
  · rename_i a b c hu
    cases hp
    obtain ⟨r, g1, g2⟩ := refK_good (P := P) (ρ := ρ) (φ := φ) (u := .fn) (t := t) ⟨a, b, c, hu⟩ (show R.good (refK .fn x y κ) from h)
    exact ⟨r, fun κ' => g1 κ', fun X Y w hX hY => g2 X Y 9999 w hX hY⟩
  · cases hp
/-- Two keys held against each other: what the model's ways say. -/
def KeyEq (P : Program) (sc : Bool) (d : TypeDesc) (t : TypeId) (X Y : Value) (r : Bool) : Prop :=
  Instr.sameNow d X Y = (if sc then some r else none) ∧ (∀ w, (Op.equal t X Y).run P w = .ok r w) ∧ (r = true → Instr.sameBits 10000 Y X = true)
theorem scEq_sameBits {k : Sc} {X Y : Value} {n : Nat} (h : ScEq k X Y true) : Instr.sameBits n Y X = true := by
  cases k with
  | i =>
    obtain ⟨kd, a, b, rfl, rfl, hr⟩ := h
    have := eq_of_beq hr.symm
    simp [Instr.sameBits, this]
  | s =>
    obtain ⟨a, b, rfl, rfl, hr⟩ := h
    have := eq_of_beq hr.symm
    simp only [Instr.sameBits, beq_toListBytes, this]; exact beq_self_eq_true _
  | b =>
    obtain ⟨a, b, rfl, rfl, hr⟩ := h
    have := eq_of_beq hr.symm
    simp [Instr.sameBits, this]
theorem eqLs_good (ks : List Sc) : ∀ {a b : List V} {κ : Bool → R}, (eqLs ks a b κ).good →
    ∃ r, (∀ κ', eqLs ks a b κ' = κ' r) ∧ (∀ (pa pb : List V) (offs : List (Nat × Sc)), pa.length = pb.length → offs = ks.zipIdx.map (fun p => (pa.length + p.2, p.1)) → ∀ κ', eqAt offs (pa ++ a) (pb ++ b) κ' = κ' r) ∧
      (r = true → ∀ xs ys : List Value, rels ρ φ a xs → rels ρ φ b ys → xs.length = ys.length ∧ ∀ n, (ys.zip xs).all (fun (x, y) => Instr.sameBits n x y) = true) := by
  induction ks with
  | nil =>
    intro a b κ h
    cases a with
    | cons u a => exact h.elim
    | nil =>
      cases b with
      | cons v b => exact h.elim
      | nil =>
        refine ⟨true, fun _ => rfl, fun pa pb offs _ ho κ' => by subst ho; rfl, fun _ xs ys hx hy => ?_⟩
        rw [rels_nil] at hx hy; subst hx hy; exact ⟨rfl, fun n => rfl⟩
  | cons k ks ih =>
    intro a b κ h
    cases a with
    | nil => exact h.elim
    | cons u a =>
      cases b with
      | nil => exact h.elim
      | cons v b =>
        have h : R.good (eqSc k u v fun r => br r (eqLs ks a b κ) (κ false)) := h
        obtain ⟨q, e3, hq⟩ := eqSc_good (ρ := ρ) (φ := φ) h
        rw [e3] at h
        have unf : ∀ κ', eqLs (k :: ks) (u :: a) (v :: b) κ' = br q (eqLs ks a b κ') (κ' false) := fun κ' => e3 _
        have at1 : ∀ (pa pb : List V) (offs : List (Nat × Sc)), pa.length = pb.length → offs = (k :: ks).zipIdx.map (fun p => (pa.length + p.2, p.1)) → ∀ κ', eqAt offs (pa ++ u :: a) (pb ++ v :: b) κ' =
            br q (eqAt (ks.zipIdx.map (fun p => ((pa ++ [u]).length + p.2, p.1))) ((pa ++ [u]) ++ a) ((pb ++ [v]) ++ b) κ') (κ' false) := fun pa pb offs hl ho κ' => by
          subst ho
          have n1 : ∀ (l m : List V) (x : V) (κ : V → R), nthK l.length (l ++ x :: m) κ = κ x := fun l => by
            induction l with
            | nil => intro m x κ; rfl
            | cons y l ih => intro m x κ; exact ih m x κ
          have hz : ((k :: ks).zipIdx.map (fun p => (pa.length + p.2, p.1))) = (pa.length, k) :: ks.zipIdx.map (fun p => ((pa ++ [u]).length + p.2, p.1)) := by
            rw [List.zipIdx_cons, List.map_cons]
            simp only [Nat.add_zero, List.cons.injEq, true_and]
            rw [List.zipIdx_eq_map_add, List.map_map]
            apply List.map_congr_left
            intro p _
            simp; omega
          rw [hz]
          show nthK pa.length (pa ++ u :: a) (fun u => nthK pa.length (pb ++ v :: b) fun v => eqSc k u v fun q => br q (eqAt _ (pa ++ _ :: a) (pb ++ _ :: b) κ') (κ' false)) = _
          rw [n1, hl, n1, e3]
          simp
        cases q with
        | true =>
          obtain ⟨r, g1, g2, g3⟩ := ih (show R.good (eqLs ks a b κ) from h)
          refine ⟨r, fun κ' => (unf κ').trans (g1 κ'), fun pa pb offs hl ho κ' => ?_, fun hr xs ys hx hy => ?_⟩
          · rw [at1 pa pb offs hl ho κ']
            exact g2 (pa ++ [u]) (pb ++ [v]) _ (by simp [hl]) rfl κ'
          · obtain ⟨x, xs, rfl, hx, hxs⟩ := rels_cons.1 hx
            obtain ⟨y, ys, rfl, hy, hys⟩ := rels_cons.1 hy
            obtain ⟨h1, h2⟩ := g3 hr xs ys hxs hys
            refine ⟨by simp [h1], fun n => ?_⟩
            have h2 := h2 n
            simp only [List.zip_cons_cons, List.all_cons, scEq_sameBits (hq x y hx hy), Bool.true_and]
            exact h2
        | false =>
          exact ⟨false, fun κ' => unf κ', fun pa pb offs hl ho κ' => at1 pa pb offs hl ho κ', fun hr => by cases hr⟩
theorem sameNow_sc {k : Sc} {t : TypeId} (hk : cSc P t = some k) {X Y : Value} {r : Bool} (h : ScEq k X Y r) : ∃ d, P.underlying t = some d ∧ Instr.sameNow d X Y = some r ∧ ¬ ∃ fs, d = .struct fs := by
  unfold cSc at hk
  split at hk
  · cases hk
    rename_i kd hu
    obtain ⟨kd', a, b, rfl, rfl, rfl⟩ := h
    exact ⟨_, hu, by simp [Instr.sameNow], by simp⟩
  · cases hk
    rename_i hu
    obtain ⟨s, u, rfl, rfl, rfl⟩ := h
    exact ⟨_, hu, by simp [Instr.sameNow, beq_toListBytes], by simp⟩
  · cases hk
    rename_i hu
    obtain ⟨s, u, rfl, rfl, rfl⟩ := h
    exact ⟨_, hu, by simp [Instr.sameNow], by simp⟩
  · cases hk
theorem key_good {t : TypeId} {pl : Plan} (hp : cKey P t = some pl) : ∃ d sc, P.underlying t = some d ∧ ∀ {x y : V} {κ : Bool → R}, (eqK pl x y κ).good →
    ∃ r, (∀ κ', eqK pl x y κ' = κ' r) ∧ ∀ X Y, rel ρ φ x X → rel ρ φ y Y → KeyEq P sc d t X Y r := by
  unfold cKey at hp
  split at hp
  · rename_i fs hu
    split at hp
    · cases hp
    · rename_i hs
      split at hp
      · rename_i offs ho
        split at hp
        · rename_i hr
          cases hp
          refine ⟨_, false, hu, fun {x y κ} h => ?_⟩
          obtain ⟨a, rfl, e⟩ := asAgg_good (show R.good (asAgg x _) from h)
          obtain ⟨b, rfl, e'⟩ := asAgg_good (show R.good (asAgg y _) from h)
          obtain ⟨r, g1, g2, g3⟩ := eqLs_good (ρ := ρ) (φ := φ) (offs.map (·.2)) (show R.good (eqLs (offs.map (·.2)) a b κ) from h)
          refine ⟨r, fun κ' => g1 κ', fun X Y hX hY => ?_⟩
          obtain ⟨xs, rfl, hx, _⟩ := rel_agg hX
          obtain ⟨ys, rfl, hy, _⟩ := rel_agg hY
          have hoffs : offs = (offs.map (·.2)).zipIdx.map (fun p => (([] : List V).length + p.2, p.1)) := by
            apply List.ext_getElem?
            intro i
            rw [List.getElem?_map, List.getElem?_zipIdx, List.getElem?_map]
            cases hi : offs[i]? with
            | none => rfl
            | some p =>
              have h1 : (offs.map (·.1))[i]? = some p.1 := by rw [List.getElem?_map, hi]; rfl
              rw [hr] at h1
              have hlt : i < offs.length := by
                rcases Nat.lt_or_ge i offs.length with h' | h'
                · exact h'
                · rw [List.getElem?_eq_none h'] at hi; cases hi
              rw [List.getElem?_range hlt] at h1
              obtain ⟨p1, p2⟩ := p
              simp at h1
              subst h1
              simp
          have hg : (eqK (.st offs) (.agg a) (.agg b) (fun q => R.rv (.bool q) hempty ⟨.d0, .d0, .d0, .d0⟩)).good := by
            show R.good (eqAt offs a b (fun q => R.rv (.bool q) hempty ⟨.d0, .d0, .d0, .d0⟩))
            have := g2 [] [] offs rfl hoffs (fun q => R.rv (.bool q) hempty ⟨.d0, .d0, .d0, .d0⟩)
            simp only [List.nil_append] at this
            rw [this]; trivial
          obtain ⟨r', k1, k2⟩ := eqSt_good (ρ := ρ) (φ := φ) hu (by simpa using hs) ho hg
          have hrr : r' = r := by
            have e1 := k1 (fun q => R.rv (.bool q) hempty ⟨.d0, .d0, .d0, .d0⟩)
            have e2 : eqK (.st offs) (.agg a) (.agg b) (fun q => R.rv (.bool q) hempty ⟨.d0, .d0, .d0, .d0⟩) = _ := g2 [] [] offs rfl hoffs (fun q => R.rv (.bool q) hempty ⟨.d0, .d0, .d0, .d0⟩)
            rw [e1] at e2
            simpa using e2
          subst hrr
          refine ⟨by simp [Instr.sameNow], fun w => (k2 _ _ 9998 w hX hY).1, fun hr' => ?_⟩
          obtain ⟨h1, h2⟩ := g3 hr' xs.toList ys.toList hx hy
          have h2 := h2 9999
          simp only [Instr.sameBits, Bool.and_eq_true, beq_iff_eq]
          exact ⟨by simpa using h1.symm, h2⟩
        · cases hp
      · cases hp
  · cases hk : cSc P t with
    | none => rw [hk] at hp; cases hp
    | some k =>
      rw [hk] at hp; cases hp
      cases hu : P.underlying t with
      | none => simp [cSc, hu] at hk
      | some d =>
        refine ⟨d, true, rfl, fun {x y κ} h => ?_⟩
        obtain ⟨r, g1, g2⟩ := eqSc_good (ρ := ρ) (φ := φ) (show R.good (eqSc k x y κ) from h)
        refine ⟨r, fun κ' => g1 κ', fun X Y hX hY => ?_⟩
        obtain ⟨d', hd', hn, _⟩ := sameNow_sc hk (g2 X Y hX hY)
        rw [hu] at hd'; cases hd'
        exact ⟨hn, fun w => run_equalSc hk (g2 X Y hX hY) 9999, fun hr => by subst hr; exact scEq_sameBits (g2 X Y hX hY)⟩
/-- Where a key is first found. -/
def Fnd (pl : Plan) (k : V) : List (V × V) → Option Nat → Prop
  | [], r => r = none
  | e :: es, r => ∃ q : Bool, (∀ κ, eqK pl k e.1 κ = κ q) ∧ if q then r = some 0 else ∃ r', Fnd pl k es r' ∧ r = r'.map (· + 1)
theorem lookK_good {t : TypeId} {pl : Plan} (hp : cKey P t = some pl) {k : V} {κf : V → R} {κn : R} : ∀ {es : List (V × V)}, (lookK pl k es κf κn).good →
    ∃ r, Fnd pl k es r ∧ match r with | none => lookK pl k es κf κn = κn | some i => ∃ e, es[i]? = some e ∧ lookK pl k es κf κn = κf e.2
  | [], h => ⟨none, rfl, rfl⟩
  | (a, b) :: es, h => by
    obtain ⟨d, sc, _, hk⟩ := key_good (ρ := { v := fun _ => .nilFunc, ap := fun _ => none }) (φ := fun _ => none) hp
    have h : R.good (eqK pl k a fun r => br r (κf b) (lookK pl k es κf κn)) := h
    obtain ⟨q, g1, _⟩ := hk h
    rw [g1] at h
    have unf : lookK pl k ((a, b) :: es) κf κn = br q (κf b) (lookK pl k es κf κn) := g1 _
    cases q with
    | true => exact ⟨some 0, ⟨true, g1, rfl⟩, (a, b), rfl, unf⟩
    | false =>
      obtain ⟨r, h1, h2⟩ := lookK_good hp (show R.good (lookK pl k es κf κn) from h)
      refine ⟨r.map (· + 1), ⟨false, g1, r, h1, rfl⟩, ?_⟩
      cases r with
      | none => exact unf.trans h2
      | some i => obtain ⟨e, he, h2⟩ := h2; exact ⟨e, by simpa using he, unf.trans h2⟩
theorem updK_good {t : TypeId} {pl : Plan} (hp : cKey P t = some pl) {k v : V} : ∀ {es : List (V × V)} {κ : List (V × V) → R}, (updK pl k v es κ).good →
    ∃ r, Fnd pl k es r ∧ updK pl k v es κ = κ (match r with | none => es ++ [(k, v)] | some i => es.set i (k, v))
  | [], κ, h => ⟨none, rfl, rfl⟩
  | (a, b) :: es, κ, h => by
    obtain ⟨d, sc, _, hk⟩ := key_good (ρ := { v := fun _ => .nilFunc, ap := fun _ => none }) (φ := fun _ => none) hp
    have h : R.good (eqK pl k a fun r => br r (κ ((k, v) :: es)) (updK pl k v es fun l => κ ((a, b) :: l))) := h
    obtain ⟨q, g1, _⟩ := hk h
    rw [g1] at h
    have unf : updK pl k v ((a, b) :: es) κ = br q (κ ((k, v) :: es)) (updK pl k v es fun l => κ ((a, b) :: l)) := g1 _
    cases q with
    | true => exact ⟨some 0, ⟨true, g1, rfl⟩, unf⟩
    | false =>
      obtain ⟨r, h1, h2⟩ := updK_good hp (show R.good (updK pl k v es fun l => κ ((a, b) :: l)) from h)
      refine ⟨r.map (· + 1), ⟨false, g1, r, h1, rfl⟩, ?_⟩
      rw [unf]
      show updK pl k v es _ = _
      rw [h2]
      cases r <;> rfl
theorem delK_good {t : TypeId} {pl : Plan} (hp : cKey P t = some pl) {k : V} : ∀ {es : List (V × V)} {κ : List (V × V) → R}, (delK pl k es κ).good →
    ∃ r, Fnd pl k es r ∧ delK pl k es κ = κ (match r with | none => es | some i => es.eraseIdx i)
  | [], κ, h => ⟨none, rfl, rfl⟩
  | (a, b) :: es, κ, h => by
    obtain ⟨d, sc, _, hk⟩ := key_good (ρ := { v := fun _ => .nilFunc, ap := fun _ => none }) (φ := fun _ => none) hp
    have h : R.good (eqK pl k a fun r => br r (κ es) (delK pl k es fun l => κ ((a, b) :: l))) := h
    obtain ⟨q, g1, _⟩ := hk h
    rw [g1] at h
    have unf : delK pl k ((a, b) :: es) κ = br q (κ es) (delK pl k es fun l => κ ((a, b) :: l)) := g1 _
    cases q with
    | true => exact ⟨some 0, ⟨true, g1, rfl⟩, unf⟩
    | false =>
      obtain ⟨r, h1, h2⟩ := delK_good hp (show R.good (delK pl k es fun l => κ ((a, b) :: l)) from h)
      refine ⟨r.map (· + 1), ⟨false, g1, r, h1, rfl⟩, ?_⟩
      rw [unf]
      show delK pl k es _ = _
      rw [h2]
      cases r <;> rfl
theorem delB_good {pl : Plan} {k : V} : ∀ {es : List (V × V)} {bs : List Nat} {κ : List Nat → R} {r : Option Nat}, (delB pl k es bs κ).good → Fnd pl k es r →
    delB pl k es bs κ = κ (match r with | none => bs | some i => bs.eraseIdx i)
  | [], bs, κ, r, _, hf => by have hf : r = none := hf; subst hf; rfl
  | (a, b) :: es, [], κ, r, h, _ => h.elim
  | (a, b) :: es, c :: bs, κ, r, h, hf => by
    obtain ⟨q, g1, hf⟩ := hf
    have h : R.good (eqK pl k a fun r => br r (κ bs) (delB pl k es bs fun l => κ (c :: l))) := h
    rw [g1] at h
    have unf : delB pl k ((a, b) :: es) (c :: bs) κ = br q (κ bs) (delB pl k es bs fun l => κ (c :: l)) := g1 _
    cases q with
    | true =>
      have hf : r = some 0 := by simpa using hf
      subst hf; exact unf
    | false =>
      simp only [Bool.false_eq_true, if_false] at hf
      obtain ⟨r', hf', rfl⟩ := hf
      rw [unf]
      show delB pl k es bs _ = _
      rw [delB_good (show R.good (delB pl k es bs fun l => κ (c :: l)) from h) hf']
      cases r' <;> rfl
theorem sameLn_eq : ∀ (es : List (V × V)) (bs : List Nat), sameLn es bs = decide (es.length = bs.length)
  | [], [] => rfl
  | [], _ :: _ => rfl
  | _ :: _, [] => rfl
  | _ :: es, _ :: bs => by
    show sameLn es bs = _
    rw [sameLn_eq es bs]; simp
theorem snocN_eq (c : Nat) : ∀ (bs : List Nat) (κ : List Nat → R), snocN bs c κ = κ (bs ++ [c])
  | [], _ => rfl
  | b :: bs, κ => by
    show snocN bs c (fun l => κ (b :: l)) = _
    rw [snocN_eq c bs]; rfl
theorem bsU_eq (es : List (V × V)) (bs : List Nat) (c : Nat) (κ : List Nat → Nat → R) : bsU es bs c κ = κ (if es.length = bs.length then bs else bs ++ [c]) (if es.length = bs.length then c else c + 1) := by
  unfold bsU
  rw [sameLn_eq, snocN_eq, forceN_eq]
  by_cases h : es.length = bs.length <;> simp [h, br]
/-- The model finds what is found here. -/
theorem run_findKey {t : TypeId} {pl : Plan} (hp : cKey P t = some pl) {k : V} {K : Value} (hK : rel ρ φ k K) : ∀ {es : List (V × V)} {ents : List MapEntry} {r : Option Nat}, Fnd pl k es r → EsOK ρ φ es ents →
    (Instr.findKey t K ents).run P w = .ok (r.bind fun i => (ents[i]?).map fun e => (i, e.val)) w ∧
    (∀ i, r = some i → ∃ e, ents[i]? = some e ∧ Instr.sameBits 10000 e.key K = true) := by
  obtain ⟨d, sc, hu, hk⟩ := key_good (ρ := ρ) (φ := φ) hp
  have gd : ∀ (x y : V) (q : Bool), (∀ κ, eqK pl x y κ = κ q) → ∀ X Y, rel ρ φ x X → rel ρ φ y Y → KeyEq P sc d t X Y q := fun x y q hq X Y hX hY => by
    obtain ⟨r, g1, g2⟩ := hk (x := x) (y := y) (κ := fun q => .rv (.bool q) hempty ⟨.d0, .d0, .d0, .d0⟩) (by rw [hq]; trivial)
    have e1 := hq (fun q => .rv (.bool q) hempty ⟨.d0, .d0, .d0, .d0⟩)
    rw [g1] at e1
    simp at e1
    subst e1
    exact g2 X Y hX hY
  have key : ∀ (es : List (V × V)) (ents : List MapEntry) (r : Option Nat) (i : Nat), Fnd pl k es r → EsOK ρ φ es ents →
      ((sc = true → Instr.findNow d K ents i = some (r.bind fun j => (ents[j]?).map fun e => (i + j, e.val))) ∧
       (sc = false → ents ≠ [] → Instr.findNow d K ents i = none) ∧
       (Instr.findAsking t K ents i).run P w = .ok (r.bind fun j => (ents[j]?).map fun e => (i + j, e.val)) w) ∧
      (∀ j, r = some j → ∃ e, ents[j]? = some e ∧ Instr.sameBits 10000 e.key K = true) := by
    intro es
    induction es with
    | nil =>
      intro ents r i hf he
      have hf : r = none := hf
      have he : ents = [] := he
      subst hf he
      exact ⟨⟨fun _ => rfl, fun _ h => absurd rfl h, rfl⟩, fun j h => by cases h⟩
    | cons e es ih =>
      intro ents r i hf he
      obtain ⟨q, hq, hf⟩ := hf
      obtain ⟨y, ys, rfl, hy1, hy2, hys⟩ := he
      obtain ⟨n1, n2, n3⟩ := gd k e.1 q hq K y.key hK hy1
      cases q with
      | true =>
        have hf : r = some 0 := by simpa using hf
        subst hf
        refine ⟨⟨fun hs => ?_, fun hs _ => ?_, ?_⟩, fun j hj => ?_⟩
        · subst hs; simp at n1; simp [Instr.findNow, n1]
        · subst hs; simp at n1; simp [Instr.findNow, n1]
        · simp only [Instr.findAsking, Sem.run_bind, n2, Result.andThen_ok, if_true]; simp
        · cases hj; exact ⟨y, rfl, n3 rfl⟩
      | false =>
        simp only [Bool.false_eq_true, if_false] at hf
        obtain ⟨r', hf', rfl⟩ := hf
        obtain ⟨⟨k1, k2, k3⟩, k4⟩ := ih ys r' (i + 1) hf' hys
        have hr : ((r'.map (· + 1)).bind fun j => ((y :: ys)[j]?).map fun e => (i + j, e.val)) = r'.bind fun j => (ys[j]?).map fun e => (i + 1 + j, e.val) := by
          cases r' with
          | none => rfl
          | some j => simp [Nat.add_assoc, Nat.add_comm 1 j]
        refine ⟨⟨fun hs => ?_, fun hs _ => ?_, ?_⟩, fun j hj => ?_⟩
        · subst hs; simp at n1; rw [hr]; simp only [Instr.findNow, n1]; exact k1 rfl
        · subst hs; simp at n1; simp [Instr.findNow, n1]
        · rw [hr]
          simp only [Instr.findAsking, Sem.run_bind, n2, Result.andThen_ok, Bool.false_eq_true, if_false]
          exact k3
        · cases r' with
          | none => cases hj
          | some j' => simp at hj; subst hj; simpa using k4 j' rfl
  intro es ents r hf he
  obtain ⟨⟨k1, k2, k3⟩, k4⟩ := key es ents r 0 hf he
  simp only [Nat.zero_add] at k1 k3
  refine ⟨?_, fun i hi => ?_⟩
  · simp only [Instr.findKey, Sem.run_bind, run_underlying hu, Result.andThen_ok]
    cases sc with
    | true => rw [k1 rfl]; rfl
    | false =>
      cases hen : ents with
      | nil => rw [hen] at k3; simp only [Instr.findNow]; exact k3
      | cons e l => rw [← hen, k2 rfl (by rw [hen]; simp)]; exact k3
  · obtain ⟨e, h1, h2⟩ := k4 i hi
    exact ⟨e, h1, h2⟩
end
end Go.Ev

namespace Go.Ev
set_option linter.unusedVariables false
section
variable {P : Program} {ρ : Env} {B N : Nat} {o : Oper} {cf : CF} {t : Regs} {h : Heap} {n : K4}
theorem sound_pure {f : KV → R} {v : V} (e : ∀ κ, f κ = κ v h n)
    (H : ∀ φ a w, TR ρ N φ t a → Gam ρ B h n φ w → ∃ x, (execOp a.eval o).run P w = .ok (.value x) w ∧ rel ρ φ v x) : SoundP P ρ B N o f t h n :=
  fun κ _ => ⟨v, e κ, H⟩
theorem sound_mv {y : Operand} {x : Opd} (ho : o.op = .move y ∨ o.op = .assign y) (hx : cOpd N y = some x) : SoundP P ρ B N o (k_mv x cf t h n) t h n :=
  sound_pure (v := ev x t) (fun κ => evK_eq x t _) fun φ a w ht hg => ⟨a.eval y, by rcases ho with ho | ho <;> simp [execOp, ho], cOpd_rel hx ht⟩
theorem sound_pick {c x y : Operand} {c' x' y' : Opd} (ho : o.op = .pick c x y) (hc : cOpd N c = some c') (hx : cOpd N x = some x') (hy : cOpd N y = some y') :
    SoundP P ρ B N o (k_pick c' x' y' cf t h n) t h n := by
  intro κ hg
  have e : k_pick c' x' y' cf t h n κ = asB (ev c' t) fun q => br q (κ (ev x' t) h n) (κ (ev y' t) h n) := by simp only [k_pick, evK_eq]
  rw [e] at hg
  obtain ⟨b, hb, e'⟩ := asB_good hg
  refine ⟨if b then ev x' t else ev y' t, e.trans (e'.trans (by cases b <;> rfl)), fun φ a w ht hg => ?_⟩
  have h1 := cOpd_rel hc ht
  rw [hb] at h1
  have h1 := rel_bool h1
  refine ⟨if b then a.eval x else a.eval y, by simp [execOp, ho, h1, asBool], ?_⟩
  cases b
  · exact cOpd_rel hy ht
  · exact cOpd_rel hx ht
theorem binK_good {op : BinOp} {x y : V} {κ : V → R} (h : (binK op x y κ).good) :
    (∃ k a j b, x = .int k a ∧ y = .int j b ∧ binK op x y κ = ibin op k a j b κ) ∨ (∃ n c m d, x = .str n c ∧ y = .str m d ∧ binK op x y κ = sbin op n c m d κ) ∨ binK op x y κ = ivX op x y κ ∨ ∃ l0 l1 n c m d, x = .oth (.ss l0 l1 n c) ∧ y = .str m d ∧ binK op x y κ = ssBin op l0 l1 n c m d κ := by
  cases x with
  | int k a =>
    cases y with
    | int j b => exact .inl ⟨k, a, j, b, rfl, rfl, rfl⟩
    | oth o => exact .inr (.inr (.inl rfl))
    | _ => exact h.elim
  | str n c =>
    obtain ⟨m, d, rfl, e⟩ := asStr_good (show R.good (asStr y fun m d => sbin op n c m d κ) from h)
    exact .inr (.inl ⟨n, c, m, d, rfl, rfl, rfl⟩)
  | oth o =>
    have e0 : binK op (.oth o) y κ = othBin op (.oth o) y κ := rfl
    rcases ssK_cases (.oth o) (fun l0 l1 n c => asStr y fun m d => ssBin op l0 l1 n c m d κ) (ivX op (.oth o) y κ) with ⟨l0, l1, n, c, e, e1⟩ | e1
    · rw [e0] at h
      have e1 : othBin op (.oth o) y κ = _ := e1
      rw [e1] at h
      obtain ⟨m, d, rfl, e2⟩ := asStr_good h
      exact .inr (.inr (.inr ⟨l0, l1, n, c, m, d, e, rfl, e0.trans (e1.trans e2)⟩))
    · exact .inr (.inr (.inl (e0.trans e1)))
  | _ => exact h.elim
theorem run_bin {op : BinOp} {ty yt : TypeId} {x y : Operand} {a : Act} {w : World} {r : Value} (ho : o.op = .binOp op ty x y yt)
    (he : eqGuard op ty x y (a.eval x) (a.eval y) = Pure.pure ()) (hr : (Go.binOp op ty (a.eval x) (a.eval y)).run P w = .ok r w) : (execOp a.eval o).run P w = .ok (.value r) w := by
  simp [execOp, ho, he, hr]
theorem br_val {f : V → R} {c : Bool} {u v : V} : ∃ x, br c (f u) (f v) = f x := by
  cases c
  · exact ⟨v, rfl⟩
  · exact ⟨u, rfl⟩
theorem asIv_good {v : V} {κ : IntKind → Nat → Nat → R} (hg : (asIv v κ).good) : ∃ k lo hi, asIv v κ = κ k lo hi ∧ ∀ (ρ : Env) (φ : Emb) X, rel ρ φ v X → ∃ r, lo ≤ r ∧ r ≤ hi ∧ r < Mk k ∧ X = .int k (dec k r) := by
  cases v with
  | int k r => exact ⟨k, r, r, rfl, fun ρ φ X hx => by simp only [rel] at hx; exact ⟨r, Nat.le_refl _, Nat.le_refl _, hx.1, hx.2⟩⟩
  | oth o => cases o with
    | iv k lo hi => exact ⟨k, lo, hi, rfl, fun ρ φ X hx => by simpa only [rel] using hx⟩
    | rs m j =>
      obtain ⟨h1, e⟩ := br_good (show R.good (br (Nat.ble 18446744073709551616 m) (br (Nat.ble (Nat.succ m) 36893488147419103232) (κ .i64 0 9223372036854775807) (.fail "int expected")) (.fail "int expected")) from hg)
      have hg : R.good (br (Nat.ble 18446744073709551616 m) (br (Nat.ble (Nat.succ m) 36893488147419103232) (κ .i64 0 9223372036854775807) (.fail "int expected")) (.fail "int expected")) := hg
      rw [e] at hg
      obtain ⟨h2, e2⟩ := br_good hg
      refine ⟨.i64, 0, 9223372036854775807, e.trans e2, fun ρ φ X hx => ?_⟩
      simp only [rel] at hx
      obtain ⟨z, rfl, z1, z2, z3, z4, _⟩ := hx
      have := z4 (ble_iff.1 h1) (ble_iff.1 h2)
      refine ⟨z.toNat, by omega, by omega, by simp only [Mk]; omega, ?_⟩
      rw [dec_nonneg (by simp only [Hk]; omega)]
      congr 1; omega
    | sy k i =>
      refine ⟨k, 0, Nat.sub (Mk k) 1, rfl, fun ρ φ X hx => ?_⟩
      simp only [rel] at hx
      obtain ⟨_, r, h1, h2⟩ := hx
      exact ⟨r, Nat.zero_le _, show r ≤ Mk k - 1 by omega, h1, h2⟩
    | _ => exact hg.elim
  | _ => exact hg.elim
theorem key_dec {k : IntKind} {r s : Nat} (hr : r < Mk k) (hs : s < Mk k) : (dec k r < dec k s ↔ keyI (Hk k) (Mk k) r < keyI (Hk k) (Mk k) s) ∧ (dec k r = dec k s ↔ keyI (Hk k) (Mk k) r = keyI (Hk k) (Mk k) s) := by
  have hH := Hk_le k
  have e : ∀ r, r < Mk k → dec k r = (keyI (Hk k) (Mk k) r : Int) - ((Mk k - Hk k : Nat) : Int) := fun r hr => by
    unfold keyI
    by_cases h : Hk k ≤ r
    · rw [ble_iff.2 h, br_true, dec_neg (by omega)]
      show _ = ((r - Hk k : Nat) : Int) - _
      omega
    · rw [ble_false (by omega), br_false, dec_nonneg (by omega)]
      show _ = ((r + (Mk k - Hk k) : Nat) : Int) - _
      omega
  rw [e r hr, e s hs]
  constructor <;> omega
theorem onside_key {H M lo hi r : Nat} (ho : onside H lo hi = true) (h1 : lo ≤ r) (h2 : r ≤ hi) : keyI H M lo ≤ keyI H M r ∧ keyI H M r ≤ keyI H M hi := by
  unfold onside at ho
  unfold keyI
  by_cases h : hi + 1 ≤ H
  · rw [ble_false (by omega), ble_false (by omega), ble_false (by omega)]
    simp only [br_false]
    exact ⟨Nat.add_le_add_right h1 _, Nat.add_le_add_right h2 _⟩
  · rw [ble_false (by omega), br_false] at ho
    have ho := ble_iff.1 ho
    rw [ble_iff.2 (by omega), ble_iff.2 (by omega), ble_iff.2 (by omega)]
    simp only [br_true]
    exact ⟨Nat.sub_le_sub_right h1 _, Nat.sub_le_sub_right h2 _⟩
theorem rel_bl {ρ : Env} {φ : Emb} (b : Bool) : rel ρ φ (.oth .bl) (.bool b) := by simp only [rel]; exact ⟨b, rfl⟩
theorem ivLt_ok (a b c d : Nat) (κ : V → R) : ∃ v, ivLt a b c d κ = κ v ∧ ∀ p q, a ≤ p → p ≤ b → c ≤ q → q ≤ d → ∀ (ρ : Env) (φ : Emb), rel ρ φ v (.bool (decide (p < q))) := by
  unfold ivLt
  by_cases h1 : b + 1 ≤ c
  · exact ⟨.bool true, by rw [ble_iff.2 h1, br_true], fun p q _ _ _ _ ρ φ => by rw [decide_eq_true (by omega)]; exact toBool _ ρ φ⟩
  · rw [ble_false (by omega), br_false]
    by_cases h2 : d ≤ a
    · exact ⟨.bool false, by rw [ble_iff.2 h2, br_true], fun p q _ _ _ _ ρ φ => by rw [decide_eq_false (by omega)]; exact toBool _ ρ φ⟩
    · exact ⟨_, by rw [ble_false (by omega), br_false], fun p q _ _ _ _ ρ φ => rel_bl _⟩
theorem ivGe_ok (a b c d : Nat) (κ : V → R) : ∃ v, ivGe a b c d κ = κ v ∧ ∀ p q, a ≤ p → p ≤ b → c ≤ q → q ≤ d → ∀ (ρ : Env) (φ : Emb), rel ρ φ v (.bool (decide (q ≤ p))) := by
  unfold ivGe
  by_cases h1 : b + 1 ≤ c
  · exact ⟨.bool false, by rw [ble_iff.2 h1, br_true], fun p q _ _ _ _ ρ φ => by rw [decide_eq_false (by omega)]; exact toBool _ ρ φ⟩
  · rw [ble_false (by omega), br_false]
    by_cases h2 : d ≤ a
    · exact ⟨.bool true, by rw [ble_iff.2 h2, br_true], fun p q _ _ _ _ ρ φ => by rw [decide_eq_true (by omega)]; exact toBool _ ρ φ⟩
    · exact ⟨_, by rw [ble_false (by omega), br_false], fun p q _ _ _ _ ρ φ => rel_bl _⟩
theorem ivOne_iff {a b c d : Nat} (h : ivOne a b c d = true) : a = b ∧ b = c ∧ c = d := by
  unfold ivOne at h
  cases h1 : Nat.beq a b with
  | false => rw [h1] at h; cases h
  | true =>
    rw [h1, br_true] at h
    cases h2 : Nat.beq b c with
    | false => rw [h2] at h; cases h
    | true => rw [h2, br_true] at h; exact ⟨Nat.eq_of_beq_eq_true h1, Nat.eq_of_beq_eq_true h2, Nat.eq_of_beq_eq_true h⟩
theorem ivEq_ok (a b c d : Nat) (κ : V → R) : ∃ v, ivEq a b c d κ = κ v ∧ ∀ p q, a ≤ p → p ≤ b → c ≤ q → q ≤ d → ∀ (ρ : Env) (φ : Emb), rel ρ φ v (.bool (decide (p = q))) := by
  unfold ivEq
  by_cases h1 : b + 1 ≤ c
  · exact ⟨.bool false, by rw [ble_iff.2 h1, br_true], fun p q _ _ _ _ ρ φ => by rw [decide_eq_false (by omega)]; exact toBool _ ρ φ⟩
  · rw [ble_false (by omega), br_false]
    by_cases h2 : d + 1 ≤ a
    · exact ⟨.bool false, by rw [ble_iff.2 h2, br_true], fun p q _ _ _ _ ρ φ => by rw [decide_eq_false (by omega)]; exact toBool _ ρ φ⟩
    · rw [ble_false (by omega), br_false]
      cases h3 : ivOne a b c d with
      | true => obtain ⟨h4, h5, h6⟩ := ivOne_iff h3; exact ⟨.bool true, by rw [br_true], fun p q _ _ _ _ ρ φ => by rw [decide_eq_true (by omega)]; exact toBool _ ρ φ⟩
      | false => exact ⟨_, by rw [br_false], fun p q _ _ _ _ ρ φ => rel_bl _⟩
theorem ivNe_ok (a b c d : Nat) (κ : V → R) : ∃ v, ivNe a b c d κ = κ v ∧ ∀ p q, a ≤ p → p ≤ b → c ≤ q → q ≤ d → ∀ (ρ : Env) (φ : Emb), rel ρ φ v (.bool (decide (p ≠ q))) := by
  unfold ivNe
  by_cases h1 : b + 1 ≤ c
  · exact ⟨.bool true, by rw [ble_iff.2 h1, br_true], fun p q _ _ _ _ ρ φ => by rw [decide_eq_true (by omega)]; exact toBool _ ρ φ⟩
  · rw [ble_false (by omega), br_false]
    by_cases h2 : d + 1 ≤ a
    · exact ⟨.bool true, by rw [ble_iff.2 h2, br_true], fun p q _ _ _ _ ρ φ => by rw [decide_eq_true (by omega)]; exact toBool _ ρ φ⟩
    · rw [ble_false (by omega), br_false]
      cases h3 : ivOne a b c d with
      | true => obtain ⟨h4, h5, h6⟩ := ivOne_iff h3; exact ⟨.bool false, by rw [br_true], fun p q _ _ _ _ ρ φ => by rw [decide_eq_false (by omega)]; exact toBool _ ρ φ⟩
      | false => exact ⟨_, by rw [br_false], fun p q _ _ _ _ ρ φ => rel_bl _⟩
theorem ivAny_good {op : BinOp} {κ : V → R} (hg : (ivAny op κ).good) : ivAny op κ = κ (.oth .bl) ∧ ∀ k p q, BinTo op (.int k p) (.int k q) (.oth .bl) := by
  cases op with
  | lss => exact ⟨rfl, fun k p q => ⟨.bool (decide (p < q)), fun P t w => by rw [binOp_lss, Sem.run_pure], fun ρ φ => rel_bl _⟩⟩
  | gtr => exact ⟨rfl, fun k p q => ⟨.bool (decide (p > q)), fun P t w => by rw [binOp_gtr, Sem.run_pure], fun ρ φ => rel_bl _⟩⟩
  | leq => exact ⟨rfl, fun k p q => ⟨.bool (decide (p ≤ q)), fun P t w => by rw [binOp_leq, Sem.run_pure], fun ρ φ => rel_bl _⟩⟩
  | geq => exact ⟨rfl, fun k p q => ⟨.bool (decide (p ≥ q)), fun P t w => by rw [binOp_geq, Sem.run_pure], fun ρ φ => rel_bl _⟩⟩
  | eql => exact ⟨rfl, fun k p q => ⟨.bool (p == q), fun P t w => by rw [binOp_eql, Sem.run_pure], fun ρ φ => rel_bl _⟩⟩
  | neq => exact ⟨rfl, fun k p q => ⟨.bool (p != q), fun P t w => by rw [binOp_neq, Sem.run_pure], fun ρ φ => rel_bl _⟩⟩
  | _ => exact hg.elim
theorem ivXb_good {op : BinOp} {x y : V} {κ : V → R} (hg : (ivXb op x y κ).good) : ∃ v, ivXb op x y κ = κ v ∧ ∀ (ρ : Env) (φ : Emb) X Y, rel ρ φ x X → rel ρ φ y Y →
    ∃ k p q, X = .int k p ∧ Y = .int k q ∧ BinTo op X Y v := by
  unfold ivXb at hg ⊢
  obtain ⟨k, a, b, e1, H1⟩ := asIv_good hg
  rw [e1] at hg ⊢
  obtain ⟨j, c, d, e2, H2⟩ := asIv_good hg
  rw [e2] at hg ⊢
  obtain ⟨hk, e3⟩ := br_good hg
  rw [e3] at hg ⊢
  obtain rfl := kbeq_iff.1 hk
  have any0 : ∀ {κ' : V → R}, (ivAny op κ').good → ∃ v, ivAny op κ' = κ' v ∧ ∀ (ρ : Env) (φ : Emb) X Y, rel ρ φ x X → rel ρ φ y Y → ∃ k p q, X = .int k p ∧ Y = .int k q ∧ BinTo op X Y v := fun hg => by
    obtain ⟨e, H⟩ := ivAny_good hg
    refine ⟨_, e, fun ρ φ X Y hX hY => ?_⟩
    obtain ⟨r, r1, r2, r3, rfl⟩ := H1 ρ φ X hX
    obtain ⟨s, s1, s2, s3, rfl⟩ := H2 ρ φ Y hY
    exact ⟨k, _, _, rfl, rfl, H k _ _⟩
  have any : ∀ {κ' : V → R}, (apOp op a b c d κ').good → ∃ v, apOp op a b c d κ' = κ' v ∧ ∀ (ρ : Env) (φ : Emb) X Y, rel ρ φ x X → rel ρ φ y Y → ∃ k p q, X = .int k p ∧ Y = .int k q ∧ BinTo op X Y v := fun {κ'} hg => by
    unfold apOp at hg ⊢
    cases ha : br (Nat.ble (Nat.succ b) c) true (Nat.ble (Nat.succ d) a) with
    | false => rw [ha] at hg; exact any0 hg
    | true =>
      rw [ha] at hg
      have hap : b < c ∨ d < a := by
        cases h1 : Nat.ble (Nat.succ b) c with
        | true => exact .inl (ble_iff.1 h1)
        | false =>
          rw [h1] at ha
          exact .inr (ble_iff.1 (show Nat.ble (Nat.succ d) a = true from ha))
      have ne : ∀ (ρ : Env) (φ : Emb) X Y, rel ρ φ x X → rel ρ φ y Y → ∃ r s, X = .int k (dec k r) ∧ Y = .int k (dec k s) ∧ dec k r ≠ dec k s := fun ρ φ X Y hX hY => by
        obtain ⟨r, r1, r2, r3, rfl⟩ := H1 ρ φ X hX
        obtain ⟨s, s1, s2, s3, rfl⟩ := H2 ρ φ Y hY
        exact ⟨r, s, rfl, rfl, fun h => by have := dec_inj r3 s3 h; omega⟩
      by_cases he : op = .eql
      · subst he
        refine ⟨.bool false, rfl, fun ρ φ X Y hX hY => ?_⟩
        obtain ⟨r, s, rfl, rfl, h⟩ := ne ρ φ X Y hX hY
        refine ⟨k, _, _, rfl, rfl, .bool false, fun P t w => ?_, fun ρ φ => by simp only [rel]⟩
        rw [binOp_eql, Sem.run_pure]
        congr 2
        exact beq_false_of_ne h
      · by_cases he2 : op = .neq
        · subst he2
          refine ⟨.bool true, rfl, fun ρ φ X Y hX hY => ?_⟩
          obtain ⟨r, s, rfl, rfl, h⟩ := ne ρ φ X Y hX hY
          refine ⟨k, _, _, rfl, rfl, .bool true, fun P t w => ?_, fun ρ φ => by simp only [rel]⟩
          rw [binOp_neq, Sem.run_pure]
          congr 2
          exact bne_iff_ne.2 h
        · have e : apEq op κ' (ivAny op κ') = ivAny op κ' := by cases op <;> first | rfl | exact absurd rfl he | exact absurd rfl he2
          have hg : (apEq op κ' (ivAny op κ')).good := hg
          rw [e] at hg
          show ∃ v, apEq op κ' (ivAny op κ') = _ ∧ _
          rw [e]
          exact any0 hg
  cases o1 : onside (Hk k) a b with
  | false => rw [o1] at hg; exact any hg
  | true =>
  rw [o1, br_true] at hg
  show ∃ v, br (onside (Hk k) c d) _ _ = _ ∧ _
  cases o2 : onside (Hk k) c d with
  | false => rw [o2] at hg; exact any hg
  | true =>
  rw [o2, br_true] at hg
  show ∃ v, ivOp op _ _ _ _ κ = _ ∧ _
  have bd : ∀ (ρ : Env) (φ : Emb) X Y, rel ρ φ x X → rel ρ φ y Y → ∃ r s, X = .int k (dec k r) ∧ Y = .int k (dec k s) ∧ r < Mk k ∧ s < Mk k ∧
      keyI (Hk k) (Mk k) a ≤ keyI (Hk k) (Mk k) r ∧ keyI (Hk k) (Mk k) r ≤ keyI (Hk k) (Mk k) b ∧ keyI (Hk k) (Mk k) c ≤ keyI (Hk k) (Mk k) s ∧ keyI (Hk k) (Mk k) s ≤ keyI (Hk k) (Mk k) d := fun ρ φ X Y hX hY => by
    obtain ⟨r, r1, r2, r3, rfl⟩ := H1 ρ φ X hX
    obtain ⟨s, s1, s2, s3, rfl⟩ := H2 ρ φ Y hY
    have := onside_key (M := Mk k) o1 r1 r2
    have := onside_key (M := Mk k) o2 s1 s2
    exact ⟨r, s, rfl, rfl, r3, s3, by omega, by omega, by omega, by omega⟩
  cases op with
  | lss =>
    obtain ⟨v, e, H⟩ := ivLt_ok (keyI (Hk k) (Mk k) a) (keyI (Hk k) (Mk k) b) (keyI (Hk k) (Mk k) c) (keyI (Hk k) (Mk k) d) κ
    refine ⟨v, e, fun ρ φ X Y hX hY => ?_⟩
    obtain ⟨r, s, rfl, rfl, hr, hs, k1, k2, k3, k4⟩ := bd ρ φ X Y hX hY
    refine ⟨k, _, _, rfl, rfl, .bool (decide (keyI (Hk k) (Mk k) r < keyI (Hk k) (Mk k) s)), fun P t w => ?_, fun ρ φ => H _ _ k1 k2 k3 k4 ρ φ⟩
    rw [binOp_lss, Sem.run_pure, decide_eq_decide.2 (key_dec hr hs).1]
  | gtr =>
    obtain ⟨v, e, H⟩ := ivLt_ok (keyI (Hk k) (Mk k) c) (keyI (Hk k) (Mk k) d) (keyI (Hk k) (Mk k) a) (keyI (Hk k) (Mk k) b) κ
    refine ⟨v, e, fun ρ φ X Y hX hY => ?_⟩
    obtain ⟨r, s, rfl, rfl, hr, hs, k1, k2, k3, k4⟩ := bd ρ φ X Y hX hY
    refine ⟨k, _, _, rfl, rfl, .bool (decide (keyI (Hk k) (Mk k) s < keyI (Hk k) (Mk k) r)), fun P t w => ?_, fun ρ φ => H _ _ k3 k4 k1 k2 ρ φ⟩
    rw [binOp_gtr, Sem.run_pure]
    congr 2
    exact decide_eq_decide.2 (key_dec hs hr).1
  | leq =>
    obtain ⟨v, e, H⟩ := ivGe_ok (keyI (Hk k) (Mk k) c) (keyI (Hk k) (Mk k) d) (keyI (Hk k) (Mk k) a) (keyI (Hk k) (Mk k) b) κ
    refine ⟨v, e, fun ρ φ X Y hX hY => ?_⟩
    obtain ⟨r, s, rfl, rfl, hr, hs, k1, k2, k3, k4⟩ := bd ρ φ X Y hX hY
    refine ⟨k, _, _, rfl, rfl, .bool (decide (keyI (Hk k) (Mk k) r ≤ keyI (Hk k) (Mk k) s)), fun P t w => ?_, fun ρ φ => H _ _ k3 k4 k1 k2 ρ φ⟩
    rw [binOp_leq, Sem.run_pure]
    congr 2
    exact decide_eq_decide.2 (by have := (key_dec hs hr).1; omega)
  | geq =>
    obtain ⟨v, e, H⟩ := ivGe_ok (keyI (Hk k) (Mk k) a) (keyI (Hk k) (Mk k) b) (keyI (Hk k) (Mk k) c) (keyI (Hk k) (Mk k) d) κ
    refine ⟨v, e, fun ρ φ X Y hX hY => ?_⟩
    obtain ⟨r, s, rfl, rfl, hr, hs, k1, k2, k3, k4⟩ := bd ρ φ X Y hX hY
    refine ⟨k, _, _, rfl, rfl, .bool (decide (keyI (Hk k) (Mk k) s ≤ keyI (Hk k) (Mk k) r)), fun P t w => ?_, fun ρ φ => H _ _ k1 k2 k3 k4 ρ φ⟩
    rw [binOp_geq, Sem.run_pure]
    congr 2
    exact decide_eq_decide.2 (by have := (key_dec hr hs).1; omega)
  | eql =>
    obtain ⟨v, e, H⟩ := ivEq_ok (keyI (Hk k) (Mk k) a) (keyI (Hk k) (Mk k) b) (keyI (Hk k) (Mk k) c) (keyI (Hk k) (Mk k) d) κ
    refine ⟨v, e, fun ρ φ X Y hX hY => ?_⟩
    obtain ⟨r, s, rfl, rfl, hr, hs, k1, k2, k3, k4⟩ := bd ρ φ X Y hX hY
    refine ⟨k, _, _, rfl, rfl, .bool (decide (keyI (Hk k) (Mk k) r = keyI (Hk k) (Mk k) s)), fun P t w => ?_, fun ρ φ => H _ _ k1 k2 k3 k4 ρ φ⟩
    rw [binOp_eql, Sem.run_pure]
    congr 2
    rw [Bool.eq_iff_iff, beq_iff_eq, decide_eq_true_iff]
    exact (key_dec hr hs).2
  | neq =>
    obtain ⟨v, e, H⟩ := ivNe_ok (keyI (Hk k) (Mk k) a) (keyI (Hk k) (Mk k) b) (keyI (Hk k) (Mk k) c) (keyI (Hk k) (Mk k) d) κ
    refine ⟨v, e, fun ρ φ X Y hX hY => ?_⟩
    obtain ⟨r, s, rfl, rfl, hr, hs, k1, k2, k3, k4⟩ := bd ρ φ X Y hX hY
    refine ⟨k, _, _, rfl, rfl, .bool (decide (keyI (Hk k) (Mk k) r ≠ keyI (Hk k) (Mk k) s)), fun P t w => ?_, fun ρ φ => H _ _ k1 k2 k3 k4 ρ φ⟩
    rw [binOp_neq, Sem.run_pure]
    congr 2
    rw [Bool.eq_iff_iff, bne_iff_ne, decide_eq_true_iff]
    exact not_congr (key_dec hr hs).2
  | _ => exact hg.elim
theorem add_to {k : IntKind} {r s : Nat} (hr : r < Mk k) (hs : s < Mk k) (h : r + s < Hk k) : BinTo .add (.int k (dec k r)) (.int k (dec k s)) (.int k (r + s)) := by
  have e0 : ibin .add k r k s (fun v => R.rv v hempty ⟨.d0, .d0, .d0, .d0⟩) = R.rv (.int k (r + s)) hempty ⟨.d0, .d0, .d0, .d0⟩ := by
    show br (kbeq k k) (forceN (Nat.mod (Nat.add r s) (Mk k)) fun r => R.rv (.int k r) hempty ⟨.d0, .d0, .d0, .d0⟩) (.fail "kinds") = _
    rw [kbeq_iff.2 rfl, br_true, forceN_eq]
    show R.rv (.int k ((r + s) % Mk k)) _ _ = _
    rw [Nat.mod_eq_of_lt (Nat.lt_of_lt_of_le h (Hk_le k))]
  obtain ⟨v, e, H⟩ := ibin_good .add k r k s (fun v => R.rv v hempty ⟨.d0, .d0, .d0, .d0⟩) hr hs (by rw [e0]; trivial)
  rw [e0] at e
  cases e
  exact H
theorem add_mod {k : IntKind} {r s : Nat} (hr : r < Mk k) (hs : s < Mk k) : BinTo .add (.int k (dec k r)) (.int k (dec k s)) (.int k ((r + s) % Mk k)) := by
  have e0 : ibin .add k r k s (fun v => R.rv v hempty ⟨.d0, .d0, .d0, .d0⟩) = R.rv (.int k ((r + s) % Mk k)) hempty ⟨.d0, .d0, .d0, .d0⟩ := by
    show br (kbeq k k) (forceN (Nat.mod (Nat.add r s) (Mk k)) fun r => R.rv (.int k r) hempty ⟨.d0, .d0, .d0, .d0⟩) (.fail "kinds") = _
    rw [kbeq_iff.2 rfl, br_true, forceN_eq]
    rfl
  obtain ⟨v, e, H⟩ := ibin_good .add k r k s (fun v => R.rv v hempty ⟨.d0, .d0, .d0, .d0⟩) hr hs (by rw [e0]; trivial)
  rw [e0] at e
  cases e
  exact H
theorem sub_to {k : IntKind} {r s : Nat} (hr : r < Mk k) (hs : s < Mk k) (h : s ≤ r) : BinTo .sub (.int k (dec k r)) (.int k (dec k s)) (.int k (r - s)) := by
  have e0 : ibin .sub k r k s (fun v => R.rv v hempty ⟨.d0, .d0, .d0, .d0⟩) = R.rv (.int k (r - s)) hempty ⟨.d0, .d0, .d0, .d0⟩ := by
    show br (kbeq k k) (forceN (Nat.mod (Nat.add r (Nat.sub (Mk k) s)) (Mk k)) fun r => R.rv (.int k r) hempty ⟨.d0, .d0, .d0, .d0⟩) (.fail "kinds") = _
    rw [kbeq_iff.2 rfl, br_true, forceN_eq]
    show R.rv (.int k ((r + (Mk k - s)) % Mk k)) _ _ = _
    rw [show r + (Mk k - s) = r - s + Mk k by omega, Nat.add_mod_right, Nat.mod_eq_of_lt (by omega)]
  obtain ⟨v, e, H⟩ := ibin_good .sub k r k s (fun v => R.rv v hempty ⟨.d0, .d0, .d0, .d0⟩) hr hs (by rw [e0]; trivial)
  rw [e0] at e
  cases e
  exact H
theorem BinTo.iv {op : BinOp} {x y : Value} {k : IntKind} {r lo hi : Nat} (h : BinTo op x y (.int k r)) (h1 : lo ≤ r) (h2 : r ≤ hi) : BinTo op x y (.oth (.iv k lo hi)) := by
  obtain ⟨z, hz, hr⟩ := h
  refine ⟨z, hz, fun ρ φ => ?_⟩
  have := hr ρ φ
  simp only [rel] at this ⊢
  exact ⟨r, h1, h2, this.1, this.2⟩
theorem rem_to {r b : Nat} (h1 : r < Hk .i64) (h2 : b < Hk .i64) (h3 : 1 ≤ b) : BinTo .rem (.int .i64 (dec .i64 r)) (.int .i64 (dec .i64 b)) (.int .i64 (r % b)) := by
  have hd : r % b < Hk .i64 := Nat.lt_of_le_of_lt (Nat.mod_le r b) h1
  have hp : pos2 .i64 r .i64 b (br (Nat.ble 1 b) (forceN (Nat.mod r b) fun r => R.rv (.int .i64 r) hempty ⟨.d0, .d0, .d0, .d0⟩) (.fail "divide by zero")) = R.rv (.int .i64 (r % b)) hempty ⟨.d0, .d0, .d0, .d0⟩ := by
    unfold pos2
    rw [kbeq_iff.2 rfl, br_true, ble_iff.2 (show r + 1 ≤ Hk .i64 from h1), br_true, ble_iff.2 (show b + 1 ≤ Hk .i64 from h2), br_true, ble_iff.2 h3, br_true, forceN_eq]
    rfl
  have hp : ibin .rem .i64 r .i64 b (fun v => R.rv v hempty ⟨.d0, .d0, .d0, .d0⟩) = R.rv (.int .i64 (r % b)) hempty ⟨.d0, .d0, .d0, .d0⟩ := hp
  obtain ⟨v, e, H⟩ := ibin_good .rem .i64 r .i64 b (fun v => R.rv v hempty ⟨.d0, .d0, .d0, .d0⟩) (Nat.lt_of_lt_of_le h1 (Hk_le .i64)) (Nat.lt_of_lt_of_le h2 (Hk_le .i64)) (by rw [hp]; trivial)
  rw [hp] at e
  cases e
  exact H
theorem rem_any {p : Int} {b : Nat} (p1 : -9223372036854775808 ≤ p) (p2 : p < 9223372036854775808) (h1 : 1 ≤ b) (h2 : b < Hk .i64) : BinTo .rem (.int .i64 p) (.int .i64 (dec .i64 b)) (.oth (.iv .i64 0 18446744073709551615)) := by
  have hz : (p.tmod b).natAbs < 9223372036854775808 := by
    rw [Int.natAbs_tmod]
    have h2 : b < 9223372036854775808 := h2
    have := Nat.mod_lt p.natAbs (show (b : Int).natAbs > 0 by omega)
    omega
  refine ⟨.int .i64 (p.tmod b), fun P t w => ?_, fun ρ φ => ?_⟩
  · rw [dec_nonneg h2, binOp_rem]
    simp only [Op.intDiv]
    rw [if_neg (by omega)]
    simp only [Sem.run_pure]
  · simp only [rel]
    generalize p.tmod b = z at hz
    by_cases h0 : 0 ≤ z
    · refine ⟨z.toNat, Nat.zero_le _, by omega, by simp only [Mk]; omega, ?_⟩
      rw [dec_nonneg (by simp only [Hk]; omega)]; congr 1; omega
    · refine ⟨(z + 18446744073709551616).toNat, Nat.zero_le _, by omega, by simp only [Mk]; omega, ?_⟩
      rw [dec_neg (by simp only [Hk]; omega)]; congr 1; simp only [Mk]; omega
theorem ivRem_good {x y : V} {κ : V → R} (hg : (ivRem x y κ).good) : ∃ v, ivRem x y κ = κ v ∧ ∀ (ρ : Env) (φ : Emb) X Y, rel ρ φ x X → rel ρ φ y Y →
    ∃ k p q, X = .int k p ∧ Y = .int k q ∧ BinTo .rem X Y v := by
  unfold ivRem at hg ⊢
  obtain ⟨k, a, b, e1, H1⟩ := asIv_good hg
  rw [e1] at hg ⊢
  obtain ⟨j, d, rfl, e2⟩ := asI_good hg
  rw [e2] at hg ⊢
  obtain ⟨hk, e3⟩ := br_good hg
  rw [e3] at hg ⊢
  obtain rfl := kbeq_iff.1 hk
  obtain ⟨hj, e4⟩ := br_good hg
  rw [e4] at hg ⊢
  obtain rfl := kbeq_iff.1 hj
  obtain ⟨h1, e5⟩ := br_good hg
  rw [e5] at hg ⊢
  obtain ⟨h2, e6⟩ := br_good hg
  rw [e6] at hg ⊢
  have h1 := ble_iff.1 h1
  have h2 : d + 1 ≤ 9223372036854775808 := ble_iff.1 h2
  have hd : d < Hk .i64 := by simp only [Hk]; omega
  have hY : ∀ (ρ : Env) (φ : Emb) Y, rel ρ φ (.int .i64 d) Y → Y = .int .i64 (dec .i64 d) := fun ρ φ Y h => by
    have h : d < Mk .i64 ∧ Y = .int .i64 (dec .i64 d) := by simpa only [rel] using h
    exact h.2
  cases hb : Nat.ble (Nat.succ b) 9223372036854775808 with
  | true =>
    have hb : b + 1 ≤ 9223372036854775808 := ble_iff.1 hb
    refine ⟨.oth (.iv .i64 0 (d - 1)), by rw [br_true, forceN_eq]; rfl, fun ρ φ X Y hX hY' => ?_⟩
    obtain ⟨r, r1, r2, r3, rfl⟩ := H1 ρ φ X hX
    obtain rfl := hY ρ φ Y hY'
    have hr : r < Hk .i64 := by simp only [Hk]; omega
    exact ⟨.i64, _, _, rfl, rfl, (rem_to hr hd h1).iv (Nat.zero_le _) (by have := Nat.mod_lt r (show d > 0 by omega); omega)⟩
  | false =>
    refine ⟨_, rfl, fun ρ φ X Y hX hY' => ?_⟩
    obtain ⟨r, r1, r2, r3, rfl⟩ := H1 ρ φ X hX
    obtain rfl := hY ρ φ Y hY'
    have hw : -9223372036854775808 ≤ dec .i64 r ∧ dec .i64 r < 9223372036854775808 := by
      have r3 : r < 18446744073709551616 := r3
      by_cases h : r < Hk .i64
      · rw [dec_nonneg h]; have h : r < 9223372036854775808 := h; omega
      · rw [dec_neg (by omega)]; have h : ¬ r < 9223372036854775808 := h; simp only [Mk]; omega
    exact ⟨.i64, _, _, rfl, rfl, rem_any hw.1 hw.2 h1 hd⟩
theorem ivX0_good {op : BinOp} {x y : V} {κ : V → R} (hg : (ivX0 op x y κ).good) : ∃ v, ivX0 op x y κ = κ v ∧ ∀ (ρ : Env) (φ : Emb) X Y, rel ρ φ x X → rel ρ φ y Y →
    ∃ k p q, X = .int k p ∧ Y = .int k q ∧ BinTo op X Y v := by
  by_cases h1 : op = .add
  · subst h1
    have hg : (ivAdd x y κ).good := hg
    show ∃ v, ivAdd x y κ = κ v ∧ _
    unfold ivAdd at hg ⊢
    obtain ⟨k, a, b, e1, H1⟩ := asIv_good hg
    rw [e1] at hg ⊢
    obtain ⟨j, c, d, e2, H2⟩ := asIv_good hg
    rw [e2] at hg ⊢
    obtain ⟨hk, e3⟩ := br_good hg
    rw [e3] at hg ⊢
    obtain rfl := kbeq_iff.1 hk
    rw [forceN_eq, forceN_eq] at hg ⊢
    cases hh : Nat.ble (Nat.succ (Nat.add b d)) (Hk k) with
    | true =>
      have hh : b + d + 1 ≤ Hk k := ble_iff.1 hh
      refine ⟨_, rfl, fun ρ φ X Y hX hY => ?_⟩
      obtain ⟨r, r1, r2, r3, rfl⟩ := H1 ρ φ X hX
      obtain ⟨s, s1, s2, s3, rfl⟩ := H2 ρ φ Y hY
      exact ⟨k, _, _, rfl, rfl, (add_to r3 s3 (by omega)).iv (show a + c ≤ r + s by omega) (show r + s ≤ b + d by omega)⟩
    | false =>
      refine ⟨.oth (.iv k 0 (Mk k - 1)), by rw [br_false, forceN_eq]; rfl, fun ρ φ X Y hX hY => ?_⟩
      obtain ⟨r, r1, r2, r3, rfl⟩ := H1 ρ φ X hX
      obtain ⟨s, s1, s2, s3, rfl⟩ := H2 ρ φ Y hY
      exact ⟨k, _, _, rfl, rfl, (add_mod r3 s3).iv (Nat.zero_le _) (by have := Nat.mod_lt (r + s) (Mk_pos k); omega)⟩
  · by_cases h2 : op = .sub
    · subst h2
      have hg : (ivSub x y κ).good := hg
      show ∃ v, ivSub x y κ = κ v ∧ _
      unfold ivSub at hg ⊢
      obtain ⟨k, a, b, e1, H1⟩ := asIv_good hg
      rw [e1] at hg ⊢
      obtain ⟨j, c, d, e2, H2⟩ := asIv_good hg
      rw [e2] at hg ⊢
      obtain ⟨hk, e3⟩ := br_good hg
      rw [e3] at hg ⊢
      obtain rfl := kbeq_iff.1 hk
      obtain ⟨q1, e4⟩ := br_good hg
      rw [e4] at hg ⊢
      obtain ⟨q2, e5⟩ := br_good hg
      rw [e5, forceN_eq, forceN_eq]
      have q1 : d ≤ a := ble_iff.1 q1
      refine ⟨_, rfl, fun ρ φ X Y hX hY => ?_⟩
      obtain ⟨r, r1, r2, r3, rfl⟩ := H1 ρ φ X hX
      obtain ⟨s, s1, s2, s3, rfl⟩ := H2 ρ φ Y hY
      exact ⟨k, _, _, rfl, rfl, (sub_to r3 s3 (by omega)).iv (show a - d ≤ r - s by omega) (show r - s ≤ b - c by omega)⟩
    · by_cases h3 : op = .rem
      · subst h3; exact ivRem_good hg
      have e : ivX0 op x y κ = ivXb op x y κ := by cases op <;> first | rfl | exact absurd rfl h1 | exact absurd rfl h2 | exact absurd rfl h3
      rw [e] at hg ⊢
      exact ivXb_good hg
/-- The greater of two. -/
theorem mxT_good {a b c d : Nat} {yes no : R} (hg : (mxT a b c d yes no).good) : (mxT a b c d yes no = yes ∧ b < c) ∨ (mxT a b c d yes no = no ∧ d ≤ a) := by
  unfold mxT at hg ⊢
  cases h : Nat.ble (Nat.succ b) c with
  | true => exact .inl ⟨rfl, ble_iff.1 h⟩
  | false =>
    rw [h] at hg
    obtain ⟨h2, e⟩ := br_good (show R.good (br (Nat.ble d a) no (.fail "bounds")) from hg)
    exact .inr ⟨e, ble_iff.1 h2⟩
theorem mxV_good {x y : V} {κ : V → R} (hg : (mxV x y κ).good) : ∃ u, mxV x y κ = κ u ∧ ∀ (ρ : Env) (φ : Emb) X Y, rel ρ φ x X → rel ρ φ y Y →
    ∃ k p q, X = .int k p ∧ Y = .int k q ∧ rel ρ φ u (.int k (if q > p then q else p)) := by
  unfold mxV at hg ⊢
  obtain ⟨k, a, b, e1, H1⟩ := asIv_good hg
  rw [e1] at hg ⊢
  obtain ⟨j, c, d, e2, H2⟩ := asIv_good hg
  rw [e2] at hg ⊢
  obtain ⟨hk, e3⟩ := br_good hg
  rw [e3] at hg ⊢
  obtain rfl := kbeq_iff.1 hk
  obtain ⟨o1, e4⟩ := br_good hg
  rw [e4] at hg ⊢
  obtain ⟨o2, e5⟩ := br_good hg
  rw [e5] at hg ⊢
  rcases mxT_good hg with ⟨e, h⟩ | ⟨e, h⟩
  · refine ⟨y, e, fun ρ φ X Y hX hY => ?_⟩
    obtain ⟨r, r1, r2, r3, rfl⟩ := H1 ρ φ X hX
    obtain ⟨s, s1, s2, s3, rfl⟩ := H2 ρ φ Y hY
    have k1 := onside_key (M := Mk k) o1 r1 r2
    have k2 := onside_key (M := Mk k) o2 s1 s2
    have := (key_dec r3 s3).1
    exact ⟨k, _, _, rfl, rfl, by rw [if_pos (by omega)]; exact hY⟩
  · refine ⟨x, e, fun ρ φ X Y hX hY => ?_⟩
    obtain ⟨r, r1, r2, r3, rfl⟩ := H1 ρ φ X hX
    obtain ⟨s, s1, s2, s3, rfl⟩ := H2 ρ φ Y hY
    have k1 := onside_key (M := Mk k) o1 r1 r2
    have k2 := onside_key (M := Mk k) o2 s1 s2
    have := (key_dec r3 s3).1
    exact ⟨k, _, _, rfl, rfl, by rw [if_neg (by omega)]; exact hX⟩
theorem mnV_good {x y : V} {κ : V → R} (hg : (mnV x y κ).good) : ∃ u, mnV x y κ = κ u ∧ ∀ (ρ : Env) (φ : Emb) X Y, rel ρ φ x X → rel ρ φ y Y →
    ∃ k p q, X = .int k p ∧ Y = .int k q ∧ rel ρ φ u (.int k (if q < p then q else p)) := by
  unfold mnV at hg ⊢
  obtain ⟨k, a, b, e1, H1⟩ := asIv_good hg
  rw [e1] at hg ⊢
  obtain ⟨j, c, d, e2, H2⟩ := asIv_good hg
  rw [e2] at hg ⊢
  obtain ⟨hk, e3⟩ := br_good hg
  rw [e3] at hg ⊢
  obtain rfl := kbeq_iff.1 hk
  obtain ⟨o1, e4⟩ := br_good hg
  rw [e4] at hg ⊢
  obtain ⟨o2, e5⟩ := br_good hg
  rw [e5] at hg ⊢
  rcases mxT_good hg with ⟨e, h⟩ | ⟨e, h⟩
  · refine ⟨y, e, fun ρ φ X Y hX hY => ?_⟩
    obtain ⟨r, r1, r2, r3, rfl⟩ := H1 ρ φ X hX
    obtain ⟨s, s1, s2, s3, rfl⟩ := H2 ρ φ Y hY
    have k1 := onside_key (M := Mk k) o1 r1 r2
    have k2 := onside_key (M := Mk k) o2 s1 s2
    have := (key_dec s3 r3).1
    exact ⟨k, _, _, rfl, rfl, by rw [if_pos (by omega)]; exact hY⟩
  · refine ⟨x, e, fun ρ φ X Y hX hY => ?_⟩
    obtain ⟨r, r1, r2, r3, rfl⟩ := H1 ρ φ X hX
    obtain ⟨s, s1, s2, s3, rfl⟩ := H2 ρ φ Y hY
    have k1 := onside_key (M := Mk k) o1 r1 r2
    have k2 := onside_key (M := Mk k) o2 s1 s2
    have := (key_dec s3 r3).1
    exact ⟨k, _, _, rfl, rfl, by rw [if_neg (by omega)]; exact hX⟩
theorem rmN_good {m j b : Nat} {κ : V → R} (hg : (rmN m j b κ).good) (hb1 : 1 ≤ b) (hb2 : b + 1 ≤ 9223372036854775808) : ∃ v, rmN m j b κ = κ v ∧ ∀ (ρ : Env) (φ : Emb) X Y, rel ρ φ (.oth (.rs m j)) X → rel ρ φ (.int .i64 b) Y →
    ∃ k p q, X = .int k p ∧ Y = .int k q ∧ BinTo .rem X Y v := by
  unfold rmN at hg ⊢
  obtain ⟨hm, e1⟩ := br_good hg
  rw [e1] at hg ⊢
  rw [forceN_eq] at hg ⊢
  obtain ⟨hd, e2⟩ := br_good hg
  rw [e2] at hg ⊢
  obtain ⟨h1, e3⟩ := br_good hg
  rw [e3, forceN_eq]
  have hm : m = 73786976294838206464 + b := Nat.eq_of_beq_eq_true hm
  have hd : j % 18446744073709551616 = j / 18446744073709551616 := Nat.eq_of_beq_eq_true hd
  have h1 : 1 ≤ j % 18446744073709551616 := ble_iff.1 h1
  refine ⟨_, rfl, fun ρ φ X Y hX hY => ?_⟩
  simp only [rel] at hX
  obtain ⟨z, rfl, z1, z2, z3, _, z5⟩ := hX
  have hY : (b < Mk .i64 ∧ Y = .int .i64 (dec .i64 b)) := by simpa only [rel] using hY
  obtain ⟨_, rfl⟩ := hY
  have hz := z5 (by omega)
  have e6 : m % 18446744073709551616 = b := by omega
  have z3 : z.natAbs % b = j % 18446744073709551616 := by
    rcases z3 with ⟨h, _⟩ | ⟨_, h, h'⟩
    · omega
    · rw [e6] at h h'; omega
  rw [show dec .i64 b = (b : Int) from dec_nonneg (by simp only [Hk]; omega)]
  refine ⟨.i64, _, _, rfl, rfl, .int .i64 (z.tmod b), fun P t w => by
    rw [binOp_rem]
    simp only [Op.intDiv]
    rw [if_neg (by omega)]
    simp only [Sem.run_pure], fun ρ φ => ?_⟩
  have h0 := Int.natAbs_tmod z b
  rw [Int.natAbs_natCast, z3] at h0
  have hjb : j % 18446744073709551616 < b := by rw [← z3]; exact Nat.mod_lt _ (by omega)
  have hneg : z.tmod b ≤ 0 := by
    have h4 : 0 ≤ (-z).tmod b := Int.tmod_nonneg _ (by omega)
    rw [Int.neg_tmod] at h4
    omega
  generalize z.tmod b = y at h0 hneg
  simp only [rel]
  have hs : Nat.sub 18446744073709551616 (j % 18446744073709551616) = 18446744073709551616 - j % 18446744073709551616 := rfl
  refine ⟨by show 18446744073709551616 - j % 18446744073709551616 < Mk .i64; simp only [Mk]; omega, ?_⟩
  show Value.int .i64 y = .int .i64 (dec .i64 (18446744073709551616 - j % 18446744073709551616))
  rw [dec_neg (by simp only [Hk]; omega)]
  congr 1; simp only [Mk]; omega
theorem rmX_good {op : BinOp} {x y : V} {κ : V → R} (hg : (rmX op x y κ (ivX0 op x y κ)).good) : ∃ v, rmX op x y κ (ivX0 op x y κ) = κ v ∧ ∀ (ρ : Env) (φ : Emb) X Y, rel ρ φ x X → rel ρ φ y Y →
    ∃ k p q, X = .int k p ∧ Y = .int k q ∧ BinTo op X Y v := by
  by_cases hop : op = .rem
  · subst hop
    rcases rsK_cases x (fun m j => asI y fun k b => br (kbeq k .i64) (br (Nat.ble 1 b) (br (Nat.ble (Nat.succ b) 9223372036854775808) (br (Nat.beq m (Nat.add 18446744073709551616 b)) (κ (.int .i64 j)) (br (Nat.beq m b) (br (Nat.beq j 0) (κ (.int .i64 0)) (κ (.oth (.iv .i64 1 18446744073709551615)))) (rmN m j b κ))) (.fail "remainder")) (.fail "remainder")) (.fail "remainder")) (ivX0 .rem x y κ) with ⟨m, j, rfl, e0⟩ | e0
    · have e0 : rmX .rem (.oth (.rs m j)) y κ (ivX0 .rem (.oth (.rs m j)) y κ) = _ := e0
      rw [e0] at hg ⊢
      obtain ⟨k, b, rfl, e1⟩ := asI_good hg
      rw [e1] at hg ⊢
      obtain ⟨hk, e2⟩ := br_good hg
      rw [e2] at hg ⊢
      obtain rfl := kbeq_iff.1 hk
      obtain ⟨hb1, e3⟩ := br_good hg
      rw [e3] at hg ⊢
      obtain ⟨hb2, e4⟩ := br_good hg
      rw [e4] at hg ⊢
      cases hm : Nat.beq m (Nat.add 18446744073709551616 b) with
      | false =>
        rw [hm] at hg
        have hg : (br (Nat.beq m b) (br (Nat.beq j 0) (κ (.int .i64 0)) (κ (.oth (.iv .i64 1 18446744073709551615)))) (rmN m j b κ)).good := hg
        cases hmb : Nat.beq m b with
        | false =>
          rw [hmb] at hg
          obtain ⟨v, e5, H⟩ := rmN_good (show R.good (rmN m j b κ) from hg) (ble_iff.1 hb1) (ble_iff.1 hb2)
          exact ⟨v, e5, H⟩
        | true =>
        have e5 : br true (br (Nat.beq j 0) (κ (.int .i64 0)) (κ (.oth (.iv .i64 1 18446744073709551615)))) (rmN m j b κ) = br (Nat.beq j 0) (κ (.int .i64 0)) (κ (.oth (.iv .i64 1 18446744073709551615))) := rfl
        have hb1 := ble_iff.1 hb1
        have hb2 : b + 1 ≤ 9223372036854775808 := ble_iff.1 hb2
        have hmb : m = b := Nat.eq_of_beq_eq_true hmb
        have key : ∀ (ρ : Env) (φ : Emb) X Y, rel ρ φ (.oth (.rs m j)) X → rel ρ φ (.int .i64 b) Y → ∃ z : Int, X = .int .i64 z ∧ Y = .int .i64 (b : Int) ∧ -9223372036854775808 ≤ z ∧ z < 9223372036854775808 ∧ z.natAbs % b = j := fun ρ φ X Y hX hY => by
          simp only [rel] at hX
          obtain ⟨z, rfl, z1, z2, z3, _⟩ := hX
          have hY : (b < Mk .i64 ∧ Y = .int .i64 (dec .i64 b)) := by simpa only [rel] using hY
          obtain ⟨_, rfl⟩ := hY
          refine ⟨z, rfl, by rw [dec_nonneg (by simp only [Hk]; omega)], z1, z2, ?_⟩
          rcases z3 with ⟨_, z3⟩ | ⟨z3, _⟩
          · rw [hmb, Nat.mod_eq_of_lt (show b < 18446744073709551616 by omega)] at z3; exact z3
          · omega
        cases hj : Nat.beq j 0 with
        | true =>
          obtain rfl := Nat.eq_of_beq_eq_true hj
          refine ⟨_, e5, fun ρ φ X Y hX hY => ?_⟩
          obtain ⟨z, rfl, rfl, z1, z2, z3⟩ := key ρ φ X Y hX hY
          refine ⟨.i64, _, _, rfl, rfl, .int .i64 (z.tmod b), fun P t w => by
            rw [binOp_rem]
            simp only [Op.intDiv]
            rw [if_neg (by omega)]
            simp only [Sem.run_pure], fun ρ φ => ?_⟩
          have h0 : z.tmod b = 0 := by
            have := Int.natAbs_tmod z b
            rw [Int.natAbs_natCast, z3] at this
            omega
          rw [h0]
          simp only [rel]
          exact ⟨by simp only [Mk]; omega, rfl⟩
        | false =>
          rw [hj] at e5
          refine ⟨_, e5, fun ρ φ X Y hX hY => ?_⟩
          obtain ⟨z, rfl, rfl, z1, z2, z3⟩ := key ρ φ X Y hX hY
          refine ⟨.i64, _, _, rfl, rfl, .int .i64 (z.tmod b), fun P t w => by
            rw [binOp_rem]
            simp only [Op.intDiv]
            rw [if_neg (by omega)]
            simp only [Sem.run_pure], fun ρ φ => ?_⟩
          have hj0 : j ≠ 0 := fun h => by subst h; cases hj
          have h0 := Int.natAbs_tmod z b
          rw [Int.natAbs_natCast, z3] at h0
          have hjb : j < b := by rw [← z3]; exact Nat.mod_lt _ (by omega)
          generalize z.tmod b = y at h0
          simp only [rel]
          by_cases hy : 0 ≤ y
          · refine ⟨y.toNat, by omega, by omega, by simp only [Mk]; omega, ?_⟩
            rw [dec_nonneg (by simp only [Hk]; omega)]; congr 1; omega
          · refine ⟨(y + 18446744073709551616).toNat, by omega, by omega, by simp only [Mk]; omega, ?_⟩
            rw [dec_neg (by simp only [Hk]; omega)]; congr 1; simp only [Mk]; omega
      | true =>
      rw [hm] at hg
      refine ⟨_, rfl, fun ρ φ X Y hX hY => ?_⟩
      have hb1 := ble_iff.1 hb1
      have hb2 : b + 1 ≤ 9223372036854775808 := ble_iff.1 hb2
      have hm : m = 18446744073709551616 + b := Nat.eq_of_beq_eq_true hm
      simp only [rel] at hX
      obtain ⟨z, rfl, z1, z2, z3, z4, _⟩ := hX
      have hY : (b < Mk .i64 ∧ Y = .int .i64 (dec .i64 b)) := by simpa only [rel] using hY
      obtain ⟨_, rfl⟩ := hY
      have hz := z4 (by omega) (by omega)
      have z3 : z.natAbs % (m % 18446744073709551616) = j := by
        rcases z3 with ⟨_, z3⟩ | ⟨z3, _⟩
        · exact z3
        · omega
      have e6 : m % 18446744073709551616 = b := by omega
      rw [e6] at z3
      obtain ⟨r, rfl⟩ : ∃ r : Nat, z = r := ⟨z.toNat, by omega⟩
      have hr : r < Hk .i64 := by simp only [Hk]; omega
      have h := rem_to (b := b) hr (by simp only [Hk]; omega) hb1
      rw [dec_nonneg hr] at h
      have e7 : r % b = j := by rw [← z3, Int.natAbs_natCast]
      rw [e7] at h
      exact ⟨.i64, _, _, rfl, rfl, h⟩
    · have e0 : rmX .rem x y κ (ivX0 .rem x y κ) = ivX0 .rem x y κ := e0
      rw [e0] at hg ⊢
      exact ivX0_good hg
  · have e0 : rmX op x y κ (ivX0 op x y κ) = ivX0 op x y κ := by cases op <;> first | rfl | exact absurd rfl hop
    rw [e0] at hg ⊢
    exact ivX0_good hg
theorem syK_cases (v : V) (κ : IntKind → Nat → R) (e : R) : (∃ k i, v = .oth (.sy k i) ∧ syK v κ e = κ k i) ∨ syK v κ e = e := by
  cases v with
  | oth o =>
    rcases otSy_cases o κ e with ⟨k, i, rfl, h⟩ | h
    · exact .inl ⟨k, i, rfl, h⟩
    · exact .inr h
  | _ => exact .inr rfl
theorem sySame_cases (x y : V) (a e : R) : (∃ k i, x = .oth (.sy k i) ∧ y = .oth (.sy k i) ∧ sySame x y a e = a) ∨ sySame x y a e = e := by
  unfold sySame
  rcases syK_cases x (fun k i => syK y (fun j i' => br (kbeq k j) (br (Nat.beq i i') a e) e) e) e with ⟨k, i, rfl, h⟩ | h
  · rw [h]
    rcases syK_cases y (fun j i' => br (kbeq k j) (br (Nat.beq i i') a e) e) e with ⟨j, i', rfl, h'⟩ | h'
    · rw [h']
      cases hk : kbeq k j with
      | false => exact .inr rfl
      | true =>
        cases hi : Nat.beq i i' with
        | false => exact .inr rfl
        | true =>
          obtain rfl := kbeq_iff.1 hk
          obtain rfl := Nat.eq_of_beq_eq_true hi
          exact .inl ⟨k, i, rfl, rfl, rfl⟩
    · rw [h']; exact .inr rfl
  · rw [h]; exact .inr rfl
theorem ivX_good {op : BinOp} {x y : V} {κ : V → R} (hg : (ivX op x y κ).good) : ∃ v, ivX op x y κ = κ v ∧ ∀ (ρ : Env) (φ : Emb) X Y, rel ρ φ x X → rel ρ φ y Y →
    ∃ k p q, X = .int k p ∧ Y = .int k q ∧ BinTo op X Y v := by
  unfold ivX at hg ⊢
  by_cases h1 : op = .eql
  · subst h1
    rcases sySame_cases x y (κ (.bool true)) (rmX .eql x y κ (ivX0 .eql x y κ)) with ⟨k, i, rfl, rfl, e⟩ | e
    · refine ⟨_, e, fun ρ φ X Y hX hY => ?_⟩
      simp only [rel] at hX hY
      obtain ⟨h1, r, hr, h2⟩ := hX
      obtain rfl : Y = X := hY.1.trans h1.symm
      subst h2
      exact ⟨k, _, _, rfl, rfl, .bool true, fun P t w => by rw [binOp_eql, Sem.run_pure, beq_self_eq_true], fun ρ φ => toBool _ ρ φ⟩
    · have e : syX .eql x y κ (rmX .eql x y κ (ivX0 .eql x y κ)) = rmX .eql x y κ (ivX0 .eql x y κ) := e
      rw [e] at hg ⊢
      exact rmX_good hg
  by_cases h2 : op = .neq
  · subst h2
    rcases sySame_cases x y (κ (.bool false)) (rmX .neq x y κ (ivX0 .neq x y κ)) with ⟨k, i, rfl, rfl, e⟩ | e
    · refine ⟨_, e, fun ρ φ X Y hX hY => ?_⟩
      simp only [rel] at hX hY
      obtain ⟨h1, r, hr, h2⟩ := hX
      obtain rfl : Y = X := hY.1.trans h1.symm
      subst h2
      exact ⟨k, _, _, rfl, rfl, .bool false, fun P t w => by rw [binOp_neq, Sem.run_pure, bne_self_eq_false], fun ρ φ => toBool _ ρ φ⟩
    · have e : syX .neq x y κ (rmX .neq x y κ (ivX0 .neq x y κ)) = rmX .neq x y κ (ivX0 .neq x y κ) := e
      rw [e] at hg ⊢
      exact rmX_good hg
  have e : syX op x y κ (rmX op x y κ (ivX0 op x y κ)) = rmX op x y κ (ivX0 op x y κ) := by cases op <;> first | rfl | exact absurd rfl h1 | exact absurd rfl h2
  rw [e] at hg ⊢
  exact rmX_good hg
theorem sound_bin {op : BinOp} {ty yt : TypeId} {x y : Operand} {x' y' : Opd} (ho : o.op = .binOp op ty x y yt) (hx : cOpd N x = some x') (hy : cOpd N y = some y') :
    SoundP P ρ B N o (k_bin op x' y' cf t h n) t h n := by
  intro κ hg
  have e : k_bin op x' y' cf t h n κ = binK op (ev x' t) (ev y' t) fun r => κ r h n := by simp only [k_bin, evK_eq]
  rw [e] at hg
  have key : ∀ φ a, TR ρ N φ t a → ∃ X Y, a.eval x = X ∧ a.eval y = Y ∧ rel ρ φ (ev x' t) X ∧ rel ρ φ (ev y' t) Y := fun φ a ht => ⟨_, _, rfl, rfl, cOpd_rel hx ht, cOpd_rel hy ht⟩
  rcases binK_good hg with ⟨k, a, j, b, hxv, hyv, e'⟩ | ⟨n', c, m, d, hxv, hyv, e'⟩ | e' | ⟨l0, l1, n', c, m, d, hxv, hyv, e'⟩
  · by_cases hab : a < Mk k ∧ b < Mk j
    · rw [e'] at hg
      obtain ⟨v, e2, r, hr, hv⟩ := ibin_good op k a j b _ hab.1 hab.2 hg
      refine ⟨v, e.trans (e'.trans e2), fun φ ac w ht hg => ⟨r, ?_, hv ρ φ⟩⟩
      obtain ⟨X, Y, hX, hY, rX, rY⟩ := key φ ac ht
      rw [hxv] at rX; rw [hyv] at rY
      obtain ⟨_, rfl⟩ := rel_int rX
      obtain ⟨_, rfl⟩ := rel_int rY
      refine run_bin ho ?_ ?_
      · rw [hX, hY, eqGuard_at_int]
      · rw [hX, hY]; exact hr P ty w
    · -- no world has such a residue
      rw [e'] at hg
      have hv : ∃ v, ibin op k a j b (fun r => κ r h n) = κ v h n := by
        have gk : ∀ (f : V → R) (c : Nat → V) (m : Nat), forceN m (fun r => f (c r)) = f (c m) := fun f c m => forceN_eq _ _
        cases op <;> (simp only [ibin, iadd, isub, imul, iquo, irem, iand, ior, ixor, iandn, ishl, ishr, ieq, ine, ilt, igt, ile, ige, pos2, forceN_eq, forceB_eq] at hg ⊢)
        all_goals
          repeat' first
            | exact ⟨_, rfl⟩
            | (obtain ⟨_, ee⟩ := br_good hg; rw [ee] at hg ⊢)
            | exact br_val (f := fun v => κ v h n)
      obtain ⟨v, hv⟩ := hv
      refine ⟨v, e.trans (e'.trans hv), fun φ ac w ht hg => ?_⟩
      obtain ⟨X, Y, hX, hY, rX, rY⟩ := key φ ac ht
      rw [hxv] at rX; rw [hyv] at rY
      exact absurd ⟨(rel_int rX).1, (rel_int rY).1⟩ hab
  · by_cases hw : ∃ s u : ByteArray, n' = s.size ∧ c = encL s.data.toList ∧ m = u.size ∧ d = encL u.data.toList
    · obtain ⟨s, u, rfl, rfl, rfl, rfl⟩ := hw
      rw [e'] at hg
      obtain ⟨v, e2, r, hr, hv⟩ := sbin_good op s u _ hg
      refine ⟨v, e.trans (e'.trans e2), fun φ ac w ht hg => ⟨r, ?_, hv ρ φ⟩⟩
      obtain ⟨X, Y, hX, hY, rX, rY⟩ := key φ ac ht
      rw [hxv] at rX; rw [hyv] at rY
      obtain ⟨s', rfl, h1, h2⟩ := rel_str rX
      obtain ⟨u', rfl, h3, h4⟩ := rel_str rY
      have es : s' = s := by
        have := encL_inj (a := s'.data.toList) (b := s.data.toList) (by rw [size_data, size_data, h1]) h2
        cases s'; cases s; simp at this; rw [this]
      have eu : u' = u := by
        have := encL_inj (a := u'.data.toList) (b := u.data.toList) (by rw [size_data, size_data, h3]) h4
        cases u'; cases u; simp at this; rw [this]
      subst es eu
      refine run_bin ho ?_ ?_
      · rw [hX, hY, eqGuard_at_string]
      · rw [hX, hY]; exact hr P ty w
    · rw [e'] at hg
      have hv : ∃ v, sbin op n' c m d (fun r => κ r h n) = κ v h n := by
        cases op <;> first
          | exact hg.elim
          | (simp only [sbin, scat, seq', sne, slt, sge, forceN_eq, forceB_eq] at hg ⊢)
        · obtain ⟨_, ee⟩ := br_good hg; rw [ee]; exact ⟨_, rfl⟩
        · exact ⟨_, rfl⟩
        · cases seqB n' c m d <;> exact ⟨_, rfl⟩
        · exact ⟨_, rfl⟩
        · cases sltB n' c m d <;> exact ⟨_, rfl⟩
      obtain ⟨v, hv⟩ := hv
      refine ⟨v, e.trans (e'.trans hv), fun φ ac w ht hg => ?_⟩
      obtain ⟨X, Y, hX, hY, rX, rY⟩ := key φ ac ht
      rw [hxv] at rX; rw [hyv] at rY
      obtain ⟨s', rfl, h1, h2⟩ := rel_str rX
      obtain ⟨u', rfl, h3, h4⟩ := rel_str rY
      exact absurd ⟨s', u', h1.symm, h2.symm, h3.symm, h4.symm⟩ hw
  · rw [e'] at hg
    obtain ⟨v, e2, H⟩ := ivX_good hg
    refine ⟨v, e.trans (e'.trans e2), fun φ ac w ht hg => ?_⟩
    obtain ⟨X, Y, hX, hY, rX, rY⟩ := key φ ac ht
    obtain ⟨k, p, q, rfl, rfl, r, hr, hv⟩ := H ρ φ X Y rX rY
    refine ⟨r, run_bin ho ?_ ?_, hv ρ φ⟩
    · rw [hX, hY, eqGuard_at_int]
    · rw [hX, hY]; exact hr P ty w
  · rw [e'] at hg
    unfold ssBin at hg e'
    obtain ⟨hne, e2⟩ := br_good hg
    rw [e2] at hg
    have ne : ∀ φ ac, TR ρ N φ t ac → ∃ s u : ByteArray, ac.eval x = .string s ∧ ac.eval y = .string u ∧ (s.toList == u.toList) = false := fun φ ac ht => by
      obtain ⟨X, Y, hX, hY, rX, rY⟩ := key φ ac ht
      rw [hxv] at rX; rw [hyv] at rY
      simp only [rel] at rX
      obtain ⟨s, rfl, k1, k2, k3⟩ := rX
      obtain ⟨u, rfl, k4, k5⟩ := rel_str rY
      refine ⟨s, u, hX, hY, ?_⟩
      rw [Bool.eq_false_iff]
      intro hc
      have hc := eq_of_beq hc
      have hsu : s = u := by
        rw [ByteArray.toList_eq, ByteArray.toList_eq] at hc
        cases s; cases u; simp at hc; rw [hc]
      subst hsu
      rw [k4] at k1 k2 k3
      rw [k5] at k3
      rw [ble_iff.2 k1, ble_iff.2 k2] at hne
      simp only [br_true] at hne
      cases h1 : Nat.beq m n' with
      | false => rw [h1] at hne; cases hne
      | true =>
        rw [h1, br_true] at hne
        exact k3 ⟨Nat.eq_of_beq_eq_true h1, Nat.eq_of_beq_eq_true hne⟩
    cases op with
    | eql =>
      refine ⟨.bool false, e.trans (e'.trans e2), fun φ ac w ht hg => ⟨.bool false, ?_, toBool _ ρ φ⟩⟩
      obtain ⟨s, u, hX, hY, hn⟩ := ne φ ac ht
      refine run_bin ho (by rw [hX, hY, eqGuard_at_string]) ?_
      rw [hX, hY, show (Go.binOp .eql ty (.string s) (.string u)).run P w = .ok (.bool (s.toList == u.toList)) w from rfl, hn]
    | neq =>
      refine ⟨.bool true, e.trans (e'.trans e2), fun φ ac w ht hg => ⟨.bool true, ?_, toBool _ ρ φ⟩⟩
      obtain ⟨s, u, hX, hY, hn⟩ := ne φ ac ht
      refine run_bin ho (by rw [hX, hY, eqGuard_at_string]) ?_
      rw [hX, hY, show (Go.binOp .neq ty (.string s) (.string u)).run P w = .ok (.bool !(s.toList == u.toList)) w from rfl, hn]; rfl
    | _ => exact hg.elim
end
end Go.Ev

namespace Go.Ev
set_option linter.unusedVariables false
section
variable {P : Program} {ρ : Env} {B N : Nat} {o : Oper} {cf : CF} {t : Regs} {h : Heap} {n : K4}
theorem eqGuard_pure {ty : TypeId} {x y : Operand} {X Y : Value} {op : BinOp} (hg : P.eqGuardType P.depth ty = false) (hX : X ≠ .nilIface) (w : World) : (eqGuard op ty x y X Y).run P w = .ok () w := by
  unfold eqGuard
  cases op <;> simp <;> (split <;> first | (exact absurd rfl hX) | simp [hg] | simp)
theorem binOp_eql_run {ty : TypeId} {X Y : Value} {w : World} {r : Bool} (hr : (Op.equal ty X Y).run P w = .ok r w) (hX : (∃ b, X = .bool b) ∨ (∃ a, X = .agg a) ∨ (∃ a, X = .pointer a) ∨ (∃ a b c, X = .slice a b c) ∨ (∃ a, X = .map a) ∨ (∃ a b c, X = .func a b c) ∨ X = .nilFunc) :
    (Go.binOp .eql ty X Y).run P w = .ok (.bool r) w ∧ (Go.binOp .neq ty X Y).run P w = .ok (.bool !r) w := by
  rcases hX with ⟨b, rfl⟩ | ⟨a, rfl⟩ | ⟨a, rfl⟩ | ⟨a, b, c, rfl⟩ | ⟨a, rfl⟩ | ⟨a, b, c, rfl⟩ | rfl <;> (constructor <;> (unfold Go.binOp; simp [hr]))
theorem eqK_shape {pl : Plan} {ty : TypeId} (hp : cPlan P ty = some pl) {x y : V} {κ : Bool → R} (hg : (eqK pl x y κ).good) {φ : Emb} {X : Value} (hX : rel ρ φ x X) :
    (∃ b, X = .bool b) ∨ (∃ a, X = .agg a) ∨ (∃ a, X = .pointer a) ∨ (∃ a b c, X = .slice a b c) ∨ (∃ a, X = .map a) ∨ (∃ a b c, X = .func a b c) ∨ X = .nilFunc := by
  have ref : ∀ u, u ≠ .iface → (refK u x y κ).good → (∃ b, X = .bool b) ∨ (∃ a, X = .agg a) ∨ (∃ a, X = .pointer a) ∨ (∃ a b c, X = .slice a b c) ∨ (∃ a, X = .map a) ∨ (∃ a b c, X = .func a b c) ∨ X = .nilFunc := fun u hu hg => by
    rcases asRef_good (ρ := ρ) (φ := φ) (show R.good (asRef u x _ _) from hg) with ⟨rfl, _⟩ | ⟨_, hx⟩
    · rw [rel_nil hX]
      cases u <;> simp [nilOf] at hu ⊢
    · have := hx X hX
      cases u with
      | ptr => obtain ⟨a, rfl⟩ := this; exact .inr (.inr (.inl ⟨_, rfl⟩))
      | sl => obtain ⟨a, b, c, rfl⟩ := this; exact .inr (.inr (.inr (.inl ⟨_, _, _, rfl⟩)))
      | map => obtain ⟨a, rfl⟩ := this; exact .inr (.inr (.inr (.inr (.inl ⟨_, rfl⟩))))
      | fn => obtain ⟨a, b, c, rfl⟩ := this; exact .inr (.inr (.inr (.inr (.inr (.inl ⟨_, _, _, rfl⟩)))))
      | iface => exact absurd rfl hu
  unfold cPlan at hp
  split at hp
  · cases hp
    obtain ⟨b, rfl, _⟩ := asB_good (show R.good (asB x _) from hg)
    exact .inl ⟨b, rel_bool hX⟩
  · split at hp
    · cases hp
    · cases ho : cOffs P _ with
      | none => rw [ho] at hp; cases hp
      | some offs =>
        rw [ho] at hp; cases hp
        obtain ⟨a, rfl, _⟩ := asAgg_good (show R.good (asAgg x _) from hg)
        obtain ⟨xs, rfl, _⟩ := rel_agg hX
        exact .inr (.inl ⟨_, rfl⟩)
  · split at hp
    · cases hp; exact ref .ptr (by simp) hg
    · cases hp
  · cases hp; exact ref .sl (by simp) hg
  · cases hp; exact ref .map (by simp) hg
  · cases hp; exact ref .fn (by simp) hg
  · cases hp
theorem sound_eq {neg : Bool} {pl : Plan} {ty yt : TypeId} {x y : Operand} {x' y' : Opd} (ho : o.op = .binOp (if neg then .neq else .eql) ty x y yt) (hx : cOpd N x = some x') (hy : cOpd N y = some y')
    (hp : cPlan P ty = some pl) (hgd : P.eqGuardType P.depth ty = false) : SoundP P ρ B N o (k_eq neg pl x' y' cf t h n) t h n := by
  intro κ hg
  have e : k_eq neg pl x' y' cf t h n κ = eqK pl (ev x' t) (ev y' t) fun r => br neg (br r (κ (.bool false) h n) (κ (.bool true) h n)) (κ (.bool r) h n) := by simp only [k_eq, evK_eq]
  rw [e] at hg
  obtain ⟨r, g1, _⟩ := eqPlan_good (ρ := ρ) (φ := fun _ => none) hp hg
  refine ⟨.bool (if neg then !r else r), e.trans ((g1 _).trans (by cases neg <;> cases r <;> rfl)), fun φ a w ht hG => ⟨.bool (if neg then !r else r), ?_, toBool _ ρ φ⟩⟩
  obtain ⟨r', g2, g3⟩ := eqPlan_good (ρ := ρ) (φ := φ) hp hg
  have hrr : r' = r := by
    have e1 := g1 (fun q => R.rv (.bool q) hempty ⟨.d0, .d0, .d0, .d0⟩)
    rw [g2] at e1
    simpa using e1
  subst hrr
  have hX := cOpd_rel hx ht
  have hY := cOpd_rel hy ht
  have hsh := eqK_shape hp hg hX
  have hrun := binOp_eql_run (g3 _ _ w hX hY) hsh
  have hne : a.eval x ≠ .nilIface := by
    rcases hsh with ⟨b, e⟩ | ⟨b, e⟩ | ⟨b, e⟩ | ⟨b, c, d, e⟩ | ⟨b, e⟩ | ⟨b, c, d, e⟩ | e <;> rw [e] <;> simp
  cases neg
  · simp only [Bool.false_eq_true, if_false] at ho ⊢
    simp only [execOp, ho, Sem.run_bind, eqGuard_pure hgd hne, Result.andThen_ok, hrun.1, Sem.run_pure]
  · simp only [if_true] at ho ⊢
    simp only [execOp, ho, Sem.run_bind, eqGuard_pure hgd hne, Result.andThen_ok, hrun.2, Sem.run_pure]
theorem sound_not {ty : TypeId} {x : Operand} {x' : Opd} (ho : o.op = .unOp .not ty x) (hx : cOpd N x = some x') : SoundP P ρ B N o (k_not x' cf t h n) t h n := by
  intro κ hg
  have e : k_not x' cf t h n κ = asB (ev x' t) fun q => br q (κ (.bool false) h n) (κ (.bool true) h n) := by simp only [k_not, evK_eq]
  rw [e] at hg
  obtain ⟨b, hb, e'⟩ := asB_good hg
  refine ⟨.bool !b, e.trans (e'.trans (by cases b <;> rfl)), fun φ a w ht hg => ⟨.bool !b, ?_, toBool _ ρ φ⟩⟩
  have h1 := cOpd_rel hx ht
  rw [hb] at h1
  simp [execOp, ho, rel_bool h1, Op.unary]
theorem sound_neg {ty : TypeId} {x : Operand} {x' : Opd} (ho : o.op = .unOp .neg ty x) (hx : cOpd N x = some x') : SoundP P ρ B N o (k_neg x' cf t h n) t h n := by
  intro κ hg
  have e : k_neg x' cf t h n κ = asI (ev x' t) fun k r => isub k 0 k r fun v => κ v h n := by simp only [k_neg, evK_eq]
  rw [e] at hg
  obtain ⟨k, r, hb, e'⟩ := asI_good hg
  have hk : kbeq k k = true := kbeq_iff.2 rfl
  have e2 : (isub k 0 k r fun v => κ v h n) = κ (.int k ((0 + (Mk k - r)) % Mk k)) h n := by
    unfold isub; rw [hk, br_true, forceN_eq]; rfl
  refine ⟨.int k ((0 + (Mk k - r)) % Mk k), e.trans (e'.trans e2), fun φ a w ht hg => ⟨.int k (dec k ((0 + (Mk k - r)) % Mk k)), ?_, toInt k _ (Nat.mod_lt _ (Mk_pos k)) ρ φ⟩⟩
  have h1 := cOpd_rel hx ht
  rw [hb] at h1
  obtain ⟨hr, h1⟩ := rel_int h1
  have h0 : (0 : Int) = dec k 0 := by rw [dec_nonneg (by cases k <;> simp [Hk])]; rfl
  simp only [execOp, ho, h1, Op.unary, Op.intArith, Sem.run_bind, Sem.run_pure, Result.andThen_ok]
  rw [h0, wrap_sub k 0 r hr]
theorem sound_com {ty : TypeId} {x : Operand} {x' : Opd} (ho : o.op = .unOp .xor ty x) (hx : cOpd N x = some x') : SoundP P ρ B N o (k_com x' cf t h n) t h n := by
  intro κ hg
  have e : k_com x' cf t h n κ = asI (ev x' t) fun k r => κ (.int k (Nat.xor (Nat.sub (Mk k) 1) r)) h n := by simp only [k_com, evK_eq, forceN_eq]
  rw [e] at hg
  obtain ⟨k, r, hb, e'⟩ := asI_good hg
  by_cases hr : r < Mk k
  · have hl : Nat.xor (Mk k - 1) r < Mk k := xor_lt k _ _ (by have := Mk_pos k; omega) hr
    refine ⟨_, e.trans e', fun φ a w ht hg => ⟨.int k (dec k (Nat.xor (Mk k - 1) r)), ?_, toInt k _ hl ρ φ⟩⟩
    have h1 := cOpd_rel hx ht
    rw [hb] at h1
    obtain ⟨_, h1⟩ := rel_int h1
    have hm : (if k.signed then -1 else k.max : Int) = dec k (Mk k - 1) := by
      cases k <;> simp [IntKind.signed, IntKind.max, IntKind.bits, dec, Mk, Hk]
    simp only [execOp, ho, h1, Op.unary, Op.intBits, hm, BitVec.toNat_xor, bv _ _ hr, bv k (Mk k - 1) (by have := Mk_pos k; omega), Sem.run_bind, Sem.run_pure, Result.andThen_ok]
    rw [wrap_nat k ((Mk k - 1) ^^^ r) hl]; rfl
  · refine ⟨_, e.trans e', fun φ a w ht hg => ?_⟩
    have h1 := cOpd_rel hx ht
    rw [hb] at h1
    exact absurd (rel_int h1).1 hr
theorem cvi_eq (j k : IntKind) (r : Nat) (hr : r < Mk j) :
    k.wrap (dec j r) = dec k (if r < Hk j then r % Mk k else if Mk k ≤ Mk j then r % Mk k else Mk k - (Mk j - r)) := by
  apply wrap_eq
  by_cases h1 : r < Hk j
  · rw [dec_nonneg h1, if_pos h1, ← Int.natCast_emod]
  · rw [dec_neg h1, if_neg h1]
    cases j <;> cases k <;> simp only [Mk, Hk] at * <;> (try simp) <;> omega
theorem sound_cvi {src dst : TypeId} {j k : IntKind} {x : Operand} {x' : Opd} (ho : o.op = .convert src dst x) (hx : cOpd N x = some x') (hs : P.underlying src = some (.int j)) (hd : P.underlying dst = some (.int k)) :
    SoundP P ρ B N o (k_cvi k x' cf t h n) t h n := by
  intro κ hg
  have e : k_cvi k x' cf t h n κ = asI (ev x' t) fun j r => br (Nat.ble (Nat.succ r) (Hk j)) (κ (.int k (Nat.mod r (Mk k))) h n) (br (Nat.ble (Mk k) (Mk j)) (κ (.int k (Nat.mod r (Mk k))) h n) (κ (.int k (Nat.sub (Mk k) (Nat.sub (Mk j) r))) h n)) := by
    simp only [k_cvi, evK_eq, forceN_eq]
  rw [e] at hg
  obtain ⟨i, r, hb, e'⟩ := asI_good hg
  have e2 : br (Nat.ble (Nat.succ r) (Hk i)) (κ (.int k (Nat.mod r (Mk k))) h n) (br (Nat.ble (Mk k) (Mk i)) (κ (.int k (Nat.mod r (Mk k))) h n) (κ (.int k (Nat.sub (Mk k) (Nat.sub (Mk i) r))) h n)) =
      κ (.int k (if r < Hk i then r % Mk k else if Mk k ≤ Mk i then r % Mk k else Mk k - (Mk i - r))) h n := by
    by_cases h1 : r < Hk i
    · rw [ble_iff.2 h1, br_true, if_pos h1]; rfl
    · rw [ble_false (by omega), br_false, if_neg h1]
      by_cases h2 : Mk k ≤ Mk i
      · rw [ble_iff.2 h2, br_true, if_pos h2]; rfl
      · rw [ble_false (by omega), br_false, if_neg h2]; rfl
  refine ⟨_, e.trans (e'.trans e2), fun φ a w ht hg => ?_⟩
  have h1 := cOpd_rel hx ht
  rw [hb] at h1
  obtain ⟨hr, h1⟩ := rel_int h1
  refine ⟨_, ?_, toInt k _ ?_ ρ φ⟩
  · simp only [execOp, ho, h1, convert, Sem.run_bind, run_underlying hs, run_underlying hd, Result.andThen_ok, Conv.intToInt, Sem.run_pure]
    rw [cvi_eq i k r hr]
  · have := Mk_pos k
    split
    · exact Nat.mod_lt _ this
    · split
      · exact Nat.mod_lt _ this
      · omega
theorem sound_idn {src dst : TypeId} {x : Operand} {x' : Opd} (ho : o.op = .convert src dst x) (hx : cOpd N x = some x') (hs : P.underlying src = some .string) (hd : P.underlying dst = some .string) :
    SoundP P ρ B N o (k_idn x' cf t h n) t h n := by
  intro κ hg
  have e : k_idn x' cf t h n κ = asStr (ev x' t) fun _ _ => κ (ev x' t) h n := by simp only [k_idn, evK_eq]
  rw [e] at hg
  obtain ⟨m, c, hb, e'⟩ := asStr_good hg
  refine ⟨_, e.trans e', fun φ a w ht hg => ⟨a.eval x, ?_, cOpd_rel hx ht⟩⟩
  have h1 := cOpd_rel hx ht
  rw [hb] at h1
  obtain ⟨s, h1, _⟩ := rel_str h1
  simp [execOp, ho, h1, convert, run_underlying hs, run_underlying hd]
theorem sound_mkfn {f : Nat} {caps : Array Operand} {l : List Opd} (ho : o.op = .makeFunc (.func f) #[] caps) (hl : cOpds N caps.toList = some l) : SoundP P ρ B N o (k_mkfn f l cf t h n) t h n :=
  sound_pure (v := .fn f (l.map (ev · t))) (fun κ => by simp only [k_mkfn, evsK_eq]) fun φ a w ht hg => ⟨.func (.func f) #[] (caps.map a.eval), by simp [execOp, ho, Instr.makeFunc], by
    simp only [rel]; exact ⟨_, rfl, by simpa using cOpds_rel hl ht⟩⟩
theorem sound_ext {i : Nat} {x : Operand} {x' : Opd} (ho : o.op = .extract x i) (hx : cOpd N x = some x') : SoundP P ρ B N o (k_ext i x' cf t h n) t h n := by
  intro κ hg
  have e : k_ext i x' cf t h n κ = asTup (ev x' t) fun l => nthK i l fun v => κ v h n := by simp only [k_ext, evK_eq]
  rw [e] at hg
  obtain ⟨l, hb, e'⟩ := asTup_good hg
  rw [e'] at hg
  obtain ⟨v, hv, e2⟩ := nthK_good hg
  refine ⟨v, e.trans (e'.trans e2), fun φ a w ht hg => ?_⟩
  have h1 := cOpd_rel hx ht
  rw [hb] at h1
  obtain ⟨cs, h1, hl⟩ := rel_tup h1
  obtain ⟨X, hX, hr⟩ := (rels_iff.1 hl).2 i v hv
  exact ⟨X, by simp [execOp, ho, h1, Instr.extract, show cs[i]? = some X by simpa using hX], hr⟩
theorem ixK_good {v : V} {κ : Nat → R} (h : (ixK v κ).good) : ∃ k r, v = .int k r ∧ r < Hk k ∧ ixK v κ = κ r := by
  obtain ⟨k, r, rfl, e⟩ := asI_good (show R.good (asI v _) from h)
  have h : R.good (br (Nat.ble (Nat.succ r) (Hk k)) (κ r) (.fail "negative index")) := h
  obtain ⟨h1, e1⟩ := br_good h
  exact ⟨k, r, rfl, lt_of_ble h1, e1⟩
theorem rel_ix {φ : Emb} {k : IntKind} {r : Nat} (hr : r < Hk k) {X : Value} (h : rel ρ φ (.int k r) X) : X = .int k (r : Int) := by rw [(rel_int h).2, dec_nonneg hr]
theorem sound_fad {s : TypeId} {f : Nat} {fs : Array Field} {fd : Field} {x : Operand} {x' : Opd} (ho : o.op = .fieldAddr s x f) (hx : cOpd N x = some x') (hs : P.underlying s = some (.struct fs)) (hf : fs[f]? = some fd) {sz : Nat} (hsz : cSize P fd.type = some (sz + 1)) :
    SoundP P ρ B N o (k_fad fd.offset x' cf t h n) t h n := by
  intro κ hg
  have e : k_fad fd.offset x' cf t h n κ = asPo (ev x' t) (fun p o => κ (.ptr p (Nat.add o fd.offset)) h n) (fun o => otAp o (fun i j m => br (Nat.ble (Nat.succ fd.offset) m) (κ (.oth (.ap i (Nat.add j fd.offset) (Nat.sub m fd.offset))) h n) (.fail "a cell that stays")) (.fail "pointer expected")) := by simp only [k_fad, evK_eq, forceN_eq]
  rw [e] at hg
  rcases asPo_cases hg with ⟨p, off, hb, e'⟩ | ⟨oo, hb, e'⟩
  rotate_left
  · rw [e'] at hg
    cases oo with
    | ap i j m =>
      have hg' : R.good (br (Nat.ble (Nat.succ fd.offset) m) (κ (.oth (.ap i (Nat.add j fd.offset) (Nat.sub m fd.offset))) h n) (.fail "a cell that stays")) := hg
      obtain ⟨h1, e1⟩ := br_good hg'
      have h1 := lt_of_ble h1
      refine ⟨_, e.trans (e'.trans e1), fun φ a w ht hg => ?_⟩
      have h2 := cOpd_rel hx ht
      rw [hb] at h2
      simp only [rel] at h2
      obtain ⟨b, q, c, e2, fr, h2, c1, c2⟩ := h2
      refine ⟨.pointer (some ⟨b, q + fd.offset, none⟩), ?_, ?_⟩
      · have hfp : (fieldPlace ⟨b, q, none⟩ fd).run P w = .ok ⟨b, q + fd.offset, none⟩ w := by
          unfold fieldPlace
          simp [addr_add, run_sizeOf hsz]
        simp [execOp, ho, h2, Instr.fieldAt, run_underlying hs, hf, Instr.sureAddr, hfp]
      · simp only [rel]
        refine ⟨b, q + fd.offset, c, e2, fr, rfl, c1, fun j' hj => ?_⟩
        have hj : j' < m - fd.offset := hj
        obtain ⟨y, y1, y2⟩ := c2 (fd.offset + j') (by omega)
        refine ⟨y, by rw [Nat.add_assoc]; exact y1, ?_⟩
        have e5 : Nat.add j fd.offset + j' = j + (fd.offset + j') := Nat.add_assoc ..
        rw [e5]; exact y2
    | _ => exact hg.elim
  refine ⟨_, e.trans e', fun φ a w ht hg => ?_⟩
  have h1 := cOpd_rel hx ht
  rw [hb] at h1
  obtain ⟨b, sh, tot, hp, h1⟩ := rel_ptr h1
  refine ⟨.pointer (some ⟨b, sh + (off + fd.offset), none⟩), ?_, by simp only [rel]; exact ⟨b, sh, tot, hp, rfl⟩⟩
  have hfp : (fieldPlace ⟨b, sh + off, none⟩ fd).run P w = .ok ⟨b, sh + (off + fd.offset), none⟩ w := by
    unfold fieldPlace
    simp [addr_add, Nat.add_assoc, run_sizeOf hsz]
  simp [execOp, ho, h1, Instr.fieldAt, run_underlying hs, hf, Instr.sureAddr, hfp]
theorem sound_fld {s : TypeId} {f : Nat} {fs : Array Field} {fd : Field} {ag : Bool} {sz : Nat} {x : Operand} {x' : Opd} (ho : o.op = .field s x f) (hx : cOpd N x = some x') (hs : P.underlying s = some (.struct fs)) (hf : fs[f]? = some fd)
    (ha : cAgg P fd.type = some ag) (hsz : cSize P fd.type = some sz) : SoundP P ρ B N o (k_fld fd.offset sz ag x' cf t h n) t h n := by
  intro κ hg
  have e : k_fld fd.offset sz ag x' cf t h n κ = asAgg (ev x' t) fun l => br ag (dropK fd.offset l fun r => takeK sz r fun r => κ (.agg r) h n) (nthK fd.offset l fun v => κ v h n) := by simp only [k_fld, evK_eq]
  rw [e] at hg
  obtain ⟨l, hb, e'⟩ := asAgg_good hg
  rw [e'] at hg
  cases ag with
  | true =>
    have hg : R.good (dropK fd.offset l fun r => takeK sz r fun r => κ (.agg r) h n) := hg
    obtain ⟨_, e2⟩ := dropK_good hg
    rw [e2] at hg
    obtain ⟨h3, e3⟩ := takeK_good hg
    refine ⟨.agg ((l.drop fd.offset).take sz), e.trans (e'.trans (e2.trans e3)), fun φ a w ht hg => ?_⟩
    have h1 := cOpd_rel hx ht
    rw [hb] at h1
    obtain ⟨cs, h1, hl, h2⟩ := rel_agg h1
    refine ⟨.agg (cs.extract fd.offset (fd.offset + sz)), by simp [execOp, ho, h1, Instr.field, run_underlying hs, hf, Go.asAgg, part, run_isAgg ha, run_sizeOf hsz], ?_⟩
    simp only [rel]
    have hx : (cs.extract fd.offset (fd.offset + sz)).toList = (cs.toList.drop fd.offset).take sz := by simp
    exact ⟨_, rfl, by rw [hx]; exact rels_take (rels_drop hl _) _, fun y hy => h2 y (by rw [hx] at hy; exact List.mem_of_mem_drop (List.mem_of_mem_take hy))⟩
  | false =>
    have hg : R.good (nthK fd.offset l fun v => κ v h n) := hg
    obtain ⟨v, hv, e2⟩ := nthK_good hg
    refine ⟨v, e.trans (e'.trans e2), fun φ a w ht hg => ?_⟩
    have h1 := cOpd_rel hx ht
    rw [hb] at h1
    obtain ⟨cs, h1, hl, h2⟩ := rel_agg h1
    obtain ⟨X, hX, hr⟩ := (rels_iff.1 hl).2 _ v hv
    exact ⟨X, by simp [execOp, ho, h1, Instr.field, run_underlying hs, hf, Go.asAgg, part, run_isAgg ha, show cs[fd.offset]? = some X by simpa using hX], hr⟩
theorem sound_ixS {ty e : TypeId} {esz : Nat} {x i : Operand} {x' i' : Opd} (ho : o.op = .indexAddr ty x i) (hx : cOpd N x = some x') (hi : cOpd N i = some i') (ht : P.underlying ty = some (.slice e)) (he : cSize P e = some esz) :
    SoundP P ρ B N o (k_ixS esz x' i' cf t h n) t h n := by
  intro κ hg
  have e1 : k_ixS esz x' i' cf t h n κ = ixK (ev i' t) fun a => asSlo (ev x' t) (.fail "index") (fun p off len cap ex esz' => br (Nat.beq esz' esz) (br (Nat.ble (Nat.succ a) len) (κ (.ptr p (Nat.add off (Nat.mul a esz))) h n) (.fail "index")) (.fail "element"))
      (fun o => otAs o (fun i lo hi z => br (Nat.beq z esz) (br (Nat.ble (Nat.succ a) lo) (κ (.oth (.ap i (Nat.mul a esz) esz)) h n) (.fail "index")) (.fail "element")) (.fail "slice expected")) := by
    simp only [k_ixS, evK_eq, forceN_eq]
  rw [e1] at hg
  obtain ⟨k, r, hiv, hr, e2⟩ := ixK_good hg
  rw [e2] at hg
  rcases asSlo_cases hg with ⟨_, e3⟩ | ⟨p, off, len, cap, ex, esz', hxv, e3⟩ | ⟨oo, hxv, e3⟩
  · rw [e3] at hg; exact hg.elim
  rotate_left
  · rw [e3] at hg
    cases oo with
    | ro i0 l0 l1 z =>
      have hg' : R.good (br (Nat.beq z esz) (br (Nat.ble (Nat.succ r) l0) (κ (.oth (.ap i0 (Nat.mul r esz) esz)) h n) (.fail "index")) (.fail "element")) := hg
      obtain ⟨h4, e4⟩ := br_good hg'
      rw [e4] at hg'
      obtain ⟨h5, e5⟩ := br_good hg'
      have h4 := Nat.eq_of_beq_eq_true h4
      have h5 := lt_of_ble h5
      subst h4
      refine ⟨_, e1.trans (e2.trans (e3.trans (e4.trans e5))), fun φ a w hT hg => ?_⟩
      have g1 := cOpd_rel hx hT
      have g2 := cOpd_rel hi hT
      rw [hxv] at g1; rw [hiv] at g2
      simp only [rel] at g1
      obtain ⟨b, q, len, cap, c, e', fr, g1, c1, c2, c3, c4, c5⟩ := g1
      have g2 := rel_ix hr g2
      refine ⟨.pointer (some ⟨b, q + r * z, none⟩), ?_, ?_⟩
      · simp only [execOp, ho, g1, g2, Instr.indexAt, Go.asIntOf, Sem.run_bind, Sem.run_pure, Result.andThen_ok, run_underlying ht]
        have hc : (0 : Int) ≤ (r : Int) ∧ (r : Int) < (len : Int) := by omega
        simp [hc, run_sizeOf he, addr_add]
      · simp only [rel]
        refine ⟨b, q + r * z, c, e', fr, rfl, c4, fun j hj => ?_⟩
        have h6 : r * z + j < len * z := Nat.lt_of_lt_of_le (Nat.add_lt_add_left hj _) (by rw [← Nat.succ_mul]; exact Nat.mul_le_mul_right _ (by omega))
        obtain ⟨y, y1, y2⟩ := c5 (r * z + j) h6
        exact ⟨y, by rw [Nat.add_assoc]; exact y1, y2⟩
    | _ => exact hg.elim
  rw [e3] at hg
  obtain ⟨h4, e4⟩ := br_good hg
  rw [e4] at hg
  obtain ⟨h5, e5⟩ := br_good hg
  have h4 := Nat.eq_of_beq_eq_true h4
  have h5 := lt_of_ble h5
  subst h4
  refine ⟨_, e1.trans (e2.trans (e3.trans (e4.trans e5))), fun φ a w hT hg => ?_⟩
  have g1 := cOpd_rel hx hT
  have g2 := cOpd_rel hi hT
  rw [hxv] at g1; rw [hiv] at g2
  obtain ⟨b, s, tot, q, cap', hp, g1, c1, c2, c3, c4⟩ := rel_sl g1
  have g2 := rel_ix hr g2
  obtain ⟨c5, c6⟩ := c4 (by omega)
  refine ⟨.pointer (some ⟨b, s + (off + r * esz'), none⟩), ?_, by simp only [rel]; exact ⟨b, s, tot, hp, rfl⟩⟩
  simp only [execOp, ho, g1, g2, Instr.indexAt, Go.asIntOf, Sem.run_bind, Sem.run_pure, Result.andThen_ok, run_underlying ht]
  have hc : (0 : Int) ≤ (r : Int) ∧ (r : Int) < (len : Int) := by omega
  simp [hc, run_sizeOf he, addr_add, c5, Nat.add_assoc]
theorem sound_ixA {ty e : TypeId} {m esz : Nat} {x i : Operand} {x' i' : Opd} (ho : o.op = .indexAddr ty x i) (hx : cOpd N x = some x') (hi : cOpd N i = some i') (ht : P.underlying ty = some (.array m e)) (he : cSize P e = some esz) :
    SoundP P ρ B N o (k_ixA m esz x' i' cf t h n) t h n := by
  intro κ hg
  have e1 : k_ixA m esz x' i' cf t h n κ = ixK (ev i' t) fun a => asP (ev x' t) fun p off => br (Nat.ble (Nat.succ a) m) (κ (.ptr p (Nat.add off (Nat.mul a esz))) h n) (.fail "index") := by
    simp only [k_ixA, evK_eq, forceN_eq]
  rw [e1] at hg
  obtain ⟨k, r, hiv, hr, e2⟩ := ixK_good hg
  rw [e2] at hg
  obtain ⟨p, off, hxv, e3⟩ := asP_good hg
  rw [e3] at hg
  obtain ⟨h5, e5⟩ := br_good hg
  have h5 := lt_of_ble h5
  refine ⟨_, e1.trans (e2.trans (e3.trans e5)), fun φ a w hT hg => ?_⟩
  have g1 := cOpd_rel hx hT
  have g2 := cOpd_rel hi hT
  rw [hxv] at g1; rw [hiv] at g2
  obtain ⟨b, s, tot, hp, g1⟩ := rel_ptr g1
  have g2 := rel_ix hr g2
  refine ⟨.pointer (some ⟨b, s + (off + r * esz), none⟩), ?_, by simp only [rel]; exact ⟨b, s, tot, hp, rfl⟩⟩
  simp only [execOp, ho, g1, g2, Instr.indexAt, Go.asIntOf, Instr.sureAddr, Sem.run_bind, Sem.run_pure, Result.andThen_ok, run_underlying ht]
  have hc : (0 : Int) ≤ (r : Int) ∧ (r : Int) < (m : Int) := by omega
  simp [hc, run_sizeOf he, addr_add, Nat.add_assoc]
theorem sound_idS {ty : TypeId} {x i : Operand} {x' i' : Opd} (ho : o.op = .index ty x i) (hx : cOpd N x = some x') (hi : cOpd N i = some i') (ht : P.underlying ty = some .string) :
    SoundP P ρ B N o (k_idS x' i' cf t h n) t h n := by
  intro κ hg
  have e1 : k_idS x' i' cf t h n κ = ixK (ev i' t) fun a => asStr (ev x' t) fun m c => br (Nat.ble (Nat.succ a) m) (κ (.int .u8 (lo (sh c a) 1)) h n) (.fail "index") := by
    simp only [k_idS, evK_eq, forceN_eq]
  rw [e1] at hg
  obtain ⟨k, r, hiv, hr, e2⟩ := ixK_good hg
  rw [e2] at hg
  obtain ⟨m, c, hxv, e3⟩ := asStr_good hg
  rw [e3] at hg
  obtain ⟨h5, e5⟩ := br_good hg
  have h5 := lt_of_ble h5
  refine ⟨_, e1.trans (e2.trans (e3.trans e5)), fun φ a w hT hg => ?_⟩
  have g1 := cOpd_rel hx hT
  have g2 := cOpd_rel hi hT
  rw [hxv] at g1; rw [hiv] at g2
  obtain ⟨s, gx, hs, hc⟩ := rel_str g1
  have g2 := rel_ix hr g2
  clear g1
  subst hs hc
  have hr' : r < s.data.toList.length := by rw [size_data]; exact h5
  have hb : lo (sh (encL s.data.toList) r) 1 = s.data.toList[r].toNat := by rw [lo_sh]; exact encL_get _ _ hr'
  have hlt := s.data.toList[r].toNat_lt
  refine ⟨.int .u8 (s.data.toList[r].toNat : Nat), ?_, ?_⟩
  · simp only [execOp, ho, gx, g2, Instr.index, Go.asIntOf, Sem.run_bind, Sem.run_pure, Result.andThen_ok, run_underlying ht]
    have h0 : (0 : Int) ≤ (r : Int) := by omega
    have hget : s[(r : Int).toNat]? = some s.data.toList[r] := by
      rw [Int.toNat_natCast, getElem?_pos s r h5]; rfl
    simp only [h0, if_true, hget, Sem.run_pure, Result.andThen_ok]
  · rw [hb]
    simp only [rel]
    refine ⟨by simp [Mk]; exact hlt, ?_⟩
    rw [dec_nonneg (by simp [Hk]; exact hlt)]
theorem sound_idA {ty e : TypeId} {m esz : Nat} {ag : Bool} {x i : Operand} {x' i' : Opd} (ho : o.op = .index ty x i) (hx : cOpd N x = some x') (hi : cOpd N i = some i') (ht : P.underlying ty = some (.array m e))
    (ha : cAgg P e = some ag) (he : cSize P e = some esz) : SoundP P ρ B N o (k_idA m esz ag x' i' cf t h n) t h n := by
  intro κ hg
  have e1 : k_idA m esz ag x' i' cf t h n κ = ixK (ev i' t) fun a => asAgg (ev x' t) fun l => br (Nat.ble (Nat.succ a) m) (br ag (dropK (Nat.mul a esz) l fun r => takeK esz r fun r => κ (.agg r) h n) (nthK (Nat.mul a esz) l fun v => κ v h n)) (.fail "index") := by
    simp only [k_idA, evK_eq, forceN_eq]
  rw [e1] at hg
  obtain ⟨k, r, hiv, hr, e2⟩ := ixK_good hg
  rw [e2] at hg
  obtain ⟨l, hxv, e3⟩ := asAgg_good hg
  rw [e3] at hg
  obtain ⟨h5, e5⟩ := br_good hg
  rw [e5] at hg
  have h5 := lt_of_ble h5
  have key : ∀ (v : V) (part : ∀ (φ : Emb) (cs : Array Value) (w : World), rels ρ φ l cs.toList → (∀ y ∈ cs.toList, y.oneCell' = true) → ∃ X, (Go.part e cs (r * esz)).run P w = .ok X w ∧ rel ρ φ v X), PureOK P ρ B N o t h n v := fun v part =>
    fun φ a w hT hg => by
      have g1 := cOpd_rel hx hT
      have g2 := cOpd_rel hi hT
      rw [hxv] at g1; rw [hiv] at g2
      obtain ⟨cs, g1, hl, h2⟩ := rel_agg g1
      have g2 := rel_ix hr g2
      obtain ⟨X, hX, hrX⟩ := part φ cs w hl h2
      refine ⟨X, ?_, hrX⟩
      simp only [execOp, ho, g1, g2, Instr.index, Go.asIntOf, Sem.run_bind, Sem.run_pure, Result.andThen_ok, run_underlying ht]
      have hc : (0 : Int) ≤ (r : Int) ∧ (r : Int) < (m : Int) := by omega
      simp [hc, run_sizeOf he, hX]
  cases ag with
  | true =>
    have hg : R.good (dropK (r * esz) l fun r => takeK esz r fun r => κ (.agg r) h n) := hg
    obtain ⟨_, e6⟩ := dropK_good hg
    rw [e6] at hg
    obtain ⟨h7, e7⟩ := takeK_good hg
    refine ⟨.agg ((l.drop (r * esz)).take esz), e1.trans (e2.trans (e3.trans (e5.trans (e6.trans e7)))), key _ fun φ cs w hl h2 => ?_⟩
    refine ⟨.agg (cs.extract (r * esz) (r * esz + esz)), by simp [part, run_isAgg ha, run_sizeOf he], ?_⟩
    simp only [rel]
    have hx : (cs.extract (r * esz) (r * esz + esz)).toList = (cs.toList.drop (r * esz)).take esz := by simp
    exact ⟨_, rfl, by rw [hx]; exact rels_take (rels_drop hl _) _, fun y hy => h2 y (by rw [hx] at hy; exact List.mem_of_mem_drop (List.mem_of_mem_take hy))⟩
  | false =>
    have hg : R.good (nthK (r * esz) l fun v => κ v h n) := hg
    obtain ⟨v, hv, e6⟩ := nthK_good hg
    refine ⟨v, e1.trans (e2.trans (e3.trans (e5.trans e6))), key v fun φ cs w hl h2 => ?_⟩
    obtain ⟨X, hX, hrX⟩ := (rels_iff.1 hl).2 _ v hv
    exact ⟨X, by simp [part, run_isAgg ha, show cs[r * esz]? = some X by simpa using hX], hrX⟩
theorem sound_nilck {x : Operand} {x' : Opd} (ho : o.op = .nilCheck x) (hx : cOpd N x = some x') : SoundP P ρ B N o (k_nilck x' cf t h n) t h n := by
  intro κ hg
  cases hv : ev x' t with
  | ptr p off =>
    refine ⟨_, (by simp only [k_nilck, evK_eq]; rw [hv] : k_nilck x' cf t h n κ = κ (.ptr p off) h n), fun φ a w hT hg => ?_⟩
    have g1 := cOpd_rel hx hT
    rw [hv] at g1
    obtain ⟨b, s, tot, hp, e⟩ := rel_ptr g1
    exact ⟨a.eval x, by simp [execOp, ho, e], g1⟩
  | fn f l =>
    refine ⟨_, (by simp only [k_nilck, evK_eq]; rw [hv] : k_nilck x' cf t h n κ = κ (.fn f l) h n), fun φ a w hT hg => ?_⟩
    have g1 := cOpd_rel hx hT
    rw [hv] at g1
    obtain ⟨cs, e, hl⟩ := rel_fn g1
    exact ⟨a.eval x, by simp [execOp, ho, e], g1⟩
  | _ =>
    have e : k_nilck x' cf t h n κ = .fail "nil" := by simp only [k_nilck, evK_eq]; rw [hv]
    rw [e] at hg; exact hg.elim
theorem run_max2 {k : IntKind} {x y : Int} (w : World) : (Builtin.max2 (.int k x) (.int k y)).run P w = .ok (.int k (if y > x then y else x)) w := rfl
theorem run_min2 {k : IntKind} {x y : Int} (w : World) : (Builtin.min2 (.int k x) (.int k y)).run P w = .ok (.int k (if y < x then y else x)) w := rfl
theorem sound_min {c : Call} {x y : Operand} {x' y' : Opd} (ho : o.op = .call c) (hc : c.callee = .builtin .min) (ha : c.args.toList = [x, y]) (hx : cOpd N x = some x') (hy : cOpd N y = some y') :
    SoundP P ρ B N o (k_min x' y' cf t h n) t h n := by
  intro κ hg
  have e1 : k_min x' y' cf t h n κ = mnV (ev x' t) (ev y' t) fun v => κ v h n := by simp only [k_min, evK_eq]
  rw [e1] at hg
  obtain ⟨u, e2, H⟩ := mnV_good hg
  refine ⟨u, e1.trans e2, fun φ ac w hT hg => ?_⟩
  have g1 := cOpd_rel hx hT
  have g2 := cOpd_rel hy hT
  obtain ⟨k, p, q, q1, q2, hr⟩ := H ρ φ _ _ g1 g2
  have hargs : c.args = #[x, y] := by rw [← ha]
  refine ⟨_, ?_, hr⟩
  simp only [execOp, ho, resolve, hc, hargs, invoke, builtin, Builtin.min_, Sem.run_bind, Sem.run_pure, Result.andThen_ok]
  simp only [List.map_toArray, List.map_cons, List.map_nil, List.foldlM_cons, List.foldlM_nil, q1, q2, Sem.run_bind, run_min2, Result.andThen_ok, Sem.run_pure]
theorem sound_max {c : Call} {x y : Operand} {x' y' : Opd} (ho : o.op = .call c) (hc : c.callee = .builtin .max) (ha : c.args.toList = [x, y]) (hx : cOpd N x = some x') (hy : cOpd N y = some y') :
    SoundP P ρ B N o (k_max x' y' cf t h n) t h n := by
  intro κ hg
  have e1 : k_max x' y' cf t h n κ = mxV (ev x' t) (ev y' t) fun v => κ v h n := by simp only [k_max, evK_eq]
  rw [e1] at hg
  obtain ⟨u, e2, H⟩ := mxV_good hg
  refine ⟨u, e1.trans e2, fun φ ac w hT hg => ?_⟩
  have g1 := cOpd_rel hx hT
  have g2 := cOpd_rel hy hT
  obtain ⟨k, p, q, q1, q2, hr⟩ := H ρ φ _ _ g1 g2
  have hargs : c.args = #[x, y] := by rw [← ha]
  refine ⟨_, ?_, hr⟩
  simp only [execOp, ho, resolve, hc, hargs, invoke, builtin, Builtin.max_, Sem.run_bind, Sem.run_pure, Result.andThen_ok]
  simp only [List.map_toArray, List.map_cons, List.map_nil, List.foldlM_cons, List.foldlM_nil, q1, q2, Sem.run_bind, run_max2, Result.andThen_ok, Sem.run_pure]
theorem cOpds_cons {l : List Operand} {x : Opd} {xs : List Opd} (h : cOpds N l = some (x :: xs)) : ∃ x0 l0, l = x0 :: l0 ∧ cOpd N x0 = some x ∧ cOpds N l0 = some xs := by
  cases l with
  | nil => simp [cOpds] at h
  | cons a l =>
    simp only [cOpds] at h
    split at h
    · rename_i y ys h1 h2
      cases h
      exact ⟨a, l, rfl, h1, h2⟩
    · cases h
theorem cOpds_three {l : List Operand} {x y z : Opd} (h : cOpds N l = some [x, y, z]) : ∃ x0 y0 z0, l = [x0, y0, z0] ∧ cOpd N x0 = some x ∧ cOpd N y0 = some y ∧ cOpd N z0 = some z := by
  obtain ⟨x0, l0, rfl, hx, h⟩ := cOpds_cons h
  obtain ⟨y0, l1, rfl, hy, h⟩ := cOpds_cons h
  obtain ⟨z0, l2, rfl, hz, h⟩ := cOpds_cons h
  cases l2 with
  | nil => exact ⟨x0, y0, z0, rfl, hx, hy, hz⟩
  | cons a l =>
    simp only [cOpds] at h
    split at h <;> cases h
theorem sound_max3 {c : Call} {x y z : Operand} {x' y' z' : Opd} (ho : o.op = .call c) (hc : c.callee = .builtin .max) (ha : c.args.toList = [x, y, z]) (hx : cOpd N x = some x') (hy : cOpd N y = some y') (hz : cOpd N z = some z') :
    SoundP P ρ B N o (k_max3 x' y' z' cf t h n) t h n := by
  intro κ hg
  have e1 : k_max3 x' y' z' cf t h n κ = asI (ev x' t) fun k a => asI (ev y' t) fun j b => asI (ev z' t) fun i c => br (kbeq k j) (br (kbeq k i) (br (ltI k a b) (br (ltI k b c) (κ (ev z' t) h n) (κ (ev y' t) h n)) (br (ltI k a c) (κ (ev z' t) h n) (κ (ev x' t) h n))) (.fail "kinds")) (.fail "kinds") := by simp only [k_max3, evK_eq]
  rw [e1] at hg
  obtain ⟨k, a, hxv, e2⟩ := asI_good hg
  rw [e2] at hg
  obtain ⟨j, b, hyv, e3⟩ := asI_good hg
  rw [e3] at hg
  obtain ⟨i, d, hzv, e4⟩ := asI_good hg
  rw [e4] at hg
  obtain ⟨rfl, e5⟩ := kb hg
  rw [e5] at hg
  obtain ⟨rfl, e6⟩ := kb hg
  refine ⟨if ltI k a b then (if ltI k b d then ev z' t else ev y' t) else (if ltI k a d then ev z' t else ev x' t), e1.trans (e2.trans (e3.trans (e4.trans (e5.trans (e6.trans (by cases ltI k a b <;> cases ltI k b d <;> cases ltI k a d <;> rfl)))))), fun φ ac w hT hg => ?_⟩
  have g1 := cOpd_rel hx hT
  have g2 := cOpd_rel hy hT
  have g3 := cOpd_rel hz hT
  have g1' := g1; have g2' := g2; have g3' := g3
  rw [hxv] at g1'; rw [hyv] at g2'; rw [hzv] at g3'
  obtain ⟨ha1, q1⟩ := rel_int g1'
  obtain ⟨hb1, q2⟩ := rel_int g2'
  obtain ⟨hd1, q3⟩ := rel_int g3'
  have hargs : c.args = #[x, y, z] := by rw [← ha]
  refine ⟨if ltI k a b then (if ltI k b d then ac.eval z else ac.eval y) else (if ltI k a d then ac.eval z else ac.eval x), ?_, by cases ltI k a b <;> cases ltI k b d <;> cases ltI k a d <;> assumption⟩
  simp only [execOp, ho, resolve, hc, hargs, invoke, builtin, Builtin.max_, Sem.run_bind, Sem.run_pure, Result.andThen_ok]
  simp only [List.map_toArray, List.map_cons, List.map_nil, List.foldlM_cons, List.foldlM_nil, q1, q2, q3, Sem.run_bind, run_max2, Result.andThen_ok, Sem.run_pure]
  rw [ltI_iff ha1 hb1, ltI_iff hb1 hd1, ltI_iff ha1 hd1]
  by_cases h1 : dec k a < dec k b <;> by_cases h2 : dec k b < dec k d <;> by_cases h3 : dec k a < dec k d <;> simp [h1, h2, h3]
end
end Go.Ev

namespace Go.Ev
set_option linter.unusedVariables false
section
variable {P : Program} {ρ : Env} {B N : Nat} {o : Oper} {cf : CF} {t : Regs} {h : Heap} {n : K4}
def OptIs (v : Option Value) (r d : Nat) : Prop := (v = none ∧ r = d) ∨ ∃ k, v = some (.int k (r : Int))
theorem optK_good {oo : Option Operand} {x : Option Opd} (hx : cOpdO N oo = some x) {d : Nat} {κ : Nat → R} (hg : (optK x t d κ).good) :
    ∃ r, optK x t d κ = κ r ∧ ∀ φ a, TR ρ N φ t a → OptIs (oo.map a.eval) r d := by
  cases oo with
  | none =>
    simp only [cOpdO, Option.some.injEq] at hx; subst hx
    exact ⟨d, rfl, fun φ a _ => .inl ⟨rfl, rfl⟩⟩
  | some y =>
    simp only [cOpdO] at hx
    cases hy : cOpd N y with
    | none => rw [hy] at hx; cases hx
    | some y' =>
      rw [hy] at hx; cases hx
      have e : optK (some y') t d κ = ixK (ev y' t) κ := evK_eq y' t _
      rw [e] at hg
      obtain ⟨k, r, hv, hr, e'⟩ := ixK_good hg
      refine ⟨r, e.trans e', fun φ a ht => .inr ⟨k, ?_⟩⟩
      have := cOpd_rel hy ht
      rw [hv] at this
      rw [Option.map_some, rel_ix hr this]
theorem run_bounds {sl : Bool} {len cap : Nat} {lo hi : Option Value} {l m : Nat} (hl : OptIs lo l 0) (hh : OptIs hi m len) (h1 : l ≤ m) (h2 : m ≤ cap) (w : World) :
    (Instr.sliceBounds sl len cap lo hi none).run P w = .ok (l, m, cap) w := by
  have hb : ∀ (k : IntKind) (r y : Nat) (c : BoundsCode), r ≤ y → (Instr.sliceBound (.int k (r : Int)) y c).run P w = .ok r w := fun k r y c hr => by
    simp only [Instr.sliceBound, Go.asIntOf, Sem.run_bind, Sem.run_pure, Result.andThen_ok]
    have hc : (0 : Int) ≤ (r : Int) ∧ (r : Int) ≤ (y : Int) := by omega
    simp [hc]
  rcases hl with ⟨rfl, rfl⟩ | ⟨k, rfl⟩ <;> rcases hh with ⟨rfl, rfl⟩ | ⟨j, rfl⟩ <;> simp [Instr.sliceBounds, hb _ _ _ _ h1, hb _ _ _ _ h2]
theorem sound_slS {ty : TypeId} {x : Operand} {lo hi : Option Operand} {x' : Opd} {lo' hi' : Option Opd} (ho : o.op = .slice ty x lo hi none) (hx : cOpd N x = some x') (hlo : cOpdO N lo = some lo') (hhi : cOpdO N hi = some hi')
    (ht : P.underlying ty = some .string) : SoundP P ρ B N o (k_slS x' lo' hi' cf t h n) t h n := by
  intro κ hg
  have e0 : k_slS x' lo' hi' cf t h n κ = ssK (ev x' t) (fun l0 l1 _ _ => br (br (isSomeO hi') true (Nat.beq l0 l1)) (optK hi' t l0 fun b => optK lo' t 0 fun a => br (Nat.ble a b) (br (Nat.ble b l0) (κ (.oth (.ss (Nat.sub b a) (Nat.sub b a) (Nat.succ (Nat.sub b a)) 0)) h n) (.fail "slice bounds")) (.fail "slice bounds")) (.fail "slice bounds")) (asStr (ev x' t) fun m c => optK hi' t m fun b => optK lo' t 0 fun a => br (Nat.ble a b) (br (Nat.ble b m) (κ (.str (Nat.sub b a) (Ev.lo (sh c a) (Nat.sub b a))) h n) (.fail "slice bounds")) (.fail "slice bounds")) := by
    simp only [k_slS, evK_eq, forceN_eq]
  rw [e0] at hg
  rcases ssK_cases (ev x' t) (fun l0 l1 _ _ => br (br (isSomeO hi') true (Nat.beq l0 l1)) (optK hi' t l0 fun b => optK lo' t 0 fun a => br (Nat.ble a b) (br (Nat.ble b l0) (κ (.oth (.ss (Nat.sub b a) (Nat.sub b a) (Nat.succ (Nat.sub b a)) 0)) h n) (.fail "slice bounds")) (.fail "slice bounds")) (.fail "slice bounds")) (asStr (ev x' t) fun m c => optK hi' t m fun b => optK lo' t 0 fun a => br (Nat.ble a b) (br (Nat.ble b m) (κ (.str (Nat.sub b a) (Ev.lo (sh c a) (Nat.sub b a))) h n) (.fail "slice bounds")) (.fail "slice bounds")) with ⟨l0, l1, _, _, hxv, e1⟩ | e1
  · rw [e1] at hg
    obtain ⟨hex, e2⟩ := br_good hg
    rw [e2] at hg
    obtain ⟨b, e3, hb⟩ := optK_good (ρ := ρ) hhi hg
    rw [e3] at hg
    obtain ⟨a, e4, ha⟩ := optK_good (ρ := ρ) hlo hg
    rw [e4] at hg
    obtain ⟨h6, e6⟩ := br_good hg
    rw [e6] at hg
    obtain ⟨h7, e7⟩ := br_good hg
    have h6 := ble_iff.1 h6; have h7 := ble_iff.1 h7
    refine ⟨_, e0.trans (e1.trans (e2.trans (e3.trans (e4.trans (e6.trans e7))))), fun φ ac w hT hg => ?_⟩
    have g1 := cOpd_rel hx hT
    rw [hxv] at g1
    simp only [rel] at g1
    obtain ⟨s, gx, c1, c2, _⟩ := g1
    have hb' : OptIs (hi.map ac.eval) b s.size := by
      rcases hb φ ac hT with ⟨h1, h2⟩ | h1
      · left
        refine ⟨h1, ?_⟩
        have hn : isSomeO hi' = false := by
          cases hi with
          | some y => cases h1
          | none => simp only [cOpdO, Option.some.injEq] at hhi; subst hhi; rfl
        rw [hn, br_false] at hex
        have := Nat.eq_of_beq_eq_true hex
        omega
      · exact .inr h1
    refine ⟨.string (s.extract a b), ?_, ?_⟩
    · simp only [execOp, ho, gx, Instr.sliceAt, Instr.slice, Sem.run_bind, run_underlying ht, Result.andThen_ok, Option.map_none]
      simp [run_bounds (ha φ ac hT) hb' h6 (by omega : b ≤ s.size)]
    · simp only [rel]
      have hsz : (s.extract a b).size = b - a := by rw [ByteArray.size_extract]; omega
      exact ⟨_, rfl, by show b - a ≤ _; omega, by show _ ≤ b - a; omega, fun h => by have h1 : (s.extract a b).size = (b - a) + 1 := h.1; omega⟩
  have e1 := e0.trans e1
  rw [← e0, e1] at hg
  obtain ⟨m, c, hxv, e2⟩ := asStr_good hg
  rw [e2] at hg
  obtain ⟨b, e3, hb⟩ := optK_good (ρ := ρ) hhi hg
  rw [e3] at hg
  obtain ⟨a, e4, ha⟩ := optK_good (ρ := ρ) hlo hg
  rw [e4] at hg
  obtain ⟨h5, e5⟩ := br_good hg
  rw [e5] at hg
  obtain ⟨h6, e6⟩ := br_good hg
  have h5 := ble_iff.1 h5; have h6 := ble_iff.1 h6
  refine ⟨_, e1.trans (e2.trans (e3.trans (e4.trans (e5.trans e6)))), fun φ ac w hT hg => ?_⟩
  have g1 := cOpd_rel hx hT
  rw [hxv] at g1
  obtain ⟨s, gx, hs, hc⟩ := rel_str g1
  clear g1
  subst hs hc
  refine ⟨.string (s.extract a b), ?_, ?_⟩
  · simp only [execOp, ho, gx, Instr.sliceAt, Instr.slice, Sem.run_bind, run_underlying ht, Result.andThen_ok, Option.map_none]
    simp [run_bounds (ha φ ac hT) (hb φ ac hT) h5 h6]
  · have := toStr (s.extract a b) ρ φ
    have e : (s.extract a b).data.toList = (s.data.toList.drop a).take (b - a) := by
      rw [ByteArray.data_extract]; simp
    rw [e, ← encL_mod, ← encL_div] at this
    have hsz : (s.extract a b).size = b - a := by rw [ByteArray.size_extract]; omega
    rw [hsz] at this
    rw [lo_eq, sh_eq]; exact this
theorem sound_slL {ty e : TypeId} {esz : Nat} {x : Operand} {lo hi : Option Operand} {x' : Opd} {lo' hi' : Option Opd} (ho : o.op = .slice ty x lo hi none) (hx : cOpd N x = some x') (hlo : cOpdO N lo = some lo') (hhi : cOpdO N hi = some hi')
    (ht : P.underlying ty = some (.slice e)) (he : cSize P e = some esz) : SoundP P ρ B N o (k_slL esz x' lo' hi' cf t h n) t h n := by
  intro κ hg
  have e0 : k_slL esz x' lo' hi' cf t h n κ = osK (ev x' t) (fun l0 l1 => br (br (isSomeO hi') true (Nat.beq l0 l1)) (optK hi' t l0 fun b => optK lo' t 0 fun a => br (Nat.ble a b) (br (Nat.ble b l0) (κ (.oth (.os (Nat.sub b a) (Nat.sub b a))) h n) (.fail "slice bounds")) (.fail "slice bounds")) (.fail "slice bounds")) (asSl (ev x' t) (optK hi' t 0 fun b => optK lo' t 0 fun a => br (Nat.beq b 0) (br (Nat.beq a 0) (κ (.nil .sl) h n) (.fail "slice bounds")) (.fail "slice bounds"))
      (fun p off len cap ex esz' => optK hi' t len fun b => optK lo' t 0 fun a => br (Nat.beq esz' esz) (br (Nat.ble a b) (br (Nat.ble b cap) (κ (.sl p (Nat.add off (Nat.mul a esz)) (Nat.sub b a) (Nat.sub cap a) ex esz) h n) (.fail "slice bounds")) (.fail "slice bounds")) (.fail "element"))) := by
    simp only [k_slL, evK_eq, forceN_eq]
  rw [e0] at hg
  rcases osK_cases (ev x' t) (fun l0 l1 => br (br (isSomeO hi') true (Nat.beq l0 l1)) (optK hi' t l0 fun b => optK lo' t 0 fun a => br (Nat.ble a b) (br (Nat.ble b l0) (κ (.oth (.os (Nat.sub b a) (Nat.sub b a))) h n) (.fail "slice bounds")) (.fail "slice bounds")) (.fail "slice bounds")) (asSl (ev x' t) (optK hi' t 0 fun b => optK lo' t 0 fun a => br (Nat.beq b 0) (br (Nat.beq a 0) (κ (.nil .sl) h n) (.fail "slice bounds")) (.fail "slice bounds"))
      (fun p off len cap ex esz' => optK hi' t len fun b => optK lo' t 0 fun a => br (Nat.beq esz' esz) (br (Nat.ble a b) (br (Nat.ble b cap) (κ (.sl p (Nat.add off (Nat.mul a esz)) (Nat.sub b a) (Nat.sub cap a) ex esz) h n) (.fail "slice bounds")) (.fail "slice bounds")) (.fail "element"))) with ⟨l0, l1, hxv, e1⟩ | e1
  · rw [e1] at hg
    obtain ⟨hex, e2⟩ := br_good hg
    rw [e2] at hg
    obtain ⟨b, e3, hb⟩ := optK_good (ρ := ρ) hhi hg
    rw [e3] at hg
    obtain ⟨a, e4, ha⟩ := optK_good (ρ := ρ) hlo hg
    rw [e4] at hg
    obtain ⟨h6, e6⟩ := br_good hg
    rw [e6] at hg
    obtain ⟨h7, e7⟩ := br_good hg
    have h6 := ble_iff.1 h6; have h7 := ble_iff.1 h7
    refine ⟨_, e0.trans (e1.trans (e2.trans (e3.trans (e4.trans (e6.trans e7))))), fun φ ac w hT hg => ?_⟩
    have g1 := cOpd_rel hx hT
    rw [hxv] at g1
    simp only [rel] at g1
    obtain ⟨p, len, cap, gx, c1, c2, c3⟩ := g1
    have hb' : OptIs (hi.map ac.eval) b len := by
      rcases hb φ ac hT with ⟨h1, h2⟩ | h1
      · left
        refine ⟨h1, ?_⟩
        have hn : isSomeO hi' = false := by
          cases hi with
          | some y => cases h1
          | none => simp only [cOpdO, Option.some.injEq] at hhi; subst hhi; rfl
        rw [hn, br_false] at hex
        have := Nat.eq_of_beq_eq_true hex
        omega
      · exact .inr h1
    refine ⟨.slice (if cap = a then p else p.map (·.add (a * esz))) (b - a) (cap - a), ?_, ?_⟩
    · simp only [execOp, ho, gx, Instr.sliceAt, Instr.slice, Sem.run_bind, run_underlying ht, Result.andThen_ok, Option.map_none]
      simp [run_bounds (ha φ ac hT) hb' h6 (by omega : b ≤ cap), run_sizeOf he]
    · simp only [rel]
      exact ⟨_, _, _, rfl, Nat.le_refl _, Nat.le_refl _, by show b - a ≤ cap - a; omega⟩
  have e1 := e0.trans e1
  rw [← e0, e1] at hg
  rcases asSl_good hg with ⟨hxv, e2⟩ | ⟨p, off, len, cap, ex, esz', hxv, e2⟩
  · rw [e2] at hg
    obtain ⟨b, e3, hb⟩ := optK_good (ρ := ρ) hhi hg
    rw [e3] at hg
    obtain ⟨a, e4, ha⟩ := optK_good (ρ := ρ) hlo hg
    rw [e4] at hg
    obtain ⟨h5, e5⟩ := br_good hg
    rw [e5] at hg
    obtain ⟨h6, e6⟩ := br_good hg
    have h5 := Nat.eq_of_beq_eq_true h5; have h6 := Nat.eq_of_beq_eq_true h6
    subst h5 h6
    refine ⟨_, e1.trans (e2.trans (e3.trans (e4.trans (e5.trans e6)))), fun φ ac w hT hg => ?_⟩
    have g1 := cOpd_rel hx hT
    rw [hxv] at g1
    have gx := rel_nil g1
    refine ⟨.slice none 0 0, ?_, by simp only [rel, nilOf]⟩
    simp only [execOp, ho, gx, nilOf, Instr.sliceAt, Instr.slice, Sem.run_bind, run_underlying ht, Result.andThen_ok, Option.map_none]
    simp [run_bounds (ha φ ac hT) (hb φ ac hT) (Nat.le_refl 0) (Nat.le_refl 0), run_sizeOf he]
  · rw [e2] at hg
    obtain ⟨b, e3, hb⟩ := optK_good (ρ := ρ) hhi hg
    rw [e3] at hg
    obtain ⟨a, e4, ha⟩ := optK_good (ρ := ρ) hlo hg
    rw [e4] at hg
    obtain ⟨h5, e5⟩ := br_good hg
    rw [e5] at hg
    obtain ⟨h6, e6⟩ := br_good hg
    rw [e6] at hg
    obtain ⟨h7, e7⟩ := br_good hg
    have h5 := Nat.eq_of_beq_eq_true h5; have h6 := ble_iff.1 h6; have h7 := ble_iff.1 h7
    subst h5
    refine ⟨_, e1.trans (e2.trans (e3.trans (e4.trans (e5.trans (e6.trans e7))))), fun φ ac w hT hg => ?_⟩
    have g1 := cOpd_rel hx hT
    rw [hxv] at g1
    obtain ⟨bk, s, tot, q, cap', hp, gx, c1, c2, c3, c4⟩ := rel_sl g1
    refine ⟨.slice (if cap' = a then some ⟨bk, q, none⟩ else some ⟨bk, q + a * esz', none⟩) (b - a) (cap' - a), ?_, ?_⟩
    · simp only [execOp, ho, gx, Instr.sliceAt, Instr.slice, Sem.run_bind, run_underlying ht, Result.andThen_ok, Option.map_none]
      simp [run_bounds (ha φ ac hT) (hb φ ac hT) h6 (Nat.le_trans h7 c2), run_sizeOf he, addr_add]
    · simp only [rel]
      by_cases hca : cap' = a
      · rw [if_pos hca]
        refine ⟨bk, s, tot, q, cap' - a, hp, rfl, by show b - a ≤ cap - a; omega, by show cap - a ≤ cap' - a; omega, fun hex => by have := c3 hex; show cap' - a = cap - a; omega, fun h0 => by omega⟩
      · rw [if_neg hca]
        refine ⟨bk, s, tot, q + a * esz', cap' - a, hp, rfl, by show b - a ≤ cap - a; omega, by show cap - a ≤ cap' - a; omega, fun hex => by have := c3 hex; show cap' - a = cap - a; omega, fun h0 => ?_⟩
        obtain ⟨c5, c6⟩ := c4 (by omega)
        refine ⟨by show q + a * esz' = s + (off + a * esz'); omega, ?_⟩
        have hmul : a * esz' + (cap' - a) * esz' = cap' * esz' := by rw [← Nat.add_mul]; congr 1; omega
        omega
theorem newK_good {ob : Ob} {κ : Heap → K4 → R} (hg : (newK h n ob κ).good) : ∃ n' : K4, n'.toN = n.toN + 1 ∧ newK h n ob κ = κ (hputS n h (some ob)) n' := by
  have e : newK h n ob κ = n.nx fun n' => κ (hputS n h (some ob)) n' := hput_eq _ _ _ _
  rw [e] at hg
  rcases K4.nx_eq n (fun n' => κ (hputS n h (some ob)) n') with ⟨w, h'⟩ | ⟨q, h1, h2⟩
  · rw [h'] at hg; exact hg.elim
  · exact ⟨q, h1, e.trans h2⟩
theorem Gam.at_n {φ : Emb} {w : World} (g : Gam ρ B h n φ w) : φ n = none := by
  cases hx : φ n with
  | none => rfl
  | some x => have := g.dom n x hx; omega
/-- A new object for cells that are known. -/
theorem alloc_cells {φ : Emb} {w : World} {n' : K4} (g : Gam ρ B h n φ w) (hn : n'.toN = n.toN + 1) {cs : Cs} {c : Array Value} {e : TypeId} {fr : Nat × Nat} (hl : cs.len ≤ c.size) (hf : Frz fr c.size)
    (hc : CsOK ρ φ cs fun i => c[i]?) :
    Gam ρ B (hputS n h (some (.c cs false none))) n' (updE φ n (w.heap.size, 0, c.size)) (w.alloc (.cells c e fr)) ∧
    Fr h (hputS n h (some (.c cs false none))) φ (updE φ n (w.heap.size, 0, c.size)) n n' w (w.alloc (.cells c e fr)) := by
  refine ⟨g.alloc g.at_n (by omega) (by omega) (.c cs false none) rfl _ c.size fun φ' hle w' hw' => ?_, Fr.alloc g.at_n (by omega) (Nat.le_refl _) (by omega) _ _ _⟩
  exact ⟨c, e, fr, hw', rfl, by omega, hf, CsOK_mono hle (fun i v hv => by rw [Nat.zero_add]; exact hc i v hv)⟩
theorem frz0 (k : Nat) : Frz (0, 0) k := .inl rfl
theorem csOK_list {φ : Emb} {l : List V} {xs : List Value} (h : rels ρ φ l xs) (h1 : ∀ y ∈ xs, y.oneCell' = true) : CsOK ρ φ (.l l) fun i => xs[i]? := fun i v hv => by
  obtain ⟨x, hx, hr⟩ := (rels_iff.1 h).2 i v hv
  exact ⟨x, hx, hr, h1 x (List.mem_of_getElem? hx)⟩
theorem rel_ptr_new {φ : Emb} {p : K4} {b tot : Nat} : rel ρ (updE φ p (b, 0, tot)) (.ptr p 0) (.pointer (some ⟨b, 0, none⟩)) := by
  simp only [rel]; exact ⟨b, 0, tot, updE_same _ _ _, rfl⟩
theorem run_newRow {e : TypeId} {c : Array Value} (w : World) : (newRow e c).run P w = .ok ⟨w.heap.size, 0, none⟩ (w.alloc (.cells c e)) := rfl
theorem sound_alc {e : TypeId} {z : List V} (ho : o.op = .alloc e) (hz : cZero P e = some z) : Sound P ρ B N o (k_alc (.l z) cf t h n) t h n := by
  intro κ hg
  obtain ⟨n', hn, e1⟩ := newK_good (show R.good (newK h n (.c (.l z) false none) fun h' n' => κ (.ptr n 0) h' n') from hg)
  refine ⟨_, _, _, e1, .value fun φ a w hT g => ?_⟩
  unfold cZero at hz
  cases hi : (P.info? e).bind (·.zero) with
  | none => rw [hi] at hz; cases hz
  | some zv =>
    rw [hi] at hz
    obtain ⟨hl, h1⟩ := cList_rel (ρ := ρ) (show cList zv.cells.toList = some z from hz) φ
    have hc := csOK_list hl h1
    obtain ⟨g1, g2⟩ := alloc_cells g hn (e := e) (fr := (0, 0)) (c := zv.cells) (by have := rels_length hl; simp only [Cs.len]; simp at this; omega) (frz0 _) (cs := .l z) (fun i v hv => by simpa using hc i v hv)
    refine ⟨_, .pointer (some ⟨w.heap.size, 0, none⟩), _, ?_, g2, g1, rel_ptr_new⟩
    simp [execOp, ho, Instr.alloc, run_zeroValue hi, newVar, run_newRow]
theorem sound_box {e : TypeId} {x : Operand} {x' : Opd} (hρ : OneSym ρ) (ho : o.op = .box e x) (hx : cOpd N x = some x') : Sound P ρ B N o (k_box x' cf t h n) t h n := by
  intro κ hg
  have e1 : k_box x' cf t h n κ = cellsK (ev x' t) fun l => newK h n (.c (.l l) false none) fun h' n' => κ (.ptr n 0) h' n' := by simp only [k_box, evK_eq]
  rw [e1] at hg
  obtain ⟨hc, e2⟩ := cellsK_good hg
  rw [e2] at hg
  obtain ⟨n', hn, e3⟩ := newK_good hg
  refine ⟨_, _, _, e1.trans (e2.trans e3), .value fun φ a w hT g => ?_⟩
  obtain ⟨hl, h1⟩ := rel_cells hρ hc (cOpd_rel hx hT)
  have hcs := csOK_list hl h1
  obtain ⟨g1, g2⟩ := alloc_cells g hn (e := e) (fr := (0, 0)) (c := (a.eval x).cells) (by have := rels_length hl; simp only [Cs.len]; simp at this; omega) (frz0 _) (cs := .l (ev x' t).cl) (fun i v hv => by simpa using hcs i v hv)
  refine ⟨_, .pointer (some ⟨w.heap.size, 0, none⟩), _, ?_, g2, g1, rel_ptr_new⟩
  simp [execOp, ho, Instr.box, newVar, run_newRow]
theorem sound_mkmap {ty : TypeId} (ho : o.op = .makeMap ty none) : Sound P ρ B N o (k_mkmap cf t h n) t h n := by
  intro κ hg
  obtain ⟨n', hn, e1⟩ := newK_good (show R.good (newK h n (.m [] [] 0) fun h' n' => κ (.map n) h' n') from hg)
  refine ⟨_, _, _, e1, .value fun φ a w hT g => ?_⟩
  refine ⟨_, .map (some w.heap.size), w.alloc (.map #[] 0), by simp [execOp, ho, Instr.makeMap, run_newObj], Fr.alloc g.at_n (by omega) (Nat.le_refl _) (by omega) _ _ 0, ?_, ?_⟩
  · exact g.alloc g.at_n (by omega) (by omega) (.m [] [] 0) rfl _ 0 fun φ' hle w' hw' => ⟨#[], hw', rfl, rfl⟩
  · simp only [rel]; exact ⟨w.heap.size, 0, 0, updE_same _ _ _, rfl⟩
theorem sound_s2b {src dst e : TypeId} {x : Operand} {x' : Opd} (ho : o.op = .convert src dst x) (hx : cOpd N x = some x') (hs : P.underlying src = some .string) (hd : P.underlying dst = some (.slice e)) (he : P.underlying e = some (.int .u8)) :
    Sound P ρ B N o (k_s2b x' cf t h n) t h n := by
  intro κ hg
  have e1 : k_s2b x' cf t h n κ = asStr (ev x' t) fun m c => newK h n (.c (.b m c) false none) fun h' n' => κ (.sl n 0 m m false 1) h' n' := by simp only [k_s2b, evK_eq]
  rw [e1] at hg
  obtain ⟨m, c, hxv, e2⟩ := asStr_good hg
  rw [e2] at hg
  obtain ⟨n', hn, e3⟩ := newK_good hg
  refine ⟨_, _, _, e1.trans (e2.trans e3), .value fun φ a w hT g => ?_⟩
  have g1 := cOpd_rel hx hT
  rw [hxv] at g1
  obtain ⟨s, gx, hsz, hc⟩ := rel_str g1
  clear g1
  subst hsz hc
  -- the capacity is drawn
  obtain ⟨cap, w1, hcap, hrun, hw1⟩ : ∃ cap w1, s.size ≤ cap ∧ (choose (.appendCap s.size 0 e)).run P w = .ok cap w1 ∧ w1 = w.drew := by
    refine ⟨_, _, ?_, by rw [run_choose]; simp only [Question.forced, Bool.false_eq_true, if_false]; rfl, rfl⟩
    simp only [Question.cut]; omega
  subst hw1
  let cells : Array Value := s.data.map (fun b => Value.int .u8 b.toNat) ++ Array.replicate (cap - s.size) (.int .u8 0)
  have hsize : cells.size = cap := by simp [cells]; omega
  have hcs : CsOK ρ φ (.b s.size (encL s.data.toList)) fun i => cells[i]? := fun i v hv => by
    have hi : i < s.size := Cs.lt_of_at hv
    rw [Cs.b_pos hi] at hv
    have hi' : i < s.data.toList.length := by rw [size_data]; exact hi
    rw [encL_get _ _ hi'] at hv
    cases hv
    have hlt := s.data.toList[i].toNat_lt
    refine ⟨.int .u8 (s.data.toList[i].toNat : Nat), ?_, ?_, rfl⟩
    · have hi2 : i < s.data.size := hi
      show (s.data.map (fun b => Value.int .u8 b.toNat) ++ Array.replicate (cap - s.size) (.int .u8 0))[i]? = _
      rw [Array.getElem?_append_left (by simpa using hi2), Array.getElem?_map, Array.getElem?_eq_getElem hi2]
      simp
    · simp only [rel]
      exact ⟨by simp [Mk]; exact hlt, by rw [dec_nonneg (by simp [Hk]; exact hlt)]⟩
  obtain ⟨g2, g3⟩ := alloc_cells (g.drew) hn (e := e) (fr := (cap, cap + 1)) (c := cells) (by simp only [Cs.len]; omega) (.inr (by rw [hsize]; exact Nat.le_refl _)) hcs
  refine ⟨_, .slice (some ⟨w.heap.size, 0, none⟩) s.size cap, _, ?_, Fr.trans Fr.drew g3, g2, ?_⟩
  · simp only [execOp, ho, gx, convert, Sem.run_bind, run_underlying hs, run_underlying hd, run_underlying he, Result.andThen_ok, Conv.stringToBytes, hrun]
    have hrow : (newRow e (Array.map (fun b => Value.int IntKind.u8 ↑b.toNat) s.data ++ Array.replicate (cap - s.size) (Value.int IntKind.u8 0))).run P w.drew = .ok ⟨w.heap.size, 0, none⟩ (w.drew.alloc (.cells cells e)) := rfl
    simp only [hrow, Result.andThen_ok]
    have hsh : (w.drew.alloc (.cells cells e)).shape? w.heap.size = some (e, cap) := by
      have : (w.drew.alloc (.cells cells e)).heap[w.heap.size]? = some (.cells cells e) := by show (w.heap.push _)[w.heap.size]? = _; simp
      unfold World.shape?; rw [this]; simp [hsize]
    have hfz : (w.drew.alloc (.cells cells e)).freeze { block := w.heap.size, off := cap } 1 = w.drew.alloc (.cells cells e (cap, cap + 1)) := by
      exact (freeze_wput (show (w.drew.alloc (.cells cells e)).heap[w.heap.size]? = some (.cells cells e (0, 0)) from alloc_at (w := w.drew))).trans (wput_alloc (w := w.drew))
    simp only [markStringish, Sem.run_bind, run_shape, hsh, Result.andThen_ok, run_freeze, hfz, Sem.run_pure]
  · simp only [rel]
    refine ⟨w.heap.size, 0, cells.size, 0, cap, updE_same _ _ _, rfl, Nat.le_refl _, hcap, (fun h => by cases h), (fun _ => ⟨rfl, by rw [hsize]; omega⟩)⟩
end
end Go.Ev

namespace Go.Ev
set_option linter.unusedVariables false
section
variable {P : Program} {ρ : Env} {B N : Nat} {o : Oper} {cf : CF} {t : Regs} {h : Heap} {n : K4}
theorem obK_good {p : K4} {κ : Cs → Bool → Option K4 → R} (hg : (obK p h κ).good) : ∃ cs sup prev, hget p h = some (.c cs sup prev) ∧ obK p h κ = κ cs sup prev := by
  have e : obK p h κ = @Option.rec Ob (fun _ => R) (.fail "no object") (fun o => @Ob.rec (fun _ => R) κ (fF3 "cells expected") (fF4 "cells expected") (.fail "cells expected") (fF2 "cells expected") o) (hget p h) := hgetK_eq _ _ _
  rw [e] at hg
  cases hx : hget p h with
  | none => rw [hx] at hg; exact hg.elim
  | some ob =>
    rw [hx] at hg e
    cases ob with
    | c cs sup prev => exact ⟨cs, sup, prev, rfl, e⟩
    | m _ _ _ => exact hg.elim
    | it _ _ _ _ => exact hg.elim
    | it0 => exact hg.elim
    | lp _ _ => exact hg.elim
theorem mpK_good {p : K4} {κ : List (V × V) → List Nat → Nat → R} (hg : (mpK p h κ).good) : ∃ es bs c, hget p h = some (.m es bs c) ∧ mpK p h κ = κ es bs c := by
  have e : mpK p h κ = @Option.rec Ob (fun _ => R) (.fail "no object") (fun o => @Ob.rec (fun _ => R) (fF3 "map expected") κ (fF4 "map expected") (.fail "map expected") (fF2 "map expected") o) (hget p h) := hgetK_eq _ _ _
  rw [e] at hg
  cases hx : hget p h with
  | none => rw [hx] at hg; exact hg.elim
  | some ob =>
    rw [hx] at hg e
    cases ob with
    | c cs sup prev => exact hg.elim
    | m es bs c => exact ⟨es, bs, c, rfl, e⟩
    | it _ _ _ _ => exact hg.elim
    | it0 => exact hg.elim
    | lp _ _ => exact hg.elim
theorem int_any {ρ : Env} {φ : Emb} {z : Int} (z1 : -9223372036854775808 ≤ z) (z2 : z < 9223372036854775808) : rel ρ φ (.oth (.iv .i64 0 18446744073709551615)) (.int .i64 z) := by
  simp only [rel]
  by_cases h0 : 0 ≤ z
  · refine ⟨z.toNat, Nat.zero_le _, by omega, by simp only [Mk]; omega, ?_⟩
    rw [dec_nonneg (by simp only [Hk]; omega)]; congr 1; omega
  · refine ⟨(z + 18446744073709551616).toNat, Nat.zero_le _, by omega, by simp only [Mk]; omega, ?_⟩
    rw [dec_neg (by simp only [Hk]; omega)]; congr 1; simp only [Mk]; omega
theorem apC_good {ρ : Env} {i j : Nat} {κ : V → R} (hg : (apC i j κ).good) (h3 : ¬ i ≤ 36893488147419103231) (h5 : i ≤ 73786976294838206463) : ∃ v, apC i j κ = κ v ∧ ∀ (φ : Emb) y, CkOK ρ i j y → rel ρ φ v y := by
  have key : ∀ y, CkOK ρ i j y → ∃ r, r < Mk .i64 ∧ y = .int .i64 (dec .i64 r) ∧ (36893488147419103232 < i → j = tcQ i → (dec .i64 r).tmod (tcM i : Nat) + (tcM i : Nat) = (tcT i : Nat)) := fun y hy => by
    rcases hy with ⟨h, _⟩ | ⟨_, h, _⟩ | ⟨_, h, _⟩ | ⟨_, _, h⟩ | ⟨h, _⟩
    · omega
    · omega
    · omega
    · exact h
    · omega
  have any : ∀ (φ : Emb) y, CkOK ρ i j y → rel ρ φ (.oth (.iv .i64 0 18446744073709551615)) y := fun φ y hy => by
    obtain ⟨r, hr, rfl, _⟩ := key y hy
    simp only [rel]; exact ⟨r, Nat.zero_le _, by simp only [Mk] at hr; omega, hr, rfl⟩
  unfold apC at hg ⊢
  cases h1 : Nat.ble i 36893488147419103232 with
  | true => exact ⟨_, rfl, any⟩
  | false =>
    have h1' : ¬ i ≤ 36893488147419103232 := fun h => by rw [ble_iff.2 h] at h1; cases h1
    rw [h1, br_false] at hg
    rw [br_false]
    cases h2 : Nat.beq j (tcQ i) with
    | false => exact ⟨_, rfl, any⟩
    | true =>
      rw [h2] at hg
      have h2 : j = tcQ i := Nat.eq_of_beq_eq_true h2
      have hm : tcM i < 65536 := Nat.mod_lt _ (by decide)
      have ht : tcT i < 65536 := Nat.mod_lt _ (by decide)
      rw [br_true, forceN_eq, forceN_eq] at hg ⊢
      -- the remainder, as an integer
      have val : ∀ y, CkOK ρ i j y → ∃ z : Int, y = .int .i64 z ∧ -9223372036854775808 ≤ z ∧ z < 9223372036854775808 ∧ z.tmod (tcM i : Nat) + (tcM i : Nat) = (tcT i : Nat) := fun y hy => by
        obtain ⟨r, hr, rfl, hz⟩ := key y hy
        have hz := hz (by omega) h2
        refine ⟨_, rfl, ?_, ?_, hz⟩
        · have hr : r < 18446744073709551616 := hr
          by_cases hh : r < 9223372036854775808
          · rw [dec_nonneg (by simp only [Hk]; omega)]; omega
          · rw [dec_neg (by simp only [Hk]; omega)]; simp only [Mk]; omega
        · have hr : r < 18446744073709551616 := hr
          by_cases hh : r < 9223372036854775808
          · rw [dec_nonneg (by simp only [Hk]; omega)]; omega
          · rw [dec_neg (by simp only [Hk]; omega)]; simp only [Mk]; omega
      have abs : ∀ z : Int, (z.tmod (tcM i : Nat)).natAbs = z.natAbs % tcM i := fun z => by rw [Int.natAbs_tmod, Int.natAbs_natCast]
      cases h3 : Nat.ble (Nat.succ (tcM i)) (tcT i) with
      | true =>
        have h3 : tcM i + 1 ≤ tcT i := ble_iff.1 h3
        refine ⟨.oth (.rs (18446744073709551616 + tcM i) (tcT i - tcM i)), by rw [br_true, forceN_eq]; rfl, fun φ y hy => ?_⟩
        obtain ⟨z, rfl, z1, z2, z3⟩ := val y hy
        have ha := abs z
        have hz : 0 ≤ z := by
          by_cases hz : 0 ≤ z
          · exact hz
          · have h4 : 0 ≤ (-z).tmod (tcM i : Nat) := Int.tmod_nonneg _ (by omega)
            rw [Int.neg_tmod] at h4
            omega
        simp only [rel]
        refine ⟨z, rfl, z1, z2, .inl ⟨by omega, ?_⟩, fun _ _ => hz, fun h => by omega⟩
        rw [show (18446744073709551616 + tcM i) % 18446744073709551616 = tcM i by omega, ← ha]; omega
      | false =>
        have h3' : ¬ tcM i + 1 ≤ tcT i := fun h => by rw [ble_iff.2 h] at h3; cases h3
        rw [h3, br_false] at hg
        rw [br_false]
        cases h4 : Nat.beq (tcT i) (tcM i) with
        | true =>
          have h4' : tcT i = tcM i := Nat.eq_of_beq_eq_true h4
          rw [h4, br_true] at hg
          obtain ⟨h6, e⟩ := br_good hg
          refine ⟨.oth (.rs (tcM i) 0), by rw [br_true]; exact e, fun φ y hy => ?_⟩
          obtain ⟨z, rfl, z1, z2, z3⟩ := val y hy
          have ha := abs z
          simp only [rel]
          refine ⟨z, rfl, z1, z2, .inl ⟨by omega, ?_⟩, fun h => by omega, fun h => by omega⟩
          rw [Nat.mod_eq_of_lt (show tcM i < 18446744073709551616 by omega), ← ha]; omega
        | false =>
          have h4' : tcT i ≠ tcM i := fun h => by rw [h, Nat.beq_refl] at h4; cases h4
          refine ⟨.oth (.rs (73786976294838206464 + tcM i) ((tcM i - tcT i) * 18446744073709551616 + (tcM i - tcT i))), by rw [br_false, forceN_eq]; rfl, fun φ y hy => ?_⟩
          obtain ⟨z, rfl, z1, z2, z3⟩ := val y hy
          have ha := abs z
          have hz : z < 0 := by
            by_cases hz : 0 ≤ z
            · have h4 : 0 ≤ z.tmod (tcM i : Nat) := Int.tmod_nonneg _ hz
              omega
            · omega
          simp only [rel]
          have e7 : (73786976294838206464 + tcM i) % 18446744073709551616 = tcM i := by omega
          refine ⟨z, rfl, z1, z2, .inr ⟨by omega, ?_, ?_⟩, fun _ h => by omega, fun _ => hz⟩
          · rw [e7, ← ha]; omega
          · rw [e7, ← ha]; omega
theorem apD_good {ρ : Env} {i j : Nat} {κ : V → R} (hg : (apD i j κ).good) (h5 : ¬ i ≤ 73786976294838206463) : ∃ v, apD i j κ = κ v ∧ ∀ (φ : Emb) y, CkOK ρ i j y → rel ρ φ v y := by
  have key : ∀ y, CkOK ρ i j y → ∃ z : Int, y = .int .i64 z ∧ -9223372036854775808 ≤ z ∧ z < 9223372036854775808 ∧ (j < tdN i → z.natAbs % tdM i = tdD i j) := fun y hy => by
    rcases hy with ⟨h, _⟩ | ⟨_, h, _⟩ | ⟨_, h, _⟩ | ⟨_, h, _⟩ | ⟨_, z, rfl, z1, z2, z3⟩
    · omega
    · omega
    · omega
    · omega
    · exact ⟨z, rfl, z1, z2, z3⟩
  unfold apD at hg ⊢
  cases h1 : Nat.ble (Nat.succ j) (tdN i) with
  | false =>
    refine ⟨_, by rw [br_false], fun φ y hy => ?_⟩
    obtain ⟨z, rfl, z1, z2, _⟩ := key y hy
    exact int_any z1 z2
  | true =>
    rw [h1, br_true, forceN_eq] at hg
    obtain ⟨hm, e⟩ := br_good hg
    have hm := ble_iff.1 hm
    refine ⟨.oth (.rs (tdM i) (tdD i j)), by rw [br_true, forceN_eq, e, forceN_eq], fun φ y hy => ?_⟩
    obtain ⟨z, rfl, z1, z2, z3⟩ := key y hy
    have z3 := z3 (ble_iff.1 h1)
    simp only [rel]
    exact ⟨z, rfl, z1, z2, .inl ⟨by omega, by rw [Nat.mod_eq_of_lt (show tdM i < 18446744073709551616 by omega)]; exact z3⟩, fun h => by omega, fun h => by omega⟩
theorem sound_ld {ty : TypeId} {x : Operand} {x' : Opd} (ho : o.op = .load ty x) (hx : cOpd N x = some x') (ha : cAgg P ty = some false) : SoundP P ρ B N o (k_ld x' cf t h n) t h n := by
  intro κ hg
  have e1 : k_ld x' cf t h n κ = asPo (ev x' t) (fun p off => obK p h fun cs _ _ => getC cs off fun v => κ v h n) (fun o => otAp o (fun i j m => br (Nat.ble 1 m) (apK i j fun v => κ v h n) (.fail "a cell that stays")) (.fail "pointer expected")) := by simp only [k_ld, evK_eq]
  rw [e1] at hg
  rcases asPo_cases hg with ⟨p, off, hxv, e2⟩ | ⟨oo, hxv, e2⟩
  rotate_left
  · rw [e2] at hg
    cases oo with
    | ap i j m =>
      have hg' : R.good (br (Nat.ble 1 m) (apK i j fun v => κ v h n) (.fail "a cell that stays")) := hg
      obtain ⟨h1, e3⟩ := br_good hg'
      have h1 := ble_iff.1 h1
      have key : ∃ v, apK i j (fun v => κ v h n) = κ v h n ∧ ∀ (φ : Emb) y, CkOK ρ i j y → rel ρ φ v y := by
        unfold apK
        cases hi : Nat.beq i 0 with
        | true =>
          have hi := Nat.eq_of_beq_eq_true hi
          refine ⟨_, by rw [br_true], fun φ y hy => ?_⟩
          rcases hy with ⟨_, b, rfl⟩ | ⟨h, _⟩ | ⟨h, _⟩ | ⟨h, _⟩ | ⟨h, _⟩
          · exact rel_bl b
          · omega
          · omega
          · omega
          · omega
        | false =>
          have hi0 : i ≠ 0 := fun h => by subst h; cases hi
          rw [br_false]
          cases h2f : Nat.ble i 18446744073709551615 with
          | true =>
            have h2 := ble_iff.1 h2f
            refine ⟨.oth (.sy .i64 (i + j)), by first | (rw [br_true, forceN_eq]; rfl) | (rw [forceN_eq]; rfl) | rw [forceN_eq], fun φ y hy => ?_⟩
            rcases hy with ⟨h, _⟩ | ⟨_, _, h2, r, h3, h4⟩ | ⟨h, _⟩ | ⟨h, _⟩ | ⟨h, _⟩
            · exact absurd h hi0
            · simp only [rel]; exact ⟨h2, r, h3, h4⟩
            · omega
            · omega
            · omega
          | false =>
            have h2 : ¬ i ≤ 18446744073709551615 := fun h => by rw [ble_iff.2 h] at h2f; cases h2f
            rw [br_false]
            cases h3f : Nat.ble i 36893488147419103231 with
            | true =>
              have h3 := ble_iff.1 h3f
              rw [br_true]
              cases h4 : Nat.ble (Nat.succ j) (Nat.div (Nat.sub i 18446744073709551616) 4294967296) with
              | true =>
                have h4 := ble_iff.1 h4
                rw [br_true]
                refine ⟨.bool (toldB i j), by cases toldB i j <;> rfl, fun φ y hy => ?_⟩
                rcases hy with ⟨h, _⟩ | ⟨_, h, _⟩ | ⟨_, _, b, rfl, hb⟩ | ⟨h, _⟩ | ⟨h, _⟩
                · omega
                · omega
                · rw [hb h4]; simp only [rel]
                · omega
                · omega
              | false =>
                rw [br_false]
                refine ⟨_, rfl, fun φ y hy => ?_⟩
                rcases hy with ⟨h, _⟩ | ⟨_, h, _⟩ | ⟨_, _, b, rfl, hb⟩ | ⟨h, _⟩ | ⟨h, _⟩
                · omega
                · omega
                · exact rel_bl b
                · omega
                · omega
            | false =>
              have h3 : ¬ i ≤ 36893488147419103231 := fun h => by rw [ble_iff.2 h] at h3f; cases h3f
              rw [br_false]
              cases h5f : Nat.ble i 73786976294838206463 with
              | true =>
                have h5 := ble_iff.1 h5f
                rw [br_true]
                have hg2 : R.good (apC i j fun v => κ v h n) := by
                  have hg3 := hg'
                  rw [e3] at hg3
                  unfold apK at hg3
                  rw [show Nat.beq i 0 = false from hi, br_false, h2f, br_false, h3f, br_false, h5f, br_true] at hg3
                  exact hg3
                exact apC_good hg2 h3 h5
              | false =>
                have h5 : ¬ i ≤ 73786976294838206463 := fun h => by rw [ble_iff.2 h] at h5f; cases h5f
                rw [br_false]
                have hg2 : R.good (apD i j fun v => κ v h n) := by
                  have hg3 := hg'
                  rw [e3] at hg3
                  unfold apK at hg3
                  rw [show Nat.beq i 0 = false from hi, br_false, h2f, br_false, h3f, br_false, h5f, br_false] at hg3
                  exact hg3
                exact apD_good hg2 h5
      obtain ⟨v, e4, hv⟩ := key
      refine ⟨v, e1.trans (e2.trans (e3.trans e4)), fun φ a w hT g => ?_⟩
      have g1 := cOpd_rel hx hT
      rw [hxv] at g1
      simp only [rel] at g1
      obtain ⟨b, q, c, e, fr, gx, c1, c2⟩ := g1
      obtain ⟨y, y1, y2⟩ := c2 0 (by omega)
      refine ⟨y, ?_, hv φ y y2⟩
      have hc := (g.glob b c e fr c1).2
      simp [execOp, ho, gx, Instr.loadAt, Instr.sureAddr, loadVar, run_isAgg ha, cell_at hc (show c[q]? = some y from y1)]
    | _ => exact hg.elim
  rw [e2] at hg
  obtain ⟨cs, sup, prev, hp, e3⟩ := obK_good hg
  rw [e3] at hg
  obtain ⟨v, hv, e4⟩ := getC_good hg
  refine ⟨v, e1.trans (e2.trans (e3.trans e4)), fun φ a w hT g => ?_⟩
  have g1 := cOpd_rel hx hT
  rw [hxv] at g1
  obtain ⟨b, s, tot, hφ, gx⟩ := rel_ptr g1
  obtain ⟨c, e, fr, k1, k2, k3, k4, k5⟩ := g.obj p _ b s tot hp hφ
  obtain ⟨X, hX, hr, _⟩ := k5 off v hv
  refine ⟨X, ?_, hr⟩
  simp [execOp, ho, gx, Instr.loadAt, Instr.sureAddr, loadVar, run_isAgg ha, cell_at k1 hX]
theorem sound_ldn {ty : TypeId} {m : Nat} {x : Operand} {x' : Opd} (ho : o.op = .load ty x) (hx : cOpd N x = some x') (ha : cAgg P ty = some true) (hm : cSize P ty = some m) : SoundP P ρ B N o (k_ldn m x' cf t h n) t h n := by
  intro κ hg
  have e1 : k_ldn m x' cf t h n κ = asP (ev x' t) fun p off => obK p h fun cs _ _ => rangeC cs off m fun y => listC y fun l => κ (.agg l) h n := by simp only [k_ldn, evK_eq]
  rw [e1] at hg
  obtain ⟨p, off, hxv, e2⟩ := asP_good hg
  rw [e2] at hg
  obtain ⟨cs, sup, prev, hp, e3⟩ := obK_good hg
  rw [e3] at hg
  obtain ⟨hle, y, hyl, hya, e4⟩ := rangeC_good hg
  obtain ⟨l, e5, hll, hla⟩ := listC_eq y fun l => κ (.agg l) h n
  refine ⟨.agg l, e1.trans (e2.trans (e3.trans (e4.trans e5))), fun φ a w hT g => ?_⟩
  have g1 := cOpd_rel hx hT
  rw [hxv] at g1
  obtain ⟨b, s, tot, hφ, gx⟩ := rel_ptr g1
  obtain ⟨c, e, fr, k1, k2, k3, k4, k5⟩ := g.obj p _ b s tot hp hφ
  obtain ⟨vs, q1, q2, q3, q4⟩ := cs_list (cs_range k5 hyl hya)
  have hrun := run_rows (P := P) (off := s + off) vs k1 (fun j v hj => by have := q2 j v hj; rwa [← Nat.add_assoc] at this)
  rw [q1, hyl] at hrun
  refine ⟨.agg vs.toArray, ?_, ?_⟩
  · simp [execOp, ho, gx, Instr.loadAt, Instr.sureAddr, loadVar, run_isAgg ha, run_sizeOf hm, hrun]
  · simp only [rel]
    exact ⟨_, rfl, q4 l (by rw [hll]) hla, q3⟩
theorem storeK_good {p : K4} {off : Nat} {y : Cs} {κ : Heap → R} (hg : (storeK h p off y κ).good) : ∃ cs prev z, hget p h = some (.c cs false prev) ∧ SplOf cs off y z ∧
    storeK h p off y κ = κ (hputS p (killS prev h) (some (.c z false none))) := by
  obtain ⟨cs, sup, prev, hp, e1⟩ := obK_good (show R.good (obK p h _) from hg)
  have e1 : storeK h p off y κ = _ := e1
  rw [e1] at hg
  obtain ⟨h2, e2⟩ := br_good' hg
  subst h2
  rw [e2] at hg
  obtain ⟨z, hz, e3⟩ := splC_good hg
  refine ⟨cs, prev, z, hp, hz, e1.trans (e2.trans (e3.trans ?_))⟩
  rw [killK_eq, hput_eq]
theorem store_cells {φ : Emb} {w : World} (g : Gam ρ B h n φ w) {p : K4} {off : Nat} {cs y z : Cs} {prev : Option K4} {b s tot : Nat} (hp : hget p h = some (.c cs false prev)) (hφ : φ p = some (b, s, tot)) (hz : SplOf cs off y z)
    {vs : List Value} (hl : vs.length = y.len) (hv : ∀ i v, y.at i = some v → ∃ x, vs[i]? = some x ∧ rel ρ φ v x) (h1 : ∀ x ∈ vs, x.oneCell' = true) :
    ∃ w', (storeCells ⟨b, s + off, none⟩ vs).run P w = .ok () w' ∧ Gam ρ B (hputS p (killS prev h) (some (.c z false none))) n φ w' ∧ Fr h (hputS p (killS prev h) (some (.c z false none))) φ φ n n w w' := by
  obtain ⟨c, e, fr, k1, k2, k3, k4, k5⟩ := g.obj p _ b s tot hp hφ
  obtain ⟨z1, z2, z3, z4, z5⟩ := hz
  obtain ⟨c', q1, q2, q3, q4⟩ := run_storeCells (P := P) vs w b (s + off) 0 c e fr k1 (by omega) (by rw [k2]; exact k4) h1
  have hb := (g.blk p b s tot hφ).2
  refine ⟨_, q4, g.write (o := .c cs false prev) (o' := .c z false none) hp hφ rfl rfl ⟨c', e, fr, wput_same hb, by rw [q1, k2], by rw [z2]; exact k3, k4, fun i v hi => ?_⟩, Fr.write (o := .c cs false prev) hp hφ⟩
  by_cases ha : i < off
  · rw [z3 i ha] at hi
    obtain ⟨x, hx, hr⟩ := k5 i v hi
    exact ⟨x, by show c'[s + i]? = some x; rw [q2 (s + i) (by omega)]; exact hx, hr⟩
  · by_cases hb' : i < off + y.len
    · obtain ⟨j, rfl⟩ : ∃ j, i = off + j := ⟨i - off, by omega⟩
      rw [z4 j (by omega)] at hi
      obtain ⟨x, hx, hr⟩ := hv j v hi
      refine ⟨x, ?_, hr, h1 x (List.mem_of_getElem? hx)⟩
      show c'[s + (off + j)]? = some x
      rw [← q3 j x hx]; congr 1; omega
    · rw [z5 i (by omega)] at hi
      obtain ⟨x, hx, hr⟩ := k5 i v hi
      exact ⟨x, by show c'[s + i]? = some x; rw [q2 (s + i) (by omega)]; exact hx, hr⟩
theorem sound_st {ty : TypeId} {m : Nat} {x y : Operand} {x' y' : Opd} (hρ : OneSym ρ) (ho : o.op = .store ty x y) (hx : cOpd N x = some x') (hy : cOpd N y = some y') (hm : cSize P ty = some m) :
    Sound P ρ B N o (k_st m x' y' cf t h n) t h n := by
  intro κ hg
  have e1 : k_st m x' y' cf t h n κ = asP (ev x' t) fun p off => cellsK (ev y' t) fun l => lenK l fun k => br (Nat.beq k m) (storeK h p off (.l l) fun h' => κ undV h' n) (.fail "a store of another size") := by simp only [k_st, evK_eq]
  rw [e1] at hg
  obtain ⟨p, off, hxv, e2⟩ := asP_good hg
  rw [e2] at hg
  obtain ⟨hc, e3⟩ := cellsK_good hg
  rw [e3, lenK_eq] at hg
  obtain ⟨h4, e4⟩ := br_good hg
  have h4 := Nat.eq_of_beq_eq_true h4
  rw [e4] at hg
  obtain ⟨cs, prev, z, hp, hz, e5⟩ := storeK_good hg
  refine ⟨undV, _, n, e1.trans (e2.trans (e3.trans ((lenK_eq _ _).trans (e4.trans e5)))), .skip fun φ a w hT g => ?_⟩
  have g1 := cOpd_rel hx hT
  rw [hxv] at g1
  obtain ⟨b, s, tot, hφ, gx⟩ := rel_ptr g1
  obtain ⟨hl, h1⟩ := rel_cells hρ hc (cOpd_rel hy hT)
  have hlen := rels_length hl
  obtain ⟨w', q1, q2, q3⟩ := store_cells (P := P) g hp hφ hz (vs := (a.eval y).cells.toList) (by rw [hlen]; rfl) (fun i v hi => (rels_iff.1 hl).2 i v hi) h1
  refine ⟨φ, w', ?_, q3, q2⟩
  have hsz : (a.eval y).cells.size = m := by rw [← h4, ← hlen]; simp
  simp [execOp, ho, gx, Instr.storeAt, Instr.sureAddr, storeVar, run_sizeOf hm, hsz, q1]
theorem sound_slA {ty e : TypeId} {m esz : Nat} {x : Operand} {lo hi : Option Operand} {x' : Opd} {lo' hi' : Option Opd} (ho : o.op = .slice ty x lo hi none) (hx : cOpd N x = some x') (hlo : cOpdO N lo = some lo') (hhi : cOpdO N hi = some hi')
    (ht : P.underlying ty = some (.array m e)) (he : cSize P e = some esz) : SoundP P ρ B N o (k_slA m esz x' lo' hi' cf t h n) t h n := by
  intro κ hg
  have e1 : k_slA m esz x' lo' hi' cf t h n κ = asP (ev x' t) fun p off => obK p h fun cs _ _ => br (Nat.ble (Nat.add off (Nat.mul m esz)) cs.len) (optK hi' t m fun b => optK lo' t 0 fun a => br (Nat.ble a b) (br (Nat.ble b m) (κ (.sl p (Nat.add off (Nat.mul a esz)) (Nat.sub b a) (Nat.sub m a) true esz) h n) (.fail "slice bounds")) (.fail "slice bounds")) (.fail "array") := by
    simp only [k_slA, evK_eq, forceN_eq, lenC_eq]
  rw [e1] at hg
  obtain ⟨p, off, hxv, e2⟩ := asP_good hg
  rw [e2] at hg
  obtain ⟨cs, sup, prev, hp, e3⟩ := obK_good hg
  rw [e3] at hg
  obtain ⟨h4, e4⟩ := br_good hg
  have h4 := ble_iff.1 h4
  simp only [Nat.add_eq, Nat.mul_eq] at h4
  rw [e4] at hg
  obtain ⟨b, e5, hb⟩ := optK_good (ρ := ρ) hhi hg
  rw [e5] at hg
  obtain ⟨a, e6, ha⟩ := optK_good (ρ := ρ) hlo hg
  rw [e6] at hg
  obtain ⟨h7, e7⟩ := br_good hg
  rw [e7] at hg
  obtain ⟨h8, e8⟩ := br_good hg
  have h7 := ble_iff.1 h7; have h8 := ble_iff.1 h8
  refine ⟨_, e1.trans (e2.trans (e3.trans (e4.trans (e5.trans (e6.trans (e7.trans e8)))))), fun φ ac w hT g => ?_⟩
  have g1 := cOpd_rel hx hT
  rw [hxv] at g1
  obtain ⟨bk, s, tot, hφ, gx⟩ := rel_ptr g1
  obtain ⟨c, e', fr, k1, k2, k3, k4, k5⟩ := g.obj p _ bk s tot hp hφ
  refine ⟨.slice (if m = a then some ⟨bk, s + off, none⟩ else some ⟨bk, s + off + a * esz, none⟩) (b - a) (m - a), ?_, ?_⟩
  · have hsw : (if m = a then some (⟨bk, s + off, none⟩ : Addr) else some ⟨bk, s + off + a * esz, none⟩) = some (if m = a then ⟨bk, s + off, none⟩ else ⟨bk, s + off + a * esz, none⟩) := by split <;> rfl
    rw [hsw]
    simp only [execOp, ho, gx, Instr.sliceAt, Instr.sureAddr, Sem.run_bind, run_underlying ht, Result.andThen_ok, Option.map_none, Sem.run_pure]
    simp [run_bounds (ha φ ac hT) (hb φ ac hT) h7 h8, run_sizeOf he, addr_add]
  · simp only [rel]
    have hmul : m - a = 0 ∨ a * esz + (m - a) * esz = m * esz := by
      rcases Nat.lt_or_ge a m with h' | h'
      · right; rw [← Nat.add_mul]; congr 1; omega
      · left; omega
    by_cases hca : m = a
    · rw [if_pos hca]
      refine ⟨bk, s, tot, s + off, m - a, hφ, rfl, by show b - a ≤ m - a; omega, Nat.le_refl _, fun _ => rfl, fun h0 => by omega⟩
    · rw [if_neg hca]
      refine ⟨bk, s, tot, s + off + a * esz, m - a, hφ, rfl, by show b - a ≤ m - a; omega, Nat.le_refl _, fun _ => rfl, fun h0 => ⟨by show s + off + a * esz = s + (off + a * esz); omega, ?_⟩⟩
      rcases hmul with h' | h'
      · omega
      · omega
theorem packK_good {xs : List V} {κ : Nat → Nat → R} {why : String} (hg : (packK xs κ (.fail why)).good) : ∃ m c, packK xs κ (.fail why) = κ m c ∧ (Cs.b m c).len = xs.length ∧ (∀ i, (Cs.b m c).at i = xs[i]?) ∧ c < 256 ^ m := by
  rcases packK_or xs κ (.fail why) with e | e
  · rw [e] at hg; exact hg.elim
  · exact e
/-- Bytes, read one by one into a string. -/
theorem bytes_string {φ : Emb} {m c : Nat} {vs : List Value} (hl : vs.length = m) (hv : ∀ i v, (Cs.b m c).at i = some v → ∃ x, vs[i]? = some x ∧ rel ρ φ v x) :
    ∃ bs : List UInt8, vs = bs.map (fun b => Value.int .u8 b.toNat) ∧ bs.length = m ∧ encL bs = c % 256 ^ m := by
  induction m generalizing c vs with
  | zero =>
    have : vs = [] := List.eq_nil_of_length_eq_zero hl
    subst this
    exact ⟨[], rfl, rfl, by simp [encL, Nat.mod_one]⟩
  | succ m ih =>
    cases vs with
    | nil => simp at hl
    | cons v vs =>
      obtain ⟨x, hx, hr⟩ := hv 0 _ (Cs.b_pos (by omega))
      simp at hx; subst hx
      obtain ⟨hlt, rfl⟩ := rel_int hr
      obtain ⟨bs, rfl, hbl, hbe⟩ := ih (c := c / 256) (vs := vs) (by simpa using hl) (fun i u hu => by
        have hi := Cs.lt_of_at hu
        simp only [Cs.len] at hi
        rw [Cs.b_pos hi] at hu
        have := hv (i + 1) u (by rw [Cs.b_pos (by omega), Nat.pow_succ, Nat.mul_comm, ← Nat.div_div_eq_div_mul]; exact hu)
        simpa using this)
      have hc : c / 256 ^ 0 % 256 = c % 256 := by simp
      rw [hc] at hlt ⊢
      refine ⟨UInt8.ofNat (c % 256) :: bs, ?_, by simp [hbl], ?_⟩
      · have : (UInt8.ofNat (c % 256)).toNat = c % 256 := by simp
        simp only [List.map_cons, List.cons.injEq, and_true, this]
        rw [dec_nonneg (by simp [Hk]; omega)]
      · have : (UInt8.ofNat (c % 256)).toNat = c % 256 := by simp
        simp only [encL, this, hbe]
        rw [Nat.pow_succ, Nat.mul_comm (256 ^ m) 256, Nat.mod_mul]
theorem run_bytesToString {a : Addr} {len cap : Nat} {w : World} (bs : List UInt8) (hl : bs.length = len) (h : (loadCells a len).run P w = .ok (bs.map (fun b => Value.int .u8 b.toNat)).toArray w) :
    (Conv.bytesToString (.slice (some a) len cap)).run P w = .ok (.string ⟨bs.toArray⟩) w := by
  have h' := Go.run_bytesToString w a len cap (bs.map fun b => (b.toNat : Int)) (by rw [List.map_map]; exact h)
  rw [h']
  have key : ∀ (bs : List UInt8) (s : ByteArray), (bs.map fun b => (b.toNat : Int)).foldl (fun r n => r.push (UInt8.ofNat n.toNat)) s = ⟨s.data ++ bs.toArray⟩ := by
    intro bs
    induction bs with
    | nil => intro s; simp
    | cons b bs ih =>
      intro s
      rw [List.map_cons, List.foldl_cons, ih]
      simp [ByteArray.push]
  rw [key]; simp
theorem sound_b2s {src dst e : TypeId} {x : Operand} {x' : Opd} (ho : o.op = .convert src dst x) (hx : cOpd N x = some x') (hs : P.underlying src = some (.slice e)) (hd : P.underlying dst = some .string) (he : P.underlying e = some (.int .u8)) :
    SoundP P ρ B N o (k_b2s x' cf t h n) t h n := by
  intro κ hg
  have e1 : k_b2s x' cf t h n κ = asSl (ev x' t) (κ (.str 0 0) h n) (fun p off len cap ex esz => br (Nat.beq esz 1) (obK p h fun cs _ _ => rangeC cs off len fun y => listC y fun l => packK l (fun m c => κ (.str m c) h n) (.fail "bytes")) (.fail "element")) := by
    simp only [k_b2s, evK_eq]
  rw [e1] at hg
  rcases asSl_good hg with ⟨hxv, e2⟩ | ⟨p, off, len, cap, ex, esz, hxv, e2⟩
  · refine ⟨_, e1.trans e2, fun φ a w hT g => ?_⟩
    have g1 := cOpd_rel hx hT
    rw [hxv] at g1
    have gx := rel_nil g1
    refine ⟨.string .empty, ?_, toStr .empty ρ φ⟩
    simp [execOp, ho, gx, nilOf, convert, run_underlying hs, run_underlying hd, run_underlying he, Conv.bytesToString]
  · rw [e2] at hg
    obtain ⟨h3, e3⟩ := br_good hg
    have h3 := Nat.eq_of_beq_eq_true h3
    subst h3
    rw [e3] at hg
    obtain ⟨cs, sup, prev, hp, e4⟩ := obK_good hg
    rw [e4] at hg
    obtain ⟨hle, y, hyl, hya, e5⟩ := rangeC_good hg
    rw [e5] at hg
    obtain ⟨l, e6, hll, hla⟩ := listC_eq y fun l => packK l (fun m c => κ (.str m c) h n) (.fail "bytes")
    rw [e6] at hg
    obtain ⟨m, c, e7, hml, hma, hcan⟩ := packK_good hg
    · refine ⟨_, e1.trans (e2.trans (e3.trans (e4.trans (e5.trans (e6.trans e7))))), fun φ a w hT g => ?_⟩
      have g1 := cOpd_rel hx hT
      rw [hxv] at g1
      obtain ⟨b, s, tot, q, cap', hφ, gx, c1, c2, c3, c4⟩ := rel_sl g1
      obtain ⟨cc, e', fr, k1, k2, k3, k4, k5⟩ := g.obj p _ b s tot hp hφ
      obtain ⟨vs, q1, q2, q3, q4⟩ := cs_list (cs_range k5 hyl hya)
      have hm : m = len := by simp only [Cs.len] at hml; rw [hml, hll, hyl]
      subst hm
      obtain ⟨bs, hbs, hbl, hbe⟩ := bytes_string (ρ := ρ) (φ := φ) (m := m) (c := c) (vs := vs) (by rw [q1, hyl]) (fun i v hv => by
        rw [hma i, hla i] at hv
        exact (rels_iff.1 (q4 l hll hla)).2 i v (by rw [hla i]; exact hv))
      rw [Nat.mod_eq_of_lt hcan] at hbe
      refine ⟨.string ⟨bs.toArray⟩, ?_, ?_⟩
      · have hload : (loadCells ⟨b, q, none⟩ m).run P w = .ok (bs.map (fun b => Value.int .u8 b.toNat)).toArray w := by
          rcases Nat.eq_zero_or_pos m with h0 | h0
          · subst h0
            have : bs = [] := List.eq_nil_of_length_eq_zero hbl
            subst this; rfl
          · obtain ⟨c5, c6⟩ := c4 (by omega)
            have hrun := run_rows (P := P) (off := s + off) vs k1 (fun j v hj => by have := q2 j v hj; rwa [← Nat.add_assoc] at this)
            rw [q1, hyl, hbs] at hrun
            rw [c5]; exact hrun
        simp only [execOp, ho, gx, convert, Sem.run_bind, run_underlying hs, run_underlying hd, run_underlying he, Result.andThen_ok, run_bytesToString bs hbl hload, Sem.run_pure]
      · simp only [rel]
        exact ⟨⟨bs.toArray⟩, rfl, by simp [ByteArray.size, hbl], by simpa using hbe⟩
end
end Go.Ev

namespace Go.Ev
set_option linter.unusedVariables false
section
variable {P : Program} {ρ : Env} {B N : Nat} {o : Oper} {cf : CF} {t : Regs} {h : Heap} {n : K4}
theorem EsOK_length {φ : Emb} {es : List (V × V)} : ∀ {l : List MapEntry}, EsOK ρ φ es l → l.length = es.length := by
  induction es with
  | nil => intro l h; have h : l = [] := h; subst h; rfl
  | cons e es ih => rintro l ⟨y, ys, rfl, _, _, h⟩; simp [ih h]
theorem EsOK_get {φ : Emb} {es : List (V × V)} : ∀ {l : List MapEntry} {i : Nat} {e : V × V}, EsOK ρ φ es l → es[i]? = some e → ∃ m, l[i]? = some m ∧ rel ρ φ e.1 m.key ∧ rel ρ φ e.2 m.val := by
  induction es with
  | nil => intro l i e h he; simp at he
  | cons x es ih =>
    rintro l i e ⟨y, ys, rfl, h1, h2, h⟩ he
    cases i with
    | zero => simp at he; subst he; exact ⟨y, rfl, h1, h2⟩
    | succ i => simpa using ih h (by simpa using he)
theorem EsOK_set {φ : Emb} {es : List (V × V)} : ∀ {l : List MapEntry} {i : Nat} {e : V × V} {m : MapEntry}, EsOK ρ φ es l → rel ρ φ e.1 m.key → rel ρ φ e.2 m.val → EsOK ρ φ (es.set i e) (l.set i m) := by
  induction es with
  | nil => intro l i e m h _ _; have h : l = [] := h; subst h; rfl
  | cons x es ih =>
    rintro l i e m ⟨y, ys, rfl, h1, h2, h⟩ k1 k2
    cases i with
    | zero => exact ⟨m, ys, rfl, k1, k2, h⟩
    | succ i => exact ⟨y, ys.set i m, rfl, h1, h2, ih h k1 k2⟩
theorem EsOK_snoc {φ : Emb} {es : List (V × V)} : ∀ {l : List MapEntry} {e : V × V} {m : MapEntry}, EsOK ρ φ es l → rel ρ φ e.1 m.key → rel ρ φ e.2 m.val → EsOK ρ φ (es ++ [e]) (l ++ [m]) := by
  induction es with
  | nil => intro l e m h k1 k2; have h : l = [] := h; subst h; exact ⟨m, [], rfl, k1, k2, rfl⟩
  | cons x es ih => rintro l e m ⟨y, ys, rfl, h1, h2, h⟩ k1 k2; exact ⟨y, ys ++ [m], rfl, h1, h2, ih h k1 k2⟩
theorem EsOK_erase {φ : Emb} {es : List (V × V)} : ∀ {l : List MapEntry} {i : Nat}, EsOK ρ φ es l → EsOK ρ φ (es.eraseIdx i) (l.eraseIdx i) := by
  induction es with
  | nil => intro l i h; have h : l = [] := h; subst h; rfl
  | cons x es ih =>
    rintro l i ⟨y, ys, rfl, h1, h2, h⟩
    cases i with
    | zero => exact h
    | succ i => exact ⟨y, ys.eraseIdx i, rfl, h1, h2, ih h⟩
def keyOk (pl : Plan) (x : V) : Prop :=
  match pl with
  | .sc .i => ∃ k m, x = .int k m
  | .sc .s => ∃ m c, x = .str m c
  | .sc .b => ∃ q, x = .bool q
  | .ks l => ∃ a, x = .agg a ∧ a.length = l.length
  | _ => False
theorem eqLen_good (ks : List Sc) : ∀ {a : List V} {κ : R}, (eqLen ks a κ).good → a.length = ks.length ∧ eqLen ks a κ = κ := by
  induction ks with
  | nil => intro a κ h; cases a with
    | nil => exact ⟨rfl, rfl⟩
    | cons => exact h.elim
  | cons k ks ih => intro a κ h; cases a with
    | nil => exact h.elim
    | cons u a => have := ih (a := a) (κ := κ) h; exact ⟨by simp [this.1], this.2⟩
theorem keyK_good {pl : Plan} {v : V} {κ : R} (h : (keyK pl v κ).good) : keyOk pl v ∧ keyK pl v κ = κ := by
  cases pl with
  | sc k =>
    cases k with
    | i => obtain ⟨k, m, rfl, e⟩ := asI_good (show R.good (asI v fun _ _ => κ) from h); exact ⟨⟨k, m, rfl⟩, rfl⟩
    | s => obtain ⟨k, m, rfl, e⟩ := asStr_good (show R.good (asStr v fun _ _ => κ) from h); exact ⟨⟨k, m, rfl⟩, rfl⟩
    | b => obtain ⟨q, rfl, e⟩ := asB_good (show R.good (asB v fun _ => κ) from h); exact ⟨⟨q, rfl⟩, rfl⟩
  | st fs => exact h.elim
  | ks l =>
    obtain ⟨a, rfl, e⟩ := asAgg_good (show R.good (asAgg v fun a => eqLen l a κ) from h)
    obtain ⟨h1, h2⟩ := eqLen_good l (show R.good (eqLen l a κ) from h)
    exact ⟨⟨a, rfl, h1⟩, h2⟩
  | rf w => exact h.elim
theorem run_checkKey {kt : TypeId} {pl : Plan} (hp : cKey P kt = some pl) {b : Bool} {d : Nat} {K : Value} (hK : (∃ k n, K = .int k n) ∨ (∃ s, K = .string s) ∨ (∃ q, K = .bool q) ∨ ∃ cs : Array Value, K = .agg cs ∧ ∀ l, pl = .ks l → cs.size = l.length) (w : World)
    (hsh : (∃ fs, P.underlying kt = some (.struct fs)) → ∃ cs, K = .agg cs) : (Instr.checkKey b (d + 2) kt K).run P w = .ok () w := by
  have leaf : ∀ (e : Nat) (t : TypeId) (X : Value) (k : Sc), cSc P t = some k → (Instr.checkKey b (e + 1) t X).run P w = .ok () w := fun e t X k hk => by
    unfold cSc at hk
    split at hk
    · rename_i hu; cases X <;> simp [Instr.checkKey, run_underlying hu]
    · rename_i hu; cases X <;> simp [Instr.checkKey, run_underlying hu]
    · rename_i hu; cases X <;> simp [Instr.checkKey, run_underlying hu]
    · cases hk
  unfold cKey at hp
  split at hp
  · rename_i fs hu
    split at hp
    · cases hp
    · split at hp
      · rename_i offs hoffs
        split at hp
        · rename_i hr
          cases hp
          obtain ⟨cs, rfl⟩ := hsh ⟨fs, hu⟩
          have hcs : cs.size = offs.length := by
            rcases hK with ⟨_, _, h⟩ | ⟨_, h⟩ | ⟨_, h⟩ | ⟨cs', h, hl⟩
            · cases h
            · cases h
            · cases h
            · cases h; simpa using hl _ rfl
          rw [Instr.checkKey]
          simp only [Sem.run_bind, run_underlying hu, Result.andThen_ok]
          rw [← Array.forIn_toList]
          have key : ∀ (fs : List Field) (offs' : List (Nat × Sc)), cOffs P fs = some offs' → (∀ p ∈ offs', p.1 < cs.size) → (forIn (m := Sem) fs PUnit.unit (fun f r => if f.name ≠ "_" then do
                Instr.checkKey b (d + 1) f.type (← part f.type cs f.offset)
                pure (ForInStep.yield PUnit.unit) else pure (ForInStep.yield PUnit.unit))).run P w = .ok PUnit.unit w := by
            intro fs
            induction fs with
            | nil => intro offs' _ _; simp
            | cons f fs ih =>
              intro offs' ho hlt
              simp only [cOffs] at ho
              split at ho
              · rename_i hn
                split at ho
                · rename_i k r hk hr
                  cases ho
                  have hof : f.offset < cs.size := hlt _ (List.mem_cons_self ..)
                  have hpart := run_part_sc (w := w) hk (Array.getElem?_eq_getElem hof)
                  simp only [List.forIn_cons, hn, ne_eq, not_false_eq_true, if_true, Sem.run_bind, hpart, Result.andThen_ok, leaf d _ _ _ hk, Sem.run_pure]
                  exact ih _ hr fun p hp => hlt p (List.mem_cons_of_mem _ hp)
                · cases ho
              · cases ho
          have := key fs.toList offs hoffs (fun p hp => by
            obtain ⟨i, hi, rfl⟩ := List.getElem_of_mem hp
            have h1 : (offs.map (·.1))[i]? = some offs[i].1 := by rw [List.getElem?_map, List.getElem?_eq_getElem hi]; rfl
            rw [hr, List.getElem?_range hi] at h1
            simp at h1
            omega)
          simp only [ne_eq, ite_not] at this ⊢
          rw [this]; rfl
        · cases hp
      · cases hp
  · cases hk : cSc P kt with
    | none => rw [hk] at hp; cases hp
    | some k => exact leaf (d + 1) kt K k hk
/-- A key that was looked for is such a one. -/
theorem key_shape {kt : TypeId} {pl : Plan} (hp : cKey P kt = some pl) {x : V} {φ : Emb} {K : Value} (hK : rel ρ φ x K) (hs : keyOk pl x) :
    ((∃ k n, K = .int k n) ∨ (∃ s, K = .string s) ∨ (∃ q, K = .bool q) ∨ ∃ cs : Array Value, K = .agg cs ∧ ∀ l, pl = .ks l → cs.size = l.length) ∧
    ((∃ fs, P.underlying kt = some (.struct fs)) → ∃ cs, K = .agg cs) := by
  unfold cKey at hp
  split at hp
  · rename_i fs hu
    split at hp
    · cases hp
    · split at hp
      · split at hp
        · cases hp
          obtain ⟨l, rfl, hl⟩ := hs
          obtain ⟨cs, rfl, hcs, _⟩ := rel_agg hK
          have := rels_length hcs
          exact ⟨.inr (.inr (.inr ⟨cs, rfl, fun l' h => by cases h; simp at this hl ⊢; omega⟩)), fun _ => ⟨cs, rfl⟩⟩
        · cases hp
      · cases hp
  · rename_i hns
    cases hk : cSc P kt with
    | none => rw [hk] at hp; cases hp
    | some k =>
      rw [hk] at hp; cases hp
      refine ⟨?_, fun ⟨fs, hu⟩ => absurd hu (by intro hu; exact hns fs hu)⟩
      cases k with
      | i => obtain ⟨kd, m, rfl⟩ := hs; exact .inl ⟨_, _, (rel_int hK).2⟩
      | s => obtain ⟨m, c, rfl⟩ := hs; obtain ⟨s, rfl, _⟩ := rel_str hK; exact .inr (.inl ⟨s, rfl⟩)
      | b => obtain ⟨q, rfl⟩ := hs; exact .inr (.inr (.inl ⟨q, rel_bool hK⟩))
theorem sound_lk {ty kt e : TypeId} {pl : Plan} {z : V} {zv : Value} {ok : Bool} {m k : Operand} {m' k' : Opd} (ho : o.op = .lookup ty m k ok) (hm : cOpd N m = some m') (hk : cOpd N k = some k')
    (ht : P.underlying ty = some (.map kt e)) (hp : cKey P kt = some pl) (hzv : (P.info? e).bind (·.zero) = some zv) (hz : cConst zv = some z) : SoundP P ρ B N o (k_lk pl z ok m' k' cf t h n) t h n := by
  intro κ hg
  have e1 : k_lk pl z ok m' k' cf t h n κ = keyK pl (ev k' t) (asMap (ev m' t) (br ok (κ (.tup [z, .bool false]) h n) (κ z h n)) (fun p => mpK p h fun es _ _ => lookK pl (ev k' t) es (fun r => br ok (κ (.tup [r, .bool true]) h n) (κ r h n)) (br ok (κ (.tup [z, .bool false]) h n) (κ z h n)))) := by
    simp only [k_lk, evK_eq]
  rw [e1] at hg
  obtain ⟨hko, e2⟩ := keyK_good hg
  rw [e2] at hg
  have zr : ∀ φ, rel ρ φ z zv := fun φ => cConst_rel hz φ
  -- what is told, of a value and whether it was there
  have tell : ∀ (v : V) (q : Bool), br ok (κ (.tup [v, .bool q]) h n) (κ v h n) = κ (if ok then .tup [v, .bool q] else v) h n := fun v q => by cases ok <;> rfl
  have told : ∀ (φ : Emb) (v : V) (q : Bool) (X : Value), rel ρ φ v X → rel ρ φ (if ok then .tup [v, .bool q] else v) (if ok then .tuple #[X, .bool q] else X) := fun φ v q X hX => by
    cases ok with
    | true => simp only [if_true, rel, rels]; exact ⟨_, rfl, _, _, rfl, hX, _, _, rfl, rfl, rfl⟩
    | false => exact hX
  rcases asMap_good hg with ⟨hmv, e3⟩ | ⟨p, hmv, e3⟩
  · refine ⟨if ok then .tup [z, .bool false] else z, e1.trans (e2.trans (e3.trans (tell z false))), fun φ a w hT g => ⟨if ok then .tuple #[zv, .bool false] else zv, ?_, told φ z false zv (zr φ)⟩⟩
    have g1 := cOpd_rel hm hT
    rw [hmv] at g1
    have gx := rel_nil g1
    have g2 := cOpd_rel hk hT
    obtain ⟨s1, s2⟩ := key_shape hp g2 hko
    have hck := run_checkKey (P := P) (b := true) (d := 9998) hp s1 w s2
    have hfk := run_findKey (P := P) (w := w) hp g2 (es := []) (ents := []) (r := none) rfl rfl
    simp only [execOp, ho, gx, nilOf, Instr.lookup, Sem.run_bind, run_underlying ht, Result.andThen_ok, Sem.run_pure]
    simp [hck, hfk.1, run_zeroValue hzv]
  · rw [e3] at hg
    obtain ⟨es, bs, clk, hpm, e4⟩ := mpK_good hg
    rw [e4] at hg
    obtain ⟨r, hf, hr⟩ := lookK_good hp hg
    have key : ∀ φ a w, TR ρ N φ t a → Gam ρ B h n φ w → ∃ ents clk b, a.eval m = .map (some b) ∧ w.heap[b]? = some (.map ents clk) ∧ EsOK ρ φ es ents.toList ∧
        (Instr.checkKey ents.isEmpty 10000 kt (a.eval k)).run P w = .ok () w ∧ (Instr.findKey kt (a.eval k) ents.toList).run P w = .ok (r.bind fun i => (ents.toList[i]?).map fun e => (i, e.val)) w := fun φ a w hT g => by
      have g1 := cOpd_rel hm hT
      rw [hmv] at g1
      obtain ⟨b, s, tot, hφ, gx⟩ := rel_map g1
      obtain ⟨ents, k1, k2, _⟩ := g.obj p _ b s tot hpm hφ
      have g2 := cOpd_rel hk hT
      obtain ⟨s1, s2⟩ := key_shape hp g2 hko
      exact ⟨ents, clk, b, gx, k1, k2, run_checkKey (d := 9998) hp s1 w s2, (run_findKey hp g2 hf k2).1⟩
    cases r with
    | none =>
      refine ⟨if ok then .tup [z, .bool false] else z, e1.trans (e2.trans (e3.trans (e4.trans (Eq.trans hr (tell z false))))), fun φ a w hT g => ⟨if ok then .tuple #[zv, .bool false] else zv, ?_, told φ z false zv (zr φ)⟩⟩
      obtain ⟨ents, clk, b, gx, k1, k2, hck, hfk⟩ := key φ a w hT g
      have hgo : (getObj b).run P w = .ok (.map ents clk) w := by simp [getObj, Sem.run, k1]
      simp only [execOp, ho, gx, Instr.lookup, Sem.run_bind, run_underlying ht, Result.andThen_ok, Sem.run_pure, hgo, hck, hfk]
      simp [run_zeroValue hzv]
    | some i =>
      obtain ⟨ee, hee, hr⟩ := hr
      refine ⟨if ok then .tup [ee.2, .bool true] else ee.2, e1.trans (e2.trans (e3.trans (e4.trans (Eq.trans hr (tell ee.2 true))))), fun φ a w hT g => ?_⟩
      obtain ⟨ents, clk, b, gx, k1, k2, hck, hfk⟩ := key φ a w hT g
      obtain ⟨mm, hmm, _, hval⟩ := EsOK_get k2 hee
      refine ⟨if ok then .tuple #[mm.val, .bool true] else mm.val, ?_, told φ ee.2 true mm.val hval⟩
      have hgo : (getObj b).run P w = .ok (.map ents clk) w := by simp [getObj, Sem.run, k1]
      have hmm' : ents[i]? = some mm := by simpa using hmm
      simp only [execOp, ho, gx, Instr.lookup, Sem.run_bind, run_underlying ht, Result.andThen_ok, Sem.run_pure, hgo, hck, hfk]
      simp [hmm']
theorem map_eraseIdx {α β : Type} (f : α → β) : ∀ (l : List α) (i : Nat), (l.eraseIdx i).map f = (l.map f).eraseIdx i
  | [], _ => rfl
  | _ :: _, 0 => rfl
  | x :: l, i + 1 => by simp [map_eraseIdx f l i]
theorem run_setObj {b : Nat} {O O' : Obj} {w : World} (h1 : w.heap[b]? = some O) (h2 : ∀ c e f, O ≠ .cells c e f) : (setObj b O').run P w = .ok () (wput w b O') := by
  simp only [setObj, Sem.run, h1]
  cases O with
  | cells c e f => exact absurd rfl (h2 c e f)
  | _ => rfl
theorem write_map {φ : Emb} {w : World} (g : Gam ρ B h n φ w) {p : K4} {es es' : List (V × V)} {bs bs' : List Nat} {clk0 : Nat} {b s tot : Nat} {ents : Array MapEntry} {clk : Nat} (hp : hget p h = some (.m es bs clk0)) (hφ : φ p = some (b, s, tot)) (hok : EsOK ρ φ es' ents.toList) (hbs : ents.toList.map (·.born) = bs') :
    Gam ρ B (hputS p h (some (.m es' bs' clk))) n φ (wput w b (.map ents clk)) ∧ Fr h (hputS p h (some (.m es' bs' clk))) φ φ n n w (wput w b (.map ents clk)) := by
  have hb := (g.blk p b s tot hφ).2
  exact ⟨g.write (o := .m es bs clk0) (o' := .m es' bs' clk) hp hφ rfl rfl ⟨ents, wput_same hb, hok, hbs⟩, Fr.write (o := .m es bs clk0) hp hφ⟩
theorem sound_mu {ty kt e : TypeId} {pl : Plan} {m k v : Operand} {m' k' v' : Opd} (ho : o.op = .mapUpdate ty m k v ∨ o.op = .insert ty m k v) (hm : cOpd N m = some m') (hk : cOpd N k = some k') (hv : cOpd N v = some v')
    (ht : P.underlying ty = some (.map kt e)) (hp : cKey P kt = some pl) : Sound P ρ B N o (k_mu pl m' k' v' cf t h n) t h n := by
  intro κ hg
  have e1 : k_mu pl m' k' v' cf t h n κ = keyK pl (ev k' t) (asMap (ev m' t) (.fail "a store to a nil map") (fun p => mpK p h fun es bs c => updK pl (ev k' t) (ev v' t) es fun es => κ undV (hputS p h (some (.m es (if es.length = bs.length then bs else bs ++ [c]) (if es.length = bs.length then c else c + 1)))) n)) := by
    simp only [k_mu, evK_eq, hput_eq, bsU_eq]
  rw [e1] at hg
  obtain ⟨hko, e2⟩ := keyK_good hg
  rw [e2] at hg
  rcases asMap_good hg with ⟨hmv, e3⟩ | ⟨p, hmv, e3⟩
  · rw [e3] at hg; exact hg.elim
  rw [e3] at hg
  obtain ⟨es, bs, clk, hpm, e4⟩ := mpK_good hg
  rw [e4] at hg
  obtain ⟨r, hf, e5⟩ := updK_good hp hg
  refine ⟨undV, _, n, e1.trans (e2.trans (e3.trans (e4.trans e5))), .skip fun φ a w hT g => ?_⟩
  have g1 := cOpd_rel hm hT
  rw [hmv] at g1
  obtain ⟨b, s, tot, hφ, gx⟩ := rel_map g1
  obtain ⟨ents, k1, k2, k3⟩ := g.obj p _ b s tot hpm hφ
  have hlen : es.length = bs.length := by rw [← EsOK_length k2, ← k3, List.length_map]
  have g2 := cOpd_rel hk hT
  have g3 := cOpd_rel hv hT
  obtain ⟨s1, s2⟩ := key_shape hp g2 hko
  have hck := run_checkKey (P := P) (b := false) (d := 9998) hp s1 w s2
  obtain ⟨hfk, hsb⟩ := run_findKey (P := P) (w := w) hp g2 hf k2
  have hgo : (getObj b).run P w = .ok (.map ents clk) w := by simp [getObj, Sem.run, k1]
  have hso : ∀ O', (setObj b O').run P w = .ok () (wput w b O') := fun O' => run_setObj k1 (by simp)
  have fin : ∀ (es' : List (V × V)) (ents' : Array MapEntry) (bs' : List Nat) (clk' : Nat), EsOK ρ φ es' ents'.toList → ents'.toList.map (·.born) = bs' →
      (Instr.mapUpdate ty (.map (some b)) (a.eval k) (a.eval v)).run P w = .ok () (wput w b (.map ents' clk')) →
      ∃ φ' w', (execOp a.eval o).run P w = .ok .skip w' ∧ Fr h (hputS p h (some (.m es' bs' clk'))) φ φ' n n w w' ∧
        Gam ρ B (hputS p h (some (.m es' bs' clk'))) n φ' w' := fun es' ents' bs' clk' hok hbs hrun => by
    obtain ⟨q1, q2⟩ := write_map (clk := clk') g hpm hφ hok hbs
    refine ⟨φ, _, ?_, q2, q1⟩
    rcases ho with ho | ho <;> simp [execOp, ho, gx, hrun]
  cases r with
  | none =>
    show ∃ φ' w', _ ∧ Fr h (hputS p h (some (.m (es ++ [(ev k' t, ev v' t)]) (if (es ++ [(ev k' t, ev v' t)]).length = bs.length then bs else bs ++ [clk]) (if (es ++ [(ev k' t, ev v' t)]).length = bs.length then clk else clk + 1)))) φ φ' n n w w' ∧ _
    have hne : (es ++ [(ev k' t, ev v' t)]).length ≠ bs.length := by simp; omega
    rw [if_neg hne, if_neg hne]
    refine fin _ (ents.push { key := a.eval k, val := a.eval v, born := clk }) _ (clk + 1) ?_ ?_ ?_
    · rw [Array.toList_push]; exact EsOK_snoc k2 g2 g3
    · rw [Array.toList_push, List.map_append, k3]; rfl
    · simp only [Instr.mapUpdate, Sem.run_bind, run_underlying ht, Result.andThen_ok, hgo, hck, hfk]
      simp [hso]
  | some i =>
    obtain ⟨mm, hmm, hsame⟩ := hsb i rfl
    show ∃ φ' w', _ ∧ Fr h (hputS p h (some (.m (es.set i (ev k' t, ev v' t)) (if (es.set i (ev k' t, ev v' t)).length = bs.length then bs else bs ++ [clk]) (if (es.set i (ev k' t, ev v' t)).length = bs.length then clk else clk + 1)))) φ φ' n n w w' ∧ _
    have heq : (es.set i (ev k' t, ev v' t)).length = bs.length := by rw [List.length_set]; exact hlen
    rw [if_pos heq, if_pos heq]
    have hset : (ents.modify i fun e => { e with key := a.eval k, val := a.eval v }).toList = ents.toList.set i { mm with key := a.eval k, val := a.eval v } := by
      have hi : i < ents.toList.length := by
        rcases Nat.lt_or_ge i ents.toList.length with h' | h'
        · exact h'
        · rw [List.getElem?_eq_none h'] at hmm; cases hmm
      apply List.ext_getElem?
      intro j
      rw [Array.getElem?_toList, Array.getElem?_modify, List.getElem?_set]
      by_cases hj : i = j
      · subst hj
        have : ents[i]? = some mm := by simpa using hmm
        simp [this]; simpa using hi
      · simp [hj]
    refine fin _ (ents.modify i fun e => { e with key := a.eval k, val := a.eval v }) _ clk ?_ ?_ ?_
    · rw [hset]; exact EsOK_set k2 g2 g3
    · rw [hset, ← k3, List.map_set]
      have hmb : (ents.toList.map (·.born))[i]? = some mm.born := by rw [List.getElem?_map, hmm]; rfl
      apply List.ext_getElem?
      intro j
      rw [List.getElem?_set]
      by_cases hj : i = j
      · subst hj
        rw [if_pos rfl, hmb]
        have hi : i < (ents.toList.map (·.born)).length := (List.getElem?_eq_some_iff.1 hmb).1
        rw [if_pos hi]
      · rw [if_neg hj]
    · have hmm' : ents[i]? = some mm := by simpa using hmm
      simp only [Instr.mapUpdate, Sem.run_bind, run_underlying ht, Result.andThen_ok, hgo, hck, hfk]
      simp [hmm', Instr.keyThatStays, hsame, hso]
theorem sound_del {ct : Call} {ty kt e : TypeId} {pl : Plan} {m k : Operand} {m' k' : Opd} {ts : List TypeId} (ho : o.op = .call ct) (hb : ct.callee = .builtin .delete) (hts : ct.argTypes.toList = ty :: ts) (hargs : ct.args.toList = [m, k])
    (hm : cOpd N m = some m') (hk : cOpd N k = some k') (ht : P.underlying ty = some (.map kt e)) (hp : cKey P kt = some pl) : Sound P ρ B N o (k_del pl m' k' cf t h n) t h n := by
  intro κ hg
  have e1 : k_del pl m' k' cf t h n κ = keyK pl (ev k' t) (asMap (ev m' t) (κ (.tup []) h n) (fun p => mpK p h fun es bs c => delK pl (ev k' t) es fun es' => delB pl (ev k' t) es bs fun bs => κ (.tup []) (hputS p h (some (.m es' bs c))) n)) := by
    simp only [k_del, evK_eq, hput_eq]
  rw [e1] at hg
  obtain ⟨hko, e2⟩ := keyK_good hg
  rw [e2] at hg
  have hargs' : ct.args = #[m, k] := by rw [← hargs]
  have hts' : ct.argTypes[0]? = some ty := by rw [← Array.getElem?_toList, hts]; rfl
  have htup : ∀ φ, rel ρ φ (.tup []) (.tuple #[]) := fun φ => by simp only [rel]; exact ⟨#[], rfl, by simp only [rels]⟩
  rcases asMap_good hg with ⟨hmv, e3⟩ | ⟨p, hmv, e3⟩
  · refine ⟨_, h, n, e1.trans (e2.trans e3), .pure fun φ a w hT g => ⟨.tuple #[], ?_, htup φ⟩⟩
    have g1 := cOpd_rel hm hT
    rw [hmv] at g1
    have gx := rel_nil g1
    have g2 := cOpd_rel hk hT
    obtain ⟨s1, s2⟩ := key_shape hp g2 hko
    have hck := run_checkKey (P := P) (b := true) (d := 9998) hp s1 w s2
    simp only [execOp, ho, resolve, hb, hargs', invoke, builtin, Sem.run_bind, Sem.run_pure, Result.andThen_ok]
    simp [Builtin.delete_, hts', gx, nilOf, run_underlying ht, hck]
  · rw [e3] at hg
    obtain ⟨es, bs, clk, hpm, e4⟩ := mpK_good hg
    rw [e4] at hg
    obtain ⟨r, hf, e5⟩ := delK_good hp hg
    rw [e5] at hg
    have e6 := delB_good hg hf
    refine ⟨_, _, n, e1.trans (e2.trans (e3.trans (e4.trans (e5.trans e6)))), .value fun φ a w hT g => ?_⟩
    have g1 := cOpd_rel hm hT
    rw [hmv] at g1
    obtain ⟨b, s, tot, hφ, gx⟩ := rel_map g1
    obtain ⟨ents, k1, k2, k3⟩ := g.obj p _ b s tot hpm hφ
    have g2 := cOpd_rel hk hT
    obtain ⟨s1, s2⟩ := key_shape hp g2 hko
    have hck := run_checkKey (P := P) (b := ents.isEmpty) (d := 9998) hp s1 w s2
    obtain ⟨hfk, hsb⟩ := run_findKey (P := P) (w := w) hp g2 hf k2
    have hgo : (getObj b).run P w = .ok (.map ents clk) w := by simp [getObj, Sem.run, k1]
    have hso : ∀ O', (setObj b O').run P w = .ok () (wput w b O') := fun O' => run_setObj k1 (by simp)
    cases r with
    | none =>
      obtain ⟨q1, q2⟩ := write_map (clk := clk) (ents := ents) g hpm hφ k2 k3
      refine ⟨φ, .tuple #[], _, ?_, q2, q1, htup φ⟩
      simp only [execOp, ho, resolve, hb, hargs', invoke, builtin, Sem.run_bind, Sem.run_pure, Result.andThen_ok]
      simp [Builtin.delete_, hts', gx, run_underlying ht, hgo, hck, hfk, hso]
    | some i =>
      obtain ⟨mm, hmm, _⟩ := hsb i rfl
      have hmm' : ents[i]? = some mm := by simpa using hmm
      have hi : i < ents.size := by
        rcases Nat.lt_or_ge i ents.size with h' | h'
        · exact h'
        · rw [Array.getElem?_eq_none h'] at hmm'; cases hmm'
      have hel : (ents.eraseIdxIfInBounds i).toList = ents.toList.eraseIdx i := by
        unfold Array.eraseIdxIfInBounds; rw [dif_pos hi]; simp
      obtain ⟨q1, q2⟩ := write_map (clk := clk) (ents := ents.eraseIdxIfInBounds i) g hpm hφ (es' := es.eraseIdx i) (bs' := bs.eraseIdx i) (by rw [hel]; exact EsOK_erase k2) (by rw [hel, ← k3, map_eraseIdx])
      refine ⟨φ, .tuple #[], _, ?_, q2, q1, htup φ⟩
      simp only [execOp, ho, resolve, hb, hargs', invoke, builtin, Sem.run_bind, Sem.run_pure, Result.andThen_ok]
      simp [Builtin.delete_, hts', gx, run_underlying ht, hgo, hck, hfk, hmm', hso]
theorem intK_good {m : Nat} {κ : V → R} (hg : (intK m κ).good) : m < Hk .i64 ∧ intK m κ = κ (.int .i64 m) := by
  obtain ⟨h1, e1⟩ := br_good (show R.good (br (Nat.ble (Nat.succ m) 9223372036854775808) (κ (.int .i64 m)) (.fail "a great length")) from hg)
  exact ⟨lt_of_ble h1, e1⟩
theorem int_rel {m : Nat} (hm : m < Hk .i64) (φ : Emb) : rel ρ φ (.int .i64 m) (goInt m) := by
  simp only [rel, goInt]
  exact ⟨Nat.lt_of_lt_of_le hm (Hk_le _), by rw [dec_nonneg hm]⟩
theorem lenM_eq (es : List (V × V)) (κ : Nat → R) : lenM es κ = κ es.length := by
  induction es generalizing κ with
  | nil => rfl
  | cons x xs ih => exact (ih fun n => forceN (Nat.succ n) κ).trans (forceN_eq _ _)
theorem callB {ct : Call} {b : Builtin} (ho : o.op = .call ct) (hb : ct.callee = .builtin b) {a : Act} {w w' : World} {v : Value}
    (hr : ∀ cs, (builtin b ct.argTypes o.type cs (ct.args.map a.eval)).run P w = .ok (.value v) w') : (execOp a.eval o).run P w = .ok (.value v) w' := by
  simp [execOp, ho, resolve, hb, invoke, hr]
section
variable {ct : Call} {ty : TypeId} {x : Operand} {x' : Opd} {ts : List TypeId} {xs : List Operand}
theorem sound_lnS (ho : o.op = .call ct) (hb : ct.callee = .builtin .len) (hts : ct.argTypes.toList = ty :: ts) (hargs : ct.args.toList = x :: xs)
    (hx : cOpd N x = some x') (ht : P.underlying ty = some .string) : SoundP P ρ B N o (k_lnS x' cf t h n) t h n := by
  intro κ hg
  have e0 : k_lnS x' cf t h n κ = ssK (ev x' t) (fun l0 l1 _ _ => br (Nat.ble (Nat.succ l1) 9223372036854775808) (κ (.oth (.iv .i64 l0 l1)) h n) (.fail "a great length")) (asStr (ev x' t) fun m _ => intK m fun v => κ v h n) := by simp only [k_lnS, evK_eq]
  rw [e0] at hg
  have hargs' : ct.args[0]? = some x := by rw [← Array.getElem?_toList, hargs]; rfl
  have hts' : ct.argTypes[0]? = some ty := by rw [← Array.getElem?_toList, hts]; rfl
  rcases ssK_cases (ev x' t) (fun l0 l1 _ _ => br (Nat.ble (Nat.succ l1) 9223372036854775808) (κ (.oth (.iv .i64 l0 l1)) h n) (.fail "a great length")) (asStr (ev x' t) fun m _ => intK m fun v => κ v h n) with ⟨l0, l1, _, _, hv, e1⟩ | e1
  · rw [e1] at hg
    obtain ⟨hb', e2⟩ := br_good hg
    have hb' : l1 + 1 ≤ 9223372036854775808 := ble_iff.1 hb'
    refine ⟨_, e0.trans (e1.trans e2), fun φ a w hT g => ?_⟩
    have g1 := cOpd_rel hx hT
    rw [hv] at g1
    simp only [rel] at g1
    obtain ⟨s, gx, h1, h2, _⟩ := g1
    refine ⟨goInt s.size, callB ho hb fun cs => ?_, ?_⟩
    · simp [builtin, Builtin.len_, hts', hargs', gx, run_underlying ht]
    · simp only [rel]
      exact ⟨s.size, h1, h2, by simp only [Mk]; omega, by rw [dec_nonneg (by simp only [Hk]; omega)]; rfl⟩
  have e1 := e0.trans e1
  rw [← e0, e1] at hg
  obtain ⟨m, c, hv, e2⟩ := asStr_good hg
  rw [e2] at hg
  obtain ⟨hm, e3⟩ := intK_good hg
  refine ⟨_, e1.trans (e2.trans e3), fun φ a w hT g => ⟨goInt m, callB ho hb fun cs => ?_, int_rel hm φ⟩⟩
  have g1 := cOpd_rel hx hT
  rw [hv] at g1
  obtain ⟨s, gx, hs, _⟩ := rel_str g1
  simp [builtin, Builtin.len_, hts', hargs', gx, run_underlying ht, hs]
theorem sound_lnL {e : TypeId} (ho : o.op = .call ct) (hb : ct.callee = .builtin .len) (hts : ct.argTypes.toList = ty :: ts) (hargs : ct.args.toList = x :: xs)
    (hx : cOpd N x = some x') (ht : P.underlying ty = some (.slice e)) : SoundP P ρ B N o (k_lnL x' cf t h n) t h n := by
  intro κ hg
  have e0 : k_lnL x' cf t h n κ = asSlo (ev x' t) (κ (.int .i64 0) h n) (fun p off len cap ex esz => intK len fun v => κ v h n) (fun o => otOs o (fun l0 l1 => br (Nat.ble (Nat.succ l1) 9223372036854775808) (κ (.oth (.iv .i64 l0 l1)) h n) (.fail "a great length")) (otAs o (fun i l0 l1 z => br (Nat.ble (Nat.succ l1) 9223372036854775808) (br (Nat.beq l0 l1) (κ (.int .i64 l0) h n) (κ (.oth (.iv .i64 l0 l1)) h n)) (.fail "a great length")) (.fail "slice expected"))) := by simp only [k_lnL, evK_eq]
  rw [e0] at hg
  have hargs' : ct.args[0]? = some x := by rw [← Array.getElem?_toList, hargs]; rfl
  have hts' : ct.argTypes[0]? = some ty := by rw [← Array.getElem?_toList, hts]; rfl
  rcases asSlo_cases hg with ⟨hv, e2⟩ | ⟨p, off, len, cap, ex, esz, hv, e2⟩ | ⟨oo, hv, e2⟩
  · refine ⟨_, e0.trans e2, fun φ a w hT g => ⟨goInt 0, callB ho hb fun cs => ?_, int_rel (by decide) φ⟩⟩
    have g1 := cOpd_rel hx hT
    rw [hv] at g1
    have gx := rel_nil g1
    simp [builtin, Builtin.len_, hts', hargs', gx, nilOf, run_underlying ht]
  · rw [e2] at hg
    obtain ⟨hm, e3⟩ := intK_good hg
    refine ⟨_, e0.trans (e2.trans e3), fun φ a w hT g => ⟨goInt len, callB ho hb fun cs => ?_, int_rel hm φ⟩⟩
    have g1 := cOpd_rel hx hT
    rw [hv] at g1
    obtain ⟨b, s, tot, oo, rcap, hφ, gx, _⟩ := rel_sl g1
    simp [builtin, Builtin.len_, hts', hargs', gx, run_underlying ht]
  · rw [e2] at hg
    cases oo with
    | os l0 l1 =>
      have hg' : R.good (br (Nat.ble (Nat.succ l1) 9223372036854775808) (κ (.oth (.iv .i64 l0 l1)) h n) (.fail "a great length")) := hg
      obtain ⟨hb', e3⟩ := br_good hg'
      have hb' : l1 + 1 ≤ 9223372036854775808 := ble_iff.1 hb'
      refine ⟨_, e0.trans (e2.trans e3), fun φ a w hT g => ?_⟩
      have g1 := cOpd_rel hx hT
      rw [hv] at g1
      simp only [rel] at g1
      obtain ⟨p, len, cap, gx, h1, h2, h3⟩ := g1
      refine ⟨goInt len, callB ho hb fun cs => ?_, ?_⟩
      · simp [builtin, Builtin.len_, hts', hargs', gx, run_underlying ht]
      · simp only [rel]
        exact ⟨len, h1, h2, by simp only [Mk]; omega, by rw [dec_nonneg (by simp only [Hk]; omega)]; rfl⟩
    | ro i l0 l1 z =>
      have hg' : R.good (br (Nat.ble (Nat.succ l1) 9223372036854775808) (br (Nat.beq l0 l1) (κ (.int .i64 l0) h n) (κ (.oth (.iv .i64 l0 l1)) h n)) (.fail "a great length")) := hg
      obtain ⟨hb', e3⟩ := br_good hg'
      have hb' : l1 + 1 ≤ 9223372036854775808 := ble_iff.1 hb'
      have key : ∃ v, br (Nat.beq l0 l1) (κ (.int .i64 l0) h n) (κ (.oth (.iv .i64 l0 l1)) h n) = κ v h n ∧ ∀ (φ : Emb) (len : Nat), l0 ≤ len → len ≤ l1 → rel ρ φ v (goInt len) := by
        cases hl : Nat.beq l0 l1 with
        | true =>
          have hl := Nat.eq_of_beq_eq_true hl
          refine ⟨_, by rw [br_true], fun φ len h1 h2 => ?_⟩
          obtain rfl : len = l0 := by omega
          exact int_rel (show len < 9223372036854775808 by omega) φ
        | false =>
          refine ⟨_, by rw [br_false], fun φ len h1 h2 => ?_⟩
          simp only [rel]
          exact ⟨len, h1, h2, by simp only [Mk]; omega, by rw [dec_nonneg (by simp only [Hk]; omega)]; rfl⟩
      obtain ⟨v, e4, hv4⟩ := key
      refine ⟨_, e0.trans (e2.trans (e3.trans e4)), fun φ a w hT g => ?_⟩
      have g1 := cOpd_rel hx hT
      rw [hv] at g1
      simp only [rel] at g1
      obtain ⟨b, q, len, cap, c, e', fr, gx, h1, h2, h3, _⟩ := g1
      refine ⟨goInt len, callB ho hb fun cs => ?_, hv4 φ len h1 h2⟩
      simp [builtin, Builtin.len_, hts', hargs', gx, run_underlying ht]
    | _ => exact hg.elim
theorem sound_cpL {e : TypeId} (ho : o.op = .call ct) (hb : ct.callee = .builtin .cap) (hts : ct.argTypes.toList = ty :: ts) (hargs : ct.args.toList = x :: xs)
    (hx : cOpd N x = some x') (ht : P.underlying ty = some (.slice e)) : SoundP P ρ B N o (k_cpL x' cf t h n) t h n := by
  intro κ hg
  have e1 : k_cpL x' cf t h n κ = asSl (ev x' t) (κ (.int .i64 0) h n) (fun p off len cap ex esz => br ex (intK cap fun v => κ v h n) (.fail "a capacity")) := by simp only [k_cpL, evK_eq]
  rw [e1] at hg
  have hargs' : ct.args[0]? = some x := by rw [← Array.getElem?_toList, hargs]; rfl
  have hts' : ct.argTypes[0]? = some ty := by rw [← Array.getElem?_toList, hts]; rfl
  rcases asSl_good hg with ⟨hv, e2⟩ | ⟨p, off, len, cap, ex, esz, hv, e2⟩
  · refine ⟨_, e1.trans e2, fun φ a w hT g => ⟨goInt 0, callB ho hb fun cs => ?_, int_rel (by decide) φ⟩⟩
    have g1 := cOpd_rel hx hT
    rw [hv] at g1
    have gx := rel_nil g1
    simp [builtin, Builtin.cap_, hts', hargs', gx, nilOf, run_underlying ht]
  · rw [e2] at hg
    obtain ⟨hex, e3⟩ := br_good hg
    rw [e3] at hg
    obtain ⟨hm, e4⟩ := intK_good hg
    refine ⟨_, e1.trans (e2.trans (e3.trans e4)), fun φ a w hT g => ⟨goInt cap, callB ho hb fun cs => ?_, int_rel hm φ⟩⟩
    have g1 := cOpd_rel hx hT
    rw [hv] at g1
    obtain ⟨b, s, tot, oo, rcap, hφ, gx, _, _, c3, _⟩ := rel_sl g1
    have hc := c3 hex
    subst hc
    simp [builtin, Builtin.cap_, hts', hargs', gx, run_underlying ht]
theorem sound_lnM {k e : TypeId} (ho : o.op = .call ct) (hb : ct.callee = .builtin .len) (hts : ct.argTypes.toList = ty :: ts) (hargs : ct.args.toList = x :: xs)
    (hx : cOpd N x = some x') (ht : P.underlying ty = some (.map k e)) : SoundP P ρ B N o (k_lnM x' cf t h n) t h n := by
  intro κ hg
  have e1 : k_lnM x' cf t h n κ = asMap (ev x' t) (κ (.int .i64 0) h n) (fun p => mpK p h fun es _ _ => intK es.length fun v => κ v h n) := by
    simp only [k_lnM, evK_eq]
    congr 1; funext p; congr 1; funext es _ _; exact lenM_eq es _
  rw [e1] at hg
  have hargs' : ct.args[0]? = some x := by rw [← Array.getElem?_toList, hargs]; rfl
  have hts' : ct.argTypes[0]? = some ty := by rw [← Array.getElem?_toList, hts]; rfl
  rcases asMap_good hg with ⟨hv, e2⟩ | ⟨p, hv, e2⟩
  · refine ⟨_, e1.trans e2, fun φ a w hT g => ⟨goInt 0, callB ho hb fun cs => ?_, int_rel (by decide) φ⟩⟩
    have g1 := cOpd_rel hx hT
    rw [hv] at g1
    have gx := rel_nil g1
    simp [builtin, Builtin.len_, hts', hargs', gx, nilOf, run_underlying ht]
  · rw [e2] at hg
    obtain ⟨es, bs, clk, hpm, e3⟩ := mpK_good hg
    rw [e3] at hg
    obtain ⟨hm, e4⟩ := intK_good hg
    refine ⟨_, e1.trans (e2.trans (e3.trans e4)), fun φ a w hT g => ⟨goInt es.length, callB ho hb fun cs => ?_, int_rel hm φ⟩⟩
    have g1 := cOpd_rel hx hT
    rw [hv] at g1
    obtain ⟨b, s, tot, hφ, gx⟩ := rel_map g1
    obtain ⟨ents, k1, k2, _⟩ := g.obj p _ b s tot hpm hφ
    have hl := EsOK_length k2
    have hgo : (getObj b).run P w = .ok (.map ents clk) w := by simp [getObj, Sem.run, k1]
    simp [builtin, Builtin.len_, hts', hargs', gx, run_underlying ht, hgo]
    rw [← hl]; simp
end
end
end Go.Ev

namespace Go.Ev
set_option linter.unusedVariables false
section
variable {P : Program} {ρ : Env} {B N : Nat} {o : Oper} {cf : CF} {t : Regs} {h : Heap} {n : K4}
theorem Gam.frz {φ : Emb} {w : World} (g : Gam ρ B h n φ w) {p : K4} {cs : Cs} {sup : Bool} {prev : Option K4} {b s tot : Nat} {c : Array Value} {e : TypeId} {fr fr' : Nat × Nat}
    (hp : hget p h = some (.c cs sup prev)) (hφ : φ p = some (b, s, tot)) (hw : w.heap[b]? = some (.cells c e fr)) (hf : Frz fr' c.size) :
    Gam ρ B h n φ (wput w b (.cells c e fr')) ∧ Fr h h φ φ n n w (wput w b (.cells c e fr')) := by
  have hb := (g.blk p b s tot hφ).2
  refine ⟨⟨by rw [wput_size]; exact g.base, g.dom, fun q b1 s1 t1 hx => by rw [wput_size]; exact g.blk q b1 s1 t1 hx, fun q o1 b1 s1 t1 hq hx => ?_, g.sep, g.sup, fun k c e fr hk => ⟨(g.glob k c e fr hk).1, by rw [wput_ne (by have := (g.glob k c e fr hk).1; have := (g.blk p b s tot hφ).1; omega)]; exact (g.glob k c e fr hk).2⟩⟩,
    ⟨Emb.le_refl φ, fun _ _ h => .inl h, Nat.le_refl _, rfl, rfl, rfl, by rw [wput_size]; exact Nat.le_refl _, fun k hk hn => wput_ne fun e => ?_, fun _ _ _ _ h => .inl h, fun _ _ h => h⟩⟩
  · have k := g.obj q o1 b1 s1 t1 hq hx
    by_cases e : b = b1
    · subst e
      cases o1 with
      | c cs1 sup1 prev1 =>
        obtain ⟨c1, e1, fr1, h1, h2, h3, h4, h5⟩ := k
        rw [hw] at h1; cases h1
        exact ⟨c, e, fr', wput_same hb, h2, h3, h2 ▸ hf, h5⟩
      | m es bs clk => obtain ⟨ents, h1, _⟩ := k; rw [hw] at h1; cases h1
      | it p since seen c => obtain ⟨bm, sm, tm, _, _, h1⟩ := k; rw [hw] at h1; cases h1
      | it0 => obtain ⟨_, h1⟩ := k; rw [hw] at h1; cases h1
      | lp _ _ => obtain ⟨_, A, fn, tmps, D, _, h1, _⟩ := k; rw [hw] at h1; cases h1
    · exact ObOK_heap (wput_ne e) k
  · subst e
    have := hn p s tot hφ; rw [hp] at this; cases this
theorem sound_bsl {src dst e e' : TypeId} {x : Operand} {x' : Opd} (ho : o.op = .convert src dst x) (hx : cOpd N x = some x') (hs : P.underlying src = some (.slice e')) (hd : P.underlying dst = some (.slice e)) (hsd : (src == dst) = true) (he : P.underlying e = some (.int .u8)) :
    Sound P ρ B N o (k_bsl x' cf t h n) t h n := by
  intro κ hg
  have e1 : k_bsl x' cf t h n κ = asSl (ev x' t) (.fail "bytes") (fun p _ _ _ _ _ => obK p h fun _ _ _ => κ (ev x' t) h n) := by simp only [k_bsl, evK_eq]
  rw [e1] at hg
  rcases asSl_good hg with ⟨hv, e2⟩ | ⟨p, off, len, cap, ex, esz, hv, e2⟩
  · rw [e2] at hg; exact hg.elim
  · rw [e2] at hg
    obtain ⟨cs, sup, prev, hp, e3⟩ := obK_good hg
    refine ⟨_, h, n, e1.trans (e2.trans e3), .value fun φ a w hT g => ?_⟩
    have g1 := cOpd_rel hx hT
    rw [hv] at g1
    obtain ⟨b, s, tot, q, cap', hφ, gx, _⟩ := rel_sl g1
    obtain ⟨c, et, fr, k1, k2, k3, k4, k5⟩ := g.obj p _ b s tot hp hφ
    obtain ⟨g2, g3⟩ := g.frz hp hφ k1 (fr' := if fr.1 == fr.2 then (c.size, c.size + 1) else (min fr.1 c.size, max fr.2 (c.size + 1))) (by
      split
      · exact .inr (Nat.le_refl _)
      · rename_i hne
        rcases k4 with h' | h'
        · simp [h'] at hne
        · exact .inr (by show c.size ≤ min fr.1 c.size; omega))
    refine ⟨φ, a.eval x, _, ?_, g3, g2, by rw [hv]; exact g1⟩
    have hsh : w.shape? b = some (et, c.size) := by unfold World.shape?; rw [k1]
    have hfz := freeze_wput (off := c.size) k1
    simp only [execOp, ho, gx, convert, Sem.run_bind, run_underlying hs, run_underlying hd, Result.andThen_ok, hsd, run_underlying he, markStringish]
    have hsr : (shape b).run P w = .ok (some (et, c.size)) w := by simp [shape, Sem.run, hsh]
    simp only [hsr, Result.andThen_ok, run_freeze, hfz, Sem.run_pure]
theorem fold_cells (off : Nat) (vs : List Value) : ∀ (k : Nat) (c : Array Value), off + k + vs.length ≤ c.size →
    ((vs.zipIdx k).foldl (fun cs (x : Value × Nat) => cs.setIfInBounds (off + x.2) x.1) c).toList = c.toList.take (off + k) ++ (vs ++ c.toList.drop (off + k + vs.length)) := by
  induction vs with
  | nil => intro k c _; simp
  | cons v vs ih =>
    intro k c hk
    simp only [List.length_cons] at hk
    rw [List.zipIdx_cons, List.foldl_cons, ih (k + 1) _ (by simp; omega)]
    have hlt : off + k < c.toList.length := by simp; omega
    rw [Array.toList_setIfInBounds, List.set_eq_take_append_cons_drop, if_pos hlt]
    have hl : (c.toList.take (off + k)).length = off + k := by rw [List.length_take]; omega
    have h1 : (c.toList.take (off + k) ++ v :: c.toList.drop (off + k + 1)).take (off + (k + 1)) = c.toList.take (off + k) ++ [v] := by
      rw [List.take_append, hl, List.take_of_length_le (by omega)]
      have : off + (k + 1) - (off + k) = 1 := by omega
      rw [this]; rfl
    have h2 : (c.toList.take (off + k) ++ v :: c.toList.drop (off + k + 1)).drop (off + (k + 1) + vs.length) = c.toList.drop (off + k + (v :: vs).length) := by
      rw [List.drop_append, hl, List.drop_eq_nil_of_le (by omega)]
      have : off + (k + 1) + vs.length - (off + k) = vs.length + 1 := by omega
      rw [this, List.drop_succ_cons, List.drop_drop, List.nil_append]
      congr 1; simp only [List.length_cons]; omega
    rw [h1, h2]; simp
theorem splL_good {xs ys : List V} {off : Nat} {κ : List V → R} (hg : (splL xs off ys κ).good) : off + ys.length ≤ xs.length ∧ splL xs off ys κ = κ (xs.take off ++ (ys ++ xs.drop (off + ys.length))) := by
  obtain ⟨h1, e1⟩ := takeK_good (show R.good (takeK off xs _) from hg)
  have e1 : splL xs off ys κ = _ := e1
  rw [e1, lenK_eq, forceN_eq] at hg
  obtain ⟨h2, e2⟩ := dropK_good hg
  exact ⟨h2, by rw [e1, lenK_eq, forceN_eq, e2, appK_eq, appK_eq]; rfl⟩
theorem buildK_good (hρ : OneSym ρ) {place : Nat → Option (Nat × Nat)} : ∀ {parts : List (Nat × Operand)} {ps : List Part} {z : List V} {κ : List V → R}, cParts N place parts = some ps → (buildK ps t z κ).good →
    ∃ l, l.length = z.length ∧ buildK ps t z κ = κ l ∧ ∀ (φ : Emb) (a : Act) (zc : Array Value), TR ρ N φ t a → rels ρ φ z zc.toList → (∀ y ∈ zc.toList, y.oneCell' = true) →
      ∃ cells, Instr.fill place zc (parts.map fun x => (x.1, a.eval x.2)) = some cells ∧ rels ρ φ l cells.toList ∧ ∀ y ∈ cells.toList, y.oneCell' = true
  | [], ps, z, κ, hp, hg => by
    simp only [cParts, Option.some.injEq] at hp; subst hp
    exact ⟨z, rfl, rfl, fun φ a zc _ h1 h2 => ⟨zc, rfl, h1, h2⟩⟩
  | (i, x) :: parts, ps, z, κ, hp, hg => by
    simp only [cParts] at hp
    split at hp
    · rename_i off size x' xs hpl hx hxs
      cases hp
      have e1 : buildK (⟨off, size, x'⟩ :: xs) t z κ = cellsK (ev x' t) fun l => lenK l fun m => br (Nat.beq m size) (splL z off l fun z => buildK xs t z κ) (.fail "a part of another size") := evK_eq x' t _
      rw [e1] at hg
      obtain ⟨hc, e2⟩ := cellsK_good hg
      rw [e2, lenK_eq] at hg
      obtain ⟨h3, e3⟩ := br_good hg
      have h3 := Nat.eq_of_beq_eq_true h3
      rw [e3] at hg
      obtain ⟨h4, e4⟩ := splL_good hg
      rw [e4] at hg
      obtain ⟨l, hl, e5, H⟩ := buildK_good hρ hxs hg
      have hlen : ((z.take off) ++ ((ev x' t).cl ++ z.drop (off + (ev x' t).cl.length))).length = z.length := by
        simp only [List.length_append, List.length_take, List.length_drop]; omega
      refine ⟨l, hl.trans hlen, e1.trans (e2.trans ((lenK_eq _ _).trans (e3.trans (e4.trans e5)))), fun φ a zc hT h1 h2 => ?_⟩
      obtain ⟨hr, ho⟩ := rel_cells hρ hc (cOpd_rel hx hT)
      have hrl := rels_length hr
      have hzl := rels_length h1
      have hsz : (a.eval x).cells.size = size := by rw [← h3, ← hrl]; simp
      have hle : off + 0 + (a.eval x).cells.toList.length ≤ zc.size := by rw [hrl]; simp at hzl; omega
      have hfold := fold_cells off (a.eval x).cells.toList 0 zc hle
      obtain ⟨cells, k1, k2, k3⟩ := H φ a (((a.eval x).cells.toList.zipIdx 0).foldl (fun cs (x : Value × Nat) => cs.setIfInBounds (off + x.2) x.1) zc) hT (by
        rw [hfold, Nat.add_zero, hrl]
        exact rels_append (rels_take h1 off) (rels_append hr (rels_drop h1 _))) (fun y hy => by
        rw [hfold] at hy
        rcases List.mem_append.1 hy with hy | hy
        · exact h2 y (List.mem_of_mem_take hy)
        · rcases List.mem_append.1 hy with hy | hy
          · exact ho y hy
          · exact h2 y (List.mem_of_mem_drop hy))
      refine ⟨cells, ?_, k2, k3⟩
      rw [List.map_cons, Instr.fill, hpl]
      have hcond : ((a.eval x).cells.size ≠ size || off + (a.eval x).cells.size > zc.size) = false := by
        simp at hle; simp [hsz]; omega
      simp only [hcond, Bool.false_eq_true, if_false]
      rw [← k1]
      congr 1
      rw [← Array.foldl_toList, Array.toList_zipIdx]
    · cases hp
theorem cZero_some {ty : TypeId} {z : List V} (hz : cZero P ty = some z) : ∃ zv it, P.info? ty = some it ∧ it.zero = some zv ∧ ∀ φ, rels ρ φ z zv.cells.toList ∧ ∀ y ∈ zv.cells.toList, y.oneCell' = true := by
  unfold cZero at hz
  cases hi : P.info? ty with
  | none => rw [hi] at hz; cases hz
  | some it =>
    rw [hi] at hz
    cases hzv : it.zero with
    | none => rw [Option.bind_some, hzv] at hz; cases hz
    | some zv =>
      rw [Option.bind_some, hzv] at hz
      exact ⟨zv, it, rfl, hzv, fun φ => cList_rel (show cList zv.cells.toList = some z from hz) φ⟩
theorem sound_build {ty : TypeId} {parts : Array (Nat × Operand)} {place : Nat → Option (Nat × Nat)} {z : List V} {ps : List Part} (hρ : OneSym ρ) (ho : o.op = .build ty parts) (hz : cZero P ty = some z) (hps : cParts N place parts.toList = some ps)
    (hb : ∀ it zv, P.info? ty = some it → it.zero = some zv → ∀ l, P.built ty l = Instr.fill place zv.cells l) : SoundP P ρ B N o (k_build z ps cf t h n) t h n := by
  intro κ hg
  obtain ⟨l, hl, e1, H⟩ := buildK_good hρ hps (show R.good (buildK ps t z fun l => κ (.agg l) h n) from hg)
  refine ⟨_, e1, fun φ a w hT g => ?_⟩
  obtain ⟨zv, it, hi, hzv, hr⟩ := cZero_some (ρ := ρ) hz
  obtain ⟨cells, k1, k2, k3⟩ := H φ a zv.cells hT (hr φ).1 (hr φ).2
  refine ⟨.agg cells, ?_, by simp only [rel]; exact ⟨_, rfl, k2, k3⟩⟩
  have hbuilt : P.built ty (parts.map fun (i, x) => (i, a.eval x)).toList = some cells := by
    rw [hb it zv hi hzv, Array.toList_map]; exact k1
  simp only [execOp, ho, Sem.run_bind, run_build w ty _ cells hbuilt, Result.andThen_ok, Sem.run_pure]
theorem zeros_at {φ : Emb} {z : List V} {zc : Array Value} (hr : rels ρ φ z zc.toList) (ho : ∀ y ∈ zc.toList, y.oneCell' = true) {k i : Nat} (hi : i < k) {v : V} (hv : z[i % z.length]? = some v) :
    ∃ x, ((Array.range k).map (zc[· % zc.size]!))[i]? = some x ∧ rel ρ φ v x ∧ x.oneCell' = true := by
  have hl := rels_length hr
  obtain ⟨x, hx, hrx⟩ := (rels_iff.1 hr).2 _ v hv
  refine ⟨x, ?_, hrx, ho x (List.mem_of_getElem? hx)⟩
  rw [Array.getElem?_map, Array.getElem?_range, if_pos hi]
  have hs : zc.size = z.length := by simpa using hl
  have hx' : zc[i % z.length]? = some x := by simpa using hx
  simp [hs, getElem!_def, hx']
theorem cZeros_at {z : List V} : ∀ {m i : Nat}, i < m * z.length → (cZeros z m)[i]? = z[i % z.length]? := by
  intro m
  induction m with
  | zero => intro i hi; simp at hi
  | succ m ih =>
    intro i hi
    simp only [cZeros]
    by_cases hz : i < z.length
    · rw [List.getElem?_append_left hz, Nat.mod_eq_of_lt hz]
    · rw [List.getElem?_append_right (by omega), ih (by rw [Nat.succ_mul] at hi; omega)]
      congr 1
      rw [← Nat.mod_eq_sub_mod (by omega)]
theorem cZeros_length {z : List V} {m : Nat} : (cZeros z m).length = m * z.length := by
  induction m with
  | zero => simp [cZeros]
  | succ m ih => simp only [cZeros, List.length_append, ih, Nat.succ_mul]; omega
theorem rel_sl_new {φ : Emb} {p : K4} {b tot len cap esz : Nat} (h1 : len ≤ cap) (h2 : cap * esz ≤ tot) : rel ρ (updE φ p (b, 0, tot)) (.sl p 0 len cap true esz) (.slice (some ⟨b, 0, none⟩) len cap) := by
  simp only [rel]
  exact ⟨b, 0, tot, 0, cap, updE_same _ _ _, rfl, h1, Nat.le_refl _, fun _ => rfl, fun _ => ⟨rfl, by omega⟩⟩
theorem sound_bslice {ty e : TypeId} {len s : Nat} {parts : Array (Nat × Operand)} {z : List V} {ps : List Part} {u8 : Bool} (hρ : OneSym ρ) (ho : o.op = .buildSlice ty len parts) (hu : P.underlying ty = some (.slice e)) (hs : cSize P e = some s) (hz : cZero P e = some z)
    (hsz : s = z.length) (h0 : 0 < s) (hbig : len * s ≤ 2 ^ 24) (hps : cParts N (fun i => some (i * s, s)) parts.toList = some ps) : Sound P ρ B N o (k_bslice u8 len s (cZeros z len) ps cf t h n) t h n := by
  intro κ hg
  obtain ⟨l, hl, e1, H⟩ := buildK_good hρ hps (show R.good (buildK ps t (cZeros z len) _) from hg)
  have e1 : k_bslice u8 len s (cZeros z len) ps cf t h n κ = _ := e1
  rw [e1] at hg
  rw [cZeros_length] at hl
  obtain ⟨zv, it, hi, hzv, hr⟩ := cZero_some (ρ := ρ) hz
  have hits : it.size = s := by unfold cSize at hs; rw [hi] at hs; simpa using hs
  -- the cells, whichever way they are kept
  have fin : ∀ (cs : Cs) (n' : K4), n'.toN = n.toN + 1 → cs.len = l.length → (∀ i, cs.at i = l[i]?) → StepOK P ρ B N o t h n (.sl n 0 len len true s) (hputS n h (some (.c cs false none))) n' := fun cs n' hn hcl hca => .value fun φ a w hT g => by
    have hzl := rels_length (hr φ).1
    obtain ⟨cells, k1, k2, k3⟩ := H φ a ((Array.range (len * s)).map (zv.cells[· % zv.cells.size]!)) hT (rels_iff.2 ⟨by simp [cZeros_length, hsz], fun i v hv => by
        have hlt : i < len * z.length := by
          rcases Nat.lt_or_ge i (len * z.length) with h' | h'
          · exact h'
          · rw [List.getElem?_eq_none (by rw [cZeros_length]; exact h')] at hv; cases hv
        rw [cZeros_at hlt] at hv
        obtain ⟨x, hx, hrx, _⟩ := zeros_at (hr φ).1 (hr φ).2 (k := len * s) (by rw [hsz]; exact hlt) hv
        exact ⟨x, by rw [Array.getElem?_toList]; exact hx, hrx⟩⟩) (fun y hy => by
        obtain ⟨i, hi', rfl⟩ := List.getElem_of_mem hy
        have hlt : i < len * z.length := by simpa [hsz] using hi'
        have hzp : i % z.length < z.length := Nat.mod_lt _ (by omega)
        obtain ⟨x, hx, _, hox⟩ := zeros_at (hr φ).1 (hr φ).2 (k := len * s) (i := i) (by rw [hsz]; exact hlt) (List.getElem?_eq_getElem hzp)
        have hx' := hx
        rw [← Array.getElem?_toList, List.getElem?_eq_getElem hi'] at hx'
        cases hx'; exact hox)
    have hcl2 := rels_length k2
    have hc := csOK_list k2 k3
    obtain ⟨g1, g2⟩ := alloc_cells g hn (e := e) (fr := (0, 0)) (c := cells) (cs := cs) (by rw [hcl]; simp at hcl2; omega) (frz0 _) (fun i v hv => by rw [hca i] at hv; simpa using hc i v hv)
    refine ⟨_, .slice (some ⟨w.heap.size, 0, none⟩) len len, _, ?_, g2, g1, rel_sl_new (Nat.le_refl _) (by simp at hcl2; rw [hcl2, hl, hsz]; exact Nat.le_refl _)⟩
    have hfill : Instr.fill (fun i => some (i * it.size, it.size)) ((Array.range (len * it.size)).map (zv.cells[· % zv.cells.size]!)) (parts.map fun (i, x) => (i, a.eval x)).toList = some cells := by
      rw [hits, Array.toList_map]; exact k1
    have hrun : (Instr.buildSlice ty len (parts.map fun (i, x) => (i, a.eval x))).run P w = .ok (.slice (some ⟨w.heap.size, 0, none⟩) len len) (w.alloc (.cells cells e)) := by
      by_cases h00 : len * it.size = 0
      · have hfill' : Instr.fill (fun i => some (i * it.size, it.size)) #[] (parts.map fun (i, x) => (i, a.eval x)).toList = some cells := by
          have : (Array.range (len * it.size)).map (zv.cells[· % zv.cells.size]!) = #[] := Array.eq_empty_of_size_eq_zero (by simp [h00])
          rw [this] at hfill; exact hfill
        simp only [Instr.buildSlice, Sem.run_bind, run_underlying hu, Result.andThen_ok, run_sizeOf hs]
        rw [← hits]
        simp only [h00]
        have hr0 : ∀ q : Array Value, (Array.range 0).map (fun x => q[x % q.size]!) = #[] := fun q => Array.eq_empty_of_size_eq_zero (by simp)
        simp [hr0]
        rw [Array.toList_map] at hfill'
        rw [show (List.map (fun x : Nat × Operand => (x.fst, a.eval x.snd)) parts.toList) = List.map (fun x => match x with | (i, x) => (i, a.eval x)) parts.toList from rfl, hfill']
        rfl
      · exact run_buildSlice w ty e len _ cells it zv hu hi hzv (by rw [hits]; omega) h00 hfill
    simp only [execOp, ho, Sem.run_bind, hrun, Result.andThen_ok, Sem.run_pure]
  cases u8 with
  | true =>
    have hg' : R.good (packK l (fun m c => newK h n (.c (.b m c) false none) fun h' n' => κ (.sl n 0 len len true s) h' n') (.fail "bytes")) := hg
    obtain ⟨m, c, e2, hml, hma, _⟩ := packK_good hg'
    rw [e2] at hg'
    obtain ⟨n', hn, e3⟩ := newK_good hg'
    exact ⟨_, _, _, e1.trans (Eq.trans e2 e3), fin (.b m c) n' hn hml hma⟩
  | false =>
    obtain ⟨n', hn, e3⟩ := newK_good (show R.good (newK h n (.c (.l l) false none) fun h' n' => κ (.sl n 0 len len true s) h' n') from hg)
    exact ⟨_, _, _, e1.trans e3, fin (.l l) n' hn rfl fun _ => rfl⟩
theorem isZ_eq {z : List V} (h : isZ z = true) : z = [.int .u8 0] := by
  unfold isZ at h
  split at h
  · rfl
  · cases h
theorem sound_mksl {ty e : TypeId} {l c : Operand} {l' c' : Opd} {s eb : Nat} {z : List V} (ho : o.op = .makeSlice ty l c) (hl : cOpd N l = some l') (hc : cOpd N c = some c') (hu : P.underlying ty = some (.slice e)) (hs : cSize P e = some s) (hb : cBytes P e = some eb) (hz : cZero P e = some z)
    (hsz : s = z.length) (h0 : 0 < s) (hb0 : 0 < eb) : Sound P ρ B N o (k_mksl eb (isZ z) z l' c' cf t h n) t h n := by
  intro κ hg
  have e1 : k_mksl eb (isZ z) z l' c' cf t h n κ = ixK (ev l' t) fun a => ixK (ev c' t) fun b => br (Nat.ble a b) (br (Nat.ble (Nat.mul eb b) 281474976710656) (zerosC (isZ z) z b fun y => newK h n (.c y false none) fun h' n' => κ (.sl n 0 a b true z.length) h' n') (.fail "a long slice")) (.fail "len and cap") := by
    simp only [k_mksl, evK_eq, lenK_eq]
  rw [e1] at hg
  obtain ⟨k1, a, hlv, ha, e2⟩ := ixK_good hg
  rw [e2] at hg
  obtain ⟨k2, b, hcv, hbv, e3⟩ := ixK_good hg
  rw [e3] at hg
  obtain ⟨h4, e4⟩ := br_good hg
  rw [e4] at hg
  obtain ⟨h5, e5⟩ := br_good hg
  rw [e5] at hg
  have h4 := ble_iff.1 h4
  have h5 : eb * b ≤ 281474976710656 := ble_iff.1 h5
  obtain ⟨y, e6, hyl, hya⟩ := zerosC_eq (isZ z) z b (fun y => newK h n (.c y false none) fun h' n' => κ (.sl n 0 a b true z.length) h' n') isZ_eq
  rw [e6] at hg
  obtain ⟨n', hn, e7⟩ := newK_good hg
  refine ⟨_, _, _, e1.trans (e2.trans (e3.trans (e4.trans (e5.trans (e6.trans e7))))), .value fun φ ac w hT g => ?_⟩
  have g1 := cOpd_rel hl hT
  rw [hlv] at g1
  have gl := rel_ix ha g1
  have g2 := cOpd_rel hc hT
  rw [hcv] at g2
  have gc := rel_ix hbv g2
  obtain ⟨zv, it, hi, hzv, hr⟩ := cZero_some (ρ := ρ) hz
  have hits : it.size = s := by unfold cSize at hs; rw [hi] at hs; simpa using hs
  have hitb : it.bytes = eb := by unfold cBytes at hb; rw [hi] at hb; simpa using hb
  have hb63 : b ≤ 281474976710656 := Nat.le_trans (Nat.le_mul_of_pos_left b hb0) h5
  have hrun := run_make (P := P) w ty e it zv hu hi hzv k1 k2 (a : Int) (b : Int) (by omega) (by omega) (by rw [hitb, ← Int.natCast_mul]; exact Int.ofNat_le.2 h5) (by omega)
  obtain ⟨g3, g4⟩ := alloc_cells g hn (e := e) (fr := (0, 0)) (c := madeCells zv.cells (b * it.size)) (cs := y) (by rw [size_madeCells, hyl, hits, hsz]; exact Nat.le_refl _) (frz0 _) (fun i v hv => by
    have hlt := Cs.lt_of_at hv
    rw [hyl] at hlt
    rw [hya i hlt] at hv
    exact zeros_at (hr φ).1 (hr φ).2 (k := b * it.size) (by rw [hits, hsz]; exact hlt) hv)
  refine ⟨_, .slice (some ⟨w.heap.size, 0, none⟩) a b, _, ?_, g4, g3, rel_sl_new h4 (by rw [size_madeCells, hits, hsz]; exact Nat.le_refl _)⟩
  simp only [execOp, ho, gl, gc, Sem.run_bind, hrun, Result.andThen_ok, Sem.run_pure, Int.toNat_natCast]
end
end Go.Ev

namespace Go.Ev
set_option linter.unusedVariables false
section
variable {P : Program} {ρ : Env} {B N : Nat} {o : Oper} {cf : CF} {t : Regs} {h : Heap} {n : K4}
theorem br_or {c : Bool} {x y : R} (_ : (br c x y).good) : (c = true ∧ br c x y = x) ∨ (c = false ∧ br c x y = y) := by cases c <;> simp [br]
/-- A block more that no object tells of. -/
theorem Gam.push {φ : Emb} {w : World} (g : Gam ρ B h n φ w) (O : Obj) : Gam ρ B h n φ (w.alloc O) where
  base := by have := g.base; rw [World.size_alloc]; omega
  glob := fun b c e fr hb => ⟨(g.glob b c e fr hb).1, by rw [Go.RowKit.Below.heap_alloc w O b (by have := (g.glob b c e fr hb).1; have := g.base; omega)]; exact (g.glob b c e fr hb).2⟩
  dom := g.dom
  blk := fun q b s t hx => by have := g.blk q b s t hx; rw [World.size_alloc]; omega
  obj := fun q o' b s t hq hx => ObOK_heap (Go.RowKit.Below.heap_alloc w O b (g.blk q b s t hx).2) (g.obj q o' b s t hq hx)
  sep := g.sep
  sup := g.sup
theorem Fr.push {φ : Emb} {w : World} (O : Obj) : Fr h h φ φ n n w (w.alloc O) where
  ext := Emb.le_refl φ
  new := fun _ _ h => .inl h
  nn := Nat.le_refl _
  os := rfl
  tape := rfl
  out := rfl
  size := by rw [World.size_alloc]; omega
  old := fun b hb _ => Go.RowKit.Below.heap_alloc w O b hb
  fresh := fun _ _ _ _ h => .inl h
  dm := fun _ _ h => h
/-- A new object that tells of a block that is there. -/
theorem Gam.add {φ : Emb} {w : World} (g : Gam ρ B h n φ w) {n' : K4} (hn : n'.toN = n.toN + 1) {ob : Ob} {b s tot : Nat} (hb : B ≤ b ∧ b < w.heap.size)
    (hok : ObOK ρ (updE φ n (b, s, tot)) w ob b s tot) (hsep : ∀ q o' s' t', hget q h = some o' → φ q = some (b, s', t') → prevOf ob = some q)
    (hsup : ∀ q, prevOf ob = some q → φ q ≠ none ∧ ∀ o', hget q h = some o' → supOf o' = true)
    (hold : ∀ q o' s' t', hget q h = some o' → φ q = some (b, s', t') → prevOf o' = none) :
    Gam ρ B (hputS n h (some ob)) n' (updE φ n (b, s, tot)) w where
  base := g.base
  glob := g.glob
  dom := fun q x hx => by
    rcases updE_inv hx with ⟨rfl, _⟩ | ⟨_, hx⟩
    · omega
    · have := g.dom q x hx; omega
  blk := fun q b1 s1 t1 hx => by
    rcases updE_inv hx with ⟨rfl, e⟩ | ⟨_, hx⟩
    · simp only [Prod.mk.injEq] at e; rw [← e.1]; exact hb
    · exact g.blk q b1 s1 t1 hx
  obj := fun q o' b1 s1 t1 hq hx => by
    rcases updE_inv hx with ⟨rfl, e⟩ | ⟨hne, hx⟩
    · rw [hget_hputS_same] at hq
      simp only [Prod.mk.injEq] at e
      obtain ⟨rfl, rfl, rfl⟩ := e
      cases hq
      exact hok
    · rw [hget_hputS_ne _ _ hne] at hq
      exact ObOK_mono (updE_le g.at_n) (g.obj q o' b1 s1 t1 hq hx)
  sep := fun q r o1 o2 b1 s1 t1 s2 t2 hne hq hr hx hy => by
    rcases updE_inv hx with ⟨rfl, e⟩ | ⟨hpq, hx⟩
    · rcases updE_inv hy with ⟨rfl, _⟩ | ⟨hpr, hy⟩
      · exact absurd rfl hne
      · simp only [Prod.mk.injEq] at e
        rw [hget_hputS_same] at hq; cases hq
        rw [hget_hputS_ne _ _ hpr] at hr
        exact .inl (hsep r o2 s2 t2 hr (by rw [hy, e.1]))
    · rcases updE_inv hy with ⟨rfl, e⟩ | ⟨hpr, hy⟩
      · simp only [Prod.mk.injEq] at e
        rw [hget_hputS_same] at hr; cases hr
        rw [hget_hputS_ne _ _ hpq] at hq
        exact .inr (hsep q o1 s1 t1 hq (by rw [hx, e.1]))
      · rw [hget_hputS_ne _ _ hpq] at hq
        rw [hget_hputS_ne _ _ hpr] at hr
        exact g.sep q r o1 o2 b1 s1 t1 s2 t2 hne hq hr hx hy
  sup := fun q r o1 o2 b1 s1 t1 s2 t2 hq hpr hr hx hy => by
    rcases updE_inv hx with ⟨rfl, e⟩ | ⟨hnq, hx⟩
    · rw [hget_hputS_same] at hq; cases hq
      obtain ⟨h1, h2⟩ := hsup r hpr
      have hne : n ≠ r := fun e => h1 (e ▸ g.at_n)
      rw [hget_hputS_ne _ _ hne] at hr
      exact h2 o2 hr
    · rw [hget_hputS_ne _ _ hnq] at hq
      rcases updE_inv hy with ⟨rfl, e⟩ | ⟨hnr, hy⟩
      · simp only [Prod.mk.injEq] at e
        have := hold q o1 s1 t1 hq (by rw [hx, e.1])
        rw [this] at hpr; cases hpr
      · rw [hget_hputS_ne _ _ hnr] at hr
        exact g.sup q r o1 o2 b1 s1 t1 s2 t2 hq hpr hr hx hy
theorem Fr.add {φ : Emb} {w : World} {n' : K4} (hφ : φ n = none) (hn : n'.toN = n.toN + 1) (ob : Option Ob) {b s tot : Nat}
    (hfr : w.heap.size ≤ b ∨ ∃ q s' tot', φ q = some (b, s', tot') ∧ hget q h ≠ none) : Fr h (hputS n h ob) φ (updE φ n (b, s, tot)) n n' w w where
  ext := updE_le hφ
  new := fun q x hx => by
    rcases updE_inv hx with ⟨rfl, _⟩ | ⟨_, hx⟩
    · exact .inr ⟨Nat.le_refl _, by omega⟩
    · exact .inl hx
  nn := by omega
  os := rfl
  tape := rfl
  out := rfl
  size := Nat.le_refl _
  old := fun b hb _ => rfl
  fresh := fun q b1 s1 t1 hx => by
    rcases updE_inv hx with ⟨rfl, e⟩ | ⟨_, hx⟩
    · simp only [Prod.mk.injEq] at e
      rw [← e.1]
      exact .inr hfr
    · exact .inl hx
  dm := fun q hq hn => by
    have hne : n ≠ q := fun e => hq (e ▸ hφ)
    rw [hget_hputS_ne _ _ hne]; exact hn
/-- Two steps of worlds where the first one's last block is new: what was written into it was new too. -/
theorem Fr.push_add {φ : Emb} {w : World} {n' : K4} (hφ : φ n = none) (hn : n'.toN = n.toN + 1) (ob : Option Ob) (O : Obj) {tot : Nat} :
    Fr h (hputS n h ob) φ (updE φ n (w.heap.size, 0, tot)) n n' w (w.alloc O) :=
  Fr.alloc hφ (by omega) (Nat.le_refl _) (by omega) ob O tot
structure AppSrc (P : Program) (w : World) (ats : Array TypeId) (e : TypeId) (it : TypeInfo) (zv : Value) (x : Value) (m : Nat) (vs : List Value) : Prop where
  room : ∀ (ty : TypeId) (base : Option Addr) (L C : Nat), L + m ≤ C → ∀ w', (match base with | some a => (storeCells (a.add (L * it.size)) vs).run P w | none => .ok () w) = .ok () w' →
    (Builtin.append_ ats ty #[.slice base L C, x]).run P w = .ok (.slice base (L + m) C) w'
  grow : ∀ (ty : TypeId) (base : Option Addr) (L C : Nat), C < L + m → L + m ≤ 9223372036854775807 → Builtin.nextslicecap (L + m) C * it.bytes ≤ 281474976710656 → ∀ old : Array Value, (Builtin.firstCells it.size L (.slice base L C)).run P w.drew = .ok old w.drew →
      (Builtin.append_ ats ty #[.slice base L C, x]).run P w = .ok (.slice (some ⟨w.heap.size, 0, none⟩) (L + m) (grownCap w (L + m) C e))
        (w.drew.alloc (.cells (old ++ vs.toArray ++ Builtin.zeroCells zv.cells (grownCap w (L + m) C e - (L + m))) e))
theorem appSrc_cells {w : World} {t u e : TypeId} {it : TypeInfo} {zv : Value} {d : TypeDesc} {x : Value} {m : Nat} {vs : List Value} (ht : P.underlying t = some (.slice e)) (hi : P.info? e = some it) (hz : it.zero = some zv) (hb : 0 < it.bytes)
    (hu : P.underlying u = some d) (hd : ∀ k, d ≠ .int k) (hlen : ∀ w, (Builtin.lenOf x).run P w = .ok m w)
    (hv : ∀ w', w'.heap = w.heap → (Builtin.firstCells it.size m x).run P w' = .ok vs.toArray w') : AppSrc P w #[t, u] e it zv x m vs := by
  have hz0 : (match d with | .int _ => true | _ => false) = false := by
    cases d with
    | int k => exact absurd rfl (hd k)
    | _ => rfl
  refine ⟨fun ty base L C hle w' hw => ?_, fun ty base L C hlt h63 hn old ho => ?_⟩
  · cases base with
    | none => simp at hw; subst hw; simp [Builtin.append_, run_underlying ht, run_underlying hu, sizeOf, typeInfo, hz0, hlen, hv w rfl, hle, hi]
    | some a => simp at hw; simp [Builtin.append_, run_underlying ht, run_underlying hu, sizeOf, typeInfo, hz0, hlen, hv w rfl, hle, hi, hw]
  · have hn' : ¬ (281474976710656 < Builtin.nextslicecap (L + m) C * it.bytes) := by omega
    have hle : ¬ (L + m ≤ C) := by omega
    have hby : it.bytes ≠ 0 := by omega
    simp [Builtin.append_, run_underlying ht, run_underlying hu, sizeOf, typeInfo, hz0, hlen, hle, hn', hby, hi, Question.forced, ho, hv w.drew rfl, zeroValue, hz, newRow, grownCap]
theorem appSrc_zero {w : World} {t u e : TypeId} {it : TypeInfo} {zv : Value} {ku k : IntKind} {m : Nat} (ht : P.underlying t = some (.slice e)) (hi : P.info? e = some it) (hz : it.zero = some zv) (hb : 0 < it.bytes) (h0 : 0 < it.size)
    (hu : P.underlying u = some (.int ku)) (hm : m * it.bytes ≤ 281474976710656) : AppSrc P w #[t, u] e it zv (.int k m) m (Builtin.zeroCells zv.cells m).toList := by
  have hm1 : m ≤ 281474976710656 := Nat.le_trans (Nat.le_mul_of_pos_right m hb) hm
  have hwrap : IntKind.i64.wrap (m : Int) = (m : Int) := by
    have hH : m < Hk .i64 := by show m < 9223372036854775808; omega
    rw [wrap_nat .i64 m (Nat.lt_of_lt_of_le hH (Hk_le _)), dec_nonneg hH]
  have h1 : ¬ ((m : Int) < 0) := by omega
  have h2 : ¬ ((281474976710656 : Int) < (m : Int) * (it.bytes : Int)) := by
    rw [← Int.natCast_mul]; have := Int.ofNat_le.2 hm; omega
  have hz0 : m * it.size = 0 → m = 0 := fun h => by rcases Nat.mul_eq_zero.1 h with h | h <;> omega
  have hzc : Builtin.zeroCells zv.cells 0 = #[] := Array.eq_empty_of_size_eq_zero (by simp [Builtin.zeroCells])
  refine ⟨fun ty base L C hle w' hw => ?_, fun ty base L C hlt h63 hn old ho => ?_⟩
  · cases base with
    | none =>
      simp at hw; subst hw
      simp [Builtin.append_, run_underlying ht, run_underlying hu, sizeOf, typeInfo, asInt, asIntOf, hwrap, h1, h2, hle, hi, zeroValue, hz]
    | some a =>
      simp at hw
      simp [Builtin.append_, run_underlying ht, run_underlying hu, sizeOf, typeInfo, asInt, asIntOf, hwrap, h1, h2, hle, hi, zeroValue, hz, hw]
      intro hm0; have := hz0 hm0; subst this; rw [hzc] at hw; simp at hw; simp [hw]
  · have hn' : ¬ (281474976710656 < Builtin.nextslicecap (L + m) C * it.bytes) := by omega
    have hle : ¬ (L + m ≤ C) := by omega
    have h63' : ¬ ((9223372036854775807 : Int) < ((L : Int) + (m : Int))) := by omega
    simp [Builtin.append_, run_underlying ht, run_underlying hu, sizeOf, typeInfo, asInt, asIntOf, hwrap, h1, h2, hle, hn', h63', hi, Question.forced, ho, zeroValue, hz, newRow, grownCap]
    intro hm0; have := hz0 hm0; subst this; rw [hzc]; simp
theorem old_cells {φ : Emb} {w : World} (g : Gam ρ B h n φ w) {p : K4} {cs y : Cs} {sup : Bool} {prev : Option K4} {b s tot off m : Nat} (hp : hget p h = some (.c cs sup prev)) (hφ : φ p = some (b, s, tot)) (hyl : y.len = m) (hya : ∀ i, i < m → y.at i = cs.at (off + i)) :
    ∃ vs : List Value, vs.length = m ∧ (∀ v ∈ vs, v.oneCell' = true) ∧ CsOK ρ φ y (fun i => vs[i]?) ∧ ∀ w' : World, w'.heap = w.heap → (loadCells ⟨b, s + off, none⟩ m).run P w' = .ok vs.toArray w' := by
  obtain ⟨c, e, fr, k1, k2, k3, k4, k5⟩ := g.obj p _ b s tot hp hφ
  have hr := cs_range k5 hyl hya
  obtain ⟨vs, q1, q2, q3, q4⟩ := cs_list hr
  refine ⟨vs, by rw [q1, hyl], q3, fun i v hv => ?_, fun w' hw' => ?_⟩
  · have hi := Cs.lt_of_at hv
    obtain ⟨x, hx, hrx, ho⟩ := hr i v hv
    have := q2 i _ (List.getElem?_eq_getElem (by rw [q1]; exact hi))
    have hx' : c[s + (off + i)]? = some x := hx
    rw [hx'] at this
    cases this
    exact ⟨_, List.getElem?_eq_getElem (by rw [q1]; exact hi), hrx, ho⟩
  · have hrun := run_rows (P := P) (w := w') (off := s + off) vs (by rw [hw']; exact k1) (fun j v hj => by have := q2 j v hj; rwa [← Nat.add_assoc] at this)
    rwa [q1, hyl] at hrun
/-- The cells of what is appended. -/
structure Src (P : Program) (ρ : Env) (φ : Emb) (w : World) (ats : Array TypeId) (e : TypeId) (it : TypeInfo) (zv : Value) (x : Value) (m : Nat) (y : Cs) : Prop where
  ex : ∃ vs : List Value, vs.length = m * it.size ∧ y.len = m * it.size ∧ (∀ v ∈ vs, v.oneCell' = true) ∧ CsOK ρ φ y (fun i => vs[i]?) ∧ AppSrc P w ats e it zv x m vs
theorem csOK_mono_len {φ : Emb} {z : Cs} {c : Array Value} {xs : List Value} (hc : ∀ i : Nat, i < xs.length → c[i]? = xs[i]?) (hl : z.len = xs.length) (hk : CsOK ρ φ z fun i => xs[i]?) : CsOK ρ φ z fun i => c[i]? := fun i v hv => by
  have hi := Cs.lt_of_at hv
  obtain ⟨x, hx, hr⟩ := hk i v hv
  exact ⟨x, (hc i (by omega)).trans hx, hr⟩
theorem csOK_app {φ : Emb} {a y z : Cs} {xs ys : List Value} (hz : AppOf a y z) (ha : a.len = xs.length) (hy : y.len = ys.length) (h1 : CsOK ρ φ a fun i => xs[i]?) (h2 : CsOK ρ φ y fun i => ys[i]?) : CsOK ρ φ z fun i => (xs ++ ys)[i]? := fun i v hv => by
  by_cases hi : i < a.len
  · rw [hz.2.1 i hi] at hv
    obtain ⟨x, hx, hr⟩ := h1 i v hv
    exact ⟨x, by show (xs ++ ys)[i]? = some x; rw [List.getElem?_append_left (by omega)]; exact hx, hr⟩
  · obtain ⟨j, rfl⟩ : ∃ j, i = a.len + j := ⟨i - a.len, by omega⟩
    rw [hz.2.2 j] at hv
    obtain ⟨x, hx, hr⟩ := h2 j v hv
    exact ⟨x, by show (xs ++ ys)[a.len + j]? = some x; rw [List.getElem?_append_right (by omega), ha, Nat.add_sub_cancel_left]; exact hx, hr⟩
/-- One step of an append, from the values. -/
def AppStep (P : Program) (ρ : Env) (B : Nat) (ats : Array TypeId) (e : TypeId) (it : TypeInfo) (zv : Value) (u : V) (m : Nat) (y : Cs) (h : Heap) (n : K4) (v : V) (h1 : Heap) (n1 : K4) : Prop :=
  ∀ (φ : Emb) (w : World) (S x : Value) (ty : TypeId), Gam ρ B h n φ w → rel ρ φ u S → Src P ρ φ w ats e it zv x m y →
    ∃ φ' X w', (Builtin.append_ ats ty #[S, x]).run P w = .ok X w' ∧ Fr h h1 φ φ' n n1 w w' ∧ Gam ρ B h1 n1 φ' w' ∧ rel ρ φ' v X
theorem fits {need C eb : Nat} (h : (4 * need + 4096) * eb ≤ 281474976710656) (hC : C < need) : Builtin.nextslicecap need C * eb ≤ 281474976710656 := by
  have h1 := nextslicecap_le hC
  exact Nat.le_trans (Nat.mul_le_mul_right eb (show Builtin.nextslicecap need C ≤ 4 * need + 4096 by omega)) h
theorem fits63 {need eb : Nat} (h : (4 * need + 4096) * eb ≤ 281474976710656) (hb : 0 < eb) : need ≤ 9223372036854775807 := by
  have : 4 * need + 4096 ≤ 281474976710656 := Nat.le_trans (Nat.le_mul_of_pos_right _ hb) h
  omega
/-- A block of one's own for what was appended. -/
theorem grow_new {φ : Emb} {w : World} {ats : Array TypeId} {e : TypeId} {it : TypeInfo} {zv : Value} {x : Value} {m L C : Nat} {z : Cs} {vs olds : List Value} {base : Option Addr} {ty : TypeId} (hz : zv.cells.size = it.size)
    (ha : AppSrc P w ats e it zv x m vs) (hC : C < L + m) (hb : 0 < it.bytes) (hfit : (4 * (L + m) + 4096) * it.bytes ≤ 281474976710656) (ho : (Builtin.firstCells it.size L (.slice base L C)).run P w.drew = .ok olds.toArray w.drew)
    (hvl : vs.length = m * it.size) (hol : olds.length = L * it.size) (hzl : z.len = olds.length + vs.length) (hcs : CsOK ρ φ z fun i => (olds ++ vs)[i]?) :
    ∃ (cap : Nat) (c : Array Value), L + m ≤ cap ∧ c.size = cap * it.size ∧ z.len ≤ c.size ∧ CsOK ρ φ z (fun i => c[i]?) ∧
      (Builtin.append_ ats ty #[.slice base L C, x]).run P w = .ok (.slice (some ⟨w.heap.size, 0, none⟩) (L + m) cap) (w.drew.alloc (.cells c e)) := by
  have hge := grownCap_ge w (L + m) C e
  have hrun := ha.grow ty base L C hC (fits63 hfit hb) (fits hfit hC) olds.toArray ho
  have hmul : L * it.size + (m * it.size + (grownCap w (L + m) C e - (L + m)) * it.size) = grownCap w (L + m) C e * it.size := by
    rw [← Nat.add_mul, ← Nat.add_mul]; congr 1; omega
  refine ⟨grownCap w (L + m) C e, _, hge, ?_, ?_, ?_, hrun⟩
  · simp only [Array.size_append, List.size_toArray, size_zeroCells, hol, hvl, hz]; omega
  · simp only [Array.size_append, List.size_toArray, hzl]; omega
  · refine csOK_mono_len (xs := olds ++ vs) (fun i hi => ?_) (by rw [hzl]; simp) hcs
    rw [Array.getElem?_append_left (by simpa using hi)]
    simp [Array.getElem?_append, List.getElem?_append]
theorem rel_sl_grown {φ : Emb} {p : K4} {b tot m cap esz : Nat} (h1 : m ≤ cap) (h2 : cap * esz ≤ tot) : rel ρ (updE φ p (b, 0, tot)) (.sl p 0 m m false esz) (.slice (some ⟨b, 0, none⟩) m cap) := by
  simp only [rel]
  exact ⟨b, 0, tot, 0, cap, updE_same _ _ _, rfl, Nat.le_refl _, h1, (fun h => by cases h), fun _ => ⟨rfl, by omega⟩⟩
theorem appendK_good {ats : Array TypeId} {e : TypeId} {it : TypeInfo} {zv : Value} {u : V} {m : Nat} {y : Cs} {κ : KV} (hzs : zv.cells.size = it.size) (hs0 : 0 < it.size) (hb0 : 0 < it.bytes)
    (hg : (appendK it.size it.bytes u m y h n κ).good) : ∃ v h1 n1, appendK it.size it.bytes u m y h n κ = κ v h1 n1 ∧ AppStep P ρ B ats e it zv u m y h n v h1 n1 := by
  rcases asSl_good (show R.good (asSl u _ _) from hg) with ⟨hu, e1⟩ | ⟨p, off, len, cap, ex, esz, hu, e1⟩
  · have e1 : appendK it.size it.bytes u m y h n κ = _ := e1
    rw [e1] at hg
    subst hu
    rcases br_or hg with ⟨h2, e2⟩ | ⟨h2, e2⟩
    · have h2 := Nat.eq_of_beq_eq_true h2
      subst h2
      refine ⟨.nil .sl, h, n, e1.trans e2, fun φ w S x ty g hS hx => ?_⟩
      obtain ⟨vs, hvl, hyl, hv1, hcs, ha⟩ := hx.ex
      have hS := rel_nil hS
      subst hS
      exact ⟨φ, .slice none 0 0, w, ha.room ty none 0 0 (by omega) w rfl, Fr.refl h φ n w, g, by simp only [rel, nilOf]⟩
    · rw [e2] at hg
      obtain ⟨h3, e3⟩ := br_good hg
      rw [e3] at hg
      have h3 : (4 * m + 4096) * it.bytes ≤ 281474976710656 := ble_iff.1 h3
      obtain ⟨n', hn, e4⟩ := newK_good hg
      refine ⟨_, _, _, e1.trans (e2.trans (e3.trans e4)), fun φ w S x ty g hS hx => ?_⟩
      obtain ⟨vs, hvl, hyl, hv1, hcs, ha⟩ := hx.ex
      have hS := rel_nil hS
      subst hS
      have hm : 0 < m := Nat.pos_of_ne_zero fun h0 => by subst h0; simp at h2
      obtain ⟨rc, c, k1, k2, k3, k4, k5⟩ := grow_new (P := P) (base := none) (L := 0) (C := 0) (olds := []) (z := y) (ty := ty) hzs ha (by omega) hb0 (by rw [Nat.zero_add]; exact h3) (by simp [Builtin.firstCells]) hvl (by simp) (by rw [hyl, hvl]; simp) (by simpa using hcs)
      obtain ⟨g1, g2⟩ := alloc_cells g.drew hn (e := e) (fr := (0, 0)) (c := c) (cs := y) k3 (frz0 _) k4
      rw [Nat.zero_add] at k1 k5
      exact ⟨_, _, _, k5, Fr.trans Fr.drew g2, g1, rel_sl_grown k1 (by omega)⟩
  · have e1 : appendK it.size it.bytes u m y h n κ = _ := e1
    rw [e1] at hg
    obtain ⟨h2, e2⟩ := br_good hg
    have h2 := Nat.eq_of_beq_eq_true h2
    subst h2
    rw [e2] at hg
    rcases br_or hg with ⟨h3, e3⟩ | ⟨h3, e3⟩
    · have h3 := Nat.eq_of_beq_eq_true h3
      subst h3
      refine ⟨u, h, n, e1.trans (e2.trans e3), fun φ w S x ty g hS hx => ?_⟩
      obtain ⟨vs, hvl, hyl, hv1, hcs, ha⟩ := hx.ex
      have hS' := hS
      rw [hu] at hS'
      obtain ⟨b, s, tot, q, cap', hφ, gx, c1, c2, c3, c4⟩ := rel_sl hS'
      have hvs : vs = [] := List.eq_nil_of_length_eq_zero (by simpa using hvl)
      subst hvs
      subst gx
      exact ⟨φ, _, w, ha.room ty _ len cap' (by omega) w rfl, Fr.refl h φ n w, g, hS⟩
    · have hm : 0 < m := Nat.pos_of_ne_zero fun h0 => by subst h0; simp at h3
      rw [e3, forceN_eq] at hg
      rcases br_or hg with ⟨h4, e4⟩ | ⟨h4, e4⟩
      · have h4 : len + m ≤ cap := ble_iff.1 h4
        rw [e4, forceN_eq] at hg
        obtain ⟨cs, prev, z, hp, hz, e5⟩ := storeK_good hg
        refine ⟨_, _, n, e1.trans (e2.trans (e3.trans ((forceN_eq _ _).trans (e4.trans ((forceN_eq _ _).trans e5))))), fun φ w S x ty g hS hx => ?_⟩
        obtain ⟨vs, hvl, hyl, hv1, hcs, ha⟩ := hx.ex
        rw [hu] at hS
        obtain ⟨b, s, tot, q, cap', hφ, gx, c1, c2, c3, c4⟩ := rel_sl hS
        subst gx
        obtain ⟨c5, c6⟩ := c4 (by omega)
        obtain ⟨w', q1, q2, q3⟩ := store_cells (P := P) g hp hφ hz (vs := vs) (by rw [hvl, hyl]) (fun i v hi => let ⟨x, hx, hr, _⟩ := hcs i v hi; ⟨x, hx, hr⟩) hv1
        refine ⟨φ, _, w', ha.room ty (some ⟨b, q, none⟩) len cap' (by omega) w' ?_, q3, q2, ?_⟩
        · show (storeCells ((⟨b, q, none⟩ : Addr).add (len * it.size)) vs).run P w = _
          rw [addr_add, c5, ← q1]; congr 2; simp only [Nat.add_eq, Nat.mul_eq, Nat.add_assoc]
        · simp only [rel]
          exact ⟨b, s, tot, q, cap', hφ, rfl, h4, c2, c3, c4⟩
      · rw [e4] at hg
        obtain ⟨h5, e5⟩ := br_good hg
        rw [e5] at hg
        have h5 : (4 * (len + m) + 4096) * it.bytes ≤ 281474976710656 := ble_iff.1 h5
        have h4 : ¬ len + m ≤ cap := fun h' => by rw [show Nat.ble (Nat.add len m) cap = true from ble_iff.2 h'] at h4; cases h4
        obtain ⟨cs, sup, prev, hp, e6⟩ := obK_good hg
        rw [e6, forceN_eq] at hg
        obtain ⟨hle, a, hal, haa, e7⟩ := rangeC_good hg
        rw [e7] at hg
        obtain ⟨z, hz, e8⟩ := appC_eq a y (fun z => br ex
              (newK h n (.c z false none) fun h' n' => κ (.sl n 0 (Nat.add len m) (Nat.add len m) false it.size) h' n')
              (br sup (.fail "an append to memory that may be shared")
                (forceN (Nat.add off (Nat.mul len it.size)) fun j => rangeC cs 0 j fun old => killK prev h fun h => hput p h (some (.c old true none)) fun h =>
                  newK h n (.c z false (some p)) fun h' n' => κ (.sl n 0 (Nat.add len m) (Nat.add len m) false it.size) h' n')))
        have e8 := e8
        rw [e8] at hg
        have hal : a.len = len * it.size := hal
        have head := e1.trans (e2.trans (e3.trans ((forceN_eq _ _).trans (e4.trans (e5.trans (e6.trans ((forceN_eq _ _).trans (e7.trans e8))))))))
        -- what the old slice holds
        have oldv : ∀ φ w, Gam ρ B h n φ w → ∀ b s tot q cap', φ p = some (b, s, tot) → len ≤ cap' → (0 < cap' → q = s + off ∧ q + cap' * it.size ≤ tot) →
            ∃ olds : List Value, olds.length = len * it.size ∧ CsOK ρ φ a (fun i => olds[i]?) ∧ (∀ v ∈ olds, v.oneCell' = true) ∧ (Builtin.firstCells it.size len (.slice (some ⟨b, q, none⟩) len cap')).run P w.drew = .ok olds.toArray w.drew := fun φ w g b s tot q cap' hφ hlc c4 => by
          obtain ⟨olds, o1, o2, o3, o4⟩ := old_cells (P := P) g hp hφ hal (fun i hi => haa i hi)
          refine ⟨olds, o1, o3, o2, ?_⟩
          rcases Nat.eq_zero_or_pos cap' with h0 | h0
          · have hl0 : len = 0 := by omega
            subst hl0
            have : olds = [] := List.eq_nil_of_length_eq_zero (by simpa using o1)
            subst this
            simp [Builtin.firstCells]; rfl
          · rw [(c4 h0).1]
            exact o4 w.drew rfl
        cases ex with
        | true =>
          obtain ⟨n', hn, e9⟩ := newK_good (show R.good (newK h n (.c z false none) fun h' n' => κ (.sl n 0 (Nat.add len m) (Nat.add len m) false it.size) h' n') from hg)
          refine ⟨_, _, _, head.trans e9, fun φ w S x ty g hS hx => ?_⟩
          obtain ⟨vs, hvl, hyl, hv1, hcs, ha⟩ := hx.ex
          rw [hu] at hS
          obtain ⟨b, s, tot, q, cap', hφ, gx, c1, c2, c3, c4⟩ := rel_sl hS
          subst gx
          have hcap := c3 rfl
          obtain ⟨olds, o1, o2, o3, o4⟩ := oldv φ w g b s tot q cap' hφ (by omega) c4
          obtain ⟨rc, c, k1, k2, k3, k4, k5⟩ := grow_new (P := P) (z := z) (ty := ty) hzs ha (by omega) hb0 h5 o4 hvl o1 (by rw [hz.1, hal, hyl, o1, hvl]) (csOK_app hz (by rw [hal, o1]) (by rw [hyl, hvl]) o2 hcs)
          obtain ⟨g1, g2⟩ := alloc_cells g.drew hn (e := e) (fr := (0, 0)) (c := c) (cs := z) k3 (frz0 _) k4
          exact ⟨_, _, _, k5, Fr.trans Fr.drew g2, g1, rel_sl_grown k1 (by omega)⟩
        | false =>
          have eF : ∀ (A C : R), br false A C = C := fun _ _ => rfl
          rw [eF] at hg
          obtain ⟨h9, e9⟩ := br_good' hg
          subst h9
          rw [eF, forceN_eq] at hg
          obtain ⟨hle2, old, hol, hoa, e10⟩ := rangeC_good hg
          rw [e10, killK_eq, hput_eq] at hg
          obtain ⟨n', hn, e11⟩ := newK_good hg
          refine ⟨_, _, _, head.trans (Eq.trans (eF _ _) (Eq.trans (eF _ _) ((forceN_eq _ _).trans (e10.trans ((killK_eq _ _ _).trans ((hput_eq _ _ _ _).trans e11)))))), fun φ w S x ty g hS hx => ?_⟩
          obtain ⟨vs, hvl, hyl, hv1, hcs, ha⟩ := hx.ex
          rw [hu] at hS
          obtain ⟨b, s, tot, q, cap', hφ, gx, c1, c2, c3, c4⟩ := rel_sl hS
          subst gx
          obtain ⟨olds, o1, o2, o3, o4⟩ := oldv φ w g b s tot q cap' hφ (by omega) c4
          obtain ⟨c, et, fr, k1, k2, k3, k4, k5⟩ := g.obj p _ b s tot hp hφ
          have hcz := csOK_app hz (by rw [hal, o1]) (by rw [hyl, hvl]) o2 hcs
          have hb := g.blk p b s tot hφ
          have hol : old.len = off + len * it.size := hol
          -- what the new object has beside it
          have hsep : ∀ q' o' s' t', hget q' (hputS p (killS prev h) (some (.c old true none))) = some o' → φ q' = some (b, s', t') → prevOf (.c z false (some p)) = some q' := fun q' o' s' t' hq' hφ' => by
            by_cases hqp : p = q'
            · subst hqp; rfl
            · rw [hget_hputS_ne _ _ hqp] at hq'
              obtain ⟨r1, r2⟩ := killS_inv hq'
              rcases g.sep p q' _ o' b s tot s' t' hqp hp r2 hφ hφ' with h' | h'
              · exact absurd h' r1
              · have := g.sup q' p o' _ b s' t' s tot r2 h' hp hφ' hφ
                simp [supOf] at this
          have hsup : ∀ q', prevOf (.c z false (some p)) = some q' → φ q' ≠ none ∧ ∀ o', hget q' (hputS p (killS prev h) (some (.c old true none))) = some o' → supOf o' = true := fun q' hq' => by
            simp only [prevOf, Option.some.injEq] at hq'; subst hq'
            exact ⟨by rw [hφ]; simp, fun o' ho' => by rw [hget_hputS_same] at ho'; cases ho'; rfl⟩
          have hzl : z.len = len * it.size + m * it.size := by rw [hz.1, hal, hyl]
          by_cases hin : len + m ≤ cap'
          · obtain ⟨c5, c6⟩ := c4 (by omega)
            have hmul : len * it.size + m * it.size ≤ cap' * it.size := by rw [← Nat.add_mul]; exact Nat.mul_le_mul_right _ hin
            obtain ⟨c', q1, q2, q3, q4⟩ := run_storeCells (P := P) vs w b (q + len * it.size) 0 c et fr k1 (by rw [hvl, k2]; omega) (by rw [k2]; exact k4) hv1
            have g2 := g.write (o := .c cs false prev) (o' := .c old true none) (O := .cells c' et fr) hp hφ rfl rfl ⟨c', et, fr, wput_same hb.2, by rw [q1, k2], by rw [hol]; omega, k4, fun i v hi => by
              have hlt := Cs.lt_of_at hi
              rw [hoa i (by have := hlt; rw [hol] at this; exact this), Nat.zero_add] at hi
              obtain ⟨X, hX, hr⟩ := k5 i v hi
              exact ⟨X, by show c'[s + i]? = some X; rw [q2 (s + i) (by rw [hol] at hlt; omega)]; exact hX, hr⟩⟩
            have g3 := g2.add hn (ob := .c z false (some p)) (b := b) (s := s + off) (tot := tot) (by rw [wput_size]; exact hb) ⟨c', et, fr, wput_same hb.2, by rw [q1, k2], by rw [hzl]; omega, k4, CsOK_mono (updE_le g.at_n) fun i v hi => by
              by_cases hia : i < a.len
              · rw [hz.2.1 i hia, haa i (by have := hia; rw [hal] at this; exact this)] at hi
                obtain ⟨X, hX, hr⟩ := k5 (off + i) v hi
                exact ⟨X, by show c'[s + off + i]? = some X; rw [Nat.add_assoc, q2 (s + (off + i)) (by rw [hal] at hia; omega)]; exact hX, hr⟩
              · obtain ⟨j, rfl⟩ : ∃ j, i = a.len + j := ⟨i - a.len, by omega⟩
                rw [hz.2.2 j] at hi
                obtain ⟨X, hX, hr⟩ := hcs j v hi
                refine ⟨X, ?_, hr⟩
                have := q3 j X hX
                show c'[s + off + (a.len + j)]? = some X
                rw [← this]; congr 1; rw [hal]; omega⟩ hsep hsup (fun q' o' s' t' hq' hφ' => by
              have := hsep q' o' s' t' hq' hφ'
              simp only [prevOf, Option.some.injEq] at this; subst this
              rw [hget_hputS_same] at hq'; cases hq'; rfl)
            refine ⟨_, _, _, ha.room ty (some ⟨b, q, none⟩) len cap' hin _ (by show (storeCells ((⟨b, q, none⟩ : Addr).add (len * it.size)) vs).run P w = _; rw [addr_add]; exact q4),
              Fr.trans (Fr.write (o := .c cs false prev) hp hφ) (Fr.add g.at_n hn _ (.inr ⟨p, s, tot, hφ, by rw [hget_hputS_same]; simp⟩)), g3, ?_⟩
            simp only [rel]
            exact ⟨b, s + off, tot, q, cap', updE_same _ _ _, rfl, Nat.le_refl _, hin, (fun h => by cases h), fun _ => ⟨by omega, c6⟩⟩
          · obtain ⟨rc, c', r1, r2, r3, r4, r5⟩ := grow_new (P := P) (z := z) (ty := ty) hzs ha (by omega) hb0 h5 o4 hvl o1 (by rw [hz.1, hal, hyl, o1, hvl]) hcz
            have g2 := g.write (o := .c cs false prev) (o' := .c old true none) (O := .cells c et fr) hp hφ rfl rfl ⟨c, et, fr, wput_same hb.2, k2, by rw [hol]; have := k3; omega, k4, fun i v hi => by
              have hlt := Cs.lt_of_at hi
              rw [hoa i (by have := hlt; rw [hol] at this; exact this), Nat.zero_add] at hi
              exact k5 i v hi⟩
            have f2 := Fr.write (o := .c cs false prev) (o' := some (.c old true none)) (n := n) (w := w) (O := .cells c et fr) hp hφ
            rw [wput_id k1] at g2 f2
            have g3 := (g2.drew.push (.cells c' e)).add hn (ob := .c z false (some p)) (b := w.heap.size) (s := 0) (tot := c'.size) (by rw [World.size_alloc]; have := g.base; exact ⟨this, Nat.lt_succ_self _⟩)
              ⟨c', e, (0, 0), alloc_at (w := w.drew), rfl, by omega, frz0 _, CsOK_mono (updE_le g.at_n) fun i v hi => by rw [Nat.zero_add]; exact r4 i v hi⟩
              (fun q' o' s' t' _ hφ' => by have := (g.blk q' _ s' t' hφ').2; omega) hsup (fun q' o' s' t' _ hφ' => by have := (g.blk q' _ s' t' hφ').2; omega)
            exact ⟨_, _, _, r5, Fr.trans f2 (Fr.trans Fr.drew (Fr.push_add g.at_n hn _ _)), g3, rel_sl_grown r1 (by rw [r2]; exact Nat.le_refl _)⟩
theorem str_cells (φ : Emb) (s : ByteArray) : CsOK ρ φ (.b s.size (encL s.data.toList)) (fun i => (s.data.toList.map fun b => Value.int .u8 b.toNat)[i]?) := fun i v hv => by
  have hi : i < s.size := Cs.lt_of_at hv
  rw [Cs.b_pos hi] at hv
  have hi' : i < s.data.toList.length := by rw [size_data]; exact hi
  rw [encL_get _ _ hi'] at hv
  cases hv
  have hlt := s.data.toList[i].toNat_lt
  refine ⟨.int .u8 (s.data.toList[i].toNat : Nat), ?_, ?_, rfl⟩
  · show (s.data.toList.map fun b => Value.int .u8 b.toNat)[i]? = _
    rw [List.getElem?_map, List.getElem?_eq_getElem hi']; rfl
  · simp only [rel]
    exact ⟨by simp [Mk]; exact hlt, by rw [dec_nonneg (by simp [Hk]; exact hlt)]⟩
/-- What the source's cells are, and how the model reads them. -/
def SrcIs (P : Program) (ρ : Env) (B : Nat) (v : V) (h : Heap) (n : K4) (esz m : Nat) (y : Cs) : Prop :=
  y.len = m * esz ∧ ∀ φ w X, Gam ρ B h n φ w → rel ρ φ v X → ∃ vs : List Value, vs.length = m * esz ∧ (∀ x ∈ vs, x.oneCell' = true) ∧ CsOK ρ φ y (fun i => vs[i]?) ∧ (∀ w, (Builtin.lenOf X).run P w = .ok m w) ∧
    ∀ (k : Nat) (w' : World), k ≤ m → w'.heap = w.heap → (Builtin.firstCells esz k X).run P w' = .ok (vs.take (k * esz)).toArray w'
theorem symsL_len : ∀ (m i : Nat), (symsL m i).length = m
  | 0, _ => rfl
  | m + 1, i => congrArg (· + 1) (symsL_len m (i + 1))
theorem symsL_at : ∀ {m i j : Nat}, j < m → (symsL m i)[j]? = some (.oth (.sy .i64 (i + j)))
  | 0, _, _, h => by omega
  | m + 1, i, 0, _ => rfl
  | m + 1, i, j + 1, h => by
    have e : (symsL (m + 1) i)[j + 1]? = (symsL m (i + 1))[j]? := rfl
    rw [e, symsL_at (by omega), show i + 1 + j = i + (j + 1) by omega]
theorem srcK_good {esz : Nat} {v : V} {κ : Nat → Cs → R} (hg : (srcK esz v h κ).good) : ∃ m y, srcK esz v h κ = κ m y ∧ SrcIs P ρ B v h n esz m y := by
  cases v with
  | sl p off len cap ex esz' =>
    obtain ⟨h1, e1⟩ := br_good (show R.good (br (Nat.beq esz' esz) _ _) from hg)
    have h1 := Nat.eq_of_beq_eq_true h1
    subst h1
    have e1 : srcK esz' (.sl p off len cap ex esz') h κ = _ := e1
    rw [e1] at hg
    obtain ⟨cs, sup, prev, hp, e2⟩ := obK_good hg
    rw [e2, forceN_eq] at hg
    obtain ⟨hle, y, hyl, hya, e3⟩ := rangeC_good hg
    have hyl : y.len = len * esz' := hyl
    refine ⟨len, y, e1.trans (e2.trans ((forceN_eq _ _).trans e3)), hyl, fun φ w X g hX => ?_⟩
    obtain ⟨b, s, tot, q, cap', hφ, gx, c1, c2, c3, c4⟩ := rel_sl hX
    subst gx
    obtain ⟨c, e, fr, k1, k2, k3, k4, k5⟩ := g.obj p _ b s tot hp hφ
    have hr := cs_range k5 hyl (fun i hi => hya i hi)
    obtain ⟨vs, q1, q2, q3, q4⟩ := cs_list hr
    refine ⟨vs, by rw [q1, hyl], q3, fun i u hu => ?_, fun w => rfl, fun k w' hk hw' => ?_⟩
    · have hi := Cs.lt_of_at hu
      obtain ⟨x, hx, hrx, ho⟩ := hr i u hu
      have := q2 i _ (List.getElem?_eq_getElem (by rw [q1]; exact hi))
      have hx' : c[s + (off + i)]? = some x := hx
      rw [hx'] at this
      cases this
      exact ⟨_, List.getElem?_eq_getElem (by rw [q1]; exact hi), hrx, ho⟩
    · show (loadCells ⟨b, q, none⟩ (k * esz')).run P w' = _
      have hlen : (vs.take (k * esz')).length = k * esz' := by rw [List.length_take, q1, hyl]; exact Nat.min_eq_left (Nat.mul_le_mul_right _ hk)
      rcases Nat.eq_zero_or_pos cap' with h0 | h0
      · have hk0 : k = 0 := by omega
        subst hk0
        simp; rfl
      · have hrun := run_rows (P := P) (w := w') (off := s + off) (vs.take (k * esz')) (by rw [hw']; exact k1) (fun j v hj => by
          have hj' : vs[j]? = some v := by
            rw [List.getElem?_take] at hj
            split at hj
            · exact hj
            · cases hj
          have := q2 j v hj'; rwa [← Nat.add_assoc] at this)
        rw [hlen] at hrun
        rw [(c4 h0).1]; exact hrun
  | str m c =>
    obtain ⟨h1, e1⟩ := br_good (show R.good (br (Nat.beq esz 1) _ _) from hg)
    have h1 := Nat.eq_of_beq_eq_true h1
    subst h1
    refine ⟨m, .b m c, e1, by simp [Cs.len], fun φ w X g hX => ?_⟩
    obtain ⟨s, gx, hs, hc⟩ := rel_str hX
    subst gx hs hc
    refine ⟨s.data.toList.map fun b => Value.int .u8 b.toNat, by simp [size_data], by simp [Value.oneCell'], str_cells φ s, fun w => rfl, fun k w' hk _ => ?_⟩
    have : (s.extract 0 k).data.map (fun b : UInt8 => Value.int .u8 b.toNat) = ((s.data.toList.map fun b => Value.int .u8 b.toNat).take (k * 1)).toArray := by
      apply Array.ext'
      simp [ByteArray.data_extract, List.map_take]
    simp only [Builtin.firstCells, Sem.run_pure, this]
  | nil w =>
    cases w with
    | sl =>
      refine ⟨0, .l [], rfl, by simp [Cs.len], fun φ w X g hX => ?_⟩
      have := rel_nil hX
      subst this
      exact ⟨[], by simp, by simp, fun i v hv => by simp [Cs.at] at hv, fun w => rfl, fun k w' _ _ => by simp [nilOf, Builtin.firstCells]⟩
    | _ => exact hg.elim
  | oth oo =>
    cases oo with
    | ro i l0 l1 z =>
      have hg' : R.good (br (Nat.beq z esz) (br (Nat.beq l0 l1) (br (and (Nat.ble 1 i) (Nat.ble i 18446744073709551615)) (forceN (Nat.mul l0 esz) fun m => κ l0 (.l (symsL m i))) (.fail "source")) (.fail "source")) (.fail "source")) := hg
      obtain ⟨h1, e1⟩ := br_good hg'
      rw [e1] at hg'
      obtain ⟨h2, e2⟩ := br_good hg'
      rw [e2] at hg'
      obtain ⟨h3, e3⟩ := br_good hg'
      have h1 := Nat.eq_of_beq_eq_true h1
      have h2 := Nat.eq_of_beq_eq_true h2
      rw [Bool.and_eq_true] at h3
      have h3' := ble_iff.1 h3.2
      have h3 := ble_iff.1 h3.1
      subst h1
      subst h2
      refine ⟨l0, .l (symsL (l0 * z) i), e1.trans (e2.trans (e3.trans (forceN_eq _ _))), symsL_len _ _, fun φ w X g hX => ?_⟩
      simp only [rel] at hX
      obtain ⟨b, q, len, cap, c, e, fr, rfl, c1, c2, c3, c4, c5⟩ := hX
      obtain rfl : len = l0 := by omega
      have one : ∀ j y, CkOK ρ i j y → y.oneCell' = true := fun j y hy => by
        rcases hy with ⟨_, b, rfl⟩ | ⟨_, _, _, r, _, rfl⟩ | ⟨_, _, b, rfl, _⟩ | ⟨_, _, r, _, rfl, _⟩ | ⟨_, y0, rfl, _, _, _⟩ <;> rfl
      obtain ⟨vs, hl, hget⟩ : ∃ vs : List Value, vs.length = len * z ∧ ∀ j, j < len * z → vs[j]? = c[q + j]? := by
        refine ⟨(List.range (len * z)).map fun j => (c[q + j]?).getD undef, by simp, fun j hj => ?_⟩
        obtain ⟨y, y1, _⟩ := c5 j hj
        rw [List.getElem?_map, List.getElem?_range hj]
        simp [y1]
      refine ⟨vs, hl, fun x hx => ?_, fun j v hv => ?_, fun w => rfl, fun k w' hk hw' => ?_⟩
      · obtain ⟨j, hj, rfl⟩ := List.getElem_of_mem hx
        have hj' : j < len * z := by rw [← hl]; exact hj
        obtain ⟨y, y1, y2⟩ := c5 j hj'
        have e5 := hget j hj'
        rw [y1, List.getElem?_eq_getElem hj] at e5
        rw [Option.some.inj e5]
        exact one j y y2
      · have hj := Cs.lt_of_at hv
        have hj : j < len * z := by rw [← symsL_len (len * z) i]; exact hj
        have hv : (symsL (len * z) i)[j]? = some v := hv
        rw [symsL_at hj] at hv
        cases hv
        obtain ⟨y, y1, y2⟩ := c5 j hj
        refine ⟨y, (hget j hj).trans y1, ?_, one j y y2⟩
        rcases y2 with ⟨h, _⟩ | ⟨_, _, h5, r, h6, h7⟩ | ⟨h, _⟩ | ⟨h, _⟩ | ⟨h, _⟩
        · omega
        · simp only [rel]; exact ⟨h5, r, h6, h7⟩
        · omega
        · omega
        · omega
      · show (loadCells ⟨b, q, none⟩ (k * z)).run P w' = _
        have hlen : (vs.take (k * z)).length = k * z := by rw [List.length_take, hl]; exact Nat.min_eq_left (Nat.mul_le_mul_right _ hk)
        have hrun := run_rows (P := P) (w := w') (off := q) (vs.take (k * z)) (by rw [hw']; exact (g.glob b c e fr c4).2) (fun j v hj => by
          have hj' : vs[j]? = some v := by
            rw [List.getElem?_take] at hj
            split at hj
            · exact hj
            · cases hj
          have hlt : j < len * z := by rw [← hl]; exact (List.getElem?_eq_some_iff.1 hj').1
          rw [← hget j hlt]; exact hj')
        rw [hlen] at hrun
        exact hrun
    | _ => exact hg.elim
  | _ => exact hg.elim
theorem sound_app {ct : Call} {ty t1 e : TypeId} {d : TypeDesc} {x y : Operand} {x' y' : Opd} {s eb : Nat} {z : List V} (ho : o.op = .call ct) (hb : ct.callee = .builtin .append) (hts : ct.argTypes.toList = [ty, t1]) (hargs : ct.args.toList = [x, y])
    (hx : cOpd N x = some x') (hy : cOpd N y = some y') (ht : P.underlying ty = some (.slice e)) (hu : P.underlying t1 = some d) (hd : ∀ k, d ≠ .int k) (hs : cSize P e = some s) (hbe : cBytes P e = some eb) (hz : cZero P e = some z)
    (hsz : s = z.length) (h0 : 0 < s) (hb0 : 0 < eb) : Sound P ρ B N o (k_app s eb x' y' cf t h n) t h n := by
  intro κ hg
  have e1 : k_app s eb x' y' cf t h n κ = srcK s (ev y' t) h fun m c => appendK s eb (ev x' t) m c h n κ := by simp only [k_app, evK_eq]
  rw [e1] at hg
  obtain ⟨m, c, e2, hcl, hsrc⟩ := srcK_good (P := P) (ρ := ρ) (B := B) (n := n) hg
  rw [e2] at hg
  obtain ⟨zv, it, hi, hzv, hr⟩ := cZero_some (ρ := ρ) hz
  have hits : it.size = s := by unfold cSize at hs; rw [hi] at hs; simpa using hs
  have hitb : it.bytes = eb := by unfold cBytes at hbe; rw [hi] at hbe; simpa using hbe
  subst hits hitb
  have hzs : zv.cells.size = it.size := by have := rels_length (hr (fun _ => none)).1; simp at this; rw [this, hsz]
  obtain ⟨v, h1, n1, e3, H⟩ := appendK_good (P := P) (ρ := ρ) (B := B) (ats := #[ty, t1]) (e := e) hzs h0 hb0 hg
  have hargs' : ct.args = #[x, y] := by rw [← hargs]
  have hts' : ct.argTypes = #[ty, t1] := by rw [← hts]
  refine ⟨v, h1, n1, e1.trans (e2.trans e3), .value fun φ a w hT g => ?_⟩
  obtain ⟨vs, q1, q2, q3, q4, q5⟩ := hsrc φ w _ g (cOpd_rel hy hT)
  obtain ⟨φ', X, w', r1, r2, r3, r4⟩ := H φ w (a.eval x) (a.eval y) o.type g (cOpd_rel hx hT) ⟨vs, q1, hcl, q2, q3, appSrc_cells ht hi hzv hb0 hu hd q4 fun w' hw' => by
    have := q5 m w' (Nat.le_refl _) hw'
    rwa [List.take_of_length_le (by omega)] at this⟩
  exact ⟨φ', X, w', callB ho hb fun cs => by simp [builtin, hargs', hts', r1], r2, r3, r4⟩
theorem sound_appz {ct : Call} {ty t1 e : TypeId} {ku : IntKind} {x y : Operand} {x' y' : Opd} {s eb : Nat} {z : List V} (ho : o.op = .call ct) (hb : ct.callee = .builtin .append) (hts : ct.argTypes.toList = [ty, t1]) (hargs : ct.args.toList = [x, y])
    (hx : cOpd N x = some x') (hy : cOpd N y = some y') (ht : P.underlying ty = some (.slice e)) (hu : P.underlying t1 = some (.int ku)) (hs : cSize P e = some s) (hbe : cBytes P e = some eb) (hz : cZero P e = some z)
    (hsz : s = z.length) (h0 : 0 < s) (hb0 : 0 < eb) : Sound P ρ B N o (k_appz s eb (isZ z) z x' y' cf t h n) t h n := by
  intro κ hg
  have e1 : k_appz s eb (isZ z) z x' y' cf t h n κ = ixK (ev y' t) fun m => br (Nat.ble (Nat.mul eb m) 281474976710656) (zerosC (isZ z) z m fun c => appendK s eb (ev x' t) m c h n κ) (.fail "a long append") := by simp only [k_appz, evK_eq]
  rw [e1] at hg
  obtain ⟨k, m, hyv, hm, e2⟩ := ixK_good hg
  rw [e2] at hg
  obtain ⟨h3, e3⟩ := br_good hg
  have h3 : eb * m ≤ 281474976710656 := ble_iff.1 h3
  rw [e3] at hg
  obtain ⟨c, e4, hcl, hca⟩ := zerosC_eq (isZ z) z m (fun c => appendK s eb (ev x' t) m c h n κ) isZ_eq
  rw [e4] at hg
  obtain ⟨zv, it, hi, hzv, hr⟩ := cZero_some (ρ := ρ) hz
  have hits : it.size = s := by unfold cSize at hs; rw [hi] at hs; simpa using hs
  have hitb : it.bytes = eb := by unfold cBytes at hbe; rw [hi] at hbe; simpa using hbe
  subst hits hitb
  have hzs : zv.cells.size = it.size := by have := rels_length (hr (fun _ => none)).1; simp at this; rw [this, hsz]
  obtain ⟨v, h1, n1, e5, H⟩ := appendK_good (P := P) (ρ := ρ) (B := B) (ats := #[ty, t1]) (e := e) hzs h0 hb0 hg
  have hargs' : ct.args = #[x, y] := by rw [← hargs]
  have hts' : ct.argTypes = #[ty, t1] := by rw [← hts]
  refine ⟨v, h1, n1, e1.trans (e2.trans (e3.trans (e4.trans e5))), .value fun φ a w hT g => ?_⟩
  have g2 := cOpd_rel hy hT
  rw [hyv] at g2
  have gy := rel_ix hm g2
  have hcells : ∀ (i : Nat) (v : V), i < m * z.length → z[i % z.length]? = some v → ∃ x, (Builtin.zeroCells zv.cells m).toList[i]? = some x ∧ rel ρ φ v x ∧ x.oneCell' = true := fun i v hi hv => by
    obtain ⟨x, hx, hrx⟩ := zeros_at (hr φ).1 (hr φ).2 (k := m * zv.cells.size) (by rw [hzs, hsz]; exact hi) hv
    refine ⟨x, ?_, hrx⟩
    rw [Array.getElem?_toList]
    exact hx
  obtain ⟨φ', X, w', r1, r2, r3, r4⟩ := H φ w (a.eval x) (.int k m) o.type g (cOpd_rel hx hT) ⟨(Builtin.zeroCells zv.cells m).toList, by simp [size_zeroCells, hzs], by rw [hcl, hsz], fun u hu => by
      obtain ⟨i, hi', rfl⟩ := List.getElem_of_mem hu
      have hlt : i < m * z.length := by simpa [size_zeroCells, hzs, hsz] using hi'
      have hzp : i % z.length < z.length := Nat.mod_lt _ (by omega)
      obtain ⟨x, hx, _, hox⟩ := hcells i _ hlt (List.getElem?_eq_getElem hzp)
      rw [List.getElem?_eq_getElem hi'] at hx
      cases hx; exact hox, fun i v hv => by
      have hlt := Cs.lt_of_at hv
      rw [hcl] at hlt
      rw [hca i hlt] at hv
      exact hcells i v hlt hv, appSrc_zero ht hi hzv hb0 h0 hu (by rw [Nat.mul_comm]; exact h3)⟩
  exact ⟨φ', X, w', callB ho hb fun cs => by simp [builtin, hargs', hts', gy, r1], r2, r3, r4⟩
end
end Go.Ev

namespace Go.Ev
set_option linter.unusedVariables false
section
variable {P : Program} {ρ : Env} {B N : Nat} {o : Oper} {cf : CF} {t : Regs} {h : Heap} {n : K4}
theorem sound_cpy {ct : Call} {ty e : TypeId} {ts : List TypeId} {x y : Operand} {x' y' : Opd} {s : Nat} (ho : o.op = .call ct) (hb : ct.callee = .builtin .copy) (hts : ct.argTypes.toList = ty :: ts) (hargs : ct.args.toList = [x, y])
    (hx : cOpd N x = some x') (hy : cOpd N y = some y') (ht : P.underlying ty = some (.slice e)) (hs : cSize P e = some s) : Sound P ρ B N o (k_cpy s x' y' cf t h n) t h n := by
  intro κ hg
  have e1 : k_cpy s x' y' cf t h n κ = srcK s (ev y' t) h fun m y => asSl (ev x' t) (κ (.int .i64 0) h n) (fun p off len cap ex esz' => br (Nat.beq esz' s) (br (Nat.beq (@Bool.rec (fun _ => Nat) len m (Nat.ble m len)) 0) (κ (.int .i64 0) h n) (rangeC y 0 (Nat.mul (@Bool.rec (fun _ => Nat) len m (Nat.ble m len)) s) fun y => storeK h p off y fun h => intK (@Bool.rec (fun _ => Nat) len m (Nat.ble m len)) fun v => κ v h n)) (.fail "element")) := by
    simp only [k_cpy, evK_eq, forceN_eq]
  rw [e1] at hg
  obtain ⟨m, c, e2, hcl, hsrc⟩ := srcK_good (P := P) (ρ := ρ) (B := B) (n := n) hg
  rw [e2] at hg
  have hargs' : ct.args = #[x, y] := by rw [← hargs]
  have hts' : ct.argTypes[0]? = some ty := by rw [← Array.getElem?_toList, hts]; rfl
  rcases asSl_good hg with ⟨hv, e3⟩ | ⟨p, off, len, cap, ex, esz, hv, e3⟩
  · refine ⟨_, h, n, e1.trans (e2.trans e3), .value fun φ a w hT g => ?_⟩
    obtain ⟨vs, q1, q2, q3, q4, q5⟩ := hsrc φ w _ g (cOpd_rel hy hT)
    have g1 := cOpd_rel hx hT
    rw [hv] at g1
    have gx := rel_nil g1
    have h0 := q5 0 w (Nat.zero_le _) rfl
    refine ⟨φ, goInt 0, w, callB ho hb fun cs => ?_, Fr.refl h φ n w, g, int_rel (by decide) φ⟩
    simp [builtin, Builtin.copy_, hts', hargs', gx, nilOf, run_underlying ht, q4, run_sizeOf hs]
    simp at h0
    simp [h0]
  · rw [e3] at hg
    obtain ⟨h4, e4⟩ := br_good hg
    have h4 := Nat.eq_of_beq_eq_true h4
    subst h4
    rw [e4] at hg
    have hk : (@Bool.rec (fun _ => Nat) len m (Nat.ble m len)) = Nat.min m len := by
      cases hb : Nat.ble m len with
      | true => have := ble_iff.1 hb; show m = Nat.min m len; exact (Nat.min_eq_left this).symm
      | false =>
        have : ¬ m ≤ len := fun h => by rw [ble_iff.2 h] at hb; cases hb
        show len = Nat.min m len; exact (Nat.min_eq_right (by omega)).symm
    have e5 := hk
    generalize (@Bool.rec (fun _ => Nat) len m (Nat.ble m len)) = k at hg e1 e2 e3 e4 hk
    have hkm : k ≤ m := by rw [hk]; exact Nat.min_le_left _ _
    have hkl : k ≤ len := by rw [hk]; exact Nat.min_le_right _ _
    rcases br_or hg with ⟨h6, e6⟩ | ⟨h6, e6⟩
    · have h6 := Nat.eq_of_beq_eq_true h6
      subst h6
      refine ⟨_, h, n, e1.trans (e2.trans (e3.trans (e4.trans e6))), .value fun φ a w hT g => ?_⟩
      obtain ⟨vs, q1, q2, q3, q4, q5⟩ := hsrc φ w _ g (cOpd_rel hy hT)
      have g1 := cOpd_rel hx hT
      rw [hv] at g1
      obtain ⟨b, s, tot, q, cap', hφ, gx, c1, c2, c3, c4⟩ := rel_sl g1
      have h0 := q5 0 w (Nat.zero_le _) rfl
      simp at h0
      refine ⟨φ, goInt 0, w, callB ho hb fun cs => ?_, Fr.refl h φ n w, g, int_rel (by decide) φ⟩
      have hst : (storeCells (⟨b, q, none⟩ : Addr) []).run P w = .ok () w := rfl
      simp [builtin, Builtin.copy_, hts', hargs', gx, run_underlying ht, q4, run_sizeOf hs, ← hk, h0, hst]
    · rw [e6] at hg
      obtain ⟨hle, z, hzl, hza, e7⟩ := rangeC_good hg
      rw [e7] at hg
      obtain ⟨cs, prev, zz, hp, hz, e8⟩ := storeK_good hg
      rw [e8] at hg
      obtain ⟨h9, e9⟩ := intK_good hg
      have hzl : z.len = k * esz := hzl
      have hk0 : 0 < k := Nat.pos_of_ne_zero fun h => by subst h; simp at h6
      refine ⟨_, _, n, e1.trans (e2.trans (e3.trans (e4.trans (e6.trans (e7.trans (e8.trans e9)))))), .value fun φ a w hT g => ?_⟩
      obtain ⟨vs, q1, q2, q3, q4, q5⟩ := hsrc φ w _ g (cOpd_rel hy hT)
      have g1 := cOpd_rel hx hT
      rw [hv] at g1
      obtain ⟨b, s, tot, q, cap', hφ, gx, c1, c2, c3, c4⟩ := rel_sl g1
      obtain ⟨c5, c6⟩ := c4 (by omega)
      have hfc := q5 k w hkm rfl
      have hvl : (vs.take (k * esz)).length = z.len := by rw [List.length_take, q1, hzl]; exact Nat.min_eq_left (Nat.mul_le_mul_right _ hkm)
      obtain ⟨w', r1, r2, r3⟩ := store_cells (P := P) g hp hφ hz (vs := vs.take (k * esz)) hvl (fun i v hi => by
        have hlt := Cs.lt_of_at hi
        rw [hza i (by have := hlt; rw [hzl] at this; exact this), Nat.zero_add] at hi
        obtain ⟨X, hX, hr, _⟩ := q3 i v hi
        exact ⟨X, by rw [List.getElem?_take, if_pos (by rw [← hzl]; exact hlt)]; exact hX, hr⟩) (fun v hv => q2 v (List.mem_of_mem_take hv))
      refine ⟨φ, goInt k, w', callB ho hb fun cs => ?_, r3, r2, int_rel h9 φ⟩
      rw [← c5] at r1
      simp [builtin, Builtin.copy_, hts', hargs', gx, run_underlying ht, q4, run_sizeOf hs, ← hk, hfc, r1]
theorem sound_clr {ct : Call} {ty e : TypeId} {ts : List TypeId} {x : Operand} {xs : List Operand} {x' : Opd} {s : Nat} {z : List V} (ho : o.op = .call ct) (hb : ct.callee = .builtin .clear) (hts : ct.argTypes.toList = ty :: ts) (hargs : ct.args.toList = x :: xs)
    (hx : cOpd N x = some x') (ht : P.underlying ty = some (.slice e)) (hs : cSize P e = some s) (hz : cZero P e = some z) (hsz : s = z.length) (h0 : 0 < s) : Sound P ρ B N o (k_clr (isZ z) z x' cf t h n) t h n := by
  intro κ hg
  have e1 : k_clr (isZ z) z x' cf t h n κ = asSl (ev x' t) (κ (.tup []) h n) (fun p off len cap ex esz => br (Nat.beq z.length esz) (br (Nat.beq len 0) (κ (.tup []) h n) (zerosC (isZ z) z len fun y => storeK h p off y fun h => κ (.tup []) h n)) (.fail "element")) := by simp only [k_clr, evK_eq, lenK_eq]
  rw [e1] at hg
  have hargs' : ct.args[0]? = some x := by rw [← Array.getElem?_toList, hargs]; rfl
  have hts' : ct.argTypes[0]? = some ty := by rw [← Array.getElem?_toList, hts]; rfl
  have rt : ∀ φ : Emb, rel ρ φ (.tup []) (.tuple #[]) := fun φ => by simp only [rel]; exact ⟨#[], rfl, rels_nil.2 rfl⟩
  rcases asSl_good hg with ⟨hv, e2⟩ | ⟨p, off, len, cap, ex, esz, hv, e2⟩
  · refine ⟨_, h, n, e1.trans e2, .value fun φ a w hT g => ?_⟩
    have g1 := cOpd_rel hx hT
    rw [hv] at g1
    have gx := rel_nil g1
    refine ⟨φ, .tuple #[], w, callB ho hb fun cs => ?_, Fr.refl h φ n w, g, rt φ⟩
    simp [builtin, Builtin.clear_, hts', hargs', gx, nilOf, run_underlying ht]
  · rw [e2] at hg
    obtain ⟨h3, e3⟩ := br_good hg
    have h3 := Nat.eq_of_beq_eq_true h3
    rw [e3] at hg
    rcases br_or hg with ⟨h4, e4⟩ | ⟨h4, e4⟩
    · have h4 := Nat.eq_of_beq_eq_true h4
      subst h4
      refine ⟨_, h, n, e1.trans (e2.trans (e3.trans e4)), .value fun φ a w hT g => ?_⟩
      have g1 := cOpd_rel hx hT
      rw [hv] at g1
      obtain ⟨b, s', tot, q, cap', hφ, gx, c1, c2, c3, c4⟩ := rel_sl g1
      refine ⟨φ, .tuple #[], w, callB ho hb fun cs => ?_, Fr.refl h φ n w, g, rt φ⟩
      simp [builtin, Builtin.clear_, hts', hargs', gx, run_underlying ht]
    · rw [e4] at hg
      obtain ⟨y, e5, hyl, hya⟩ := zerosC_eq (isZ z) z len (fun y => storeK h p off y fun h => κ (.tup []) h n) isZ_eq
      rw [e5] at hg
      obtain ⟨cs, prev, zz, hp, hzz, e6⟩ := storeK_good hg
      refine ⟨_, _, n, e1.trans (e2.trans (e3.trans (e4.trans (e5.trans e6)))), .value fun φ a w hT g => ?_⟩
      have g1 := cOpd_rel hx hT
      rw [hv] at g1
      obtain ⟨b, s', tot, q, cap', hφ, gx, c1, c2, c3, c4⟩ := rel_sl g1
      have hl0 : 0 < len := Nat.pos_of_ne_zero fun h => by subst h; simp at h4
      obtain ⟨c5, c6⟩ := c4 (by omega)
      obtain ⟨zv, it, hi, hzv, hr⟩ := cZero_some (ρ := ρ) hz
      have hzs : zv.cells.size = z.length := by have := rels_length (hr φ).1; simpa using this
      have hzr : ∀ w, (zeroValue e).run P w = .ok zv w := run_zeroValue (by rw [hi]; exact hzv)
      have hat : ∀ i, i < len * z.length → ∃ v, z[i % z.length]? = some v := fun i hi => by
        have hzp : i % z.length < z.length := Nat.mod_lt _ (by omega)
        exact ⟨_, List.getElem?_eq_getElem hzp⟩
      obtain ⟨w', r1, r2, r3⟩ := store_cells (P := P) g hp hφ hzz (vs := (Builtin.zeroCells zv.cells len).toList) (by simp [size_zeroCells, hzs, hyl]) (fun i v hi => by
        have hlt := Cs.lt_of_at hi
        rw [hyl] at hlt
        rw [hya i hlt] at hi
        obtain ⟨X, hX, hrX, _⟩ := zeros_at (hr φ).1 (hr φ).2 (k := len * zv.cells.size) (by rw [hzs]; exact hlt) hi
        exact ⟨X, by rw [Array.getElem?_toList]; exact hX, hrX⟩) (fun u hu => by
        obtain ⟨i, hi', rfl⟩ := List.getElem_of_mem hu
        have hlt : i < len * z.length := by simpa [size_zeroCells, hzs] using hi'
        obtain ⟨v, hv⟩ := hat i hlt
        obtain ⟨X, hX, _, hoX⟩ := zeros_at (hr φ).1 (hr φ).2 (k := len * zv.cells.size) (by rw [hzs]; exact hlt) hv
        have hX : (Builtin.zeroCells zv.cells len)[i]? = some X := hX
        rw [← Array.getElem?_toList, List.getElem?_eq_getElem hi'] at hX
        cases hX; exact hoX)
      rw [← c5] at r1
      refine ⟨φ, .tuple #[], w', callB ho hb fun cs => ?_, r3, r2, rt φ⟩
      obtain ⟨m, rfl⟩ : ∃ m, len = m + 1 := ⟨len - 1, by omega⟩
      simp [builtin, Builtin.clear_, hts', hargs', gx, run_underlying ht, hzr, r1]
/-- A call of a function ends with a value that R takes. -/
def Runs (P : Program) (f : FuncId) (args : Array Value) (w : World) (R : Value → World → Prop) : Prop :=
  ∀ (o : Oper) (a : Act) (K : Act → World → Prop) (Q : Exit → Act → World → Prop), (∀ x w', R x w' → K (a.put o.dst x) w') → o.upon P a K Q ((callFunc f args).run P w)
def CallOK (P : Program) (ρ : Env) (B : Nat) (cf : CF) : Prop :=
  ∀ f args h n v h1 n1, cf f args h n = .rv v h1 n1 → ∀ φ w (xs : Array Value), Gam ρ B h n φ w → rels ρ φ args xs.toList →
    Runs P f xs w fun x w' => ∃ φ', Fr h h1 φ φ' n n1 w w' ∧ Gam ρ B h1 n1 φ' w' ∧ rel ρ φ' v x
theorem call_good {κ : KV} {r : R} (hg : R.good (@R.rec (fun _ => R) (fF4 "a call") (fun v h n => κ v h n) (fun w => .fail w) (fF4 "orders") r)) :
    ∃ v h1 n1, r = .rv v h1 n1 ∧ @R.rec (fun _ => R) (fF4 "a call") (fun v h n => κ v h n) (fun w => .fail w) (fF4 "orders") r = κ v h1 n1 := by
  cases r with
  | ok e t h n => exact hg.elim
  | rv v h1 n1 => exact ⟨v, h1, n1, rfl, rfl⟩
  | fail w => exact hg.elim
  | both a b => exact hg.elim
theorem sound_call {ct : Call} {f : FuncId} {args : List Opd} (hcf : CallOK P ρ B cf) (ho : o.op = .call ct) (hc : ct.callee = .value (.func f)) (ha : cOpds N ct.args.toList = some args) : Sound P ρ B N o (k_call f args cf t h n) t h n := by
  intro κ hg
  have e1 : k_call f args cf t h n κ = @R.rec (fun _ => R) (fF4 "a call") (fun v h n => κ v h n) (fun w => .fail w) (fF4 "orders") (cf f (args.map (ev · t)) h n) := by simp only [k_call, evsK_eq]
  rw [e1] at hg
  obtain ⟨v, h1, n1, hr, e2⟩ := call_good hg
  refine ⟨v, h1, n1, e1.trans e2, fun φ a w hT g K Q hK => ?_⟩
  have := hcf f _ h n v h1 n1 hr φ w (ct.args.map a.eval) g (by rw [Array.toList_map]; exact cOpds_rel ha hT) o a K Q (fun x w' ⟨φ', f1, g1, r1⟩ => hK φ' x w' f1 g1 r1)
  unfold Oper.wp
  have e3 : (execOp a.eval o).run P w = (callFunc f (ct.args.map a.eval)).run P w := by
    simp [execOp, ho, resolve, hc, Act.eval, Deferred.ofValue, invoke]
  rw [e3]; exact this
theorem sound_calld {ct : Call} {x : Operand} {x' : Opd} {args : List Opd} (hcf : CallOK P ρ B cf) (ho : o.op = .call ct) (hc : ct.callee = .value x) (hx : cOpd N x = some x') (ha : cOpds N ct.args.toList = some args) : Sound P ρ B N o (k_calld x' args cf t h n) t h n := by
  intro κ hg
  have e1 : k_calld x' args cf t h n κ = asFn (ev x' t) fun f caps => @R.rec (fun _ => R) (fF4 "a call") (fun v h n => κ v h n) (fun w => .fail w) (fF4 "orders") (cf f (args.map (ev · t) ++ caps) h n) := by
    simp only [k_calld, evK_eq, evsK_eq, appK_eq]
  rw [e1] at hg
  obtain ⟨f, caps, hxv, e2⟩ := asFn_good hg
  rw [e2] at hg
  obtain ⟨v, h1, n1, hr, e3⟩ := call_good hg
  refine ⟨v, h1, n1, e1.trans (e2.trans e3), fun φ a w hT g K Q hK => ?_⟩
  have g1 := cOpd_rel hx hT
  rw [hxv] at g1
  obtain ⟨cs, gx, hcs⟩ := rel_fn g1
  have := hcf f _ h n v h1 n1 hr φ w (ct.args.map a.eval ++ cs) g (by rw [Array.toList_append, Array.toList_map]; exact rels_append (cOpds_rel ha hT) hcs) o a K Q (fun x w' ⟨φ', f1, g1, r1⟩ => hK φ' x w' f1 g1 r1)
  unfold Oper.wp
  have e3 : (execOp a.eval o).run P w = (callFunc f (ct.args.map a.eval ++ cs)).run P w := by
    simp [execOp, ho, resolve, hc, gx, Deferred.ofValue, invoke]
  rw [e3]; exact this
theorem sound_bad {why : String} : Sound P ρ B N o (k_bad why cf t h n) t h n := fun κ hg => hg.elim
end
end Go.Ev
