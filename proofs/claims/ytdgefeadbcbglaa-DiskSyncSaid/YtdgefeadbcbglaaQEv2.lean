/- AN EVALUATOR OF THE MODEL OF Go, PROVED SOUND, PART 2: what it says of a call holds in every world, on every tape. Conditions: none of its own; each theorem bears its premises. -/
import Derived.Test.YtdgefeadbcbglaaQEv1
import Derived.Great.BuildSlice
import Derived.Laws.BytesString
import Derived.Laws.MakeOwn
set_option linter.unusedSimpArgs false
set_option linter.unusedVariables false
namespace Go.Ev
set_option linter.unusedVariables false
section
variable {P:Program} {ρ:Env} {φ:CP} {w:World}
theorem Eo {k:IntKind} {r:Nat} {x:Value} (h:B1 ρ φ (.int k r) x):r<Mk k∧x = .int k (Eb k r) := by simpa only [B1] using h
theorem GD {b:Bool} {x:Value} (h:B1 ρ φ (.bool b) x):x = .bool b := by simpa only [B1] using h
theorem Ep {n c:Nat} {x:Value} (h:B1 ρ φ (.str n c) x):∃ s:ByteArray, x = .string s∧s.size=n∧BU s.data.toList=c := by simpa only [B1] using h
theorem Gz {l:List V} {x:Value} (h:B1 ρ φ (.agg l) x):∃ cs:Array Value, x = .agg cs∧DE ρ φ l cs.toList ∧ ∀ y∈cs.toList, y.oneCell'=true := by simpa only [B1] using h
theorem Ss {l:List V} {x:Value} (h:B1 ρ φ (.tup l) x):∃ cs:Array Value, x = .tuple cs∧DE ρ φ l cs.toList := by simpa only [B1] using h
theorem E3 {u:Nl} {x:Value} (h:B1 ρ φ (.nil u) x):x=Ea u := by simpa only [B1] using h
theorem EY {p:K4} {off:Nat} {x:Value} (h:B1 ρ φ (.ptr p off) x):∃ b s tot, φ p=some (b, s, tot)∧x = .pointer (some ⟨b, s+off, none⟩) := by simpa only [B1] using h
theorem HG {p:K4} {x:Value} (h:B1 ρ φ (.map p) x):∃ b s tot, φ p=some (b, s, tot)∧x = .map (some b) := by simpa only [B1] using h
theorem L7 {f:Nat} {l:List V} {x:Value} (h:B1 ρ φ (.fn f l) x):∃ cs:Array Value, x = .func (.func f) #[] cs∧DE ρ φ l cs.toList := by simpa only [B1] using h
theorem EN {p:K4} {off len cap:Nat} {ex:Bool} {esz:Nat} {x:Value} (h:B1 ρ φ (.sl p off len cap ex esz) x) :
    ∃ b s tot o cap', φ p=some (b, s, tot)∧x = .slice (some ⟨b, o, none⟩) len cap'∧len≤cap∧cap≤cap'∧(ex=true->cap'=cap)∧(0<cap'->o=s+off∧o+cap'*esz≤tot) := by simpa only [B1] using h
def Wu (k:Sc) (X Y:Value) (r:Bool):Prop :=
  match k with
  | .i => ∃ kd a b, X = .int kd a∧Y = .int kd b∧r=(a == b)
  | .s => ∃ s u, X = .string s∧Y = .string u∧r=(s.toList == u.toList)
  | .b => ∃ a b, X = .bool a∧Y = .bool b∧r=(a == b)
theorem Jh {k:Sc} {x y:V} {κ:Bool->R} (h:(Ng k x y κ).good) :
    ∃ r, (∀ κ', Ng k x y κ'=κ' r) ∧ ∀ X Y, B1 ρ φ x X->B1 ρ φ y Y->Wu k X Y r := by
  cases k with
  | i =>
    obtain ⟨kd, a, rfl, e⟩ := Ew (show R.good (Jx x _) from h)
    have h:R.good (Jx y _) := h
    obtain ⟨j, b, rfl, e'⟩ := Ew h
    have h:R.good (br (D0 kd j) (DV (Nat.beq a b) κ) (.fail "")) := h
    obtain ⟨rfl, _⟩ := kb h
    have hk:D0 kd kd=true := BV.2 rfl
    refine ⟨Nat.beq a b, fun κ' => ?_, fun X Y hx hy => ?_⟩
    · show br (D0 kd kd) (DV (Nat.beq a b) κ') (.fail "")=_
      rw [hk, Aa, CY]
    · obtain ⟨ha, rfl⟩ := Eo hx
      obtain ⟨hb, rfl⟩ := Eo hy
      refine ⟨kd, _, _, rfl, rfl, ?_⟩
      rw [Bool.eq_iff_iff, beq_iff_eq]
      exact ⟨fun h => by rw [Nat.eq_of_beq_eq_true h], fun h => by have := LU ha hb h; subst this; exact Nat.beq_refl _⟩
  | s =>
    obtain ⟨n, c, rfl, e⟩ := E6 (show R.good (Dd x _) from h)
    have h:R.good (Dd y _) := h
    obtain ⟨m, d, rfl, e'⟩ := E6 h
    refine ⟨G7 n c m d, fun κ' => CY _ _, fun X Y hx hy => ?_⟩
    obtain ⟨s, rfl, rfl, rfl⟩ := Ep hx
    obtain ⟨u, rfl, rfl, rfl⟩ := Ep hy
    exact ⟨s, u, rfl, rfl, MN s u⟩
  | b =>
    obtain ⟨b, rfl, e⟩ := He (show R.good (QX x _) from h)
    have h:R.good (QX y _) := h
    obtain ⟨c, rfl, e'⟩ := He h
    refine ⟨b == c, fun κ' => by cases b <;> cases c <;> rfl, fun X Y hx hy => ?_⟩
    exact ⟨b, c, GD hx, GD hy, rfl⟩
theorem J3 {k:Sc} {t:TypeId} (hk:QW P t=some k) {X Y:Value} {r:Bool} (h:Wu k X Y r) (d:Nat):(Op.equalIn (d+1) t X Y).run P w = .ok r w := by
  unfold QW at hk
  split at hk
  · cases hk
    rename_i kd hu
    obtain ⟨kd', a, b, rfl, rfl, rfl⟩ := h
    simp [Op.equalIn, run_underlying hu]
  · cases hk
    rename_i hu
    obtain ⟨s, u, rfl, rfl, rfl⟩ := h
    simp [Op.equalIn, run_underlying hu, beq_toListBytes]
  · cases hk
    rename_i hu
    obtain ⟨s, u, rfl, rfl, rfl⟩ := h
    simp [Op.equalIn, run_underlying hu]
  · cases hk
theorem UH {k:Sc} {t:TypeId} (hk:QW P t=some k):(isAgg t).run P w = .ok false w := by
  unfold QW at hk
  split at hk
  · rename_i hu; simp [isAgg, run_underlying hu]
  · rename_i hu; simp [isAgg, run_underlying hu]
  · rename_i hu; simp [isAgg, run_underlying hu]
  · cases hk
theorem IT {k:Sc} {t:TypeId} (hk:QW P t=some k) {cs:Array Value} {off:Nat} {v:Value} (h:cs[off]? = some v):(part t cs off).run P w = .ok v w := by
  simp [part, UH hk, h]
theorem Ny:∀ {fs:List Field} {offs:List (Nat×Sc)}, Je P fs=some offs->∀ {a b:List V} {κ:Bool->R}, (L4 offs a b κ).good →
    ∃ r, (∀ κ', L4 offs a b κ'=κ' r) ∧ ∀ (xs ys:Array Value) (d:Nat) (w:World), DE ρ φ a xs.toList->DE ρ φ b ys.toList->(Op.eqFields (d+1) xs ys fs).run P w = .ok r w
  | [], offs, ho, a, b, κ, h => by
    simp only [Je, Option.some.injEq] at ho; subst ho
    exact ⟨true, fun _ => rfl, fun xs ys d w _ _ => rfl⟩
  | f::fs, offs, ho, a, b, κ, h => by
    simp only [Je] at ho
    split at ho
    · rename_i hn
      split at ho
      · rename_i k r hk hr
        cases ho
        obtain ⟨u, hu, e1⟩ := Ha (show R.good (G6 f.offset a _) from h)
        have h:R.good (G6 f.offset a _) := h
        rw [e1] at h
        obtain ⟨v, hv, e2⟩ := Ha h
        rw [e2] at h
        obtain ⟨q, e3, hq⟩ := Jh (ρ := ρ) (φ := φ) h
        rw [e3] at h
        have unf:∀ κ', L4 ((f.offset, k)::r) a b κ'=br q (L4 r a b κ') (κ' false) := fun κ' => by
          show G6 f.offset a (fun u => G6 f.offset b fun v => Ng k u v fun q => br q (L4 r a b κ') (κ' false))=_
          have n1:∀ (l:List V) (i:Nat) (x:V) (κ:V->R), l[i]? = some x->G6 i l κ=κ x := fun l i => by
            induction i generalizing l with
            | zero => intro x κ hx; cases l with
              | nil => simp at hx
              | cons y l => simp at hx; subst hx; rfl
            | succ i ih => intro x κ hx; cases l with
              | nil => simp at hx
              | cons y l => exact ih l x κ (by simpa using hx)
          rw [n1 _ _ _ _ hu, n1 _ _ _ _ hv, e3]
        have hrun:∀ (xs ys:Array Value) (d:Nat) (w:World), DE ρ φ a xs.toList->DE ρ φ b ys.toList →
            (Op.eqFields (d+1) xs ys (f::fs)).run P w=if q then (Op.eqFields (d+1) xs ys fs).run P w else .ok false w := fun xs ys d w hxs hys => by
          obtain ⟨X, hX, hrX⟩ := (Em.1 hxs).2 _ _ hu
          obtain ⟨Y, hY, hrY⟩ := (Em.1 hys).2 _ _ hv
          have := hq X Y hrX hrY
          simp only [Op.eqFields, hn, ne_eq, not_false_eq_true, if_true, Sem.run_bind, IT hk (show xs[f.offset]? = some X by simpa using hX),
            IT hk (show ys[f.offset]? = some Y by simpa using hY), Result.andThen_ok, J3 hk this]
          cases q <;> simp
        cases q with
        | true =>
          have h:(L4 r a b κ).good := h
          obtain ⟨r', g1, g2⟩ := Ny hr h
          exact ⟨r', fun κ' => (unf κ').trans (g1 κ'), fun xs ys d w hxs hys => (hrun xs ys d w hxs hys).trans (g2 xs ys d w hxs hys)⟩
        | false => exact ⟨false, fun κ' => unf κ', fun xs ys d w hxs hys => hrun xs ys d w hxs hys⟩
      · cases ho
    · cases ho
theorem IB {u:Nl} {v:V} {κn κo:R} (h:(IM u v κn κo).good) :
    (v = .nil u ∧ ∀ a b:R, IM u v a b=a)∨((∀ a b:R, IM u v a b=b) ∧ ∀ X, B1 ρ φ v X->match u with
      | .ptr => ∃ a, X = .pointer (some a) | .sl => ∃ a n c, X = .slice (some a) n c | .map => ∃ b, X = .map (some b) | .fn => ∃ f a c, X = .func f a c | .iface => False) := by
  cases v with
  | nil w' =>
    left
    have h:R.good (br (Nat.beq w'.ix u.ix) κn (.fail "")) := h
    obtain ⟨h1, _⟩ := A8 h
    have:w'=u := by cases w' <;> cases u <;> first | rfl | exact absurd h1 (by decide)
    subst this
    exact ⟨rfl, fun a b => by cases w' <;> rfl⟩
  | ptr p o =>
    right
    cases u <;> first | exact h.elim | skip
    exact ⟨fun a b => rfl, fun X hX => by obtain ⟨_, _, _, _, rfl⟩ := EY hX; exact ⟨_, rfl⟩⟩
  | sl p o l c e z =>
    right
    cases u <;> first | exact h.elim | skip
    exact ⟨fun a b => rfl, fun X hX => by obtain ⟨_, _, _, _, _, _, rfl, _⟩ := EN hX; exact ⟨_, _, _, rfl⟩⟩
  | map p =>
    right
    cases u <;> first | exact h.elim | skip
    exact ⟨fun a b => rfl, fun X hX => by obtain ⟨_, _, _, _, rfl⟩ := HG hX; exact ⟨_, rfl⟩⟩
  | fn f l =>
    right
    cases u <;> first | exact h.elim | skip
    exact ⟨fun a b => rfl, fun X hX => by obtain ⟨_, rfl, _⟩ := L7 hX; exact ⟨_, _, _, rfl⟩⟩
  | oth o =>
    right
    cases o with
    | rb n c =>
      cases u <;> first | exact h.elim | skip
      exact ⟨fun a b => rfl, fun X hX => by simp only [B1, Ik] at hX; obtain ⟨_, _, rfl, _⟩ := hX; exact ⟨_, _, _, rfl⟩⟩
    | rx l m z =>
      cases u <;> first | exact h.elim | skip
      exact ⟨fun a b => rfl, fun X hX => by simp only [B1] at hX; obtain ⟨_, _, rfl, _⟩ := hX; exact ⟨_, _, _, rfl⟩⟩
    | _ => exact (by cases u <;> exact h.elim)
  | _ => exact h.elim
/-- Two references of one sort, held against each other. -/
def Yi (P:Program) (u:Nl) (t:TypeId):Prop :=
  match u with
  | .ptr => ∃ e s, P.underlying t=some (.pointer e)∧Dz P e=some (s+1)
  | .sl => ∃ e, P.underlying t=some (.slice e)
  | .map => ∃ k e, P.underlying t=some (.map k e)
  | .fn => ∃ a b c, P.underlying t=some (.func a b c)
  | .iface => False
theorem Jg {u:Nl} {t:TypeId} (ht:Yi P u t) {x y:V} {κ:Bool->R} (h:(LK u x y κ).good) :
    ∃ r, (∀ κ', LK u x y κ'=κ' r) ∧ ∀ X Y d w, B1 ρ φ x X->B1 ρ φ y Y->(Op.equalIn (d+1) t X Y).run P w = .ok r w := by
  rcases IB (ρ := ρ) (φ := φ) (show R.good (IM u x _ _) from h) with ⟨rfl, e1⟩ | ⟨e1, hx⟩
  · have h:R.good (IM u (.nil u) (IM u y (κ true) (κ false)) _) := h
    rw [e1] at h
    rcases IB (ρ := ρ) (φ := φ) h with ⟨rfl, e2⟩ | ⟨e2, hy⟩
    · refine ⟨true, fun κ' => by unfold LK; rw [e1, e1], fun X Y d w hX hY => ?_⟩
      rw [E3 hX, E3 hY]
      cases u with
      | ptr => obtain ⟨e, s, hu, hs⟩ := ht; simp [Op.equalIn, run_underlying hu, Ea]
      | sl => obtain ⟨e, hu⟩ := ht; simp [Op.equalIn, run_underlying hu, Ea]
      | map => obtain ⟨k, e, hu⟩ := ht; simp [Op.equalIn, run_underlying hu, Ea]
      | fn => obtain ⟨a, b, c, hu⟩ := ht; simp [Op.equalIn, run_underlying hu, Ea]
      | iface => exact ht.elim
    · refine ⟨false, fun κ' => by unfold LK; rw [e1, e2], fun X Y d w hX hY => ?_⟩
      rw [E3 hX]
      have hy := hy Y hY
      cases u with
      | ptr => obtain ⟨e, s, hu, hs⟩ := ht; obtain ⟨a, rfl⟩ := hy; simp [Op.equalIn, run_underlying hu, Ea]
      | sl => obtain ⟨e, hu⟩ := ht; obtain ⟨a, n, c, rfl⟩ := hy; simp [Op.equalIn, run_underlying hu, Ea]
      | map => obtain ⟨k, e, hu⟩ := ht; obtain ⟨a, rfl⟩ := hy; simp [Op.equalIn, run_underlying hu, Ea]
      | fn => obtain ⟨a, b, c, hu⟩ := ht; obtain ⟨f, n, c, rfl⟩ := hy; simp [Op.equalIn, run_underlying hu, Ea]
      | iface => exact ht.elim
  · have h:R.good (IM u x _ (IM u y (κ false) (Mc x fun p o => Mc y fun q o' => br (K4.beq p q) (DV (Nat.beq o o') κ) (.fail "")))) := h
    rw [e1] at h
    rcases IB (ρ := ρ) (φ := φ) h with ⟨rfl, e2⟩ | ⟨e2, hy⟩
    · refine ⟨false, fun κ' => by unfold LK; rw [e1, e2], fun X Y d w hX hY => ?_⟩
      rw [E3 hY]
      have hx := hx X hX
      cases u with
      | ptr => obtain ⟨e, s, hu, hs⟩ := ht; obtain ⟨a, rfl⟩ := hx; simp [Op.equalIn, run_underlying hu, Ea]
      | sl => obtain ⟨e, hu⟩ := ht; obtain ⟨a, n, c, rfl⟩ := hx; simp [Op.equalIn, run_underlying hu, Ea]
      | map => obtain ⟨k, e, hu⟩ := ht; obtain ⟨a, rfl⟩ := hx; simp [Op.equalIn, run_underlying hu, Ea]
      | fn => obtain ⟨a, b, c, hu⟩ := ht; obtain ⟨f, n, c, rfl⟩ := hx; simp [Op.equalIn, run_underlying hu, Ea]
      | iface => exact ht.elim
    · rw [e2] at h
      obtain ⟨p, o, rfl, e3⟩ := FD h
      rw [e3] at h
      obtain ⟨q, o', rfl, e4⟩ := FD h
      rw [e4] at h
      obtain ⟨h5, e5⟩ := A8 h
      have := K4.beq_iff.1 h5
      subst this
      refine ⟨Nat.beq o o', fun κ' => by unfold LK; rw [e1, e2]; show br (K4.beq p p) _ _=_; rw [h5, Aa, CY], fun X Y d w hX hY => ?_⟩
      have hx := hx X hX
      obtain ⟨b, s, tot, hp, rfl⟩ := EY hX
      obtain ⟨b', s', tot', hp', rfl⟩ := EY hY
      rw [hp] at hp'; cases hp'
      cases u with
      | ptr =>
        obtain ⟨e, sz, hu, hs⟩ := ht
        simp only [Op.equalIn, Sem.run_bind, run_underlying hu, Result.andThen_ok, C0 hs, ne_eq, Nat.add_eq_zero_iff, Nat.one_ne_zero, and_false, not_false_eq_true, if_true, sameAddr, beq_self_eq_true]
        simp only [Sem.run_pure]
        congr 1
        rw [Bool.eq_iff_iff, beq_iff_eq]
        constructor
        · intro h; simp at h; rw [h]; exact Nat.beq_refl _
        · intro h; rw [Nat.eq_of_beq_eq_true h]
      | sl => obtain ⟨a, n, c, h⟩ := hx; cases h
      | map => obtain ⟨a, h⟩ := hx; cases h
      | fn => obtain ⟨f, n, c, h⟩ := hx; cases h
      | iface => exact ht.elim
end
end Go.Ev

namespace Go.Ev
set_option linter.unusedVariables false
section
variable {P:Program} {ρ:Env} {φ:CP} {w:World}
theorem Qw {t:TypeId} {fs:Array Field} (h:P.underlying t=some (.struct fs)):P.underlying t=some (.struct (P.fieldsOf t)) := by
  unfold Program.fieldsOf; rw [h]
theorem O2 {t:TypeId} {fs:Array Field} {offs:List (Nat×Sc)} (ht:P.underlying t=some (.struct fs)) (hs:P.stoodInHeld t=false) (ho:Je P fs.toList=some offs)
    {x y:V} {κ:Bool->R} (h:(N6 (.st offs) x y κ).good) :
    ∃ r, (∀ κ', N6 (.st offs) x y κ'=κ' r) ∧ ∀ X Y d w, B1 ρ φ x X->B1 ρ φ y Y->(Op.equalIn (d+2) t X Y).run P w = .ok r w ∧ ∃ a b, X = .agg a∧Y = .agg b := by
  obtain ⟨a, rfl, e⟩ := EF (show R.good (asAgg x _) from h)
  obtain ⟨b, rfl, e'⟩ := EF (show R.good (asAgg y _) from h)
  obtain ⟨r, g1, g2⟩ := Ny (ρ := ρ) (φ := φ) ho (show R.good (L4 offs a b κ) from h)
  refine ⟨r, fun κ' => g1 κ', fun X Y d w hX hY => ?_⟩
  obtain ⟨xs, rfl, hx, _⟩ := Gz hX
  obtain ⟨ys, rfl, hy, _⟩ := Gz hY
  refine ⟨?_, xs, ys, rfl, rfl⟩
  have hf:P.fieldsOf t=fs := by unfold Program.fieldsOf; rw [ht]
  rw [run_equalIn_struct w (d+1) t xs ys (Qw ht) hs, hf]
  exact g2 xs ys d w hx hy
theorem Lu {t:TypeId} {pl:Plan} (hp:MZ P t=some pl) {x y:V} {κ:Bool->R} (h:(N6 pl x y κ).good) :
    ∃ r, (∀ κ', N6 pl x y κ'=κ' r) ∧ ∀ X Y w, B1 ρ φ x X->B1 ρ φ y Y->(Op.equal t X Y).run P w = .ok r w := by
  unfold MZ at hp
  split at hp
  · cases hp
    rename_i hu
    obtain ⟨r, g1, g2⟩ := Jh (ρ := ρ) (φ := φ) (show R.good (Ng .b x y κ) from h)
    exact ⟨r, fun κ' => g1 κ', fun X Y w hX hY => J3 (by unfold QW; rw [hu]) (g2 X Y hX hY) 9999⟩
  · rename_i fs hu
    split at hp
    · cases hp
    · rename_i hs
      cases ho:Je P fs.toList with
      | none => rw [ho] at hp; cases hp
      | some offs =>
        rw [ho] at hp; cases hp
        obtain ⟨r, g1, g2⟩ := O2 (ρ := ρ) (φ := φ) hu (by simpa using hs) ho h
        exact ⟨r, g1, fun X Y w hX hY => (g2 X Y 9998 w hX hY).1⟩
  · rename_i e hu
    split at hp
    · rename_i s hs
      cases hp
      obtain ⟨r, g1, g2⟩ := Jg (P := P) (ρ := ρ) (φ := φ) (u := .ptr) (t := t) ⟨e, s, hu, hs⟩ (show R.good (LK .ptr x y κ) from h)
      exact ⟨r, fun κ' => g1 κ', fun X Y w hX hY => g2 X Y 9999 w hX hY⟩
    · cases hp
  · rename_i e hu
    cases hp
    obtain ⟨r, g1, g2⟩ := Jg (P := P) (ρ := ρ) (φ := φ) (u := .sl) (t := t) ⟨e, hu⟩ (show R.good (LK .sl x y κ) from h)
    exact ⟨r, fun κ' => g1 κ', fun X Y w hX hY => g2 X Y 9999 w hX hY⟩
  · rename_i k e hu
    cases hp
    obtain ⟨r, g1, g2⟩ := Jg (P := P) (ρ := ρ) (φ := φ) (u := .map) (t := t) ⟨k, e, hu⟩ (show R.good (LK .map x y κ) from h)
    exact ⟨r, fun κ' => g1 κ', fun X Y w hX hY => g2 X Y 9999 w hX hY⟩
  · rename_i a b c hu
    cases hp
    obtain ⟨r, g1, g2⟩ := Jg (P := P) (ρ := ρ) (φ := φ) (u := .fn) (t := t) ⟨a, b, c, hu⟩ (show R.good (LK .fn x y κ) from h)
    exact ⟨r, fun κ' => g1 κ', fun X Y w hX hY => g2 X Y 9999 w hX hY⟩
  · cases hp
/-- Two keys held against each other: what the model's ways say. -/
def X6 (P:Program) (sc:Bool) (d:TypeDesc) (t:TypeId) (X Y:Value) (r:Bool):Prop :=
  Instr.sameNow d X Y=(if sc then some r else none)∧(∀ w, (Op.equal t X Y).run P w = .ok r w)∧(r=true->Instr.sameBits 10000 Y X=true)
theorem JJ {k:Sc} {X Y:Value} {n:Nat} (h:Wu k X Y true):Instr.sameBits n Y X=true := by
  cases k with
  | i =>
    obtain ⟨kd, a, b, rfl, rfl, hr⟩ := h
    have := eq_of_beq hr.symm
    simp [Instr.sameBits, this]
  | s =>
    obtain ⟨a, b, rfl, rfl, hr⟩ := h
    have := eq_of_beq hr.symm
    simp only [Instr.sameBits, beq_toListBytes, this]; exact beq_self_eq_true _
  | b =>
    obtain ⟨a, b, rfl, rfl, hr⟩ := h
    have := eq_of_beq hr.symm
    simp [Instr.sameBits, this]
theorem TW (ks:List Sc):∀ {a b:List V} {κ:Bool->R}, (QK ks a b κ).good →
    ∃ r, (∀ κ', QK ks a b κ'=κ' r)∧(∀ (pa pb:List V) (offs:List (Nat×Sc)), pa.length=pb.length->offs=ks.zipIdx.map (fun p => (pa.length+p.2, p.1))->∀ κ', L4 offs (pa++a) (pb++b) κ'=κ' r) ∧
      (r=true->∀ xs ys:List Value, DE ρ φ a xs->DE ρ φ b ys->xs.length=ys.length ∧ ∀ n, (ys.zip xs).all (fun (x, y) => Instr.sameBits n x y)=true) := by
  induction ks with
  | nil =>
    intro a b κ h
    cases a with
    | cons u a => exact h.elim
    | nil =>
      cases b with
      | cons v b => exact h.elim
      | nil =>
        refine ⟨true, fun _ => rfl, fun pa pb offs _ ho κ' => by subst ho; rfl, fun _ xs ys hx hy => ?_⟩
        rw [BN] at hx hy; subst hx hy; exact ⟨rfl, fun n => rfl⟩
  | cons k ks ih =>
    intro a b κ h
    cases a with
    | nil => exact h.elim
    | cons u a =>
      cases b with
      | nil => exact h.elim
      | cons v b =>
        have h:R.good (Ng k u v fun r => br r (QK ks a b κ) (κ false)) := h
        obtain ⟨q, e3, hq⟩ := Jh (ρ := ρ) (φ := φ) h
        rw [e3] at h
        have unf:∀ κ', QK (k::ks) (u::a) (v::b) κ'=br q (QK ks a b κ') (κ' false) := fun κ' => e3 _
        have at1:∀ (pa pb:List V) (offs:List (Nat×Sc)), pa.length=pb.length->offs=(k::ks).zipIdx.map (fun p => (pa.length+p.2, p.1))->∀ κ', L4 offs (pa++u::a) (pb++v::b) κ' =
            br q (L4 (ks.zipIdx.map (fun p => ((pa++[u]).length+p.2, p.1))) ((pa++[u])++a) ((pb++[v])++b) κ') (κ' false) := fun pa pb offs hl ho κ' => by
          subst ho
          have n1:∀ (l m:List V) (x:V) (κ:V->R), G6 l.length (l++x::m) κ=κ x := fun l => by
            induction l with
            | nil => intro m x κ; rfl
            | cons y l ih => intro m x κ; exact ih m x κ
          have hz:((k::ks).zipIdx.map (fun p => (pa.length+p.2, p.1)))=(pa.length, k)::ks.zipIdx.map (fun p => ((pa++[u]).length+p.2, p.1)) := by
            rw [List.zipIdx_cons, List.map_cons]
            simp only [Nat.add_zero, List.cons.injEq, true_and]
            rw [List.zipIdx_eq_map_add, List.map_map]
            apply List.map_congr_left
            intro p _
            simp; omega
          rw [hz]
          show G6 pa.length (pa++u::a) (fun u => G6 pa.length (pb++v::b) fun v => Ng k u v fun q => br q (L4 _ (pa++_::a) (pb++_::b) κ') (κ' false))=_
          rw [n1, hl, n1, e3]
          simp
        cases q with
        | true =>
          obtain ⟨r, g1, g2, g3⟩ := ih (show R.good (QK ks a b κ) from h)
          refine ⟨r, fun κ' => (unf κ').trans (g1 κ'), fun pa pb offs hl ho κ' => ?_, fun hr xs ys hx hy => ?_⟩
          · rw [at1 pa pb offs hl ho κ']
            exact g2 (pa++[u]) (pb++[v]) _ (by simp [hl]) rfl κ'
          · obtain ⟨x, xs, rfl, hx, hxs⟩ := AI.1 hx
            obtain ⟨y, ys, rfl, hy, hys⟩ := AI.1 hy
            obtain ⟨h1, h2⟩ := g3 hr xs ys hxs hys
            refine ⟨by simp [h1], fun n => ?_⟩
            have h2 := h2 n
            simp only [List.zip_cons_cons, List.all_cons, JJ (hq x y hx hy), Bool.true_and]
            exact h2
        | false =>
          exact ⟨false, fun κ' => unf κ', fun pa pb offs hl ho κ' => at1 pa pb offs hl ho κ', fun hr => by cases hr⟩
theorem Rc {k:Sc} {t:TypeId} (hk:QW P t=some k) {X Y:Value} {r:Bool} (h:Wu k X Y r):∃ d, P.underlying t=some d∧Instr.sameNow d X Y=some r ∧ ¬ ∃ fs, d = .struct fs := by
  unfold QW at hk
  split at hk
  · cases hk
    rename_i kd hu
    obtain ⟨kd', a, b, rfl, rfl, rfl⟩ := h
    exact ⟨_, hu, by simp [Instr.sameNow], by simp⟩
  · cases hk
    rename_i hu
    obtain ⟨s, u, rfl, rfl, rfl⟩ := h
    exact ⟨_, hu, by simp [Instr.sameNow, beq_toListBytes], by simp⟩
  · cases hk
    rename_i hu
    obtain ⟨s, u, rfl, rfl, rfl⟩ := h
    exact ⟨_, hu, by simp [Instr.sameNow], by simp⟩
  · cases hk
theorem Kl {t:TypeId} {pl:Plan} (hp:Jy P t=some pl):∃ d sc, P.underlying t=some d ∧ ∀ {x y:V} {κ:Bool->R}, (N6 pl x y κ).good →
    ∃ r, (∀ κ', N6 pl x y κ'=κ' r) ∧ ∀ X Y, B1 ρ φ x X->B1 ρ φ y Y->X6 P sc d t X Y r := by
  unfold Jy at hp
  split at hp
  · rename_i fs hu
    split at hp
    · cases hp
    · rename_i hs
      split at hp
      · rename_i offs ho
        split at hp
        · rename_i hr
          cases hp
          refine ⟨_, false, hu, fun {x y κ} h => ?_⟩
          obtain ⟨a, rfl, e⟩ := EF (show R.good (asAgg x _) from h)
          obtain ⟨b, rfl, e'⟩ := EF (show R.good (asAgg y _) from h)
          obtain ⟨r, g1, g2, g3⟩ := TW (ρ := ρ) (φ := φ) (offs.map (·.2)) (show R.good (QK (offs.map (·.2)) a b κ) from h)
          refine ⟨r, fun κ' => g1 κ', fun X Y hX hY => ?_⟩
          obtain ⟨xs, rfl, hx, _⟩ := Gz hX
          obtain ⟨ys, rfl, hy, _⟩ := Gz hY
          have hoffs:offs=(offs.map (·.2)).zipIdx.map (fun p => (([]:List V).length+p.2, p.1)) := by
            apply List.ext_getElem?
            intro i
            rw [List.getElem?_map, List.getElem?_zipIdx, List.getElem?_map]
            cases hi:offs[i]? with
            | none => rfl
            | some p =>
              have h1:(offs.map (·.1))[i]? = some p.1 := by rw [List.getElem?_map, hi]; rfl
              rw [hr] at h1
              have hlt:i<offs.length := by
                rcases Nat.lt_or_ge i offs.length with h' | h'
                · exact h'
                · rw [List.getElem?_eq_none h'] at hi; cases hi
              rw [List.getElem?_range hlt] at h1
              obtain ⟨p1, p2⟩ := p
              simp at h1
              subst h1
              simp
          have hg:(N6 (.st offs) (.agg a) (.agg b) (fun q => R.rv (.bool q) C6 ⟨.d0, .d0, .d0, .d0⟩)).good := by
            show R.good (L4 offs a b (fun q => R.rv (.bool q) C6 ⟨.d0, .d0, .d0, .d0⟩))
            have := g2 [] [] offs rfl hoffs (fun q => R.rv (.bool q) C6 ⟨.d0, .d0, .d0, .d0⟩)
            simp only [List.nil_append] at this
            rw [this]; trivial
          obtain ⟨r', k1, k2⟩ := O2 (ρ := ρ) (φ := φ) hu (by simpa using hs) ho hg
          have hrr:r'=r := by
            have e1 := k1 (fun q => R.rv (.bool q) C6 ⟨.d0, .d0, .d0, .d0⟩)
            have e2:N6 (.st offs) (.agg a) (.agg b) (fun q => R.rv (.bool q) C6 ⟨.d0, .d0, .d0, .d0⟩)=_ := g2 [] [] offs rfl hoffs (fun q => R.rv (.bool q) C6 ⟨.d0, .d0, .d0, .d0⟩)
            rw [e1] at e2
            simpa using e2
          subst hrr
          refine ⟨by simp [Instr.sameNow], fun w => (k2 _ _ 9998 w hX hY).1, fun hr' => ?_⟩
          obtain ⟨h1, h2⟩ := g3 hr' xs.toList ys.toList hx hy
          have h2 := h2 9999
          simp only [Instr.sameBits, Bool.and_eq_true, beq_iff_eq]
          exact ⟨by simpa using h1.symm, h2⟩
        · cases hp
      · cases hp
  · cases hk:QW P t with
    | none => rw [hk] at hp; cases hp
    | some k =>
      rw [hk] at hp; cases hp
      cases hu:P.underlying t with
      | none => simp [QW, hu] at hk
      | some d =>
        refine ⟨d, true, rfl, fun {x y κ} h => ?_⟩
        obtain ⟨r, g1, g2⟩ := Jh (ρ := ρ) (φ := φ) (show R.good (Ng k x y κ) from h)
        refine ⟨r, fun κ' => g1 κ', fun X Y hX hY => ?_⟩
        obtain ⟨d', hd', hn, _⟩ := Rc hk (g2 X Y hX hY)
        rw [hu] at hd'; cases hd'
        exact ⟨hn, fun w => J3 hk (g2 X Y hX hY) 9999, fun hr => by subst hr; exact JJ (g2 X Y hX hY)⟩
/-- Where a key is first found. -/
def Xh (pl:Plan) (k:V):List (V×V)->Option Nat->Prop
  | [], r => r=none
  | e::es, r => ∃ q:Bool, (∀ κ, N6 pl k e.1 κ=κ q)∧if q then r=some 0 else ∃ r', Xh pl k es r'∧r=r'.map (· + 1)
theorem MC {t:TypeId} {pl:Plan} (hp:Jy P t=some pl) {k:V} {κf:V->R} {κn:R}:∀ {es:List (V×V)}, (GU pl k es κf κn).good →
    ∃ r, Xh pl k es r∧match r with | none => GU pl k es κf κn=κn | some i => ∃ e, es[i]? = some e∧GU pl k es κf κn=κf e.2
  | [], h => ⟨none, rfl, rfl⟩
  | (a, b)::es, h => by
    obtain ⟨d, sc, _, hk⟩ := Kl (ρ := { v := fun _ => .nilFunc, ap := fun _ => none }) (φ := fun _ => none) hp
    have h:R.good (N6 pl k a fun r => br r (κf b) (GU pl k es κf κn)) := h
    obtain ⟨q, g1, _⟩ := hk h
    rw [g1] at h
    have unf:GU pl k ((a, b)::es) κf κn=br q (κf b) (GU pl k es κf κn) := g1 _
    cases q with
    | true => exact ⟨some 0, ⟨true, g1, rfl⟩, (a, b), rfl, unf⟩
    | false =>
      obtain ⟨r, h1, h2⟩ := MC hp (show R.good (GU pl k es κf κn) from h)
      refine ⟨r.map (· + 1), ⟨false, g1, r, h1, rfl⟩, ?_⟩
      cases r with
      | none => exact unf.trans h2
      | some i => obtain ⟨e, he, h2⟩ := h2; exact ⟨e, by simpa using he, unf.trans h2⟩
theorem OY {t:TypeId} {pl:Plan} (hp:Jy P t=some pl) {k v:V}:∀ {es:List (V×V)} {κ:List (V×V)->R}, (GP pl k v es κ).good →
    ∃ r, Xh pl k es r∧GP pl k v es κ=κ (match r with | none => es++[(k, v)] | some i => es.set i (k, v))
  | [], κ, h => ⟨none, rfl, rfl⟩
  | (a, b)::es, κ, h => by
    obtain ⟨d, sc, _, hk⟩ := Kl (ρ := { v := fun _ => .nilFunc, ap := fun _ => none }) (φ := fun _ => none) hp
    have h:R.good (N6 pl k a fun r => br r (κ ((k, v)::es)) (GP pl k v es fun l => κ ((a, b)::l))) := h
    obtain ⟨q, g1, _⟩ := hk h
    rw [g1] at h
    have unf:GP pl k v ((a, b)::es) κ=br q (κ ((k, v)::es)) (GP pl k v es fun l => κ ((a, b)::l)) := g1 _
    cases q with
    | true => exact ⟨some 0, ⟨true, g1, rfl⟩, unf⟩
    | false =>
      obtain ⟨r, h1, h2⟩ := OY hp (show R.good (GP pl k v es fun l => κ ((a, b)::l)) from h)
      refine ⟨r.map (· + 1), ⟨false, g1, r, h1, rfl⟩, ?_⟩
      rw [unf]
      show GP pl k v es _=_
      rw [h2]
      cases r <;> rfl
theorem On {t:TypeId} {pl:Plan} (hp:Jy P t=some pl) {k:V}:∀ {es:List (V×V)} {κ:List (V×V)->R}, (JE pl k es κ).good →
    ∃ r, Xh pl k es r∧JE pl k es κ=κ (match r with | none => es | some i => es.eraseIdx i)
  | [], κ, h => ⟨none, rfl, rfl⟩
  | (a, b)::es, κ, h => by
    obtain ⟨d, sc, _, hk⟩ := Kl (ρ := { v := fun _ => .nilFunc, ap := fun _ => none }) (φ := fun _ => none) hp
    have h:R.good (N6 pl k a fun r => br r (κ es) (JE pl k es fun l => κ ((a, b)::l))) := h
    obtain ⟨q, g1, _⟩ := hk h
    rw [g1] at h
    have unf:JE pl k ((a, b)::es) κ=br q (κ es) (JE pl k es fun l => κ ((a, b)::l)) := g1 _
    cases q with
    | true => exact ⟨some 0, ⟨true, g1, rfl⟩, unf⟩
    | false =>
      obtain ⟨r, h1, h2⟩ := On hp (show R.good (JE pl k es fun l => κ ((a, b)::l)) from h)
      refine ⟨r.map (· + 1), ⟨false, g1, r, h1, rfl⟩, ?_⟩
      rw [unf]
      show JE pl k es _=_
      rw [h2]
      cases r <;> rfl
theorem OK {pl:Plan} {k:V}:∀ {es:List (V×V)} {bs:List Nat} {κ:List Nat->R} {r:Option Nat}, (JG pl k es bs κ).good->Xh pl k es r →
    JG pl k es bs κ=κ (match r with | none => bs | some i => bs.eraseIdx i)
  | [], bs, κ, r, _, hf => by have hf:r=none := hf; subst hf; rfl
  | (a, b)::es, [], κ, r, h, _ => h.elim
  | (a, b)::es, c::bs, κ, r, h, hf => by
    obtain ⟨q, g1, hf⟩ := hf
    have h:R.good (N6 pl k a fun r => br r (κ bs) (JG pl k es bs fun l => κ (c::l))) := h
    rw [g1] at h
    have unf:JG pl k ((a, b)::es) (c::bs) κ=br q (κ bs) (JG pl k es bs fun l => κ (c::l)) := g1 _
    cases q with
    | true =>
      have hf:r=some 0 := by simpa using hf
      subst hf; exact unf
    | false =>
      simp only [Bool.false_eq_true, if_false] at hf
      obtain ⟨r', hf', rfl⟩ := hf
      rw [unf]
      show JG pl k es bs _=_
      rw [OK (show R.good (JG pl k es bs fun l => κ (c::l)) from h) hf']
      cases r' <;> rfl
theorem OP:∀ (es:List (V×V)) (bs:List Nat), Iy es bs=decide (es.length=bs.length)
  | [], [] => rfl
  | [], _::_ => rfl
  | _::_, [] => rfl
  | _::es, _::bs => by
    show Iy es bs=_
    rw [OP es bs]; simp
theorem Qx (c:Nat):∀ (bs:List Nat) (κ:List Nat->R), SJ bs c κ=κ (bs++[c])
  | [], _ => rfl
  | b::bs, κ => by
    show SJ bs c (fun l => κ (b::l))=_
    rw [Qx c bs]; rfl
theorem Uo (es:List (V×V)) (bs:List Nat) (c:Nat) (κ:List Nat->Nat->R):U5 es bs c κ=κ (if es.length=bs.length then bs else bs++[c]) (if es.length=bs.length then c else c+1) := by
  unfold U5
  rw [OP, Qx, A2]
  by_cases h:es.length=bs.length <;> simp [h, br]
/-- The model finds what is found here. -/
theorem HE {t:TypeId} {pl:Plan} (hp:Jy P t=some pl) {k:V} {K:Value} (hK:B1 ρ φ k K):∀ {es:List (V×V)} {ents:List MapEntry} {r:Option Nat}, Xh pl k es r->Jd ρ φ es ents →
    (Instr.findKey t K ents).run P w = .ok (r.bind fun i => (ents[i]?).map fun e => (i, e.val)) w ∧
    (∀ i, r=some i->∃ e, ents[i]? = some e∧Instr.sameBits 10000 e.key K=true) := by
  obtain ⟨d, sc, hu, hk⟩ := Kl (ρ := ρ) (φ := φ) hp
  have gd:∀ (x y:V) (q:Bool), (∀ κ, N6 pl x y κ=κ q)->∀ X Y, B1 ρ φ x X->B1 ρ φ y Y->X6 P sc d t X Y q := fun x y q hq X Y hX hY => by
    obtain ⟨r, g1, g2⟩ := hk (x := x) (y := y) (κ := fun q => .rv (.bool q) C6 ⟨.d0, .d0, .d0, .d0⟩) (by rw [hq]; trivial)
    have e1 := hq (fun q => .rv (.bool q) C6 ⟨.d0, .d0, .d0, .d0⟩)
    rw [g1] at e1
    simp at e1
    subst e1
    exact g2 X Y hX hY
  have key:∀ (es:List (V×V)) (ents:List MapEntry) (r:Option Nat) (i:Nat), Xh pl k es r->Jd ρ φ es ents →
      ((sc=true->Instr.findNow d K ents i=some (r.bind fun j => (ents[j]?).map fun e => (i+j, e.val))) ∧
       (sc=false->ents≠[]->Instr.findNow d K ents i=none) ∧
       (Instr.findAsking t K ents i).run P w = .ok (r.bind fun j => (ents[j]?).map fun e => (i+j, e.val)) w) ∧
      (∀ j, r=some j->∃ e, ents[j]? = some e∧Instr.sameBits 10000 e.key K=true) := by
    intro es
    induction es with
    | nil =>
      intro ents r i hf he
      have hf:r=none := hf
      have he:ents=[] := he
      subst hf he
      exact ⟨⟨fun _ => rfl, fun _ h => absurd rfl h, rfl⟩, fun j h => by cases h⟩
    | cons e es ih =>
      intro ents r i hf he
      obtain ⟨q, hq, hf⟩ := hf
      obtain ⟨y, ys, rfl, hy1, hy2, hys⟩ := he
      obtain ⟨n1, n2, n3⟩ := gd k e.1 q hq K y.key hK hy1
      cases q with
      | true =>
        have hf:r=some 0 := by simpa using hf
        subst hf
        refine ⟨⟨fun hs => ?_, fun hs _ => ?_, ?_⟩, fun j hj => ?_⟩
        · subst hs; simp at n1; simp [Instr.findNow, n1]
        · subst hs; simp at n1; simp [Instr.findNow, n1]
        · simp only [Instr.findAsking, Sem.run_bind, n2, Result.andThen_ok, if_true]; simp
        · cases hj; exact ⟨y, rfl, n3 rfl⟩
      | false =>
        simp only [Bool.false_eq_true, if_false] at hf
        obtain ⟨r', hf', rfl⟩ := hf
        obtain ⟨⟨k1, k2, k3⟩, k4⟩ := ih ys r' (i+1) hf' hys
        have hr:((r'.map (· + 1)).bind fun j => ((y::ys)[j]?).map fun e => (i+j, e.val))=r'.bind fun j => (ys[j]?).map fun e => (i+1+j, e.val) := by
          cases r' with
          | none => rfl
          | some j => simp [Nat.add_assoc, Nat.add_comm 1 j]
        refine ⟨⟨fun hs => ?_, fun hs _ => ?_, ?_⟩, fun j hj => ?_⟩
        · subst hs; simp at n1; rw [hr]; simp only [Instr.findNow, n1]; exact k1 rfl
        · subst hs; simp at n1; simp [Instr.findNow, n1]
        · rw [hr]
          simp only [Instr.findAsking, Sem.run_bind, n2, Result.andThen_ok, Bool.false_eq_true, if_false]
          exact k3
        · cases r' with
          | none => cases hj
          | some j' => simp at hj; subst hj; simpa using k4 j' rfl
  intro es ents r hf he
  obtain ⟨⟨k1, k2, k3⟩, k4⟩ := key es ents r 0 hf he
  simp only [Nat.zero_add] at k1 k3
  refine ⟨?_, fun i hi => ?_⟩
  · simp only [Instr.findKey, Sem.run_bind, run_underlying hu, Result.andThen_ok]
    cases sc with
    | true => rw [k1 rfl]; rfl
    | false =>
      cases hen:ents with
      | nil => rw [hen] at k3; simp only [Instr.findNow]; exact k3
      | cons e l => rw [←hen, k2 rfl (by rw [hen]; simp)]; exact k3
  · obtain ⟨e, h1, h2⟩ := k4 i hi
    exact ⟨e, h1, h2⟩
end
end Go.Ev

namespace Go.Ev
set_option linter.unusedVariables false
section
variable {P:Program} {ρ:Env} {B N:Nat} {o:Oper} {cf:CF} {t:Regs} {h:Heap} {n:K4}
theorem M6 {f:KV->R} {v:V} (e:∀ κ, f κ=κ v h n)
    (H:∀ φ a w, TR ρ N φ t a->Gam ρ B h n φ w->∃ x, (execOp a.eval o).run P w = .ok (.value x) w∧B1 ρ φ v x):D6 P ρ B N o f t h n :=
  fun κ _ => ⟨v, e κ, H⟩
theorem Kk {y:Operand} {x:Opd} (ho:o.op = .move y∨o.op = .assign y) (hx:BS N y=some x):D6 P ρ B N o (Wj x cf t h n) t h n :=
  M6 (v := ev x t) (fun κ => BM x t _) fun φ a w ht hg => ⟨a.eval y, by rcases ho with ho | ho <;> simp [execOp, ho], A7 hx ht⟩
theorem Mr {c x y:Operand} {c' x' y':Opd} (ho:o.op = .pick c x y) (hc:BS N c=some c') (hx:BS N x=some x') (hy:BS N y=some y') :
    D6 P ρ B N o (Kf c' x' y' cf t h n) t h n := by
  intro κ hg
  have e:Kf c' x' y' cf t h n κ=QX (ev c' t) fun q => br q (κ (ev x' t) h n) (κ (ev y' t) h n) := by simp only [Kf, BM]
  rw [e] at hg
  obtain ⟨b, hb, e'⟩ := He hg
  refine ⟨if b then ev x' t else ev y' t, e.trans (e'.trans (by cases b <;> rfl)), fun φ a w ht hg => ?_⟩
  have h1 := A7 hc ht
  rw [hb] at h1
  have h1 := GD h1
  refine ⟨if b then a.eval x else a.eval y, by simp [execOp, ho, h1, asBool], ?_⟩
  cases b
  · exact A7 hy ht
  · exact A7 hx ht
theorem Ta {op:BinOp} {x y:V} {κ:V->R} (h:(Nr op x y κ).good) :
    (∃ k a j b, x = .int k a∧y = .int j b∧Nr op x y κ=N7 op k a j b κ)∨(∃ n c m d, x = .str n c∧y = .str m d∧Nr op x y κ=LM op n c m d κ)∨Nr op x y κ=LV op x y κ ∨ ∃ l0 l1 n c m d, x = .oth (.ss l0 l1 n c)∧y = .str m d∧Nr op x y κ=Sr op l0 l1 n c m d κ := by
  cases x with
  | int k a =>
    cases y with
    | int j b => exact .inl ⟨k, a, j, b, rfl, rfl, rfl⟩
    | oth o => exact .inr (.inr (.inl rfl))
    | _ => exact h.elim
  | str n c =>
    obtain ⟨m, d, rfl, e⟩ := E6 (show R.good (Dd y fun m d => LM op n c m d κ) from h)
    exact .inr (.inl ⟨n, c, m, d, rfl, rfl, rfl⟩)
  | oth o =>
    have e0:Nr op (.oth o) y κ=Eu op (.oth o) y κ := rfl
    rcases L2 (.oth o) (fun l0 l1 n c => Dd y fun m d => Sr op l0 l1 n c m d κ) (LV op (.oth o) y κ) with ⟨l0, l1, n, c, e, e1⟩ | e1
    · rw [e0] at h
      have e1:Eu op (.oth o) y κ=_ := e1
      rw [e1] at h
      obtain ⟨m, d, rfl, e2⟩ := E6 h
      exact .inr (.inr (.inr ⟨l0, l1, n, c, m, d, e, rfl, e0.trans (e1.trans e2)⟩))
    · exact .inr (.inr (.inl (e0.trans e1)))
  | _ => exact h.elim
theorem KQ {op:BinOp} {ty yt:TypeId} {x y:Operand} {a:Act} {w:World} {r:Value} (ho:o.op = .binOp op ty x y yt)
    (he:eqGuard op ty x y (a.eval x) (a.eval y)=Pure.pure ()) (hr:(Go.binOp op ty (a.eval x) (a.eval y)).run P w = .ok r w):(execOp a.eval o).run P w = .ok (.value r) w := by
  simp [execOp, ho, he, hr]
theorem XE {f:V->R} {c:Bool} {u v:V}:∃ x, br c (f u) (f v)=f x := by
  cases c
  · exact ⟨v, rfl⟩
  · exact ⟨u, rfl⟩
theorem Ey {v:V} {κ:IntKind->Nat->Nat->R} (hg:(L8 v κ).good):∃ k lo hi, L8 v κ=κ k lo hi ∧ ∀ (ρ:Env) (φ:CP) X, B1 ρ φ v X->∃ r, lo≤r∧r≤hi∧r<Mk k∧X = .int k (Eb k r) := by
  cases v with
  | int k r => exact ⟨k, r, r, rfl, fun ρ φ X hx => by simp only [B1] at hx; exact ⟨r, Nat.le_refl _, Nat.le_refl _, hx.1, hx.2⟩⟩
  | oth o => cases o with
    | iv k lo hi => exact ⟨k, lo, hi, rfl, fun ρ φ X hx => by simpa only [B1] using hx⟩
    | rs m j =>
      obtain ⟨h1, e⟩ := A8 (show R.good (br (Nat.ble 18446744073709551616 m) (br (Nat.ble (Nat.succ m) 36893488147419103232) (κ .i64 0 9223372036854775807) (.fail "")) (.fail "")) from hg)
      have hg:R.good (br (Nat.ble 18446744073709551616 m) (br (Nat.ble (Nat.succ m) 36893488147419103232) (κ .i64 0 9223372036854775807) (.fail "")) (.fail "")) := hg
      rw [e] at hg
      obtain ⟨h2, e2⟩ := A8 hg
      refine ⟨.i64, 0, 9223372036854775807, e.trans e2, fun ρ φ X hx => ?_⟩
      simp only [B1] at hx
      obtain ⟨z, rfl, z1, z2, z3, z4, _⟩ := hx
      have := z4 (A5.1 h1) (A5.1 h2)
      refine ⟨z.toNat, by omega, by omega, by simp only [Mk]; omega, ?_⟩
      rw [B0 (by simp only [Hk]; omega)]
      congr 1; omega
    | sy k i =>
      refine ⟨k, 0, Nat.sub (Mk k) 1, rfl, fun ρ φ X hx => ?_⟩
      simp only [B1] at hx
      obtain ⟨_, r, h1, h2⟩ := hx
      exact ⟨r, Nat.zero_le _, show r≤Mk k - 1 by omega, h1, h2⟩
    | _ => exact hg.elim
  | _ => exact hg.elim
theorem Gy {k:IntKind} {r s:Nat} (hr:r<Mk k) (hs:s<Mk k):(Eb k r<Eb k s ↔ CT (Hk k) (Mk k) r<CT (Hk k) (Mk k) s)∧(Eb k r=Eb k s ↔ CT (Hk k) (Mk k) r=CT (Hk k) (Mk k) s) := by
  have hH := J2 k
  have e:∀ r, r<Mk k->Eb k r=(CT (Hk k) (Mk k) r:Int) - ((Mk k - Hk k:Nat):Int) := fun r hr => by
    unfold CT
    by_cases h:Hk k≤r
    · rw [A5.2 h, Aa, Fq (by omega)]
      show _=((r - Hk k:Nat):Int) - _
      omega
    · rw [CO (by omega), AJ, B0 (by omega)]
      show _=((r+(Mk k - Hk k):Nat):Int) - _
      omega
  rw [e r hr, e s hs]
  constructor <;> omega
theorem En {H M lo hi r:Nat} (ho:EG H lo hi=true) (h1:lo≤r) (h2:r≤hi):CT H M lo≤CT H M r∧CT H M r≤CT H M hi := by
  unfold EG at ho
  unfold CT
  by_cases h:hi+1≤H
  · rw [CO (by omega), CO (by omega), CO (by omega)]
    simp only [AJ]
    exact ⟨Nat.add_le_add_right h1 _, Nat.add_le_add_right h2 _⟩
  · rw [CO (by omega), AJ] at ho
    have ho := A5.1 ho
    rw [A5.2 (by omega), A5.2 (by omega), A5.2 (by omega)]
    simp only [Aa]
    exact ⟨Nat.sub_le_sub_right h1 _, Nat.sub_le_sub_right h2 _⟩
theorem GL {ρ:Env} {φ:CP} (b:Bool):B1 ρ φ (.oth .bl) (.bool b) := by simp only [B1]; exact ⟨b, rfl⟩
theorem SG (a b c d:Nat) (κ:V->R):∃ v, W4 a b c d κ=κ v ∧ ∀ p q, a≤p->p≤b->c≤q->q≤d->∀ (ρ:Env) (φ:CP), B1 ρ φ v (.bool (decide (p<q))) := by
  unfold W4
  by_cases h1:b+1≤c
  · exact ⟨.bool true, by rw [A5.2 h1, Aa], fun p q _ _ _ _ ρ φ => by rw [decide_eq_true (by omega)]; exact DP _ ρ φ⟩
  · rw [CO (by omega), AJ]
    by_cases h2:d≤a
    · exact ⟨.bool false, by rw [A5.2 h2, Aa], fun p q _ _ _ _ ρ φ => by rw [decide_eq_false (by omega)]; exact DP _ ρ φ⟩
    · exact ⟨_, by rw [CO (by omega), AJ], fun p q _ _ _ _ ρ φ => GL _⟩
theorem SN (a b c d:Nat) (κ:V->R):∃ v, VZ a b c d κ=κ v ∧ ∀ p q, a≤p->p≤b->c≤q->q≤d->∀ (ρ:Env) (φ:CP), B1 ρ φ v (.bool (decide (q≤p))) := by
  unfold VZ
  by_cases h1:b+1≤c
  · exact ⟨.bool false, by rw [A5.2 h1, Aa], fun p q _ _ _ _ ρ φ => by rw [decide_eq_false (by omega)]; exact DP _ ρ φ⟩
  · rw [CO (by omega), AJ]
    by_cases h2:d≤a
    · exact ⟨.bool true, by rw [A5.2 h2, Aa], fun p q _ _ _ _ ρ φ => by rw [decide_eq_true (by omega)]; exact DP _ ρ φ⟩
    · exact ⟨_, by rw [CO (by omega), AJ], fun p q _ _ _ _ ρ φ => GL _⟩
theorem OH {a b c d:Nat} (h:P0 a b c d=true):a=b∧b=c∧c=d := by
  unfold P0 at h
  cases h1:Nat.beq a b with
  | false => rw [h1] at h; cases h
  | true =>
    rw [h1, Aa] at h
    cases h2:Nat.beq b c with
    | false => rw [h2] at h; cases h
    | true => rw [h2, Aa] at h; exact ⟨Nat.eq_of_beq_eq_true h1, Nat.eq_of_beq_eq_true h2, Nat.eq_of_beq_eq_true h⟩
theorem WO (a b c d:Nat) (κ:V->R):∃ v, XI a b c d κ=κ v ∧ ∀ p q, a≤p->p≤b->c≤q->q≤d->∀ (ρ:Env) (φ:CP), B1 ρ φ v (.bool (decide (p=q))) := by
  unfold XI
  by_cases h1:b+1≤c
  · exact ⟨.bool false, by rw [A5.2 h1, Aa], fun p q _ _ _ _ ρ φ => by rw [decide_eq_false (by omega)]; exact DP _ ρ φ⟩
  · rw [CO (by omega), AJ]
    by_cases h2:d+1≤a
    · exact ⟨.bool false, by rw [A5.2 h2, Aa], fun p q _ _ _ _ ρ φ => by rw [decide_eq_false (by omega)]; exact DP _ ρ φ⟩
    · rw [CO (by omega), AJ]
      cases h3:P0 a b c d with
      | true => obtain ⟨h4, h5, h6⟩ := OH h3; exact ⟨.bool true, by rw [Aa], fun p q _ _ _ _ ρ φ => by rw [decide_eq_true (by omega)]; exact DP _ ρ φ⟩
      | false => exact ⟨_, by rw [AJ], fun p q _ _ _ _ ρ φ => GL _⟩
theorem VS (a b c d:Nat) (κ:V->R):∃ v, Xo a b c d κ=κ v ∧ ∀ p q, a≤p->p≤b->c≤q->q≤d->∀ (ρ:Env) (φ:CP), B1 ρ φ v (.bool (decide (p≠q))) := by
  unfold Xo
  by_cases h1:b+1≤c
  · exact ⟨.bool true, by rw [A5.2 h1, Aa], fun p q _ _ _ _ ρ φ => by rw [decide_eq_true (by omega)]; exact DP _ ρ φ⟩
  · rw [CO (by omega), AJ]
    by_cases h2:d+1≤a
    · exact ⟨.bool true, by rw [A5.2 h2, Aa], fun p q _ _ _ _ ρ φ => by rw [decide_eq_true (by omega)]; exact DP _ ρ φ⟩
    · rw [CO (by omega), AJ]
      cases h3:P0 a b c d with
      | true => obtain ⟨h4, h5, h6⟩ := OH h3; exact ⟨.bool false, by rw [Aa], fun p q _ _ _ _ ρ φ => by rw [decide_eq_false (by omega)]; exact DP _ ρ φ⟩
      | false => exact ⟨_, by rw [AJ], fun p q _ _ _ _ ρ φ => GL _⟩
theorem R5 {op:BinOp} {κ:V->R} (hg:(JK op κ).good):JK op κ=κ (.oth .bl) ∧ ∀ k p q, G9 op (.int k p) (.int k q) (.oth .bl) := by
  cases op with
  | lss => exact ⟨rfl, fun k p q => ⟨.bool (decide (p<q)), fun P t w => by rw [binOp_lss, Sem.run_pure], fun ρ φ => GL _⟩⟩
  | gtr => exact ⟨rfl, fun k p q => ⟨.bool (decide (p > q)), fun P t w => by rw [binOp_gtr, Sem.run_pure], fun ρ φ => GL _⟩⟩
  | leq => exact ⟨rfl, fun k p q => ⟨.bool (decide (p≤q)), fun P t w => by rw [binOp_leq, Sem.run_pure], fun ρ φ => GL _⟩⟩
  | geq => exact ⟨rfl, fun k p q => ⟨.bool (decide (p ≥ q)), fun P t w => by rw [binOp_geq, Sem.run_pure], fun ρ φ => GL _⟩⟩
  | eql => exact ⟨rfl, fun k p q => ⟨.bool (p == q), fun P t w => by rw [binOp_eql, Sem.run_pure], fun ρ φ => GL _⟩⟩
  | neq => exact ⟨rfl, fun k p q => ⟨.bool (p != q), fun P t w => by rw [binOp_neq, Sem.run_pure], fun ρ φ => GL _⟩⟩
  | _ => exact hg.elim
theorem TZ {op:BinOp} {x y:V} {κ:V->R} (hg:(IQ op x y κ).good):∃ v, IQ op x y κ=κ v ∧ ∀ (ρ:Env) (φ:CP) X Y, B1 ρ φ x X->B1 ρ φ y Y →
    ∃ k p q, X = .int k p∧Y = .int k q∧G9 op X Y v := by
  unfold IQ at hg ⊢
  obtain ⟨k, a, b, e1, H1⟩ := Ey hg
  rw [e1] at hg ⊢
  obtain ⟨j, c, d, e2, H2⟩ := Ey hg
  rw [e2] at hg ⊢
  obtain ⟨hk, e3⟩ := A8 hg
  rw [e3] at hg ⊢
  obtain rfl := BV.1 hk
  have any0:∀ {κ':V->R}, (JK op κ').good->∃ v, JK op κ'=κ' v ∧ ∀ (ρ:Env) (φ:CP) X Y, B1 ρ φ x X->B1 ρ φ y Y->∃ k p q, X = .int k p∧Y = .int k q∧G9 op X Y v := fun hg => by
    obtain ⟨e, H⟩ := R5 hg
    refine ⟨_, e, fun ρ φ X Y hX hY => ?_⟩
    obtain ⟨r, r1, r2, r3, rfl⟩ := H1 ρ φ X hX
    obtain ⟨s, s1, s2, s3, rfl⟩ := H2 ρ φ Y hY
    exact ⟨k, _, _, rfl, rfl, H k _ _⟩
  have any:∀ {κ':V->R}, (UM op a b c d κ').good->∃ v, UM op a b c d κ'=κ' v ∧ ∀ (ρ:Env) (φ:CP) X Y, B1 ρ φ x X->B1 ρ φ y Y->∃ k p q, X = .int k p∧Y = .int k q∧G9 op X Y v := fun {κ'} hg => by
    unfold UM at hg ⊢
    cases ha:br (Nat.ble (Nat.succ b) c) true (Nat.ble (Nat.succ d) a) with
    | false => rw [ha] at hg; exact any0 hg
    | true =>
      rw [ha] at hg
      have hap:b<c∨d<a := by
        cases h1:Nat.ble (Nat.succ b) c with
        | true => exact .inl (A5.1 h1)
        | false =>
          rw [h1] at ha
          exact .inr (A5.1 (show Nat.ble (Nat.succ d) a=true from ha))
      have ne:∀ (ρ:Env) (φ:CP) X Y, B1 ρ φ x X->B1 ρ φ y Y->∃ r s, X = .int k (Eb k r)∧Y = .int k (Eb k s)∧Eb k r≠Eb k s := fun ρ φ X Y hX hY => by
        obtain ⟨r, r1, r2, r3, rfl⟩ := H1 ρ φ X hX
        obtain ⟨s, s1, s2, s3, rfl⟩ := H2 ρ φ Y hY
        exact ⟨r, s, rfl, rfl, fun h => by have := LU r3 s3 h; omega⟩
      by_cases he:op = .eql
      · subst he
        refine ⟨.bool false, rfl, fun ρ φ X Y hX hY => ?_⟩
        obtain ⟨r, s, rfl, rfl, h⟩ := ne ρ φ X Y hX hY
        refine ⟨k, _, _, rfl, rfl, .bool false, fun P t w => ?_, fun ρ φ => by simp only [B1]⟩
        rw [binOp_eql, Sem.run_pure]
        congr 2
        exact beq_false_of_ne h
      · by_cases he2:op = .neq
        · subst he2
          refine ⟨.bool true, rfl, fun ρ φ X Y hX hY => ?_⟩
          obtain ⟨r, s, rfl, rfl, h⟩ := ne ρ φ X Y hX hY
          refine ⟨k, _, _, rfl, rfl, .bool true, fun P t w => ?_, fun ρ φ => by simp only [B1]⟩
          rw [binOp_neq, Sem.run_pure]
          congr 2
          exact bne_iff_ne.2 h
        · have e:WN op κ' (JK op κ')=JK op κ' := by cases op <;> first | rfl | exact absurd rfl he | exact absurd rfl he2
          have hg:(WN op κ' (JK op κ')).good := hg
          rw [e] at hg
          show ∃ v, WN op κ' (JK op κ')=_∧_
          rw [e]
          exact any0 hg
  cases o1:EG (Hk k) a b with
  | false => rw [o1] at hg; exact any hg
  | true =>
  rw [o1, Aa] at hg
  show ∃ v, br (EG (Hk k) c d) _ _=_∧_
  cases o2:EG (Hk k) c d with
  | false => rw [o2] at hg; exact any hg
  | true =>
  rw [o2, Aa] at hg
  show ∃ v, Z0 op _ _ _ _ κ=_∧_
  have bd:∀ (ρ:Env) (φ:CP) X Y, B1 ρ φ x X->B1 ρ φ y Y->∃ r s, X = .int k (Eb k r)∧Y = .int k (Eb k s)∧r<Mk k∧s<Mk k ∧
      CT (Hk k) (Mk k) a≤CT (Hk k) (Mk k) r∧CT (Hk k) (Mk k) r≤CT (Hk k) (Mk k) b∧CT (Hk k) (Mk k) c≤CT (Hk k) (Mk k) s∧CT (Hk k) (Mk k) s≤CT (Hk k) (Mk k) d := fun ρ φ X Y hX hY => by
    obtain ⟨r, r1, r2, r3, rfl⟩ := H1 ρ φ X hX
    obtain ⟨s, s1, s2, s3, rfl⟩ := H2 ρ φ Y hY
    have := En (M := Mk k) o1 r1 r2
    have := En (M := Mk k) o2 s1 s2
    exact ⟨r, s, rfl, rfl, r3, s3, by omega, by omega, by omega, by omega⟩
  cases op with
  | lss =>
    obtain ⟨v, e, H⟩ := SG (CT (Hk k) (Mk k) a) (CT (Hk k) (Mk k) b) (CT (Hk k) (Mk k) c) (CT (Hk k) (Mk k) d) κ
    refine ⟨v, e, fun ρ φ X Y hX hY => ?_⟩
    obtain ⟨r, s, rfl, rfl, hr, hs, k1, k2, k3, k4⟩ := bd ρ φ X Y hX hY
    refine ⟨k, _, _, rfl, rfl, .bool (decide (CT (Hk k) (Mk k) r<CT (Hk k) (Mk k) s)), fun P t w => ?_, fun ρ φ => H _ _ k1 k2 k3 k4 ρ φ⟩
    rw [binOp_lss, Sem.run_pure, decide_eq_decide.2 (Gy hr hs).1]
  | gtr =>
    obtain ⟨v, e, H⟩ := SG (CT (Hk k) (Mk k) c) (CT (Hk k) (Mk k) d) (CT (Hk k) (Mk k) a) (CT (Hk k) (Mk k) b) κ
    refine ⟨v, e, fun ρ φ X Y hX hY => ?_⟩
    obtain ⟨r, s, rfl, rfl, hr, hs, k1, k2, k3, k4⟩ := bd ρ φ X Y hX hY
    refine ⟨k, _, _, rfl, rfl, .bool (decide (CT (Hk k) (Mk k) s<CT (Hk k) (Mk k) r)), fun P t w => ?_, fun ρ φ => H _ _ k3 k4 k1 k2 ρ φ⟩
    rw [binOp_gtr, Sem.run_pure]
    congr 2
    exact decide_eq_decide.2 (Gy hs hr).1
  | leq =>
    obtain ⟨v, e, H⟩ := SN (CT (Hk k) (Mk k) c) (CT (Hk k) (Mk k) d) (CT (Hk k) (Mk k) a) (CT (Hk k) (Mk k) b) κ
    refine ⟨v, e, fun ρ φ X Y hX hY => ?_⟩
    obtain ⟨r, s, rfl, rfl, hr, hs, k1, k2, k3, k4⟩ := bd ρ φ X Y hX hY
    refine ⟨k, _, _, rfl, rfl, .bool (decide (CT (Hk k) (Mk k) r≤CT (Hk k) (Mk k) s)), fun P t w => ?_, fun ρ φ => H _ _ k3 k4 k1 k2 ρ φ⟩
    rw [binOp_leq, Sem.run_pure]
    congr 2
    exact decide_eq_decide.2 (by have := (Gy hs hr).1; omega)
  | geq =>
    obtain ⟨v, e, H⟩ := SN (CT (Hk k) (Mk k) a) (CT (Hk k) (Mk k) b) (CT (Hk k) (Mk k) c) (CT (Hk k) (Mk k) d) κ
    refine ⟨v, e, fun ρ φ X Y hX hY => ?_⟩
    obtain ⟨r, s, rfl, rfl, hr, hs, k1, k2, k3, k4⟩ := bd ρ φ X Y hX hY
    refine ⟨k, _, _, rfl, rfl, .bool (decide (CT (Hk k) (Mk k) s≤CT (Hk k) (Mk k) r)), fun P t w => ?_, fun ρ φ => H _ _ k1 k2 k3 k4 ρ φ⟩
    rw [binOp_geq, Sem.run_pure]
    congr 2
    exact decide_eq_decide.2 (by have := (Gy hr hs).1; omega)
  | eql =>
    obtain ⟨v, e, H⟩ := WO (CT (Hk k) (Mk k) a) (CT (Hk k) (Mk k) b) (CT (Hk k) (Mk k) c) (CT (Hk k) (Mk k) d) κ
    refine ⟨v, e, fun ρ φ X Y hX hY => ?_⟩
    obtain ⟨r, s, rfl, rfl, hr, hs, k1, k2, k3, k4⟩ := bd ρ φ X Y hX hY
    refine ⟨k, _, _, rfl, rfl, .bool (decide (CT (Hk k) (Mk k) r=CT (Hk k) (Mk k) s)), fun P t w => ?_, fun ρ φ => H _ _ k1 k2 k3 k4 ρ φ⟩
    rw [binOp_eql, Sem.run_pure]
    congr 2
    rw [Bool.eq_iff_iff, beq_iff_eq, decide_eq_true_iff]
    exact (Gy hr hs).2
  | neq =>
    obtain ⟨v, e, H⟩ := VS (CT (Hk k) (Mk k) a) (CT (Hk k) (Mk k) b) (CT (Hk k) (Mk k) c) (CT (Hk k) (Mk k) d) κ
    refine ⟨v, e, fun ρ φ X Y hX hY => ?_⟩
    obtain ⟨r, s, rfl, rfl, hr, hs, k1, k2, k3, k4⟩ := bd ρ φ X Y hX hY
    refine ⟨k, _, _, rfl, rfl, .bool (decide (CT (Hk k) (Mk k) r≠CT (Hk k) (Mk k) s)), fun P t w => ?_, fun ρ φ => H _ _ k1 k2 k3 k4 ρ φ⟩
    rw [binOp_neq, Sem.run_pure]
    congr 2
    rw [Bool.eq_iff_iff, bne_iff_ne, decide_eq_true_iff]
    exact not_congr (Gy hr hs).2
  | _ => exact hg.elim
theorem XN {k:IntKind} {r s:Nat} (hr:r<Mk k) (hs:s<Mk k) (h:r+s<Hk k):G9 .add (.int k (Eb k r)) (.int k (Eb k s)) (.int k (r+s)) := by
  have e0:N7 .add k r k s (fun v => R.rv v C6 ⟨.d0, .d0, .d0, .d0⟩)=R.rv (.int k (r+s)) C6 ⟨.d0, .d0, .d0, .d0⟩ := by
    show br (D0 k k) (A4 (Nat.mod (Nat.add r s) (Mk k)) fun r => R.rv (.int k r) C6 ⟨.d0, .d0, .d0, .d0⟩) (.fail "")=_
    rw [BV.2 rfl, Aa, A2]
    show R.rv (.int k ((r+s) % Mk k)) _ _=_
    rw [Nat.mod_eq_of_lt (Nat.lt_of_lt_of_le h (J2 k))]
  obtain ⟨v, e, H⟩ := I9 .add k r k s (fun v => R.rv v C6 ⟨.d0, .d0, .d0, .d0⟩) hr hs (by rw [e0]; trivial)
  rw [e0] at e
  cases e
  exact H
theorem add_mod {k:IntKind} {r s:Nat} (hr:r<Mk k) (hs:s<Mk k):G9 .add (.int k (Eb k r)) (.int k (Eb k s)) (.int k ((r+s) % Mk k)) := by
  have e0:N7 .add k r k s (fun v => R.rv v C6 ⟨.d0, .d0, .d0, .d0⟩)=R.rv (.int k ((r+s) % Mk k)) C6 ⟨.d0, .d0, .d0, .d0⟩ := by
    show br (D0 k k) (A4 (Nat.mod (Nat.add r s) (Mk k)) fun r => R.rv (.int k r) C6 ⟨.d0, .d0, .d0, .d0⟩) (.fail "")=_
    rw [BV.2 rfl, Aa, A2]
    rfl
  obtain ⟨v, e, H⟩ := I9 .add k r k s (fun v => R.rv v C6 ⟨.d0, .d0, .d0, .d0⟩) hr hs (by rw [e0]; trivial)
  rw [e0] at e
  cases e
  exact H
theorem XD {k:IntKind} {r s:Nat} (hr:r<Mk k) (hs:s<Mk k) (h:s≤r):G9 .sub (.int k (Eb k r)) (.int k (Eb k s)) (.int k (r - s)) := by
  have e0:N7 .sub k r k s (fun v => R.rv v C6 ⟨.d0, .d0, .d0, .d0⟩)=R.rv (.int k (r - s)) C6 ⟨.d0, .d0, .d0, .d0⟩ := by
    show br (D0 k k) (A4 (Nat.mod (Nat.add r (Nat.sub (Mk k) s)) (Mk k)) fun r => R.rv (.int k r) C6 ⟨.d0, .d0, .d0, .d0⟩) (.fail "")=_
    rw [BV.2 rfl, Aa, A2]
    show R.rv (.int k ((r+(Mk k - s)) % Mk k)) _ _=_
    rw [show r+(Mk k - s)=r - s+Mk k by omega, Nat.add_mod_right, Nat.mod_eq_of_lt (by omega)]
  obtain ⟨v, e, H⟩ := I9 .sub k r k s (fun v => R.rv v C6 ⟨.d0, .d0, .d0, .d0⟩) hr hs (by rw [e0]; trivial)
  rw [e0] at e
  cases e
  exact H
theorem G9.iv {op:BinOp} {x y:Value} {k:IntKind} {r lo hi:Nat} (h:G9 op x y (.int k r)) (h1:lo≤r) (h2:r≤hi):G9 op x y (.oth (.iv k lo hi)) := by
  obtain ⟨z, hz, hr⟩ := h
  refine ⟨z, hz, fun ρ φ => ?_⟩
  have := hr ρ φ
  simp only [B1] at this ⊢
  exact ⟨r, h1, h2, this.1, this.2⟩
theorem Ux {r b:Nat} (h1:r<Hk .i64) (h2:b<Hk .i64) (h3:1≤b):G9 .rem (.int .i64 (Eb .i64 r)) (.int .i64 (Eb .i64 b)) (.int .i64 (r % b)) := by
  have hd:r % b<Hk .i64 := Nat.lt_of_le_of_lt (Nat.mod_le r b) h1
  have hp:PH .i64 r .i64 b (br (Nat.ble 1 b) (A4 (Nat.mod r b) fun r => R.rv (.int .i64 r) C6 ⟨.d0, .d0, .d0, .d0⟩) (.fail ""))=R.rv (.int .i64 (r % b)) C6 ⟨.d0, .d0, .d0, .d0⟩ := by
    unfold PH
    rw [BV.2 rfl, Aa, A5.2 (show r+1≤Hk .i64 from h1), Aa, A5.2 (show b+1≤Hk .i64 from h2), Aa, A5.2 h3, Aa, A2]
    rfl
  have hp:N7 .rem .i64 r .i64 b (fun v => R.rv v C6 ⟨.d0, .d0, .d0, .d0⟩)=R.rv (.int .i64 (r % b)) C6 ⟨.d0, .d0, .d0, .d0⟩ := hp
  obtain ⟨v, e, H⟩ := I9 .rem .i64 r .i64 b (fun v => R.rv v C6 ⟨.d0, .d0, .d0, .d0⟩) (Nat.lt_of_lt_of_le h1 (J2 .i64)) (Nat.lt_of_lt_of_le h2 (J2 .i64)) (by rw [hp]; trivial)
  rw [hp] at e
  cases e
  exact H
theorem Wv {p:Int} {b:Nat} (p1 : -9223372036854775808≤p) (p2:p<9223372036854775808) (h1:1≤b) (h2:b<Hk .i64):G9 .rem (.int .i64 p) (.int .i64 (Eb .i64 b)) (.oth (.iv .i64 0 18446744073709551615)) := by
  have hz:(p.tmod b).natAbs<9223372036854775808 := by
    rw [Int.natAbs_tmod]
    have h2:b<9223372036854775808 := h2
    have := Nat.mod_lt p.natAbs (show (b:Int).natAbs > 0 by omega)
    omega
  refine ⟨.int .i64 (p.tmod b), fun P t w => ?_, fun ρ φ => ?_⟩
  · rw [B0 h2, binOp_rem]
    simp only [Op.intDiv]
    rw [if_neg (by omega)]
    simp only [Sem.run_pure]
  · simp only [B1]
    generalize p.tmod b=z at hz
    by_cases h0:0≤z
    · refine ⟨z.toNat, Nat.zero_le _, by omega, by simp only [Mk]; omega, ?_⟩
      rw [B0 (by simp only [Hk]; omega)]; congr 1; omega
    · refine ⟨(z+18446744073709551616).toNat, Nat.zero_le _, by omega, by simp only [Mk]; omega, ?_⟩
      rw [Fq (by simp only [Hk]; omega)]; congr 1; simp only [Mk]; omega
theorem QY {x y:V} {κ:V->R} (hg:(RZ x y κ).good):∃ v, RZ x y κ=κ v ∧ ∀ (ρ:Env) (φ:CP) X Y, B1 ρ φ x X->B1 ρ φ y Y →
    ∃ k p q, X = .int k p∧Y = .int k q∧G9 .rem X Y v := by
  unfold RZ at hg ⊢
  obtain ⟨k, a, b, e1, H1⟩ := Ey hg
  rw [e1] at hg ⊢
  obtain ⟨j, d, rfl, e2⟩ := Ew hg
  rw [e2] at hg ⊢
  obtain ⟨hk, e3⟩ := A8 hg
  rw [e3] at hg ⊢
  obtain rfl := BV.1 hk
  obtain ⟨hj, e4⟩ := A8 hg
  rw [e4] at hg ⊢
  obtain rfl := BV.1 hj
  obtain ⟨h1, e5⟩ := A8 hg
  rw [e5] at hg ⊢
  obtain ⟨h2, e6⟩ := A8 hg
  rw [e6] at hg ⊢
  have h1 := A5.1 h1
  have h2:d+1≤9223372036854775808 := A5.1 h2
  have hd:d<Hk .i64 := by simp only [Hk]; omega
  have hY:∀ (ρ:Env) (φ:CP) Y, B1 ρ φ (.int .i64 d) Y->Y = .int .i64 (Eb .i64 d) := fun ρ φ Y h => by
    have h:d<Mk .i64∧Y = .int .i64 (Eb .i64 d) := by simpa only [B1] using h
    exact h.2
  cases hb:Nat.ble (Nat.succ b) 9223372036854775808 with
  | true =>
    have hb:b+1≤9223372036854775808 := A5.1 hb
    refine ⟨.oth (.iv .i64 0 (d - 1)), by rw [Aa, A2]; rfl, fun ρ φ X Y hX hY' => ?_⟩
    obtain ⟨r, r1, r2, r3, rfl⟩ := H1 ρ φ X hX
    obtain rfl := hY ρ φ Y hY'
    have hr:r<Hk .i64 := by simp only [Hk]; omega
    exact ⟨.i64, _, _, rfl, rfl, (Ux hr hd h1).iv (Nat.zero_le _) (by have := Nat.mod_lt r (show d > 0 by omega); omega)⟩
  | false =>
    refine ⟨_, rfl, fun ρ φ X Y hX hY' => ?_⟩
    obtain ⟨r, r1, r2, r3, rfl⟩ := H1 ρ φ X hX
    obtain rfl := hY ρ φ Y hY'
    have hw : -9223372036854775808≤Eb .i64 r∧Eb .i64 r<9223372036854775808 := by
      have r3:r<18446744073709551616 := r3
      by_cases h:r<Hk .i64
      · rw [B0 h]; have h:r<9223372036854775808 := h; omega
      · rw [Fq (by omega)]; have h:¬ r<9223372036854775808 := h; simp only [Mk]; omega
    exact ⟨.i64, _, _, rfl, rfl, Wv hw.1 hw.2 h1 hd⟩
theorem NF {op:BinOp} {x y:V} {κ:V->R} (hg:(I4 op x y κ).good):∃ v, I4 op x y κ=κ v ∧ ∀ (ρ:Env) (φ:CP) X Y, B1 ρ φ x X->B1 ρ φ y Y →
    ∃ k p q, X = .int k p∧Y = .int k q∧G9 op X Y v := by
  by_cases h1:op = .add
  · subst h1
    have hg:(Sd x y κ).good := hg
    show ∃ v, Sd x y κ=κ v∧_
    unfold Sd at hg ⊢
    obtain ⟨k, a, b, e1, H1⟩ := Ey hg
    rw [e1] at hg ⊢
    obtain ⟨j, c, d, e2, H2⟩ := Ey hg
    rw [e2] at hg ⊢
    obtain ⟨hk, e3⟩ := A8 hg
    rw [e3] at hg ⊢
    obtain rfl := BV.1 hk
    rw [A2, A2] at hg ⊢
    cases hh:Nat.ble (Nat.succ (Nat.add b d)) (Hk k) with
    | true =>
      have hh:b+d+1≤Hk k := A5.1 hh
      refine ⟨_, rfl, fun ρ φ X Y hX hY => ?_⟩
      obtain ⟨r, r1, r2, r3, rfl⟩ := H1 ρ φ X hX
      obtain ⟨s, s1, s2, s3, rfl⟩ := H2 ρ φ Y hY
      exact ⟨k, _, _, rfl, rfl, (XN r3 s3 (by omega)).iv (show a+c≤r+s by omega) (show r+s≤b+d by omega)⟩
    | false =>
      refine ⟨.oth (.iv k 0 (Mk k - 1)), by rw [AJ, A2]; rfl, fun ρ φ X Y hX hY => ?_⟩
      obtain ⟨r, r1, r2, r3, rfl⟩ := H1 ρ φ X hX
      obtain ⟨s, s1, s2, s3, rfl⟩ := H2 ρ φ Y hY
      exact ⟨k, _, _, rfl, rfl, (add_mod r3 s3).iv (Nat.zero_le _) (by have := Nat.mod_lt (r+s) (GO k); omega)⟩
  · by_cases h2:op = .sub
    · subst h2
      have hg:(SO x y κ).good := hg
      show ∃ v, SO x y κ=κ v∧_
      unfold SO at hg ⊢
      obtain ⟨k, a, b, e1, H1⟩ := Ey hg
      rw [e1] at hg ⊢
      obtain ⟨j, c, d, e2, H2⟩ := Ey hg
      rw [e2] at hg ⊢
      obtain ⟨hk, e3⟩ := A8 hg
      rw [e3] at hg ⊢
      obtain rfl := BV.1 hk
      obtain ⟨q1, e4⟩ := A8 hg
      rw [e4] at hg ⊢
      obtain ⟨q2, e5⟩ := A8 hg
      rw [e5, A2, A2]
      have q1:d≤a := A5.1 q1
      refine ⟨_, rfl, fun ρ φ X Y hX hY => ?_⟩
      obtain ⟨r, r1, r2, r3, rfl⟩ := H1 ρ φ X hX
      obtain ⟨s, s1, s2, s3, rfl⟩ := H2 ρ φ Y hY
      exact ⟨k, _, _, rfl, rfl, (XD r3 s3 (by omega)).iv (show a - d≤r - s by omega) (show r - s≤b - c by omega)⟩
    · by_cases h3:op = .rem
      · subst h3; exact QY hg
      have e:I4 op x y κ=IQ op x y κ := by cases op <;> first | rfl | exact absurd rfl h1 | exact absurd rfl h2 | exact absurd rfl h3
      rw [e] at hg ⊢
      exact TZ hg
/-- The greater of two. -/
theorem QI {a b c d:Nat} {yes no:R} (hg:(VI a b c d yes no).good):(VI a b c d yes no=yes∧b<c)∨(VI a b c d yes no=no∧d≤a) := by
  unfold VI at hg ⊢
  cases h:Nat.ble (Nat.succ b) c with
  | true => exact .inl ⟨rfl, A5.1 h⟩
  | false =>
    rw [h] at hg
    obtain ⟨h2, e⟩ := A8 (show R.good (br (Nat.ble d a) no (.fail "")) from hg)
    exact .inr ⟨e, A5.1 h2⟩
theorem V9 {x y:V} {κ:V->R} (hg:(Yb x y κ).good):∃ u, Yb x y κ=κ u ∧ ∀ (ρ:Env) (φ:CP) X Y, B1 ρ φ x X->B1 ρ φ y Y →
    ∃ k p q, X = .int k p∧Y = .int k q∧B1 ρ φ u (.int k (if q > p then q else p)) := by
  unfold Yb at hg ⊢
  obtain ⟨k, a, b, e1, H1⟩ := Ey hg
  rw [e1] at hg ⊢
  obtain ⟨j, c, d, e2, H2⟩ := Ey hg
  rw [e2] at hg ⊢
  obtain ⟨hk, e3⟩ := A8 hg
  rw [e3] at hg ⊢
  obtain rfl := BV.1 hk
  obtain ⟨o1, e4⟩ := A8 hg
  rw [e4] at hg ⊢
  obtain ⟨o2, e5⟩ := A8 hg
  rw [e5] at hg ⊢
  rcases QI hg with ⟨e, h⟩ | ⟨e, h⟩
  · refine ⟨y, e, fun ρ φ X Y hX hY => ?_⟩
    obtain ⟨r, r1, r2, r3, rfl⟩ := H1 ρ φ X hX
    obtain ⟨s, s1, s2, s3, rfl⟩ := H2 ρ φ Y hY
    have k1 := En (M := Mk k) o1 r1 r2
    have k2 := En (M := Mk k) o2 s1 s2
    have := (Gy r3 s3).1
    exact ⟨k, _, _, rfl, rfl, by rw [if_pos (by omega)]; exact hY⟩
  · refine ⟨x, e, fun ρ φ X Y hX hY => ?_⟩
    obtain ⟨r, r1, r2, r3, rfl⟩ := H1 ρ φ X hX
    obtain ⟨s, s1, s2, s3, rfl⟩ := H2 ρ φ Y hY
    have k1 := En (M := Mk k) o1 r1 r2
    have k2 := En (M := Mk k) o2 s1 s2
    have := (Gy r3 s3).1
    exact ⟨k, _, _, rfl, rfl, by rw [if_neg (by omega)]; exact hX⟩
theorem VH {x y:V} {κ:V->R} (hg:(Yf x y κ).good):∃ u, Yf x y κ=κ u ∧ ∀ (ρ:Env) (φ:CP) X Y, B1 ρ φ x X->B1 ρ φ y Y →
    ∃ k p q, X = .int k p∧Y = .int k q∧B1 ρ φ u (.int k (if q<p then q else p)) := by
  unfold Yf at hg ⊢
  obtain ⟨k, a, b, e1, H1⟩ := Ey hg
  rw [e1] at hg ⊢
  obtain ⟨j, c, d, e2, H2⟩ := Ey hg
  rw [e2] at hg ⊢
  obtain ⟨hk, e3⟩ := A8 hg
  rw [e3] at hg ⊢
  obtain rfl := BV.1 hk
  obtain ⟨o1, e4⟩ := A8 hg
  rw [e4] at hg ⊢
  obtain ⟨o2, e5⟩ := A8 hg
  rw [e5] at hg ⊢
  rcases QI hg with ⟨e, h⟩ | ⟨e, h⟩
  · refine ⟨y, e, fun ρ φ X Y hX hY => ?_⟩
    obtain ⟨r, r1, r2, r3, rfl⟩ := H1 ρ φ X hX
    obtain ⟨s, s1, s2, s3, rfl⟩ := H2 ρ φ Y hY
    have k1 := En (M := Mk k) o1 r1 r2
    have k2 := En (M := Mk k) o2 s1 s2
    have := (Gy s3 r3).1
    exact ⟨k, _, _, rfl, rfl, by rw [if_pos (by omega)]; exact hY⟩
  · refine ⟨x, e, fun ρ φ X Y hX hY => ?_⟩
    obtain ⟨r, r1, r2, r3, rfl⟩ := H1 ρ φ X hX
    obtain ⟨s, s1, s2, s3, rfl⟩ := H2 ρ φ Y hY
    have k1 := En (M := Mk k) o1 r1 r2
    have k2 := En (M := Mk k) o2 s1 s2
    have := (Gy s3 r3).1
    exact ⟨k, _, _, rfl, rfl, by rw [if_neg (by omega)]; exact hX⟩
theorem Uk {m j b:Nat} {κ:V->R} (hg:(X5 m j b κ).good) (hb1:1≤b) (hb2:b+1≤9223372036854775808):∃ v, X5 m j b κ=κ v ∧ ∀ (ρ:Env) (φ:CP) X Y, B1 ρ φ (.oth (.rs m j)) X->B1 ρ φ (.int .i64 b) Y →
    ∃ k p q, X = .int k p∧Y = .int k q∧G9 .rem X Y v := by
  unfold X5 at hg ⊢
  obtain ⟨hm, e1⟩ := A8 hg
  rw [e1] at hg ⊢
  rw [A2] at hg ⊢
  obtain ⟨hd, e2⟩ := A8 hg
  rw [e2] at hg ⊢
  obtain ⟨h1, e3⟩ := A8 hg
  rw [e3, A2]
  have hm:m=73786976294838206464+b := Nat.eq_of_beq_eq_true hm
  have hd:j % 18446744073709551616=j / 18446744073709551616 := Nat.eq_of_beq_eq_true hd
  have h1:1≤j % 18446744073709551616 := A5.1 h1
  refine ⟨_, rfl, fun ρ φ X Y hX hY => ?_⟩
  simp only [B1] at hX
  obtain ⟨z, rfl, z1, z2, z3, _, z5⟩ := hX
  have hY:(b<Mk .i64∧Y = .int .i64 (Eb .i64 b)) := by simpa only [B1] using hY
  obtain ⟨_, rfl⟩ := hY
  have hz := z5 (by omega)
  have e6:m % 18446744073709551616=b := by omega
  have z3:z.natAbs % b=j % 18446744073709551616 := by
    rcases z3 with ⟨h, _⟩ | ⟨_, h, h'⟩
    · omega
    · rw [e6] at h h'; omega
  rw [show Eb .i64 b=(b:Int) from B0 (by simp only [Hk]; omega)]
  refine ⟨.i64, _, _, rfl, rfl, .int .i64 (z.tmod b), fun P t w => by
    rw [binOp_rem]
    simp only [Op.intDiv]
    rw [if_neg (by omega)]
    simp only [Sem.run_pure], fun ρ φ => ?_⟩
  have h0 := Int.natAbs_tmod z b
  rw [Int.natAbs_natCast, z3] at h0
  have hjb:j % 18446744073709551616<b := by rw [←z3]; exact Nat.mod_lt _ (by omega)
  have hneg:z.tmod b≤0 := by
    have h4:0≤(-z).tmod b := Int.tmod_nonneg _ (by omega)
    rw [Int.neg_tmod] at h4
    omega
  generalize z.tmod b=y at h0 hneg
  simp only [B1]
  have hs:Nat.sub 18446744073709551616 (j % 18446744073709551616)=18446744073709551616 - j % 18446744073709551616 := rfl
  refine ⟨by show 18446744073709551616 - j % 18446744073709551616<Mk .i64; simp only [Mk]; omega, ?_⟩
  show Value.int .i64 y = .int .i64 (Eb .i64 (18446744073709551616 - j % 18446744073709551616))
  rw [Fq (by simp only [Hk]; omega)]
  congr 1; simp only [Mk]; omega
theorem MB {op:BinOp} {x y:V} {κ:V->R} (hg:(Sk op x y κ (I4 op x y κ)).good):∃ v, Sk op x y κ (I4 op x y κ)=κ v ∧ ∀ (ρ:Env) (φ:CP) X Y, B1 ρ φ x X->B1 ρ φ y Y →
    ∃ k p q, X = .int k p∧Y = .int k q∧G9 op X Y v := by
  by_cases hop:op = .rem
  · subst hop
    rcases Tx x (fun m j => Jx y fun k b => br (D0 k .i64) (br (Nat.ble 1 b) (br (Nat.ble (Nat.succ b) 9223372036854775808) (br (Nat.beq m (Nat.add 18446744073709551616 b)) (κ (.int .i64 j)) (br (Nat.beq m b) (br (Nat.beq j 0) (κ (.int .i64 0)) (κ (.oth (.iv .i64 1 18446744073709551615)))) (X5 m j b κ))) (.fail "")) (.fail "")) (.fail "")) (I4 .rem x y κ) with ⟨m, j, rfl, e0⟩ | e0
    · have e0:Sk .rem (.oth (.rs m j)) y κ (I4 .rem (.oth (.rs m j)) y κ)=_ := e0
      rw [e0] at hg ⊢
      obtain ⟨k, b, rfl, e1⟩ := Ew hg
      rw [e1] at hg ⊢
      obtain ⟨hk, e2⟩ := A8 hg
      rw [e2] at hg ⊢
      obtain rfl := BV.1 hk
      obtain ⟨hb1, e3⟩ := A8 hg
      rw [e3] at hg ⊢
      obtain ⟨hb2, e4⟩ := A8 hg
      rw [e4] at hg ⊢
      cases hm:Nat.beq m (Nat.add 18446744073709551616 b) with
      | false =>
        rw [hm] at hg
        have hg:(br (Nat.beq m b) (br (Nat.beq j 0) (κ (.int .i64 0)) (κ (.oth (.iv .i64 1 18446744073709551615)))) (X5 m j b κ)).good := hg
        cases hmb:Nat.beq m b with
        | false =>
          rw [hmb] at hg
          obtain ⟨v, e5, H⟩ := Uk (show R.good (X5 m j b κ) from hg) (A5.1 hb1) (A5.1 hb2)
          exact ⟨v, e5, H⟩
        | true =>
        have e5:br true (br (Nat.beq j 0) (κ (.int .i64 0)) (κ (.oth (.iv .i64 1 18446744073709551615)))) (X5 m j b κ)=br (Nat.beq j 0) (κ (.int .i64 0)) (κ (.oth (.iv .i64 1 18446744073709551615))) := rfl
        have hb1 := A5.1 hb1
        have hb2:b+1≤9223372036854775808 := A5.1 hb2
        have hmb:m=b := Nat.eq_of_beq_eq_true hmb
        have key:∀ (ρ:Env) (φ:CP) X Y, B1 ρ φ (.oth (.rs m j)) X->B1 ρ φ (.int .i64 b) Y->∃ z:Int, X = .int .i64 z∧Y = .int .i64 (b:Int) ∧ -9223372036854775808≤z∧z<9223372036854775808∧z.natAbs % b=j := fun ρ φ X Y hX hY => by
          simp only [B1] at hX
          obtain ⟨z, rfl, z1, z2, z3, _⟩ := hX
          have hY:(b<Mk .i64∧Y = .int .i64 (Eb .i64 b)) := by simpa only [B1] using hY
          obtain ⟨_, rfl⟩ := hY
          refine ⟨z, rfl, by rw [B0 (by simp only [Hk]; omega)], z1, z2, ?_⟩
          rcases z3 with ⟨_, z3⟩ | ⟨z3, _⟩
          · rw [hmb, Nat.mod_eq_of_lt (show b<18446744073709551616 by omega)] at z3; exact z3
          · omega
        cases hj:Nat.beq j 0 with
        | true =>
          obtain rfl := Nat.eq_of_beq_eq_true hj
          refine ⟨_, e5, fun ρ φ X Y hX hY => ?_⟩
          obtain ⟨z, rfl, rfl, z1, z2, z3⟩ := key ρ φ X Y hX hY
          refine ⟨.i64, _, _, rfl, rfl, .int .i64 (z.tmod b), fun P t w => by
            rw [binOp_rem]
            simp only [Op.intDiv]
            rw [if_neg (by omega)]
            simp only [Sem.run_pure], fun ρ φ => ?_⟩
          have h0:z.tmod b=0 := by
            have := Int.natAbs_tmod z b
            rw [Int.natAbs_natCast, z3] at this
            omega
          rw [h0]
          simp only [B1]
          exact ⟨by simp only [Mk]; omega, rfl⟩
        | false =>
          rw [hj] at e5
          refine ⟨_, e5, fun ρ φ X Y hX hY => ?_⟩
          obtain ⟨z, rfl, rfl, z1, z2, z3⟩ := key ρ φ X Y hX hY
          refine ⟨.i64, _, _, rfl, rfl, .int .i64 (z.tmod b), fun P t w => by
            rw [binOp_rem]
            simp only [Op.intDiv]
            rw [if_neg (by omega)]
            simp only [Sem.run_pure], fun ρ φ => ?_⟩
          have hj0:j≠0 := fun h => by subst h; cases hj
          have h0 := Int.natAbs_tmod z b
          rw [Int.natAbs_natCast, z3] at h0
          have hjb:j<b := by rw [←z3]; exact Nat.mod_lt _ (by omega)
          generalize z.tmod b=y at h0
          simp only [B1]
          by_cases hy:0≤y
          · refine ⟨y.toNat, by omega, by omega, by simp only [Mk]; omega, ?_⟩
            rw [B0 (by simp only [Hk]; omega)]; congr 1; omega
          · refine ⟨(y+18446744073709551616).toNat, by omega, by omega, by simp only [Mk]; omega, ?_⟩
            rw [Fq (by simp only [Hk]; omega)]; congr 1; simp only [Mk]; omega
      | true =>
      rw [hm] at hg
      refine ⟨_, rfl, fun ρ φ X Y hX hY => ?_⟩
      have hb1 := A5.1 hb1
      have hb2:b+1≤9223372036854775808 := A5.1 hb2
      have hm:m=18446744073709551616+b := Nat.eq_of_beq_eq_true hm
      simp only [B1] at hX
      obtain ⟨z, rfl, z1, z2, z3, z4, _⟩ := hX
      have hY:(b<Mk .i64∧Y = .int .i64 (Eb .i64 b)) := by simpa only [B1] using hY
      obtain ⟨_, rfl⟩ := hY
      have hz := z4 (by omega) (by omega)
      have z3:z.natAbs % (m % 18446744073709551616)=j := by
        rcases z3 with ⟨_, z3⟩ | ⟨z3, _⟩
        · exact z3
        · omega
      have e6:m % 18446744073709551616=b := by omega
      rw [e6] at z3
      obtain ⟨r, rfl⟩:∃ r:Nat, z=r := ⟨z.toNat, by omega⟩
      have hr:r<Hk .i64 := by simp only [Hk]; omega
      have h := Ux (b := b) hr (by simp only [Hk]; omega) hb1
      rw [B0 hr] at h
      have e7:r % b=j := by rw [←z3, Int.natAbs_natCast]
      rw [e7] at h
      exact ⟨.i64, _, _, rfl, rfl, h⟩
    · have e0:Sk .rem x y κ (I4 .rem x y κ)=I4 .rem x y κ := e0
      rw [e0] at hg ⊢
      exact NF hg
  · have e0:Sk op x y κ (I4 op x y κ)=I4 op x y κ := by cases op <;> first | rfl | exact absurd rfl hop
    rw [e0] at hg ⊢
    exact NF hg
theorem NZ (v:V) (κ:IntKind->Nat->R) (e:R):(∃ k i, v = .oth (.sy k i)∧Yq v κ e=κ k i)∨Yq v κ e=e := by
  cases v with
  | oth o =>
    rcases RF o κ e with ⟨k, i, rfl, h⟩ | h
    · exact .inl ⟨k, i, rfl, h⟩
    · exact .inr h
  | _ => exact .inr rfl
theorem KJ (x y:V) (a e:R):(∃ k i, x = .oth (.sy k i)∧y = .oth (.sy k i)∧MS x y a e=a)∨MS x y a e=e := by
  unfold MS
  rcases NZ x (fun k i => Yq y (fun j i' => br (D0 k j) (br (Nat.beq i i') a e) e) e) e with ⟨k, i, rfl, h⟩ | h
  · rw [h]
    rcases NZ y (fun j i' => br (D0 k j) (br (Nat.beq i i') a e) e) e with ⟨j, i', rfl, h'⟩ | h'
    · rw [h']
      cases hk:D0 k j with
      | false => exact .inr rfl
      | true =>
        cases hi:Nat.beq i i' with
        | false => exact .inr rfl
        | true =>
          obtain rfl := BV.1 hk
          obtain rfl := Nat.eq_of_beq_eq_true hi
          exact .inl ⟨k, i, rfl, rfl, rfl⟩
    · rw [h']; exact .inr rfl
  · rw [h]; exact .inr rfl
theorem V8 {op:BinOp} {x y:V} {κ:V->R} (hg:(LV op x y κ).good):∃ v, LV op x y κ=κ v ∧ ∀ (ρ:Env) (φ:CP) X Y, B1 ρ φ x X->B1 ρ φ y Y →
    ∃ k p q, X = .int k p∧Y = .int k q∧G9 op X Y v := by
  unfold LV at hg ⊢
  by_cases h1:op = .eql
  · subst h1
    rcases KJ x y (κ (.bool true)) (Sk .eql x y κ (I4 .eql x y κ)) with ⟨k, i, rfl, rfl, e⟩ | e
    · refine ⟨_, e, fun ρ φ X Y hX hY => ?_⟩
      simp only [B1] at hX hY
      obtain ⟨h1, r, hr, h2⟩ := hX
      obtain rfl:Y=X := hY.1.trans h1.symm
      subst h2
      exact ⟨k, _, _, rfl, rfl, .bool true, fun P t w => by rw [binOp_eql, Sem.run_pure, beq_self_eq_true], fun ρ φ => DP _ ρ φ⟩
    · have e:syX .eql x y κ (Sk .eql x y κ (I4 .eql x y κ))=Sk .eql x y κ (I4 .eql x y κ) := e
      rw [e] at hg ⊢
      exact MB hg
  by_cases h2:op = .neq
  · subst h2
    rcases KJ x y (κ (.bool false)) (Sk .neq x y κ (I4 .neq x y κ)) with ⟨k, i, rfl, rfl, e⟩ | e
    · refine ⟨_, e, fun ρ φ X Y hX hY => ?_⟩
      simp only [B1] at hX hY
      obtain ⟨h1, r, hr, h2⟩ := hX
      obtain rfl:Y=X := hY.1.trans h1.symm
      subst h2
      exact ⟨k, _, _, rfl, rfl, .bool false, fun P t w => by rw [binOp_neq, Sem.run_pure, bne_self_eq_false], fun ρ φ => DP _ ρ φ⟩
    · have e:syX .neq x y κ (Sk .neq x y κ (I4 .neq x y κ))=Sk .neq x y κ (I4 .neq x y κ) := e
      rw [e] at hg ⊢
      exact MB hg
  have e:syX op x y κ (Sk op x y κ (I4 op x y κ))=Sk op x y κ (I4 op x y κ) := by cases op <;> first | rfl | exact absurd rfl h1 | exact absurd rfl h2
  rw [e] at hg ⊢
  exact MB hg
theorem EM {op:BinOp} {ty yt:TypeId} {x y:Operand} {x' y':Opd} (ho:o.op = .binOp op ty x y yt) (hx:BS N x=some x') (hy:BS N y=some y') :
    D6 P ρ B N o (MV op x' y' cf t h n) t h n := by
  intro κ hg
  have e:MV op x' y' cf t h n κ=Nr op (ev x' t) (ev y' t) fun r => κ r h n := by simp only [MV, BM]
  rw [e] at hg
  have key:∀ φ a, TR ρ N φ t a->∃ X Y, a.eval x=X∧a.eval y=Y∧B1 ρ φ (ev x' t) X∧B1 ρ φ (ev y' t) Y := fun φ a ht => ⟨_, _, rfl, rfl, A7 hx ht, A7 hy ht⟩
  rcases Ta hg with ⟨k, a, j, b, hxv, hyv, e'⟩ | ⟨n', c, m, d, hxv, hyv, e'⟩ | e' | ⟨l0, l1, n', c, m, d, hxv, hyv, e'⟩
  · by_cases hab:a<Mk k∧b<Mk j
    · rw [e'] at hg
      obtain ⟨v, e2, r, hr, hv⟩ := I9 op k a j b _ hab.1 hab.2 hg
      refine ⟨v, e.trans (e'.trans e2), fun φ ac w ht hg => ⟨r, ?_, hv ρ φ⟩⟩
      obtain ⟨X, Y, hX, hY, rX, rY⟩ := key φ ac ht
      rw [hxv] at rX; rw [hyv] at rY
      obtain ⟨_, rfl⟩ := Eo rX
      obtain ⟨_, rfl⟩ := Eo rY
      refine KQ ho ?_ ?_
      · rw [hX, hY, eqGuard_at_int]
      · rw [hX, hY]; exact hr P ty w
    · -- no world has such a residue
      rw [e'] at hg
      have hv:∃ v, N7 op k a j b (fun r => κ r h n)=κ v h n := by
        have gk:∀ (f:V->R) (c:Nat->V) (m:Nat), A4 m (fun r => f (c r))=f (c m) := fun f c m => A2 _ _
        cases op <;> (simp only [N7, Wk, P6, WH, TQ, Ty, UJ, ZA, UE, Qc, Vu, Ti, ieq, ine, ilt, igt, ile, ige, PH, A2, CY] at hg ⊢)
        all_goals
          repeat' first
            | exact ⟨_, rfl⟩
            | (obtain ⟨_, ee⟩ := A8 hg; rw [ee] at hg ⊢)
            | exact XE (f := fun v => κ v h n)
      obtain ⟨v, hv⟩ := hv
      refine ⟨v, e.trans (e'.trans hv), fun φ ac w ht hg => ?_⟩
      obtain ⟨X, Y, hX, hY, rX, rY⟩ := key φ ac ht
      rw [hxv] at rX; rw [hyv] at rY
      exact absurd ⟨(Eo rX).1, (Eo rY).1⟩ hab
  · by_cases hw:∃ s u:ByteArray, n'=s.size∧c=BU s.data.toList∧m=u.size∧d=BU u.data.toList
    · obtain ⟨s, u, rfl, rfl, rfl, rfl⟩ := hw
      rw [e'] at hg
      obtain ⟨v, e2, r, hr, hv⟩ := TT op s u _ hg
      refine ⟨v, e.trans (e'.trans e2), fun φ ac w ht hg => ⟨r, ?_, hv ρ φ⟩⟩
      obtain ⟨X, Y, hX, hY, rX, rY⟩ := key φ ac ht
      rw [hxv] at rX; rw [hyv] at rY
      obtain ⟨s', rfl, h1, h2⟩ := Ep rX
      obtain ⟨u', rfl, h3, h4⟩ := Ep rY
      have es:s'=s := by
        have := Kn (a := s'.data.toList) (b := s.data.toList) (by rw [DQ, DQ, h1]) h2
        cases s'; cases s; simp at this; rw [this]
      have eu:u'=u := by
        have := Kn (a := u'.data.toList) (b := u.data.toList) (by rw [DQ, DQ, h3]) h4
        cases u'; cases u; simp at this; rw [this]
      subst es eu
      refine KQ ho ?_ ?_
      · rw [hX, hY, eqGuard_at_string]
      · rw [hX, hY]; exact hr P ty w
    · rw [e'] at hg
      have hv:∃ v, LM op n' c m d (fun r => κ r h n)=κ v h n := by
        cases op <;> first
          | exact hg.elim
          | (simp only [LM, Xu, XM, sne, slt, sge, A2, CY] at hg ⊢)
        · obtain ⟨_, ee⟩ := A8 hg; rw [ee]; exact ⟨_, rfl⟩
        · exact ⟨_, rfl⟩
        · cases G7 n' c m d <;> exact ⟨_, rfl⟩
        · exact ⟨_, rfl⟩
        · cases Rg n' c m d <;> exact ⟨_, rfl⟩
      obtain ⟨v, hv⟩ := hv
      refine ⟨v, e.trans (e'.trans hv), fun φ ac w ht hg => ?_⟩
      obtain ⟨X, Y, hX, hY, rX, rY⟩ := key φ ac ht
      rw [hxv] at rX; rw [hyv] at rY
      obtain ⟨s', rfl, h1, h2⟩ := Ep rX
      obtain ⟨u', rfl, h3, h4⟩ := Ep rY
      exact absurd ⟨s', u', h1.symm, h2.symm, h3.symm, h4.symm⟩ hw
  · rw [e'] at hg
    obtain ⟨v, e2, H⟩ := V8 hg
    refine ⟨v, e.trans (e'.trans e2), fun φ ac w ht hg => ?_⟩
    obtain ⟨X, Y, hX, hY, rX, rY⟩ := key φ ac ht
    obtain ⟨k, p, q, rfl, rfl, r, hr, hv⟩ := H ρ φ X Y rX rY
    refine ⟨r, KQ ho ?_ ?_, hv ρ φ⟩
    · rw [hX, hY, eqGuard_at_int]
    · rw [hX, hY]; exact hr P ty w
  · rw [e'] at hg
    unfold Sr at hg e'
    obtain ⟨hne, e2⟩ := A8 hg
    rw [e2] at hg
    have ne:∀ φ ac, TR ρ N φ t ac->∃ s u:ByteArray, ac.eval x = .string s∧ac.eval y = .string u∧(s.toList == u.toList)=false := fun φ ac ht => by
      obtain ⟨X, Y, hX, hY, rX, rY⟩ := key φ ac ht
      rw [hxv] at rX; rw [hyv] at rY
      simp only [B1] at rX
      obtain ⟨s, rfl, k1, k2, k3⟩ := rX
      obtain ⟨u, rfl, k4, k5⟩ := Ep rY
      refine ⟨s, u, hX, hY, ?_⟩
      rw [Bool.eq_false_iff]
      intro hc
      have hc := eq_of_beq hc
      have hsu:s=u := by
        rw [ByteArray.toList_eq, ByteArray.toList_eq] at hc
        cases s; cases u; simp at hc; rw [hc]
      subst hsu
      rw [k4] at k1 k2 k3
      rw [k5] at k3
      rw [A5.2 k1, A5.2 k2] at hne
      simp only [Aa] at hne
      cases h1:Nat.beq m n' with
      | false => rw [h1] at hne; cases hne
      | true =>
        rw [h1, Aa] at hne
        exact k3 ⟨Nat.eq_of_beq_eq_true h1, Nat.eq_of_beq_eq_true hne⟩
    cases op with
    | eql =>
      refine ⟨.bool false, e.trans (e'.trans e2), fun φ ac w ht hg => ⟨.bool false, ?_, DP _ ρ φ⟩⟩
      obtain ⟨s, u, hX, hY, hn⟩ := ne φ ac ht
      refine KQ ho (by rw [hX, hY, eqGuard_at_string]) ?_
      rw [hX, hY, show (Go.binOp .eql ty (.string s) (.string u)).run P w = .ok (.bool (s.toList == u.toList)) w from rfl, hn]
    | neq =>
      refine ⟨.bool true, e.trans (e'.trans e2), fun φ ac w ht hg => ⟨.bool true, ?_, DP _ ρ φ⟩⟩
      obtain ⟨s, u, hX, hY, hn⟩ := ne φ ac ht
      refine KQ ho (by rw [hX, hY, eqGuard_at_string]) ?_
      rw [hX, hY, show (Go.binOp .neq ty (.string s) (.string u)).run P w = .ok (.bool !(s.toList == u.toList)) w from rfl, hn]; rfl
    | _ => exact hg.elim
end
end Go.Ev

namespace Go.Ev
set_option linter.unusedVariables false
section
variable {P:Program} {ρ:Env} {B N:Nat} {o:Oper} {cf:CF} {t:Regs} {h:Heap} {n:K4}
theorem Kh {ty:TypeId} {x y:Operand} {X Y:Value} {op:BinOp} (hg:P.eqGuardType P.depth ty=false) (hX:X ≠ .nilIface) (w:World):(eqGuard op ty x y X Y).run P w = .ok () w := by
  unfold eqGuard
  cases op <;> simp <;> (split <;> first | (exact absurd rfl hX) | simp [hg] | simp)
theorem Nk {ty:TypeId} {X Y:Value} {w:World} {r:Bool} (hr:(Op.equal ty X Y).run P w = .ok r w) (hX:(∃ b, X = .bool b)∨(∃ a, X = .agg a)∨(∃ a, X = .pointer a)∨(∃ a b c, X = .slice a b c)∨(∃ a, X = .map a)∨(∃ a b c, X = .func a b c)∨X = .nilFunc) :
    (Go.binOp .eql ty X Y).run P w = .ok (.bool r) w∧(Go.binOp .neq ty X Y).run P w = .ok (.bool !r) w := by
  rcases hX with ⟨b, rfl⟩ | ⟨a, rfl⟩ | ⟨a, rfl⟩ | ⟨a, b, c, rfl⟩ | ⟨a, rfl⟩ | ⟨a, b, c, rfl⟩ | rfl <;> (constructor <;> (unfold Go.binOp; simp [hr]))
theorem Tw {pl:Plan} {ty:TypeId} (hp:MZ P ty=some pl) {x y:V} {κ:Bool->R} (hg:(N6 pl x y κ).good) {φ:CP} {X:Value} (hX:B1 ρ φ x X) :
    (∃ b, X = .bool b)∨(∃ a, X = .agg a)∨(∃ a, X = .pointer a)∨(∃ a b c, X = .slice a b c)∨(∃ a, X = .map a)∨(∃ a b c, X = .func a b c)∨X = .nilFunc := by
  have ref:∀ u, u ≠ .iface->(LK u x y κ).good->(∃ b, X = .bool b)∨(∃ a, X = .agg a)∨(∃ a, X = .pointer a)∨(∃ a b c, X = .slice a b c)∨(∃ a, X = .map a)∨(∃ a b c, X = .func a b c)∨X = .nilFunc := fun u hu hg => by
    rcases IB (ρ := ρ) (φ := φ) (show R.good (IM u x _ _) from hg) with ⟨rfl, _⟩ | ⟨_, hx⟩
    · rw [E3 hX]
      cases u <;> simp [Ea] at hu ⊢
    · have := hx X hX
      cases u with
      | ptr => obtain ⟨a, rfl⟩ := this; exact .inr (.inr (.inl ⟨_, rfl⟩))
      | sl => obtain ⟨a, b, c, rfl⟩ := this; exact .inr (.inr (.inr (.inl ⟨_, _, _, rfl⟩)))
      | map => obtain ⟨a, rfl⟩ := this; exact .inr (.inr (.inr (.inr (.inl ⟨_, rfl⟩))))
      | fn => obtain ⟨a, b, c, rfl⟩ := this; exact .inr (.inr (.inr (.inr (.inr (.inl ⟨_, _, _, rfl⟩)))))
      | iface => exact absurd rfl hu
  unfold MZ at hp
  split at hp
  · cases hp
    obtain ⟨b, rfl, _⟩ := He (show R.good (QX x _) from hg)
    exact .inl ⟨b, GD hX⟩
  · split at hp
    · cases hp
    · cases ho:Je P _ with
      | none => rw [ho] at hp; cases hp
      | some offs =>
        rw [ho] at hp; cases hp
        obtain ⟨a, rfl, _⟩ := EF (show R.good (asAgg x _) from hg)
        obtain ⟨xs, rfl, _⟩ := Gz hX
        exact .inr (.inl ⟨_, rfl⟩)
  · split at hp
    · cases hp; exact ref .ptr (by simp) hg
    · cases hp
  · cases hp; exact ref .sl (by simp) hg
  · cases hp; exact ref .map (by simp) hg
  · cases hp; exact ref .fn (by simp) hg
  · cases hp
theorem Kj {neg:Bool} {pl:Plan} {ty yt:TypeId} {x y:Operand} {x' y':Opd} (ho:o.op = .binOp (if neg then .neq else .eql) ty x y yt) (hx:BS N x=some x') (hy:BS N y=some y')
    (hp:MZ P ty=some pl) (hgd:P.eqGuardType P.depth ty=false):D6 P ρ B N o (TX neg pl x' y' cf t h n) t h n := by
  intro κ hg
  have e:TX neg pl x' y' cf t h n κ=N6 pl (ev x' t) (ev y' t) fun r => br neg (br r (κ (.bool false) h n) (κ (.bool true) h n)) (κ (.bool r) h n) := by simp only [TX, BM]
  rw [e] at hg
  obtain ⟨r, g1, _⟩ := Lu (ρ := ρ) (φ := fun _ => none) hp hg
  refine ⟨.bool (if neg then !r else r), e.trans ((g1 _).trans (by cases neg <;> cases r <;> rfl)), fun φ a w ht hG => ⟨.bool (if neg then !r else r), ?_, DP _ ρ φ⟩⟩
  obtain ⟨r', g2, g3⟩ := Lu (ρ := ρ) (φ := φ) hp hg
  have hrr:r'=r := by
    have e1 := g1 (fun q => R.rv (.bool q) C6 ⟨.d0, .d0, .d0, .d0⟩)
    rw [g2] at e1
    simpa using e1
  subst hrr
  have hX := A7 hx ht
  have hY := A7 hy ht
  have hsh := Tw hp hg hX
  have hrun := Nk (g3 _ _ w hX hY) hsh
  have hne:a.eval x ≠ .nilIface := by
    rcases hsh with ⟨b, e⟩ | ⟨b, e⟩ | ⟨b, e⟩ | ⟨b, c, d, e⟩ | ⟨b, e⟩ | ⟨b, c, d, e⟩ | e <;> rw [e] <;> simp
  cases neg
  · simp only [Bool.false_eq_true, if_false] at ho ⊢
    simp only [execOp, ho, Sem.run_bind, Kh hgd hne, Result.andThen_ok, hrun.1, Sem.run_pure]
  · simp only [if_true] at ho ⊢
    simp only [execOp, ho, Sem.run_bind, Kh hgd hne, Result.andThen_ok, hrun.2, Sem.run_pure]
theorem Oy {ty:TypeId} {x:Operand} {x':Opd} (ho:o.op = .unOp .not ty x) (hx:BS N x=some x'):D6 P ρ B N o (OS x' cf t h n) t h n := by
  intro κ hg
  have e:OS x' cf t h n κ=QX (ev x' t) fun q => br q (κ (.bool false) h n) (κ (.bool true) h n) := by simp only [OS, BM]
  rw [e] at hg
  obtain ⟨b, hb, e'⟩ := He hg
  refine ⟨.bool !b, e.trans (e'.trans (by cases b <;> rfl)), fun φ a w ht hg => ⟨.bool !b, ?_, DP _ ρ φ⟩⟩
  have h1 := A7 hx ht
  rw [hb] at h1
  simp [execOp, ho, GD h1, Op.unary]
theorem Ow {ty:TypeId} {x:Operand} {x':Opd} (ho:o.op = .unOp .neg ty x) (hx:BS N x=some x'):D6 P ρ B N o (OO x' cf t h n) t h n := by
  intro κ hg
  have e:OO x' cf t h n κ=Jx (ev x' t) fun k r => P6 k 0 k r fun v => κ v h n := by simp only [OO, BM]
  rw [e] at hg
  obtain ⟨k, r, hb, e'⟩ := Ew hg
  have hk:D0 k k=true := BV.2 rfl
  have e2:(P6 k 0 k r fun v => κ v h n)=κ (.int k ((0+(Mk k - r)) % Mk k)) h n := by
    unfold P6; rw [hk, Aa, A2]; rfl
  refine ⟨.int k ((0+(Mk k - r)) % Mk k), e.trans (e'.trans e2), fun φ a w ht hg => ⟨.int k (Eb k ((0+(Mk k - r)) % Mk k)), ?_, GR k _ (Nat.mod_lt _ (GO k)) ρ φ⟩⟩
  have h1 := A7 hx ht
  rw [hb] at h1
  obtain ⟨hr, h1⟩ := Eo h1
  have h0:(0:Int)=Eb k 0 := by rw [B0 (by cases k <;> simp [Hk])]; rfl
  simp only [execOp, ho, h1, Op.unary, Op.intArith, Sem.run_bind, Sem.run_pure, Result.andThen_ok]
  rw [h0, Qn k 0 r hr]
theorem OM {ty:TypeId} {x:Operand} {x':Opd} (ho:o.op = .unOp .xor ty x) (hx:BS N x=some x'):D6 P ρ B N o (O1 x' cf t h n) t h n := by
  intro κ hg
  have e:O1 x' cf t h n κ=Jx (ev x' t) fun k r => κ (.int k (Nat.xor (Nat.sub (Mk k) 1) r)) h n := by simp only [O1, BM, A2]
  rw [e] at hg
  obtain ⟨k, r, hb, e'⟩ := Ew hg
  by_cases hr:r<Mk k
  · have hl:Nat.xor (Mk k - 1) r<Mk k := V2 k _ _ (by have := GO k; omega) hr
    refine ⟨_, e.trans e', fun φ a w ht hg => ⟨.int k (Eb k (Nat.xor (Mk k - 1) r)), ?_, GR k _ hl ρ φ⟩⟩
    have h1 := A7 hx ht
    rw [hb] at h1
    obtain ⟨_, h1⟩ := Eo h1
    have hm:(if k.signed then -1 else k.max:Int)=Eb k (Mk k - 1) := by
      cases k <;> simp [IntKind.signed, IntKind.max, IntKind.bits, Eb, Mk, Hk]
    simp only [execOp, ho, h1, Op.unary, Op.intBits, hm, BitVec.toNat_xor, bv _ _ hr, bv k (Mk k - 1) (by have := GO k; omega), Sem.run_bind, Sem.run_pure, Result.andThen_ok]
    rw [Ho k ((Mk k - 1) ^^^ r) hl]; rfl
  · refine ⟨_, e.trans e', fun φ a w ht hg => ?_⟩
    have h1 := A7 hx ht
    rw [hb] at h1
    exact absurd (Eo h1).1 hr
theorem Xy (j k:IntKind) (r:Nat) (hr:r<Mk j) :
    k.wrap (Eb j r)=Eb k (if r<Hk j then r % Mk k else if Mk k≤Mk j then r % Mk k else Mk k - (Mk j - r)) := by
  apply II
  by_cases h1:r<Hk j
  · rw [B0 h1, if_pos h1, ←Int.natCast_emod]
  · rw [Fq h1, if_neg h1]
    cases j <;> cases k <;> simp only [Mk, Hk] at * <;> (try simp) <;> omega
theorem OU {src dst:TypeId} {j k:IntKind} {x:Operand} {x':Opd} (ho:o.op = .convert src dst x) (hx:BS N x=some x') (hs:P.underlying src=some (.int j)) (hd:P.underlying dst=some (.int k)) :
    D6 P ρ B N o (Nz k x' cf t h n) t h n := by
  intro κ hg
  have e:Nz k x' cf t h n κ=Jx (ev x' t) fun j r => br (Nat.ble (Nat.succ r) (Hk j)) (κ (.int k (Nat.mod r (Mk k))) h n) (br (Nat.ble (Mk k) (Mk j)) (κ (.int k (Nat.mod r (Mk k))) h n) (κ (.int k (Nat.sub (Mk k) (Nat.sub (Mk j) r))) h n)) := by
    simp only [Nz, BM, A2]
  rw [e] at hg
  obtain ⟨i, r, hb, e'⟩ := Ew hg
  have e2:br (Nat.ble (Nat.succ r) (Hk i)) (κ (.int k (Nat.mod r (Mk k))) h n) (br (Nat.ble (Mk k) (Mk i)) (κ (.int k (Nat.mod r (Mk k))) h n) (κ (.int k (Nat.sub (Mk k) (Nat.sub (Mk i) r))) h n)) =
      κ (.int k (if r<Hk i then r % Mk k else if Mk k≤Mk i then r % Mk k else Mk k - (Mk i - r))) h n := by
    by_cases h1:r<Hk i
    · rw [A5.2 h1, Aa, if_pos h1]; rfl
    · rw [CO (by omega), AJ, if_neg h1]
      by_cases h2:Mk k≤Mk i
      · rw [A5.2 h2, Aa, if_pos h2]; rfl
      · rw [CO (by omega), AJ, if_neg h2]; rfl
  refine ⟨_, e.trans (e'.trans e2), fun φ a w ht hg => ?_⟩
  have h1 := A7 hx ht
  rw [hb] at h1
  obtain ⟨hr, h1⟩ := Eo h1
  refine ⟨_, ?_, GR k _ ?_ ρ φ⟩
  · simp only [execOp, ho, h1, convert, Sem.run_bind, run_underlying hs, run_underlying hd, Result.andThen_ok, Conv.intToInt, Sem.run_pure]
    rw [Xy i k r hr]
  · have := GO k
    split
    · exact Nat.mod_lt _ this
    · split
      · exact Nat.mod_lt _ this
      · omega
theorem NR {src dst:TypeId} {x:Operand} {x':Opd} (ho:o.op = .convert src dst x) (hx:BS N x=some x') (hs:P.underlying src=some .string) (hd:P.underlying dst=some .string) :
    D6 P ρ B N o (OL x' cf t h n) t h n := by
  intro κ hg
  have e:OL x' cf t h n κ=Dd (ev x' t) fun _ _ => κ (ev x' t) h n := by simp only [OL, BM]
  rw [e] at hg
  obtain ⟨m, c, hb, e'⟩ := E6 hg
  refine ⟨_, e.trans e', fun φ a w ht hg => ⟨a.eval x, ?_, A7 hx ht⟩⟩
  have h1 := A7 hx ht
  rw [hb] at h1
  obtain ⟨s, h1, _⟩ := Ep h1
  simp [execOp, ho, h1, convert, run_underlying hs, run_underlying hd]
theorem MY {f:Nat} {caps:Array Operand} {l:List Opd} (ho:o.op = .makeFunc (.func f) #[] caps) (hl:DC N caps.toList=some l):D6 P ρ B N o (Re f l cf t h n) t h n :=
  M6 (v := .fn f (l.map (ev · t))) (fun κ => by simp only [Re, HU]) fun φ a w ht hg => ⟨.func (.func f) #[] (caps.map a.eval), by simp [execOp, ho, Instr.makeFunc], by
    simp only [B1]; exact ⟨_, rfl, by simpa using Hc hl ht⟩⟩
theorem NA {i:Nat} {x:Operand} {x':Opd} (ho:o.op = .extract x i) (hx:BS N x=some x'):D6 P ρ B N o (Nt i x' cf t h n) t h n := by
  intro κ hg
  have e:Nt i x' cf t h n κ=MX (ev x' t) fun l => G6 i l fun v => κ v h n := by simp only [Nt, BM]
  rw [e] at hg
  obtain ⟨l, hb, e'⟩ := MU hg
  rw [e'] at hg
  obtain ⟨v, hv, e2⟩ := Ha hg
  refine ⟨v, e.trans (e'.trans e2), fun φ a w ht hg => ?_⟩
  have h1 := A7 hx ht
  rw [hb] at h1
  obtain ⟨cs, h1, hl⟩ := Ss h1
  obtain ⟨X, hX, hr⟩ := (Em.1 hl).2 i v hv
  exact ⟨X, by simp [execOp, ho, h1, Instr.extract, show cs[i]? = some X by simpa using hX], hr⟩
theorem FG {v:V} {κ:Nat->R} (h:(KY v κ).good):∃ k r, v = .int k r∧r<Hk k∧KY v κ=κ r := by
  obtain ⟨k, r, rfl, e⟩ := Ew (show R.good (Jx v _) from h)
  have h:R.good (br (Nat.ble (Nat.succ r) (Hk k)) (κ r) (.fail "")) := h
  obtain ⟨h1, e1⟩ := A8 h
  exact ⟨k, r, rfl, DL h1, e1⟩
theorem Gj {φ:CP} {k:IntKind} {r:Nat} (hr:r<Hk k) {X:Value} (h:B1 ρ φ (.int k r) X):X = .int k (r:Int) := by rw [(Eo h).2, B0 hr]
theorem O3 {s:TypeId} {f:Nat} {fs:Array Field} {fd:Field} {x:Operand} {x':Opd} (ho:o.op = .fieldAddr s x f) (hx:BS N x=some x') (hs:P.underlying s=some (.struct fs)) (hf:fs[f]? = some fd) {sz:Nat} (hsz:Dz P fd.type=some (sz+1)) :
    D6 P ρ B N o (Ou fd.offset x' cf t h n) t h n := by
  intro κ hg
  have e:Ou fd.offset x' cf t h n κ=Nb (ev x' t) (fun p o => κ (.ptr p (Nat.add o fd.offset)) h n) (fun o => Tt o (fun i j m => br (Nat.ble (Nat.succ fd.offset) m) (κ (.oth (.ap i (Nat.add j fd.offset) (Nat.sub m fd.offset))) h n) (.fail "")) (Mb o (fun l => br (Nat.ble (Nat.succ fd.offset) l.length) (κ (.oth (.rp (l.drop fd.offset))) h n) (.fail "")) (.fail ""))) := by simp only [Ou, BM, A2]
  rw [e] at hg
  rcases Kb hg with ⟨p, off, hb, e'⟩ | ⟨oo, hb, e'⟩
  rotate_left
  · rw [e'] at hg
    cases oo with
    | ap i j m =>
      have hg':R.good (br (Nat.ble (Nat.succ fd.offset) m) (κ (.oth (.ap i (Nat.add j fd.offset) (Nat.sub m fd.offset))) h n) (.fail "")) := hg
      obtain ⟨h1, e1⟩ := A8 hg'
      have h1 := DL h1
      refine ⟨_, e.trans (e'.trans e1), fun φ a w ht hg => ?_⟩
      have h2 := A7 hx ht
      rw [hb] at h2
      simp only [B1] at h2
      obtain ⟨b, q, c, e2, fr, h2, c1, c2⟩ := h2
      refine ⟨.pointer (some ⟨b, q+fd.offset, none⟩), ?_, ?_⟩
      · have hfp:(fieldPlace ⟨b, q, none⟩ fd).run P w = .ok ⟨b, q+fd.offset, none⟩ w := by
          unfold fieldPlace
          simp [E9, C0 hsz]
        simp [execOp, ho, h2, Instr.fieldAt, run_underlying hs, hf, Instr.sureAddr, hfp]
      · simp only [B1]
        refine ⟨b, q+fd.offset, c, e2, fr, rfl, c1, fun j' hj => ?_⟩
        have hj:j'<m - fd.offset := hj
        obtain ⟨y, y1, y2⟩ := c2 (fd.offset+j') (by omega)
        refine ⟨y, by rw [Nat.add_assoc]; exact y1, ?_⟩
        have e5:Nat.add j fd.offset+j'=j+(fd.offset+j') := Nat.add_assoc ..
        rw [e5]; exact y2
    | rp l =>
      have hg':R.good (br (Nat.ble (Nat.succ fd.offset) l.length) (κ (.oth (.rp (l.drop fd.offset))) h n) (.fail "")) := hg
      obtain ⟨h1, e1⟩ := A8 hg'
      have h1 := DL h1
      refine ⟨_, e.trans (e'.trans e1), fun φ a w ht hg => ?_⟩
      have h2 := A7 hx ht
      rw [hb] at h2
      simp only [B1] at h2
      obtain ⟨b, q, c, e2, fr, h2, c1, c2⟩ := h2
      refine ⟨.pointer (some ⟨b, q+fd.offset, none⟩), ?_, ?_⟩
      · have hfp:(fieldPlace ⟨b, q, none⟩ fd).run P w = .ok ⟨b, q+fd.offset, none⟩ w := by
          unfold fieldPlace
          simp [E9, C0 hsz]
        simp [execOp, ho, h2, Instr.fieldAt, run_underlying hs, hf, Instr.sureAddr, hfp]
      · simp only [B1]
        refine ⟨b, q+fd.offset, c, e2, fr, rfl, c1, fun j v hv => ?_⟩
        rw [List.getElem?_drop] at hv
        obtain ⟨y, y1, y2⟩ := c2 (fd.offset+j) v hv
        exact ⟨y, by rw [Nat.add_assoc]; exact y1, y2⟩
    | _ => exact hg.elim
  refine ⟨_, e.trans e', fun φ a w ht hg => ?_⟩
  have h1 := A7 hx ht
  rw [hb] at h1
  obtain ⟨b, sh, tot, hp, h1⟩ := EY h1
  refine ⟨.pointer (some ⟨b, sh+(off+fd.offset), none⟩), ?_, by simp only [B1]; exact ⟨b, sh, tot, hp, rfl⟩⟩
  have hfp:(fieldPlace ⟨b, sh+off, none⟩ fd).run P w = .ok ⟨b, sh+(off+fd.offset), none⟩ w := by
    unfold fieldPlace
    simp [E9, Nat.add_assoc, C0 hsz]
  simp [execOp, ho, h1, Instr.fieldAt, run_underlying hs, hf, Instr.sureAddr, hfp]
theorem OV {s:TypeId} {f:Nat} {fs:Array Field} {fd:Field} {ag:Bool} {sz:Nat} {x:Operand} {x':Opd} (ho:o.op = .field s x f) (hx:BS N x=some x') (hs:P.underlying s=some (.struct fs)) (hf:fs[f]? = some fd)
    (ha:Mm P fd.type=some ag) (hsz:Dz P fd.type=some sz):D6 P ρ B N o (Om fd.offset sz ag x' cf t h n) t h n := by
  intro κ hg
  have e:Om fd.offset sz ag x' cf t h n κ=asAgg (ev x' t) fun l => br ag (GB fd.offset l fun r => FX sz r fun r => κ (.agg r) h n) (G6 fd.offset l fun v => κ v h n) := by simp only [Om, BM]
  rw [e] at hg
  obtain ⟨l, hb, e'⟩ := EF hg
  rw [e'] at hg
  cases ag with
  | true =>
    have hg:R.good (GB fd.offset l fun r => FX sz r fun r => κ (.agg r) h n) := hg
    obtain ⟨_, e2⟩ := Hp hg
    rw [e2] at hg
    obtain ⟨h3, e3⟩ := Hr hg
    refine ⟨.agg ((l.drop fd.offset).take sz), e.trans (e'.trans (e2.trans e3)), fun φ a w ht hg => ?_⟩
    have h1 := A7 hx ht
    rw [hb] at h1
    obtain ⟨cs, h1, hl, h2⟩ := Gz h1
    refine ⟨.agg (cs.extract fd.offset (fd.offset+sz)), by simp [execOp, ho, h1, Instr.field, run_underlying hs, hf, Go.asAgg, part, Ek ha, C0 hsz], ?_⟩
    simp only [B1]
    have hx:(cs.extract fd.offset (fd.offset+sz)).toList=(cs.toList.drop fd.offset).take sz := by simp
    exact ⟨_, rfl, by rw [hx]; exact L1 (Lj hl _) _, fun y hy => h2 y (by rw [hx] at hy; exact List.mem_of_mem_drop (List.mem_of_mem_take hy))⟩
  | false =>
    have hg:R.good (G6 fd.offset l fun v => κ v h n) := hg
    obtain ⟨v, hv, e2⟩ := Ha hg
    refine ⟨v, e.trans (e'.trans e2), fun φ a w ht hg => ?_⟩
    have h1 := A7 hx ht
    rw [hb] at h1
    obtain ⟨cs, h1, hl, h2⟩ := Gz h1
    obtain ⟨X, hX, hr⟩ := (Em.1 hl).2 _ v hv
    exact ⟨X, by simp [execOp, ho, h1, Instr.field, run_underlying hs, hf, Go.asAgg, part, Ek ha, show cs[fd.offset]? = some X by simpa using hX], hr⟩
theorem NH {ty e:TypeId} {esz:Nat} {x i:Operand} {x' i':Opd} (ho:o.op = .indexAddr ty x i) (hx:BS N x=some x') (hi:BS N i=some i') (ht:P.underlying ty=some (.slice e)) (he:Dz P e=some esz) :
    D6 P ρ B N o (Oi esz x' i' cf t h n) t h n := by
  intro κ hg
  have e1:Oi esz x' i' cf t h n κ=KY (ev i' t) fun a => Gd (ev x' t) (.fail "") (fun p off len cap ex esz' => br (Nat.beq esz' esz) (br (Nat.ble (Nat.succ a) len) (κ (.ptr p (Nat.add off (Nat.mul a esz))) h n) (.fail "")) (.fail ""))
      (fun o => Rs o (fun i lo hi z => br (Nat.beq z esz) (br (Nat.ble (Nat.succ a) lo) (κ (.oth (.ap i (Nat.mul a esz) esz)) h n) (.fail "")) (.fail "")) (LL o (fun l m z => br (Nat.beq z esz) (br (Nat.ble (Nat.succ a) m) (κ (.oth (.rp (l.drop (Nat.mul a esz)))) h n) (.fail "")) (.fail "")) (JF o (fun m c => br (Nat.beq esz 1) (br (Nat.ble (Nat.succ a) m) (κ (.oth (.rp [.i .u8 (Ev.lo (sh c a) 1)])) h n) (.fail "")) (.fail "")) (.fail "")))) := by
    simp only [Oi, BM, A2]
  rw [e1] at hg
  obtain ⟨k, r, hiv, hr, e2⟩ := FG hg
  rw [e2] at hg
  rcases HM hg with ⟨_, e3⟩ | ⟨p, off, len, cap, ex, esz', hxv, e3⟩ | ⟨oo, hxv, e3⟩
  · rw [e3] at hg; exact hg.elim
  rotate_left
  · rw [e3] at hg
    cases oo with
    | ro i0 l0 l1 z =>
      have hg':R.good (br (Nat.beq z esz) (br (Nat.ble (Nat.succ r) l0) (κ (.oth (.ap i0 (Nat.mul r esz) esz)) h n) (.fail "")) (.fail "")) := hg
      obtain ⟨h4, e4⟩ := A8 hg'
      rw [e4] at hg'
      obtain ⟨h5, e5⟩ := A8 hg'
      have h4 := Nat.eq_of_beq_eq_true h4
      have h5 := DL h5
      subst h4
      refine ⟨_, e1.trans (e2.trans (e3.trans (e4.trans e5))), fun φ a w hT hg => ?_⟩
      have g1 := A7 hx hT
      have g2 := A7 hi hT
      rw [hxv] at g1; rw [hiv] at g2
      simp only [B1] at g1
      obtain ⟨b, q, len, cap, c, e', fr, g1, c1, c2, c3, c4, c5⟩ := g1
      have g2 := Gj hr g2
      refine ⟨.pointer (some ⟨b, q+r*z, none⟩), ?_, ?_⟩
      · simp only [execOp, ho, g1, g2, Instr.indexAt, Go.asIntOf, Sem.run_bind, Sem.run_pure, Result.andThen_ok, run_underlying ht]
        have hc:(0:Int)≤(r:Int)∧(r:Int)<(len:Int) := by omega
        simp [hc, C0 he, E9]
      · simp only [B1]
        refine ⟨b, q+r*z, c, e', fr, rfl, c4, fun j hj => ?_⟩
        have h6:r*z+j<len*z := Nat.lt_of_lt_of_le (Nat.add_lt_add_left hj _) (by rw [←Nat.succ_mul]; exact Nat.mul_le_mul_right _ (by omega))
        obtain ⟨y, y1, y2⟩ := c5 (r*z+j) h6
        exact ⟨y, by rw [Nat.add_assoc]; exact y1, y2⟩
    | rx l m z =>
      have hg':R.good (br (Nat.beq z esz) (br (Nat.ble (Nat.succ r) m) (κ (.oth (.rp (l.drop (Nat.mul r esz)))) h n) (.fail "")) (.fail "")) := hg
      obtain ⟨h4, e4⟩ := A8 hg'
      rw [e4] at hg'
      obtain ⟨h5, e5⟩ := A8 hg'
      have h4 := Nat.eq_of_beq_eq_true h4
      have h5 := DL h5
      subst h4
      refine ⟨_, e1.trans (e2.trans (e3.trans (e4.trans e5))), fun φ a w hT hg => ?_⟩
      have g1 := A7 hx hT
      have g2 := A7 hi hT
      rw [hxv] at g1; rw [hiv] at g2
      simp only [B1] at g1
      obtain ⟨ad, cap, g1, c1, c3, c4⟩ := g1
      obtain ⟨b, q, c, e', fr, rfl, c2, c4⟩ := c4 (by omega)
      have g2 := Gj hr g2
      refine ⟨.pointer (some ⟨b, q+r*z, none⟩), ?_, ?_⟩
      · simp only [execOp, ho, g1, g2, Instr.indexAt, Go.asIntOf, Sem.run_bind, Sem.run_pure, Result.andThen_ok, run_underlying ht]
        have hc:(0:Int)≤(r:Int)∧(r:Int)<(m:Int) := by omega
        simp [hc, C0 he, E9]
      · simp only [B1]
        refine ⟨b, q+r*z, c, e', fr, rfl, c2, fun j v hv => ?_⟩
        rw [List.getElem?_drop] at hv
        obtain ⟨y, y1, y2⟩ := c4 (r*z+j) v hv
        exact ⟨y, by rw [Nat.add_assoc]; exact y1, y2⟩
    | rb m d =>
      have hg':R.good (br (Nat.beq esz 1) (br (Nat.ble (Nat.succ r) m) (κ (.oth (.rp [.i .u8 (Ev.lo (sh d r) 1)])) h n) (.fail "")) (.fail "")) := hg
      obtain ⟨h4, e4⟩ := A8 hg'
      rw [e4] at hg'
      obtain ⟨h5, e5⟩ := A8 hg'
      have h4 := Nat.eq_of_beq_eq_true h4
      have h5 := DL h5
      subst h4
      refine ⟨_, e1.trans (e2.trans (e3.trans (e4.trans e5))), fun φ a w hT hg => ?_⟩
      have g1 := A7 hx hT
      have g2 := A7 hi hT
      rw [hxv] at g1; rw [hiv] at g2
      simp only [B1, Ik] at g1
      obtain ⟨ad, cap, g1, c1, c3, c4⟩ := g1
      obtain ⟨b, q, c, e', fr, rfl, c2, c4⟩ := c4 (by omega)
      have g2 := Gj hr g2
      refine ⟨.pointer (some ⟨b, q+r, none⟩), ?_, ?_⟩
      · simp only [execOp, ho, g1, g2, Instr.indexAt, Go.asIntOf, Sem.run_bind, Sem.run_pure, Result.andThen_ok, run_underlying ht]
        have hc:(0:Int)≤(r:Int)∧(r:Int)<(m:Int) := by omega
        simp [hc, C0 he, E9]
      · simp only [B1]
        refine ⟨b, q+r, c, e', fr, rfl, c2, fun j v hv => ?_⟩
        cases j with
        | succ j => simp at hv
        | zero =>
          have hv:some (RV.i .u8 (Ev.lo (sh d r) 1))=some v := hv
          cases hv
          have hlt:d / 256 ^ r % 256<256 := Nat.mod_lt _ (by decide)
          refine ⟨_, c4 r h5, ?_⟩
          rw [UW]
          exact ⟨hlt, by rw [B0 (by simp only [Hk]; exact hlt)]⟩
    | _ => exact hg.elim
  rw [e3] at hg
  obtain ⟨h4, e4⟩ := A8 hg
  rw [e4] at hg
  obtain ⟨h5, e5⟩ := A8 hg
  have h4 := Nat.eq_of_beq_eq_true h4
  have h5 := DL h5
  subst h4
  refine ⟨_, e1.trans (e2.trans (e3.trans (e4.trans e5))), fun φ a w hT hg => ?_⟩
  have g1 := A7 hx hT
  have g2 := A7 hi hT
  rw [hxv] at g1; rw [hiv] at g2
  obtain ⟨b, s, tot, q, cap', hp, g1, c1, c2, c3, c4⟩ := EN g1
  have g2 := Gj hr g2
  obtain ⟨c5, c6⟩ := c4 (by omega)
  refine ⟨.pointer (some ⟨b, s+(off+r*esz'), none⟩), ?_, by simp only [B1]; exact ⟨b, s, tot, hp, rfl⟩⟩
  simp only [execOp, ho, g1, g2, Instr.indexAt, Go.asIntOf, Sem.run_bind, Sem.run_pure, Result.andThen_ok, run_underlying ht]
  have hc:(0:Int)≤(r:Int)∧(r:Int)<(len:Int) := by omega
  simp [hc, C0 he, E9, c5, Nat.add_assoc]
theorem ON {ty e:TypeId} {m esz:Nat} {x i:Operand} {x' i':Opd} (ho:o.op = .indexAddr ty x i) (hx:BS N x=some x') (hi:BS N i=some i') (ht:P.underlying ty=some (.array m e)) (he:Dz P e=some esz) :
    D6 P ρ B N o (NE m esz x' i' cf t h n) t h n := by
  intro κ hg
  have e1:NE m esz x' i' cf t h n κ=KY (ev i' t) fun a => Mc (ev x' t) fun p off => br (Nat.ble (Nat.succ a) m) (κ (.ptr p (Nat.add off (Nat.mul a esz))) h n) (.fail "") := by
    simp only [NE, BM, A2]
  rw [e1] at hg
  obtain ⟨k, r, hiv, hr, e2⟩ := FG hg
  rw [e2] at hg
  obtain ⟨p, off, hxv, e3⟩ := FD hg
  rw [e3] at hg
  obtain ⟨h5, e5⟩ := A8 hg
  have h5 := DL h5
  refine ⟨_, e1.trans (e2.trans (e3.trans e5)), fun φ a w hT hg => ?_⟩
  have g1 := A7 hx hT
  have g2 := A7 hi hT
  rw [hxv] at g1; rw [hiv] at g2
  obtain ⟨b, s, tot, hp, g1⟩ := EY g1
  have g2 := Gj hr g2
  refine ⟨.pointer (some ⟨b, s+(off+r*esz), none⟩), ?_, by simp only [B1]; exact ⟨b, s, tot, hp, rfl⟩⟩
  simp only [execOp, ho, g1, g2, Instr.indexAt, Go.asIntOf, Instr.sureAddr, Sem.run_bind, Sem.run_pure, Result.andThen_ok, run_underlying ht]
  have hc:(0:Int)≤(r:Int)∧(r:Int)<(m:Int) := by omega
  simp [hc, C0 he, E9, Nat.add_assoc]
theorem O7 {ty:TypeId} {x i:Operand} {x' i':Opd} (ho:o.op = .index ty x i) (hx:BS N x=some x') (hi:BS N i=some i') (ht:P.underlying ty=some .string) :
    D6 P ρ B N o (Oa x' i' cf t h n) t h n := by
  intro κ hg
  have e1:Oa x' i' cf t h n κ=KY (ev i' t) fun a => Dd (ev x' t) fun m c => br (Nat.ble (Nat.succ a) m) (κ (.int .u8 (lo (sh c a) 1)) h n) (.fail "") := by
    simp only [Oa, BM, A2]
  rw [e1] at hg
  obtain ⟨k, r, hiv, hr, e2⟩ := FG hg
  rw [e2] at hg
  obtain ⟨m, c, hxv, e3⟩ := E6 hg
  rw [e3] at hg
  obtain ⟨h5, e5⟩ := A8 hg
  have h5 := DL h5
  refine ⟨_, e1.trans (e2.trans (e3.trans e5)), fun φ a w hT hg => ?_⟩
  have g1 := A7 hx hT
  have g2 := A7 hi hT
  rw [hxv] at g1; rw [hiv] at g2
  obtain ⟨s, gx, hs, hc⟩ := Ep g1
  have g2 := Gj hr g2
  clear g1
  subst hs hc
  have hr':r<s.data.toList.length := by rw [DQ]; exact h5
  have hb:lo (sh (BU s.data.toList) r) 1=s.data.toList[r].toNat := by rw [UW]; exact Jf _ _ hr'
  have hlt := s.data.toList[r].toNat_lt
  refine ⟨.int .u8 (s.data.toList[r].toNat:Nat), ?_, ?_⟩
  · simp only [execOp, ho, gx, g2, Instr.index, Go.asIntOf, Sem.run_bind, Sem.run_pure, Result.andThen_ok, run_underlying ht]
    have h0:(0:Int)≤(r:Int) := by omega
    have A6:s[(r:Int).toNat]? = some s.data.toList[r] := by
      rw [Int.toNat_natCast, getElem?_pos s r h5]; rfl
    simp only [h0, if_true, A6, Sem.run_pure, Result.andThen_ok]
  · rw [hb]
    simp only [B1]
    refine ⟨by simp [Mk]; exact hlt, ?_⟩
    rw [B0 (by simp [Hk]; exact hlt)]
theorem Nv {ty e:TypeId} {m esz:Nat} {ag:Bool} {x i:Operand} {x' i':Opd} (ho:o.op = .index ty x i) (hx:BS N x=some x') (hi:BS N i=some i') (ht:P.underlying ty=some (.array m e))
    (ha:Mm P e=some ag) (he:Dz P e=some esz):D6 P ρ B N o (Ov m esz ag x' i' cf t h n) t h n := by
  intro κ hg
  have e1:Ov m esz ag x' i' cf t h n κ=KY (ev i' t) fun a => asAgg (ev x' t) fun l => br (Nat.ble (Nat.succ a) m) (br ag (GB (Nat.mul a esz) l fun r => FX esz r fun r => κ (.agg r) h n) (G6 (Nat.mul a esz) l fun v => κ v h n)) (.fail "") := by
    simp only [Ov, BM, A2]
  rw [e1] at hg
  obtain ⟨k, r, hiv, hr, e2⟩ := FG hg
  rw [e2] at hg
  obtain ⟨l, hxv, e3⟩ := EF hg
  rw [e3] at hg
  obtain ⟨h5, e5⟩ := A8 hg
  rw [e5] at hg
  have h5 := DL h5
  have key:∀ (v:V) (part:∀ (φ:CP) (cs:Array Value) (w:World), DE ρ φ l cs.toList->(∀ y∈cs.toList, y.oneCell'=true)->∃ X, (Go.part e cs (r*esz)).run P w = .ok X w∧B1 ρ φ v X), UF P ρ B N o t h n v := fun v part =>
    fun φ a w hT hg => by
      have g1 := A7 hx hT
      have g2 := A7 hi hT
      rw [hxv] at g1; rw [hiv] at g2
      obtain ⟨cs, g1, hl, h2⟩ := Gz g1
      have g2 := Gj hr g2
      obtain ⟨X, hX, hrX⟩ := part φ cs w hl h2
      refine ⟨X, ?_, hrX⟩
      simp only [execOp, ho, g1, g2, Instr.index, Go.asIntOf, Sem.run_bind, Sem.run_pure, Result.andThen_ok, run_underlying ht]
      have hc:(0:Int)≤(r:Int)∧(r:Int)<(m:Int) := by omega
      simp [hc, C0 he, hX]
  cases ag with
  | true =>
    have hg:R.good (GB (r*esz) l fun r => FX esz r fun r => κ (.agg r) h n) := hg
    obtain ⟨_, e6⟩ := Hp hg
    rw [e6] at hg
    obtain ⟨h7, e7⟩ := Hr hg
    refine ⟨.agg ((l.drop (r*esz)).take esz), e1.trans (e2.trans (e3.trans (e5.trans (e6.trans e7)))), key _ fun φ cs w hl h2 => ?_⟩
    refine ⟨.agg (cs.extract (r*esz) (r*esz+esz)), by simp [part, Ek ha, C0 he], ?_⟩
    simp only [B1]
    have hx:(cs.extract (r*esz) (r*esz+esz)).toList=(cs.toList.drop (r*esz)).take esz := by simp
    exact ⟨_, rfl, by rw [hx]; exact L1 (Lj hl _) _, fun y hy => h2 y (by rw [hx] at hy; exact List.mem_of_mem_drop (List.mem_of_mem_take hy))⟩
  | false =>
    have hg:R.good (G6 (r*esz) l fun v => κ v h n) := hg
    obtain ⟨v, hv, e6⟩ := Ha hg
    refine ⟨v, e1.trans (e2.trans (e3.trans (e5.trans e6))), key v fun φ cs w hl h2 => ?_⟩
    obtain ⟨X, hX, hrX⟩ := (Em.1 hl).2 _ v hv
    exact ⟨X, by simp [part, Ek ha, show cs[r*esz]? = some X by simpa using hX], hrX⟩
theorem Lv {x:Operand} {x':Opd} (ho:o.op = .nilCheck x) (hx:BS N x=some x'):D6 P ρ B N o (F2 x' cf t h n) t h n := by
  intro κ hg
  cases hv:ev x' t with
  | ptr p off =>
    refine ⟨_, (by simp only [F2, BM]; rw [hv]:F2 x' cf t h n κ=κ (.ptr p off) h n), fun φ a w hT hg => ?_⟩
    have g1 := A7 hx hT
    rw [hv] at g1
    obtain ⟨b, s, tot, hp, e⟩ := EY g1
    exact ⟨a.eval x, by simp [execOp, ho, e], g1⟩
  | fn f l =>
    refine ⟨_, (by simp only [F2, BM]; rw [hv]:F2 x' cf t h n κ=κ (.fn f l) h n), fun φ a w hT hg => ?_⟩
    have g1 := A7 hx hT
    rw [hv] at g1
    obtain ⟨cs, e, hl⟩ := L7 g1
    exact ⟨a.eval x, by simp [execOp, ho, e], g1⟩
  | oth oo =>
    cases oo with
    | rp l =>
      refine ⟨_, (by simp only [F2, BM]; rw [hv]; rfl:F2 x' cf t h n κ=κ (.oth (.rp l)) h n), fun φ a w hT hg => ?_⟩
      have g1 := A7 hx hT
      rw [hv] at g1
      have g1' := g1
      simp only [B1] at g1'
      obtain ⟨b, q, c, e', fr, e, _⟩ := g1'
      exact ⟨a.eval x, by simp [execOp, ho, e], g1⟩
    | _ =>
      have e:F2 x' cf t h n κ = .fail "" := by simp only [F2, BM]; rw [hv]; rfl
      rw [e] at hg; exact hg.elim
  | _ =>
    have e:F2 x' cf t h n κ = .fail "" := by simp only [F2, BM]; rw [hv]
    rw [e] at hg; exact hg.elim
theorem PS {k:IntKind} {x y:Int} (w:World):(Builtin.max2 (.int k x) (.int k y)).run P w = .ok (.int k (if y > x then y else x)) w := rfl
theorem Uz {k:IntKind} {x y:Int} (w:World):(Builtin.min2 (.int k x) (.int k y)).run P w = .ok (.int k (if y<x then y else x)) w := rfl
theorem OG {c:Call} {x y:Operand} {x' y':Opd} (ho:o.op = .call c) (hc:c.callee = .builtin .min) (ha:c.args.toList=[x, y]) (hx:BS N x=some x') (hy:BS N y=some y') :
    D6 P ρ B N o (NC x' y' cf t h n) t h n := by
  intro κ hg
  have e1:NC x' y' cf t h n κ=Yf (ev x' t) (ev y' t) fun v => κ v h n := by simp only [NC, BM]
  rw [e1] at hg
  obtain ⟨u, e2, H⟩ := VH hg
  refine ⟨u, e1.trans e2, fun φ ac w hT hg => ?_⟩
  have g1 := A7 hx hT
  have g2 := A7 hy hT
  obtain ⟨k, p, q, q1, q2, hr⟩ := H ρ φ _ _ g1 g2
  have hargs:c.args = #[x, y] := by rw [←ha]
  refine ⟨_, ?_, hr⟩
  simp only [execOp, ho, resolve, hc, hargs, invoke, builtin, Builtin.min_, Sem.run_bind, Sem.run_pure, Result.andThen_ok]
  simp only [List.map_toArray, List.map_cons, List.map_nil, List.foldlM_cons, List.foldlM_nil, q1, q2, Sem.run_bind, Uz, Result.andThen_ok, Sem.run_pure]
theorem NI {c:Call} {x y:Operand} {x' y':Opd} (ho:o.op = .call c) (hc:c.callee = .builtin .max) (ha:c.args.toList=[x, y]) (hx:BS N x=some x') (hy:BS N y=some y') :
    D6 P ρ B N o (OQ x' y' cf t h n) t h n := by
  intro κ hg
  have e1:OQ x' y' cf t h n κ=Yb (ev x' t) (ev y' t) fun v => κ v h n := by simp only [OQ, BM]
  rw [e1] at hg
  obtain ⟨u, e2, H⟩ := V9 hg
  refine ⟨u, e1.trans e2, fun φ ac w hT hg => ?_⟩
  have g1 := A7 hx hT
  have g2 := A7 hy hT
  obtain ⟨k, p, q, q1, q2, hr⟩ := H ρ φ _ _ g1 g2
  have hargs:c.args = #[x, y] := by rw [←ha]
  refine ⟨_, ?_, hr⟩
  simp only [execOp, ho, resolve, hc, hargs, invoke, builtin, Builtin.max_, Sem.run_bind, Sem.run_pure, Result.andThen_ok]
  simp only [List.map_toArray, List.map_cons, List.map_nil, List.foldlM_cons, List.foldlM_nil, q1, q2, Sem.run_bind, PS, Result.andThen_ok, Sem.run_pure]
theorem JT {l:List Operand} {x:Opd} {xs:List Opd} (h:DC N l=some (x::xs)):∃ x0 l0, l=x0::l0∧BS N x0=some x∧DC N l0=some xs := by
  cases l with
  | nil => simp [DC] at h
  | cons a l =>
    simp only [DC] at h
    split at h
    · rename_i y ys h1 h2
      cases h
      exact ⟨a, l, rfl, h1, h2⟩
    · cases h
theorem J9 {l:List Operand} {x y z:Opd} (h:DC N l=some [x, y, z]):∃ x0 y0 z0, l=[x0, y0, z0]∧BS N x0=some x∧BS N y0=some y∧BS N z0=some z := by
  obtain ⟨x0, l0, rfl, hx, h⟩ := JT h
  obtain ⟨y0, l1, rfl, hy, h⟩ := JT h
  obtain ⟨z0, l2, rfl, hz, h⟩ := JT h
  cases l2 with
  | nil => exact ⟨x0, y0, z0, rfl, hx, hy, hz⟩
  | cons a l =>
    simp only [DC] at h
    split at h <;> cases h
theorem MW {c:Call} {x y z:Operand} {x' y' z':Opd} (ho:o.op = .call c) (hc:c.callee = .builtin .max) (ha:c.args.toList=[x, y, z]) (hx:BS N x=some x') (hy:BS N y=some y') (hz:BS N z=some z') :
    D6 P ρ B N o (Lb x' y' z' cf t h n) t h n := by
  intro κ hg
  have e1:Lb x' y' z' cf t h n κ=Jx (ev x' t) fun k a => Jx (ev y' t) fun j b => Jx (ev z' t) fun i c => br (D0 k j) (br (D0 k i) (br (Ga k a b) (br (Ga k b c) (κ (ev z' t) h n) (κ (ev y' t) h n)) (br (Ga k a c) (κ (ev z' t) h n) (κ (ev x' t) h n))) (.fail "")) (.fail "") := by simp only [Lb, BM]
  rw [e1] at hg
  obtain ⟨k, a, hxv, e2⟩ := Ew hg
  rw [e2] at hg
  obtain ⟨j, b, hyv, e3⟩ := Ew hg
  rw [e3] at hg
  obtain ⟨i, d, hzv, e4⟩ := Ew hg
  rw [e4] at hg
  obtain ⟨rfl, e5⟩ := kb hg
  rw [e5] at hg
  obtain ⟨rfl, e6⟩ := kb hg
  refine ⟨if Ga k a b then (if Ga k b d then ev z' t else ev y' t) else (if Ga k a d then ev z' t else ev x' t), e1.trans (e2.trans (e3.trans (e4.trans (e5.trans (e6.trans (by cases Ga k a b <;> cases Ga k b d <;> cases Ga k a d <;> rfl)))))), fun φ ac w hT hg => ?_⟩
  have g1 := A7 hx hT
  have g2 := A7 hy hT
  have g3 := A7 hz hT
  have g1' := g1; have g2' := g2; have g3' := g3
  rw [hxv] at g1'; rw [hyv] at g2'; rw [hzv] at g3'
  obtain ⟨ha1, q1⟩ := Eo g1'
  obtain ⟨hb1, q2⟩ := Eo g2'
  obtain ⟨hd1, q3⟩ := Eo g3'
  have hargs:c.args = #[x, y, z] := by rw [←ha]
  refine ⟨if Ga k a b then (if Ga k b d then ac.eval z else ac.eval y) else (if Ga k a d then ac.eval z else ac.eval x), ?_, by cases Ga k a b <;> cases Ga k b d <;> cases Ga k a d <;> assumption⟩
  simp only [execOp, ho, resolve, hc, hargs, invoke, builtin, Builtin.max_, Sem.run_bind, Sem.run_pure, Result.andThen_ok]
  simp only [List.map_toArray, List.map_cons, List.map_nil, List.foldlM_cons, List.foldlM_nil, q1, q2, q3, Sem.run_bind, PS, Result.andThen_ok, Sem.run_pure]
  rw [H3 ha1 hb1, H3 hb1 hd1, H3 ha1 hd1]
  by_cases h1:Eb k a<Eb k b <;> by_cases h2:Eb k b<Eb k d <;> by_cases h3:Eb k a<Eb k d <;> simp [h1, h2, h3]
end
end Go.Ev

namespace Go.Ev
set_option linter.unusedVariables false
section
variable {P:Program} {ρ:Env} {B N:Nat} {o:Oper} {cf:CF} {t:Regs} {h:Heap} {n:K4}
def QV (v:Option Value) (r d:Nat):Prop := (v=none∧r=d) ∨ ∃ k, v=some (.int k (r:Int))
theorem DR {oo:Option Operand} {x:Option Opd} (hx:Im N oo=some x) {d:Nat} {κ:Nat->R} (hg:(DX x t d κ).good) :
    ∃ r, DX x t d κ=κ r ∧ ∀ φ a, TR ρ N φ t a->QV (oo.map a.eval) r d := by
  cases oo with
  | none =>
    simp only [Im, Option.some.injEq] at hx; subst hx
    exact ⟨d, rfl, fun φ a _ => .inl ⟨rfl, rfl⟩⟩
  | some y =>
    simp only [Im] at hx
    cases hy:BS N y with
    | none => rw [hy] at hx; cases hx
    | some y' =>
      rw [hy] at hx; cases hx
      have e:DX (some y') t d κ=KY (ev y' t) κ := BM y' t _
      rw [e] at hg
      obtain ⟨k, r, hv, hr, e'⟩ := FG hg
      refine ⟨r, e.trans e', fun φ a ht => .inr ⟨k, ?_⟩⟩
      have := A7 hy ht
      rw [hv] at this
      rw [Option.map_some, Gj hr this]
theorem Fo {sl:Bool} {len cap:Nat} {lo hi:Option Value} {l m:Nat} (hl:QV lo l 0) (hh:QV hi m len) (h1:l≤m) (h2:m≤cap) (w:World) :
    (Instr.sliceBounds sl len cap lo hi none).run P w = .ok (l, m, cap) w := by
  have hb:∀ (k:IntKind) (r y:Nat) (c:BoundsCode), r≤y->(Instr.sliceBound (.int k (r:Int)) y c).run P w = .ok r w := fun k r y c hr => by
    simp only [Instr.sliceBound, Go.asIntOf, Sem.run_bind, Sem.run_pure, Result.andThen_ok]
    have hc:(0:Int)≤(r:Int)∧(r:Int)≤(y:Int) := by omega
    simp [hc]
  rcases hl with ⟨rfl, rfl⟩ | ⟨k, rfl⟩ <;> rcases hh with ⟨rfl, rfl⟩ | ⟨j, rfl⟩ <;> simp [Instr.sliceBounds, hb _ _ _ _ h1, hb _ _ _ _ h2]
theorem NX {ty:TypeId} {x:Operand} {lo hi:Option Operand} {x':Opd} {lo' hi':Option Opd} (ho:o.op = .slice ty x lo hi none) (hx:BS N x=some x') (hlo:Im N lo=some lo') (hhi:Im N hi=some hi')
    (ht:P.underlying ty=some .string):D6 P ρ B N o (Ks x' lo' hi' cf t h n) t h n := by
  intro κ hg
  have e0:Ks x' lo' hi' cf t h n κ=W3 (ev x' t) (fun l0 l1 _ _ => br (br (Gv hi') true (Nat.beq l0 l1)) (DX hi' t l0 fun b => DX lo' t 0 fun a => br (Nat.ble a b) (br (Nat.ble b l0) (κ (.oth (.ss (Nat.sub b a) (Nat.sub b a) (Nat.succ (Nat.sub b a)) 0)) h n) (.fail "")) (.fail "")) (.fail "")) (Dd (ev x' t) fun m c => DX hi' t m fun b => DX lo' t 0 fun a => br (Nat.ble a b) (br (Nat.ble b m) (κ (.str (Nat.sub b a) (Ev.lo (sh c a) (Nat.sub b a))) h n) (.fail "")) (.fail "")) := by
    simp only [Ks, BM, A2]
  rw [e0] at hg
  rcases L2 (ev x' t) (fun l0 l1 _ _ => br (br (Gv hi') true (Nat.beq l0 l1)) (DX hi' t l0 fun b => DX lo' t 0 fun a => br (Nat.ble a b) (br (Nat.ble b l0) (κ (.oth (.ss (Nat.sub b a) (Nat.sub b a) (Nat.succ (Nat.sub b a)) 0)) h n) (.fail "")) (.fail "")) (.fail "")) (Dd (ev x' t) fun m c => DX hi' t m fun b => DX lo' t 0 fun a => br (Nat.ble a b) (br (Nat.ble b m) (κ (.str (Nat.sub b a) (Ev.lo (sh c a) (Nat.sub b a))) h n) (.fail "")) (.fail "")) with ⟨l0, l1, _, _, hxv, e1⟩ | e1
  · rw [e1] at hg
    obtain ⟨hex, e2⟩ := A8 hg
    rw [e2] at hg
    obtain ⟨b, e3, hb⟩ := DR (ρ := ρ) hhi hg
    rw [e3] at hg
    obtain ⟨a, e4, ha⟩ := DR (ρ := ρ) hlo hg
    rw [e4] at hg
    obtain ⟨h6, e6⟩ := A8 hg
    rw [e6] at hg
    obtain ⟨h7, e7⟩ := A8 hg
    have h6 := A5.1 h6; have h7 := A5.1 h7
    refine ⟨_, e0.trans (e1.trans (e2.trans (e3.trans (e4.trans (e6.trans e7))))), fun φ ac w hT hg => ?_⟩
    have g1 := A7 hx hT
    rw [hxv] at g1
    simp only [B1] at g1
    obtain ⟨s, gx, c1, c2, _⟩ := g1
    have hb':QV (hi.map ac.eval) b s.size := by
      rcases hb φ ac hT with ⟨h1, h2⟩ | h1
      · left
        refine ⟨h1, ?_⟩
        have hn:Gv hi'=false := by
          cases hi with
          | some y => cases h1
          | none => simp only [Im, Option.some.injEq] at hhi; subst hhi; rfl
        rw [hn, AJ] at hex
        have := Nat.eq_of_beq_eq_true hex
        omega
      · exact .inr h1
    refine ⟨.string (s.extract a b), ?_, ?_⟩
    · simp only [execOp, ho, gx, Instr.sliceAt, Instr.slice, Sem.run_bind, run_underlying ht, Result.andThen_ok, Option.map_none]
      simp [Fo (ha φ ac hT) hb' h6 (by omega:b≤s.size)]
    · simp only [B1]
      have hsz:(s.extract a b).size=b - a := by rw [ByteArray.size_extract]; omega
      exact ⟨_, rfl, by show b - a≤_; omega, by show _≤b - a; omega, fun h => by have h1:(s.extract a b).size=(b - a)+1 := h.1; omega⟩
  have e1 := e0.trans e1
  rw [←e0, e1] at hg
  obtain ⟨m, c, hxv, e2⟩ := E6 hg
  rw [e2] at hg
  obtain ⟨b, e3, hb⟩ := DR (ρ := ρ) hhi hg
  rw [e3] at hg
  obtain ⟨a, e4, ha⟩ := DR (ρ := ρ) hlo hg
  rw [e4] at hg
  obtain ⟨h5, e5⟩ := A8 hg
  rw [e5] at hg
  obtain ⟨h6, e6⟩ := A8 hg
  have h5 := A5.1 h5; have h6 := A5.1 h6
  refine ⟨_, e1.trans (e2.trans (e3.trans (e4.trans (e5.trans e6)))), fun φ ac w hT hg => ?_⟩
  have g1 := A7 hx hT
  rw [hxv] at g1
  obtain ⟨s, gx, hs, hc⟩ := Ep g1
  clear g1
  subst hs hc
  refine ⟨.string (s.extract a b), ?_, ?_⟩
  · simp only [execOp, ho, gx, Instr.sliceAt, Instr.slice, Sem.run_bind, run_underlying ht, Result.andThen_ok, Option.map_none]
    simp [Fo (ha φ ac hT) (hb φ ac hT) h5 h6]
  · have := Sh (s.extract a b) ρ φ
    have e:(s.extract a b).data.toList=(s.data.toList.drop a).take (b - a) := by
      rw [ByteArray.data_extract]; simp
    rw [e, ←Km, ←Kv] at this
    have hsz:(s.extract a b).size=b - a := by rw [ByteArray.size_extract]; omega
    rw [hsz] at this
    rw [FH, GV]; exact this
theorem OJ {ty e:TypeId} {esz:Nat} {x:Operand} {lo hi:Option Operand} {x':Opd} {lo' hi':Option Opd} (ho:o.op = .slice ty x lo hi none) (hx:BS N x=some x') (hlo:Im N lo=some lo') (hhi:Im N hi=some hi')
    (ht:P.underlying ty=some (.slice e)) (he:Dz P e=some esz):D6 P ρ B N o (Ky esz x' lo' hi' cf t h n) t h n := by
  intro κ hg
  have e0:Ky esz x' lo' hi' cf t h n κ=Yv (ev x' t) (fun l0 l1 => br (br (Gv hi') true (Nat.beq l0 l1)) (DX hi' t l0 fun b => DX lo' t 0 fun a => br (Nat.ble a b) (br (Nat.ble b l0) (κ (.oth (.os (Nat.sub b a) (Nat.sub b a))) h n) (.fail "")) (.fail "")) (.fail "")) (Gd (ev x' t) (DX hi' t 0 fun b => DX lo' t 0 fun a => br (Nat.beq b 0) (br (Nat.beq a 0) (κ (.nil .sl) h n) (.fail "")) (.fail ""))
      (fun p off len cap ex esz' => DX hi' t len fun b => DX lo' t 0 fun a => br (Nat.beq esz' esz) (br (Nat.ble a b) (br (Nat.ble b cap) (κ (.sl p (Nat.add off (Nat.mul a esz)) (Nat.sub b a) (Nat.sub cap a) ex esz) h n) (.fail "")) (.fail "")) (.fail "")) (fun o => LL o (fun l m z => DX hi' t m fun b => DX lo' t 0 fun a => br (Nat.beq z esz) (br (Nat.ble a b) (br (Nat.ble b m) (κ (.oth (.rx ((l.drop (Nat.mul a esz)).take (Nat.mul (Nat.sub b a) esz)) (Nat.sub b a) esz)) h n) (.fail "")) (.fail "")) (.fail "")) (JF o (fun m c => DX hi' t m fun b => DX lo' t 0 fun a => br (Nat.beq esz 1) (br (Nat.ble a b) (br (Nat.ble b m) (κ (.oth (.rb (Nat.sub b a) (Ev.lo (sh c a) (Nat.sub b a)))) h n) (.fail "")) (.fail "")) (.fail "")) (.fail "")))) := by
    simp only [Ky, BM, A2]
  rw [e0] at hg
  rcases TK (ev x' t) (fun l0 l1 => br (br (Gv hi') true (Nat.beq l0 l1)) (DX hi' t l0 fun b => DX lo' t 0 fun a => br (Nat.ble a b) (br (Nat.ble b l0) (κ (.oth (.os (Nat.sub b a) (Nat.sub b a))) h n) (.fail "")) (.fail "")) (.fail "")) (Gd (ev x' t) (DX hi' t 0 fun b => DX lo' t 0 fun a => br (Nat.beq b 0) (br (Nat.beq a 0) (κ (.nil .sl) h n) (.fail "")) (.fail ""))
      (fun p off len cap ex esz' => DX hi' t len fun b => DX lo' t 0 fun a => br (Nat.beq esz' esz) (br (Nat.ble a b) (br (Nat.ble b cap) (κ (.sl p (Nat.add off (Nat.mul a esz)) (Nat.sub b a) (Nat.sub cap a) ex esz) h n) (.fail "")) (.fail "")) (.fail "")) (fun o => LL o (fun l m z => DX hi' t m fun b => DX lo' t 0 fun a => br (Nat.beq z esz) (br (Nat.ble a b) (br (Nat.ble b m) (κ (.oth (.rx ((l.drop (Nat.mul a esz)).take (Nat.mul (Nat.sub b a) esz)) (Nat.sub b a) esz)) h n) (.fail "")) (.fail "")) (.fail "")) (JF o (fun m c => DX hi' t m fun b => DX lo' t 0 fun a => br (Nat.beq esz 1) (br (Nat.ble a b) (br (Nat.ble b m) (κ (.oth (.rb (Nat.sub b a) (Ev.lo (sh c a) (Nat.sub b a)))) h n) (.fail "")) (.fail "")) (.fail "")) (.fail "")))) with ⟨l0, l1, hxv, e1⟩ | e1
  · rw [e1] at hg
    obtain ⟨hex, e2⟩ := A8 hg
    rw [e2] at hg
    obtain ⟨b, e3, hb⟩ := DR (ρ := ρ) hhi hg
    rw [e3] at hg
    obtain ⟨a, e4, ha⟩ := DR (ρ := ρ) hlo hg
    rw [e4] at hg
    obtain ⟨h6, e6⟩ := A8 hg
    rw [e6] at hg
    obtain ⟨h7, e7⟩ := A8 hg
    have h6 := A5.1 h6; have h7 := A5.1 h7
    refine ⟨_, e0.trans (e1.trans (e2.trans (e3.trans (e4.trans (e6.trans e7))))), fun φ ac w hT hg => ?_⟩
    have g1 := A7 hx hT
    rw [hxv] at g1
    simp only [B1] at g1
    obtain ⟨p, len, cap, gx, c1, c2, c3⟩ := g1
    have hb':QV (hi.map ac.eval) b len := by
      rcases hb φ ac hT with ⟨h1, h2⟩ | h1
      · left
        refine ⟨h1, ?_⟩
        have hn:Gv hi'=false := by
          cases hi with
          | some y => cases h1
          | none => simp only [Im, Option.some.injEq] at hhi; subst hhi; rfl
        rw [hn, AJ] at hex
        have := Nat.eq_of_beq_eq_true hex
        omega
      · exact .inr h1
    refine ⟨.slice (if cap=a then p else p.map (·.add (a*esz))) (b - a) (cap - a), ?_, ?_⟩
    · simp only [execOp, ho, gx, Instr.sliceAt, Instr.slice, Sem.run_bind, run_underlying ht, Result.andThen_ok, Option.map_none]
      simp [Fo (ha φ ac hT) hb' h6 (by omega:b≤cap), C0 he]
    · simp only [B1]
      exact ⟨_, _, _, rfl, Nat.le_refl _, Nat.le_refl _, by show b - a≤cap - a; omega⟩
  have e1 := e0.trans e1
  rw [←e0, e1] at hg
  rcases HM hg with ⟨hxv, e2⟩ | ⟨p, off, len, cap, ex, esz', hxv, e2⟩ | ⟨oo, hxv, e2⟩
  · rw [e2] at hg
    obtain ⟨b, e3, hb⟩ := DR (ρ := ρ) hhi hg
    rw [e3] at hg
    obtain ⟨a, e4, ha⟩ := DR (ρ := ρ) hlo hg
    rw [e4] at hg
    obtain ⟨h5, e5⟩ := A8 hg
    rw [e5] at hg
    obtain ⟨h6, e6⟩ := A8 hg
    have h5 := Nat.eq_of_beq_eq_true h5; have h6 := Nat.eq_of_beq_eq_true h6
    subst h5 h6
    refine ⟨_, e1.trans (e2.trans (e3.trans (e4.trans (e5.trans e6)))), fun φ ac w hT hg => ?_⟩
    have g1 := A7 hx hT
    rw [hxv] at g1
    have gx := E3 g1
    refine ⟨.slice none 0 0, ?_, by simp only [B1, Ea]⟩
    simp only [execOp, ho, gx, Ea, Instr.sliceAt, Instr.slice, Sem.run_bind, run_underlying ht, Result.andThen_ok, Option.map_none]
    simp [Fo (ha φ ac hT) (hb φ ac hT) (Nat.le_refl 0) (Nat.le_refl 0), C0 he]
  · rw [e2] at hg
    obtain ⟨b, e3, hb⟩ := DR (ρ := ρ) hhi hg
    rw [e3] at hg
    obtain ⟨a, e4, ha⟩ := DR (ρ := ρ) hlo hg
    rw [e4] at hg
    obtain ⟨h5, e5⟩ := A8 hg
    rw [e5] at hg
    obtain ⟨h6, e6⟩ := A8 hg
    rw [e6] at hg
    obtain ⟨h7, e7⟩ := A8 hg
    have h5 := Nat.eq_of_beq_eq_true h5; have h6 := A5.1 h6; have h7 := A5.1 h7
    subst h5
    refine ⟨_, e1.trans (e2.trans (e3.trans (e4.trans (e5.trans (e6.trans e7))))), fun φ ac w hT hg => ?_⟩
    have g1 := A7 hx hT
    rw [hxv] at g1
    obtain ⟨bk, s, tot, q, cap', hp, gx, c1, c2, c3, c4⟩ := EN g1
    refine ⟨.slice (if cap'=a then some ⟨bk, q, none⟩ else some ⟨bk, q+a*esz', none⟩) (b - a) (cap' - a), ?_, ?_⟩
    · simp only [execOp, ho, gx, Instr.sliceAt, Instr.slice, Sem.run_bind, run_underlying ht, Result.andThen_ok, Option.map_none]
      simp [Fo (ha φ ac hT) (hb φ ac hT) h6 (Nat.le_trans h7 c2), C0 he, E9]
    · simp only [B1]
      by_cases hca:cap'=a
      · rw [if_pos hca]
        refine ⟨bk, s, tot, q, cap' - a, hp, rfl, by show b - a≤cap - a; omega, by show cap - a≤cap' - a; omega, fun hex => by have := c3 hex; show cap' - a=cap - a; omega, fun h0 => by omega⟩
      · rw [if_neg hca]
        refine ⟨bk, s, tot, q+a*esz', cap' - a, hp, rfl, by show b - a≤cap - a; omega, by show cap - a≤cap' - a; omega, fun hex => by have := c3 hex; show cap' - a=cap - a; omega, fun h0 => ?_⟩
        obtain ⟨c5, c6⟩ := c4 (by omega)
        refine ⟨by show q+a*esz'=s+(off+a*esz'); omega, ?_⟩
        have hmul:a*esz'+(cap' - a)*esz'=cap'*esz' := by rw [←Nat.add_mul]; congr 1; omega
        omega
  · rw [e2] at hg
    cases oo with
    | rx l m z =>
      have hg':R.good (DX hi' t m fun b => DX lo' t 0 fun a => br (Nat.beq z esz) (br (Nat.ble a b) (br (Nat.ble b m) (κ (.oth (.rx ((l.drop (Nat.mul a esz)).take (Nat.mul (Nat.sub b a) esz)) (Nat.sub b a) esz)) h n) (.fail "")) (.fail "")) (.fail "")) := hg
      obtain ⟨b, e3, hb⟩ := DR (ρ := ρ) hhi hg'
      rw [e3] at hg'
      obtain ⟨a, e4, ha⟩ := DR (ρ := ρ) hlo hg'
      rw [e4] at hg'
      obtain ⟨h5, e5⟩ := A8 hg'
      rw [e5] at hg'
      obtain ⟨h6, e6⟩ := A8 hg'
      rw [e6] at hg'
      obtain ⟨h7, e7⟩ := A8 hg'
      have h5 := Nat.eq_of_beq_eq_true h5
      have h6 := A5.1 h6; have h7 := A5.1 h7
      subst h5
      refine ⟨_, e1.trans (e2.trans (e3.trans (e4.trans (e5.trans (e6.trans e7))))), fun φ ac w hT hg => ?_⟩
      have g1 := A7 hx hT
      rw [hxv] at g1
      simp only [B1] at g1
      obtain ⟨ad, cap, gx, c1, c3, c4⟩ := g1
      have hlen:((l.drop (a*z)).take ((b - a)*z)).length=(b - a)*z := by
        rw [List.length_take, List.length_drop, c3]
        refine Nat.min_eq_left ?_
        rw [Nat.sub_mul]
        have := Nat.mul_le_mul_right z h7
        omega
      refine ⟨.slice (some (if cap=a then ad else ad.add (a*z))) (b - a) (cap - a), ?_, ?_⟩
      · simp only [execOp, ho, gx, Instr.sliceAt, Instr.slice, Sem.run_bind, run_underlying ht, Result.andThen_ok, Option.map_none]
        simp [Fo (ha φ ac hT) (hb φ ac hT) h6 (Nat.le_trans h7 c1), C0 he]
        split <;> rfl
      · simp only [B1]
        refine ⟨_, cap - a, rfl, by show b - a≤cap - a; omega, hlen, fun h0 => ?_⟩
        have h0:0<b - a := h0
        obtain ⟨bk, q, c, e', fr, rfl, c2, c4⟩ := c4 (by omega)
        refine ⟨bk, q+a*z, c, e', fr, by rw [if_neg (by omega)]; exact E9 .., c2, fun j v hv => ?_⟩
        have hv:((l.drop (a*z)).take ((b - a)*z))[j]? = some v := hv
        rw [List.getElem?_take] at hv
        split at hv
        · rw [List.getElem?_drop] at hv
          obtain ⟨y, y1, y2⟩ := c4 (a*z+j) v hv
          exact ⟨y, by rw [Nat.add_assoc]; exact y1, y2⟩
        · cases hv
    | rb m d =>
      have hg':R.good (DX hi' t m fun b => DX lo' t 0 fun a => br (Nat.beq esz 1) (br (Nat.ble a b) (br (Nat.ble b m) (κ (.oth (.rb (Nat.sub b a) (Ev.lo (sh d a) (Nat.sub b a)))) h n) (.fail "")) (.fail "")) (.fail "")) := hg
      obtain ⟨b, e3, hb⟩ := DR (ρ := ρ) hhi hg'
      rw [e3] at hg'
      obtain ⟨a, e4, ha⟩ := DR (ρ := ρ) hlo hg'
      rw [e4] at hg'
      obtain ⟨h5, e5⟩ := A8 hg'
      rw [e5] at hg'
      obtain ⟨h6, e6⟩ := A8 hg'
      rw [e6] at hg'
      obtain ⟨h7, e7⟩ := A8 hg'
      have h5 := Nat.eq_of_beq_eq_true h5
      have h6 := A5.1 h6; have h7 := A5.1 h7
      subst h5
      refine ⟨_, e1.trans (e2.trans (e3.trans (e4.trans (e5.trans (e6.trans e7))))), fun φ ac w hT hg => ?_⟩
      have g1 := A7 hx hT
      rw [hxv] at g1
      simp only [B1, Ik] at g1
      obtain ⟨ad, cap, gx, c1, c3, c4⟩ := g1
      refine ⟨.slice (some (if cap=a then ad else ad.add (a*1))) (b - a) (cap - a), ?_, ?_⟩
      · simp only [execOp, ho, gx, Instr.sliceAt, Instr.slice, Sem.run_bind, run_underlying ht, Result.andThen_ok, Option.map_none]
        simp [Fo (ha φ ac hT) (hb φ ac hT) h6 (Nat.le_trans h7 c1), C0 he]
        split <;> rfl
      · simp only [B1, Ik]
        have hlo2:Ev.lo (sh d a) (Nat.sub b a)=d / 256 ^ a % 256 ^ (b - a) := by rw [FH, GV]; rfl
        rw [hlo2]
        refine ⟨_, cap - a, rfl, by show b - a≤cap - a; omega, Nat.mod_lt _ (Nat.pow_pos (by decide)), fun h0 => ?_⟩
        have h0:0<b - a := h0
        obtain ⟨bk, q, c, e', fr, rfl, c2, c4⟩ := c4 (by omega)
        refine ⟨bk, q+a*1, c, e', fr, by rw [if_neg (by omega)]; exact E9 .., c2, fun j hj => ?_⟩
        have hj:j<b - a := hj
        rw [Nat.mul_one, Nat.add_assoc, c4 (a+j) (by omega), HH _ _ _ hj, Nat.div_div_eq_div_mul, ←Nat.pow_add]
    | _ => exact hg.elim
theorem Di {ob:Ob} {κ:Heap->K4->R} (hg:(Fi h n ob κ).good):∃ n':K4, n'.toN=n.toN+1∧Fi h n ob κ=κ (Aq n h (some ob)) n' := by
  have e:Fi h n ob κ=n.nx fun n' => κ (Aq n h (some ob)) n' := CS _ _ _ _
  rw [e] at hg
  rcases K4.nx_eq n (fun n' => κ (Aq n h (some ob)) n') with ⟨w, h'⟩ | ⟨q, h1, h2⟩
  · rw [h'] at hg; exact hg.elim
  · exact ⟨q, h1, e.trans h2⟩
theorem Gam.at_n {φ:CP} {w:World} (g:Gam ρ B h n φ w):φ n=none := by
  cases hx:φ n with
  | none => rfl
  | some x => have := g.dom n x hx; omega
/-- A new object for cells that are Gc. -/
theorem EB {φ:CP} {w:World} {n':K4} (g:Gam ρ B h n φ w) (hn:n'.toN=n.toN+1) {cs:Cs} {c:Array Value} {e:TypeId} {fr:Nat×Nat} (hl:cs.len≤c.size) (hf:XQ fr c.size)
    (hc:GY ρ φ cs fun i => c[i]?) :
    Gam ρ B (Aq n h (some (.c cs false none))) n' (GC φ n (w.heap.size, 0, c.size)) (w.alloc (.cells c e fr)) ∧
    Fr h (Aq n h (some (.c cs false none))) φ (GC φ n (w.heap.size, 0, c.size)) n n' w (w.alloc (.cells c e fr)) := by
  refine ⟨g.alloc g.at_n (by omega) (by omega) (.c cs false none) rfl _ c.size fun φ' hle w' hw' => ?_, Fr.alloc g.at_n (by omega) (Nat.le_refl _) (by omega) _ _ _⟩
  exact ⟨c, e, fr, hw', rfl, by omega, hf, Ig hle (fun i v hv => by rw [Nat.zero_add]; exact hc i v hv)⟩
theorem LP (k:Nat):XQ (0, 0) k := .inl rfl
theorem Gh {φ:CP} {l:List V} {xs:List Value} (h:DE ρ φ l xs) (h1:∀ y∈xs, y.oneCell'=true):GY ρ φ (.l l) fun i => xs[i]? := fun i v hv => by
  obtain ⟨x, hx, hr⟩ := (Em.1 h).2 i v hv
  exact ⟨x, hx, hr, h1 x (List.mem_of_getElem? hx)⟩
theorem Fn {φ:CP} {p:K4} {b tot:Nat}:B1 ρ (GC φ p (b, 0, tot)) (.ptr p 0) (.pointer (some ⟨b, 0, none⟩)) := by
  simp only [B1]; exact ⟨b, 0, tot, E5 _ _ _, rfl⟩
theorem Ht {e:TypeId} {c:Array Value} (w:World):(newRow e c).run P w = .ok ⟨w.heap.size, 0, none⟩ (w.alloc (.cells c e)) := rfl
theorem Tb {e:TypeId} {z:List V} (ho:o.op = .alloc e) (hz:FF P e=some z):EJ P ρ B N o (QD (.l z) cf t h n) t h n := by
  intro κ hg
  obtain ⟨n', hn, e1⟩ := Di (show R.good (Fi h n (.c (.l z) false none) fun h' n' => κ (.ptr n 0) h' n') from hg)
  refine ⟨_, _, _, e1, .value fun φ a w hT g => ?_⟩
  unfold FF at hz
  cases hi:(P.info? e).bind (·.zero) with
  | none => rw [hi] at hz; cases hz
  | some zv =>
    rw [hi] at hz
    obtain ⟨hl, h1⟩ := H8 (ρ := ρ) (show JI zv.cells.toList=some z from hz) φ
    have hc := Gh hl h1
    obtain ⟨g1, g2⟩ := EB g hn (e := e) (fr := (0, 0)) (c := zv.cells) (by have := CW hl; simp only [Cs.len]; simp at this; omega) (LP _) (cs := .l z) (fun i v hv => by simpa using hc i v hv)
    refine ⟨_, .pointer (some ⟨w.heap.size, 0, none⟩), _, ?_, g2, g1, Fn⟩
    simp [execOp, ho, Instr.alloc, Fz hi, newVar, Ht]
theorem TE {e:TypeId} {x:Operand} {x':Opd} (hρ:DA ρ) (ho:o.op = .box e x) (hx:BS N x=some x'):EJ P ρ B N o (KN x' cf t h n) t h n := by
  intro κ hg
  have e1:KN x' cf t h n κ=Gm (ev x' t) fun l => Fi h n (.c (.l l) false none) fun h' n' => κ (.ptr n 0) h' n' := by simp only [KN, BM]
  rw [e1] at hg
  obtain ⟨hc, e2⟩ := HI hg
  rw [e2] at hg
  obtain ⟨n', hn, e3⟩ := Di hg
  refine ⟨_, _, _, e1.trans (e2.trans e3), .value fun φ a w hT g => ?_⟩
  obtain ⟨hl, h1⟩ := Jm hρ hc (A7 hx hT)
  have hcs := Gh hl h1
  obtain ⟨g1, g2⟩ := EB g hn (e := e) (fr := (0, 0)) (c := (a.eval x).cells) (by have := CW hl; simp only [Cs.len]; simp at this; omega) (LP _) (cs := .l (ev x' t).cl) (fun i v hv => by simpa using hcs i v hv)
  refine ⟨_, .pointer (some ⟨w.heap.size, 0, none⟩), _, ?_, g2, g1, Fn⟩
  simp [execOp, ho, Instr.box, newVar, Ht]
theorem Q1 {ty:TypeId} (ho:o.op = .makeMap ty none):EJ P ρ B N o (KM cf t h n) t h n := by
  intro κ hg
  obtain ⟨n', hn, e1⟩ := Di (show R.good (Fi h n (.m [] [] 0) fun h' n' => κ (.map n) h' n') from hg)
  refine ⟨_, _, _, e1, .value fun φ a w hT g => ?_⟩
  refine ⟨_, .map (some w.heap.size), w.alloc (.map #[] 0), by simp [execOp, ho, Instr.makeMap, run_newObj], Fr.alloc g.at_n (by omega) (Nat.le_refl _) (by omega) _ _ 0, ?_, ?_⟩
  · exact g.alloc g.at_n (by omega) (by omega) (.m [] [] 0) rfl _ 0 fun φ' hle w' hw' => ⟨#[], hw', rfl, rfl⟩
  · simp only [B1]; exact ⟨w.heap.size, 0, 0, E5 _ _ _, rfl⟩
theorem T8 {src dst e:TypeId} {x:Operand} {x':Opd} (ho:o.op = .convert src dst x) (hx:BS N x=some x') (hs:P.underlying src=some .string) (hd:P.underlying dst=some (.slice e)) (he:P.underlying e=some (.int .u8)) :
    EJ P ρ B N o (KF x' cf t h n) t h n := by
  intro κ hg
  have e1:KF x' cf t h n κ=Dd (ev x' t) fun m c => Fi h n (.c (.b m c) false none) fun h' n' => κ (.sl n 0 m m false 1) h' n' := by simp only [KF, BM]
  rw [e1] at hg
  obtain ⟨m, c, hxv, e2⟩ := E6 hg
  rw [e2] at hg
  obtain ⟨n', hn, e3⟩ := Di hg
  refine ⟨_, _, _, e1.trans (e2.trans e3), .value fun φ a w hT g => ?_⟩
  have g1 := A7 hx hT
  rw [hxv] at g1
  obtain ⟨s, gx, hsz, hc⟩ := Ep g1
  clear g1
  subst hsz hc
  -- the capacity is drawn
  obtain ⟨cap, w1, hcap, hrun, hw1⟩:∃ cap w1, s.size≤cap∧(choose (.appendCap s.size 0 e)).run P w = .ok cap w1∧w1=w.drew := by
    refine ⟨_, _, ?_, by rw [run_choose]; simp only [Question.forced, Bool.false_eq_true, if_false]; rfl, rfl⟩
    simp only [Question.cut]; omega
  subst hw1
  let cells:Array Value := s.data.map (fun b => Value.int .u8 b.toNat)++Array.replicate (cap - s.size) (.int .u8 0)
  have hsize:cells.size=cap := by simp [cells]; omega
  have hcs:GY ρ φ (.b s.size (BU s.data.toList)) fun i => cells[i]? := fun i v hv => by
    have hi:i<s.size := Cs.lt_of_at hv
    rw [Cs.b_pos hi] at hv
    have hi':i<s.data.toList.length := by rw [DQ]; exact hi
    rw [Jf _ _ hi'] at hv
    cases hv
    have hlt := s.data.toList[i].toNat_lt
    refine ⟨.int .u8 (s.data.toList[i].toNat:Nat), ?_, ?_, rfl⟩
    · have hi2:i<s.data.size := hi
      show (s.data.map (fun b => Value.int .u8 b.toNat)++Array.replicate (cap - s.size) (.int .u8 0))[i]? = _
      rw [Array.getElem?_append_left (by simpa using hi2), Array.getElem?_map, Array.getElem?_eq_getElem hi2]
      simp
    · simp only [B1]
      exact ⟨by simp [Mk]; exact hlt, by rw [B0 (by simp [Hk]; exact hlt)]⟩
  obtain ⟨g2, g3⟩ := EB (g.drew) hn (e := e) (fr := (cap, cap+1)) (c := cells) (by simp only [Cs.len]; omega) (.inr (by rw [hsize]; exact Nat.le_refl _)) hcs
  refine ⟨_, .slice (some ⟨w.heap.size, 0, none⟩) s.size cap, _, ?_, Fr.trans Fr.drew g3, g2, ?_⟩
  · simp only [execOp, ho, gx, convert, Sem.run_bind, run_underlying hs, run_underlying hd, run_underlying he, Result.andThen_ok, Conv.stringToBytes, hrun]
    have hrow:(newRow e (Array.map (fun b => Value.int IntKind.u8 ↑b.toNat) s.data++Array.replicate (cap - s.size) (Value.int IntKind.u8 0))).run P w.drew = .ok ⟨w.heap.size, 0, none⟩ (w.drew.alloc (.cells cells e)) := rfl
    simp only [hrow, Result.andThen_ok]
    have hsh:(w.drew.alloc (.cells cells e)).shape? w.heap.size=some (e, cap) := by
      have:(w.drew.alloc (.cells cells e)).heap[w.heap.size]? = some (.cells cells e) := by show (w.heap.push _)[w.heap.size]? = _; simp
      unfold World.shape?; rw [this]; simp [hsize]
    have hfz:(w.drew.alloc (.cells cells e)).freeze { block := w.heap.size, off := cap } 1=w.drew.alloc (.cells cells e (cap, cap+1)) := by
      exact (J6 (show (w.drew.alloc (.cells cells e)).heap[w.heap.size]? = some (.cells cells e (0, 0)) from Kp (w := w.drew))).trans (Ma (w := w.drew))
    simp only [markStringish, Sem.run_bind, run_shape, hsh, Result.andThen_ok, run_freeze, hfz, Sem.run_pure]
  · simp only [B1]
    refine ⟨w.heap.size, 0, cells.size, 0, cap, E5 _ _ _, rfl, Nat.le_refl _, hcap, (fun h => by cases h), (fun _ => ⟨rfl, by rw [hsize]; omega⟩)⟩
end
end Go.Ev

namespace Go.Ev
set_option linter.unusedVariables false
section
variable {P:Program} {ρ:Env} {B N:Nat} {o:Oper} {cf:CF} {t:Regs} {h:Heap} {n:K4}
theorem Fl {p:K4} {κ:Cs->Bool->Option K4->R} (hg:(Jw p h κ).good):∃ cs sup prev, A6 p h=some (.c cs sup prev)∧Jw p h κ=κ cs sup prev := by
  have e:Jw p h κ=@Option.rec Ob (fun _ => R) (.fail "") (fun o => @Ob.rec (fun _ => R) κ (fun _ _ _ => .fail "") (fun _ _ _ _ => .fail "") (.fail "") (fun _ _ => .fail "") o) (A6 p h) := Ee _ _ _
  rw [e] at hg
  cases hx:A6 p h with
  | none => rw [hx] at hg; exact hg.elim
  | some ob =>
    rw [hx] at hg e
    cases ob with
    | c cs sup prev => exact ⟨cs, sup, prev, rfl, e⟩
    | m _ _ _ => exact hg.elim
    | it _ _ _ _ => exact hg.elim
    | it0 => exact hg.elim
    | lp _ _ => exact hg.elim
theorem GK {p:K4} {κ:List (V×V)->List Nat->Nat->R} (hg:(Oq p h κ).good):∃ es bs c, A6 p h=some (.m es bs c)∧Oq p h κ=κ es bs c := by
  have e:Oq p h κ=@Option.rec Ob (fun _ => R) (.fail "") (fun o => @Ob.rec (fun _ => R) (fun _ _ _ => .fail "") κ (fun _ _ _ _ => .fail "") (.fail "") (fun _ _ => .fail "") o) (A6 p h) := Ee _ _ _
  rw [e] at hg
  cases hx:A6 p h with
  | none => rw [hx] at hg; exact hg.elim
  | some ob =>
    rw [hx] at hg e
    cases ob with
    | c cs sup prev => exact hg.elim
    | m es bs c => exact ⟨es, bs, c, rfl, e⟩
    | it _ _ _ _ => exact hg.elim
    | it0 => exact hg.elim
    | lp _ _ => exact hg.elim
theorem WF {ρ:Env} {φ:CP} {z:Int} (z1 : -9223372036854775808≤z) (z2:z<9223372036854775808):B1 ρ φ (.oth (.iv .i64 0 18446744073709551615)) (.int .i64 z) := by
  simp only [B1]
  by_cases h0:0≤z
  · refine ⟨z.toNat, Nat.zero_le _, by omega, by simp only [Mk]; omega, ?_⟩
    rw [B0 (by simp only [Hk]; omega)]; congr 1; omega
  · refine ⟨(z+18446744073709551616).toNat, Nat.zero_le _, by omega, by simp only [Mk]; omega, ?_⟩
    rw [Fq (by simp only [Hk]; omega)]; congr 1; simp only [Mk]; omega
theorem VB {ρ:Env} {i j:Nat} {κ:V->R} (hg:(Z2 i j κ).good) (h3:¬ i≤36893488147419103231) (h5:i≤73786976294838206463):∃ v, Z2 i j κ=κ v ∧ ∀ (φ:CP) y, Np ρ i j y->B1 ρ φ v y := by
  have key:∀ y, Np ρ i j y->∃ r, r<Mk .i64∧y = .int .i64 (Eb .i64 r)∧(36893488147419103232<i->j=tcQ i->(Eb .i64 r).tmod (Ki i:Nat)+(Ki i:Nat)=(Sj i:Nat)) := fun y hy => by
    rcases hy with ⟨h, _⟩ | ⟨_, h, _⟩ | ⟨_, h, _⟩ | ⟨_, _, h⟩ | ⟨h, _⟩
    · omega
    · omega
    · omega
    · exact h
    · omega
  have any:∀ (φ:CP) y, Np ρ i j y->B1 ρ φ (.oth (.iv .i64 0 18446744073709551615)) y := fun φ y hy => by
    obtain ⟨r, hr, rfl, _⟩ := key y hy
    simp only [B1]; exact ⟨r, Nat.zero_le _, by simp only [Mk] at hr; omega, hr, rfl⟩
  unfold Z2 at hg ⊢
  cases h1:Nat.ble i 36893488147419103232 with
  | true => exact ⟨_, rfl, any⟩
  | false =>
    have h1':¬ i≤36893488147419103232 := fun h => by rw [A5.2 h] at h1; cases h1
    rw [h1, AJ] at hg
    rw [AJ]
    cases h2:Nat.beq j (tcQ i) with
    | false => exact ⟨_, rfl, any⟩
    | true =>
      rw [h2] at hg
      have h2:j=tcQ i := Nat.eq_of_beq_eq_true h2
      have hm:Ki i<65536 := Nat.mod_lt _ (by decide)
      have ht:Sj i<65536 := Nat.mod_lt _ (by decide)
      rw [Aa, A2, A2] at hg ⊢
      -- the remainder, as an integer
      have val:∀ y, Np ρ i j y->∃ z:Int, y = .int .i64 z ∧ -9223372036854775808≤z∧z<9223372036854775808∧z.tmod (Ki i:Nat)+(Ki i:Nat)=(Sj i:Nat) := fun y hy => by
        obtain ⟨r, hr, rfl, hz⟩ := key y hy
        have hz := hz (by omega) h2
        refine ⟨_, rfl, ?_, ?_, hz⟩
        · have hr:r<18446744073709551616 := hr
          by_cases hh:r<9223372036854775808
          · rw [B0 (by simp only [Hk]; omega)]; omega
          · rw [Fq (by simp only [Hk]; omega)]; simp only [Mk]; omega
        · have hr:r<18446744073709551616 := hr
          by_cases hh:r<9223372036854775808
          · rw [B0 (by simp only [Hk]; omega)]; omega
          · rw [Fq (by simp only [Hk]; omega)]; simp only [Mk]; omega
      have abs:∀ z:Int, (z.tmod (Ki i:Nat)).natAbs=z.natAbs % Ki i := fun z => by rw [Int.natAbs_tmod, Int.natAbs_natCast]
      cases h3:Nat.ble (Nat.succ (Ki i)) (Sj i) with
      | true =>
        have h3:Ki i+1≤Sj i := A5.1 h3
        refine ⟨.oth (.rs (18446744073709551616+Ki i) (Sj i - Ki i)), by rw [Aa, A2]; rfl, fun φ y hy => ?_⟩
        obtain ⟨z, rfl, z1, z2, z3⟩ := val y hy
        have ha := abs z
        have hz:0≤z := by
          by_cases hz:0≤z
          · exact hz
          · have h4:0≤(-z).tmod (Ki i:Nat) := Int.tmod_nonneg _ (by omega)
            rw [Int.neg_tmod] at h4
            omega
        simp only [B1]
        refine ⟨z, rfl, z1, z2, .inl ⟨by omega, ?_⟩, fun _ _ => hz, fun h => by omega⟩
        rw [show (18446744073709551616+Ki i) % 18446744073709551616=Ki i by omega, ←ha]; omega
      | false =>
        have h3':¬ Ki i+1≤Sj i := fun h => by rw [A5.2 h] at h3; cases h3
        rw [h3, AJ] at hg
        rw [AJ]
        cases h4:Nat.beq (Sj i) (Ki i) with
        | true =>
          have h4':Sj i=Ki i := Nat.eq_of_beq_eq_true h4
          rw [h4, Aa] at hg
          obtain ⟨h6, e⟩ := A8 hg
          refine ⟨.oth (.rs (Ki i) 0), by rw [Aa]; exact e, fun φ y hy => ?_⟩
          obtain ⟨z, rfl, z1, z2, z3⟩ := val y hy
          have ha := abs z
          simp only [B1]
          refine ⟨z, rfl, z1, z2, .inl ⟨by omega, ?_⟩, fun h => by omega, fun h => by omega⟩
          rw [Nat.mod_eq_of_lt (show Ki i<18446744073709551616 by omega), ←ha]; omega
        | false =>
          have h4':Sj i≠Ki i := fun h => by rw [h, Nat.beq_refl] at h4; cases h4
          refine ⟨.oth (.rs (73786976294838206464+Ki i) ((Ki i - Sj i)*18446744073709551616+(Ki i - Sj i))), by rw [AJ, A2]; rfl, fun φ y hy => ?_⟩
          obtain ⟨z, rfl, z1, z2, z3⟩ := val y hy
          have ha := abs z
          have hz:z<0 := by
            by_cases hz:0≤z
            · have h4:0≤z.tmod (Ki i:Nat) := Int.tmod_nonneg _ hz
              omega
            · omega
          simp only [B1]
          have e7:(73786976294838206464+Ki i) % 18446744073709551616=Ki i := by omega
          refine ⟨z, rfl, z1, z2, .inr ⟨by omega, ?_, ?_⟩, fun _ h => by omega, fun _ => hz⟩
          · rw [e7, ←ha]; omega
          · rw [e7, ←ha]; omega
theorem Uw {ρ:Env} {i j:Nat} {κ:V->R} (hg:(ZW i j κ).good) (h5:¬ i≤73786976294838206463):∃ v, ZW i j κ=κ v ∧ ∀ (φ:CP) y, Np ρ i j y->B1 ρ φ v y := by
  have key:∀ y, Np ρ i j y->∃ z:Int, y = .int .i64 z ∧ -9223372036854775808≤z∧z<9223372036854775808∧(j<tdN i->z.natAbs % Y5 i=tdD i j) := fun y hy => by
    rcases hy with ⟨h, _⟩ | ⟨_, h, _⟩ | ⟨_, h, _⟩ | ⟨_, h, _⟩ | ⟨_, z, rfl, z1, z2, z3⟩
    · omega
    · omega
    · omega
    · omega
    · exact ⟨z, rfl, z1, z2, z3⟩
  unfold ZW at hg ⊢
  cases h1:Nat.ble (Nat.succ j) (tdN i) with
  | false =>
    refine ⟨_, by rw [AJ], fun φ y hy => ?_⟩
    obtain ⟨z, rfl, z1, z2, _⟩ := key y hy
    exact WF z1 z2
  | true =>
    rw [h1, Aa, A2] at hg
    obtain ⟨hm, e⟩ := A8 hg
    have hm := A5.1 hm
    refine ⟨.oth (.rs (Y5 i) (tdD i j)), by rw [Aa, A2, e, A2], fun φ y hy => ?_⟩
    obtain ⟨z, rfl, z1, z2, z3⟩ := key y hy
    have z3 := z3 (A5.1 h1)
    simp only [B1]
    exact ⟨z, rfl, z1, z2, .inl ⟨by omega, by rw [Nat.mod_eq_of_lt (show Y5 i<18446744073709551616 by omega)]; exact z3⟩, fun h => by omega, fun h => by omega⟩
theorem PO {ty:TypeId} {x:Operand} {x':Opd} (ho:o.op = .load ty x) (hx:BS N x=some x') (ha:Mm P ty=some false):D6 P ρ B N o (Ts x' cf t h n) t h n := by
  intro κ hg
  have e1:Ts x' cf t h n κ=Nb (ev x' t) (fun p off => Jw p h fun cs _ _ => H6 cs off fun v => κ v h n) (fun o => Tt o (fun i j m => br (Nat.ble 1 m) (X9 i j fun v => κ v h n) (.fail "")) (Mb o (fun l => Vr l fun v => κ v h n) (.fail ""))) := by simp only [Ts, BM]
  rw [e1] at hg
  rcases Kb hg with ⟨p, off, hxv, e2⟩ | ⟨oo, hxv, e2⟩
  rotate_left
  · rw [e2] at hg
    cases oo with
    | ap i j m =>
      have hg':R.good (br (Nat.ble 1 m) (X9 i j fun v => κ v h n) (.fail "")) := hg
      obtain ⟨h1, e3⟩ := A8 hg'
      have h1 := A5.1 h1
      have key:∃ v, X9 i j (fun v => κ v h n)=κ v h n ∧ ∀ (φ:CP) y, Np ρ i j y->B1 ρ φ v y := by
        unfold X9
        cases hi:Nat.beq i 0 with
        | true =>
          have hi := Nat.eq_of_beq_eq_true hi
          refine ⟨_, by rw [Aa], fun φ y hy => ?_⟩
          rcases hy with ⟨_, b, rfl⟩ | ⟨h, _⟩ | ⟨h, _⟩ | ⟨h, _⟩ | ⟨h, _⟩
          · exact GL b
          · omega
          · omega
          · omega
          · omega
        | false =>
          have hi0:i≠0 := fun h => by subst h; cases hi
          rw [AJ]
          cases h2f:Nat.ble i 18446744073709551615 with
          | true =>
            have h2 := A5.1 h2f
            refine ⟨.oth (.sy .i64 (i+j)), by first | (rw [Aa, A2]; rfl) | (rw [A2]; rfl) | rw [A2], fun φ y hy => ?_⟩
            rcases hy with ⟨h, _⟩ | ⟨_, _, h2, r, h3, h4⟩ | ⟨h, _⟩ | ⟨h, _⟩ | ⟨h, _⟩
            · exact absurd h hi0
            · simp only [B1]; exact ⟨h2, r, h3, h4⟩
            · omega
            · omega
            · omega
          | false =>
            have h2:¬ i≤18446744073709551615 := fun h => by rw [A5.2 h] at h2f; cases h2f
            rw [AJ]
            cases h3f:Nat.ble i 36893488147419103231 with
            | true =>
              have h3 := A5.1 h3f
              rw [Aa]
              cases h4:Nat.ble (Nat.succ j) (Nat.div (Nat.sub i 18446744073709551616) 4294967296) with
              | true =>
                have h4 := A5.1 h4
                rw [Aa]
                refine ⟨.bool (SD i j), by cases SD i j <;> rfl, fun φ y hy => ?_⟩
                rcases hy with ⟨h, _⟩ | ⟨_, h, _⟩ | ⟨_, _, b, rfl, hb⟩ | ⟨h, _⟩ | ⟨h, _⟩
                · omega
                · omega
                · rw [hb h4]; simp only [B1]
                · omega
                · omega
              | false =>
                rw [AJ]
                refine ⟨_, rfl, fun φ y hy => ?_⟩
                rcases hy with ⟨h, _⟩ | ⟨_, h, _⟩ | ⟨_, _, b, rfl, hb⟩ | ⟨h, _⟩ | ⟨h, _⟩
                · omega
                · omega
                · exact GL b
                · omega
                · omega
            | false =>
              have h3:¬ i≤36893488147419103231 := fun h => by rw [A5.2 h] at h3f; cases h3f
              rw [AJ]
              cases h5f:Nat.ble i 73786976294838206463 with
              | true =>
                have h5 := A5.1 h5f
                rw [Aa]
                have hg2:R.good (Z2 i j fun v => κ v h n) := by
                  have hg3 := hg'
                  rw [e3] at hg3
                  unfold X9 at hg3
                  rw [show Nat.beq i 0=false from hi, AJ, h2f, AJ, h3f, AJ, h5f, Aa] at hg3
                  exact hg3
                exact VB hg2 h3 h5
              | false =>
                have h5:¬ i≤73786976294838206463 := fun h => by rw [A5.2 h] at h5f; cases h5f
                rw [AJ]
                have hg2:R.good (ZW i j fun v => κ v h n) := by
                  have hg3 := hg'
                  rw [e3] at hg3
                  unfold X9 at hg3
                  rw [show Nat.beq i 0=false from hi, AJ, h2f, AJ, h3f, AJ, h5f, AJ] at hg3
                  exact hg3
                exact Uw hg2 h5
      obtain ⟨v, e4, hv⟩ := key
      refine ⟨v, e1.trans (e2.trans (e3.trans e4)), fun φ a w hT g => ?_⟩
      have g1 := A7 hx hT
      rw [hxv] at g1
      simp only [B1] at g1
      obtain ⟨b, q, c, e, fr, gx, c1, c2⟩ := g1
      obtain ⟨y, y1, y2⟩ := c2 0 (by omega)
      refine ⟨y, ?_, hv φ y y2⟩
      have hc := (g.glob b c e fr c1).2
      simp [execOp, ho, gx, Instr.loadAt, Instr.sureAddr, loadVar, Ek ha, Iv hc (show c[q]? = some y from y1)]
    | rp l =>
      cases l with
      | nil => exact hg.elim
      | cons v l =>
      refine ⟨v.v, e1.trans e2, fun φ a w hT g => ?_⟩
      have g1 := A7 hx hT
      rw [hxv] at g1
      simp only [B1] at g1
      obtain ⟨b, q, c, e, fr, gx, c1, c2⟩ := g1
      obtain ⟨y, y1, y2⟩ := c2 0 v rfl
      refine ⟨y, ?_, Qj y2⟩
      have hc := (g.glob b c e fr c1).2
      simp [execOp, ho, gx, Instr.loadAt, Instr.sureAddr, loadVar, Ek ha, Iv hc (show c[q]? = some y from y1)]
    | _ => exact hg.elim
  rw [e2] at hg
  obtain ⟨cs, sup, prev, hp, e3⟩ := Fl hg
  rw [e3] at hg
  obtain ⟨v, hv, e4⟩ := Jq hg
  refine ⟨v, e1.trans (e2.trans (e3.trans e4)), fun φ a w hT g => ?_⟩
  have g1 := A7 hx hT
  rw [hxv] at g1
  obtain ⟨b, s, tot, hφ, gx⟩ := EY g1
  obtain ⟨c, e, fr, k1, k2, k3, k4, k5⟩ := g.obj p _ b s tot hp hφ
  obtain ⟨X, hX, hr, _⟩ := k5 off v hv
  refine ⟨X, ?_, hr⟩
  simp [execOp, ho, gx, Instr.loadAt, Instr.sureAddr, loadVar, Ek ha, Iv k1 hX]
theorem NW {ty:TypeId} {m:Nat} {x:Operand} {x':Opd} (ho:o.op = .load ty x) (hx:BS N x=some x') (ha:Mm P ty=some true) (hm:Dz P ty=some m):D6 P ρ B N o (Ox m x' cf t h n) t h n := by
  intro κ hg
  have e1:Ox m x' cf t h n κ=Nb (ev x' t) (fun p off => Jw p h fun cs _ _ => Dg cs off m fun y => GE y fun l => κ (.agg l) h n) (fun o => Mb o (fun l => br (Nat.ble m l.length) (κ (.agg ((l.take m).map RV.v)) h n) (.fail "")) (.fail "")) := by simp only [Ox, BM]
  rw [e1] at hg
  rcases Kb hg with ⟨p, off, hxv, e2⟩ | ⟨oo, hxv, e2⟩
  rotate_left
  · rw [e2] at hg
    cases oo with
    | rp l =>
      have hg':R.good (br (Nat.ble m l.length) (κ (.agg ((l.take m).map RV.v)) h n) (.fail "")) := hg
      obtain ⟨h1, e3⟩ := A8 hg'
      have h1 := A5.1 h1
      refine ⟨.agg ((l.take m).map RV.v), e1.trans (e2.trans e3), fun φ a w hT g => ?_⟩
      have g1 := A7 hx hT
      rw [hxv] at g1
      simp only [B1] at g1
      obtain ⟨b, q, c, e, fr, gx, c1, c2⟩ := g1
      have c3:Sb ρ (l.take m) c q := fun j v hv => by
        rw [List.getElem?_take] at hv
        split at hv
        · exact c2 j v hv
        · cases hv
      obtain ⟨vs, q1, q2, q3, q4⟩ := MD (φ := φ) c3
      have hlm:vs.length=m := by rw [q1, List.length_take]; omega
      have hrun := FE (P := P) (w := w) (off := q) vs (g.glob b c e fr c1).2 q2
      rw [hlm] at hrun
      refine ⟨.agg vs.toArray, ?_, ?_⟩
      · simp [execOp, ho, gx, Instr.loadAt, Instr.sureAddr, loadVar, Ek ha, C0 hm, hrun]
      · simp only [B1]
        exact ⟨_, rfl, q4, q3⟩
    | _ => exact hg.elim
  rw [e2] at hg
  obtain ⟨cs, sup, prev, hp, e3⟩ := Fl hg
  rw [e3] at hg
  obtain ⟨hle, y, hyl, hya, e4⟩ := ED hg
  obtain ⟨l, e5, hll, hla⟩ := Il y fun l => κ (.agg l) h n
  refine ⟨.agg l, e1.trans (e2.trans (e3.trans (e4.trans e5))), fun φ a w hT g => ?_⟩
  have g1 := A7 hx hT
  rw [hxv] at g1
  obtain ⟨b, s, tot, hφ, gx⟩ := EY g1
  obtain ⟨c, e, fr, k1, k2, k3, k4, k5⟩ := g.obj p _ b s tot hp hφ
  obtain ⟨vs, q1, q2, q3, q4⟩ := KB (J7 k5 hyl hya)
  have hrun := FE (P := P) (off := s+off) vs k1 (fun j v hj => by have := q2 j v hj; rwa [←Nat.add_assoc] at this)
  rw [q1, hyl] at hrun
  refine ⟨.agg vs.toArray, ?_, ?_⟩
  · simp [execOp, ho, gx, Instr.loadAt, Instr.sureAddr, loadVar, Ek ha, C0 hm, hrun]
  · simp only [B1]
    exact ⟨_, rfl, q4 l (by rw [hll]) hla, q3⟩
theorem HL {p:K4} {off:Nat} {y:Cs} {κ:Heap->R} (hg:(Gi h p off y κ).good):∃ cs prev z, A6 p h=some (.c cs false prev)∧S4 cs off y z ∧
    Gi h p off y κ=κ (Aq p (HQ prev h) (some (.c z false none))) := by
  obtain ⟨cs, sup, prev, hp, e1⟩ := Fl (show R.good (Jw p h _) from hg)
  have e1:Gi h p off y κ=_ := e1
  rw [e1] at hg
  obtain ⟨h2, e2⟩ := I6 hg
  subst h2
  rw [e2] at hg
  obtain ⟨z, hz, e3⟩ := Tn hg
  refine ⟨cs, prev, z, hp, hz, e1.trans (e2.trans (e3.trans ?_))⟩
  rw [IY, CS]
theorem HK {φ:CP} {w:World} (g:Gam ρ B h n φ w) {p:K4} {off:Nat} {cs y z:Cs} {prev:Option K4} {b s tot:Nat} (hp:A6 p h=some (.c cs false prev)) (hφ:φ p=some (b, s, tot)) (hz:S4 cs off y z)
    {vs:List Value} (hl:vs.length=y.len) (hv:∀ i v, y.at i=some v->∃ x, vs[i]? = some x∧B1 ρ φ v x) (h1:∀ x∈vs, x.oneCell'=true) :
    ∃ w', (storeCells ⟨b, s+off, none⟩ vs).run P w = .ok () w'∧Gam ρ B (Aq p (HQ prev h) (some (.c z false none))) n φ w'∧Fr h (Aq p (HQ prev h) (some (.c z false none))) φ φ n n w w' := by
  obtain ⟨c, e, fr, k1, k2, k3, k4, k5⟩ := g.obj p _ b s tot hp hφ
  obtain ⟨z1, z2, z3, z4, z5⟩ := hz
  obtain ⟨c', q1, q2, q3, q4⟩ := J5 (P := P) vs w b (s+off) 0 c e fr k1 (by omega) (by rw [k2]; exact k4) h1
  have hb := (g.blk p b s tot hφ).2
  refine ⟨_, q4, g.write (o := .c cs false prev) (o' := .c z false none) hp hφ rfl rfl ⟨c', e, fr, FY hb, by rw [q1, k2], by rw [z2]; exact k3, k4, fun i v hi => ?_⟩, Fr.write (o := .c cs false prev) hp hφ⟩
  by_cases ha:i<off
  · rw [z3 i ha] at hi
    obtain ⟨x, hx, hr⟩ := k5 i v hi
    exact ⟨x, by show c'[s+i]? = some x; rw [q2 (s+i) (by omega)]; exact hx, hr⟩
  · by_cases hb':i<off+y.len
    · obtain ⟨j, rfl⟩:∃ j, i=off+j := ⟨i - off, by omega⟩
      rw [z4 j (by omega)] at hi
      obtain ⟨x, hx, hr⟩ := hv j v hi
      refine ⟨x, ?_, hr, h1 x (List.mem_of_getElem? hx)⟩
      show c'[s+(off+j)]? = some x
      rw [←q3 j x hx]; congr 1; omega
    · rw [z5 i (by omega)] at hi
      obtain ⟨x, hx, hr⟩ := k5 i v hi
      exact ⟨x, by show c'[s+i]? = some x; rw [q2 (s+i) (by omega)]; exact hx, hr⟩
theorem UG {ty:TypeId} {m:Nat} {x y:Operand} {x' y':Opd} (hρ:DA ρ) (ho:o.op = .store ty x y) (hx:BS N x=some x') (hy:BS N y=some y') (hm:Dz P ty=some m) :
    EJ P ρ B N o (Tg m x' y' cf t h n) t h n := by
  intro κ hg
  have e1:Tg m x' y' cf t h n κ=Mc (ev x' t) fun p off => Gm (ev y' t) fun l => IW l fun k => br (Nat.beq k m) (Gi h p off (.l l) fun h' => κ E8 h' n) (.fail "") := by simp only [Tg, BM]
  rw [e1] at hg
  obtain ⟨p, off, hxv, e2⟩ := FD hg
  rw [e2] at hg
  obtain ⟨hc, e3⟩ := HI hg
  rw [e3, FM] at hg
  obtain ⟨h4, e4⟩ := A8 hg
  have h4 := Nat.eq_of_beq_eq_true h4
  rw [e4] at hg
  obtain ⟨cs, prev, z, hp, hz, e5⟩ := HL hg
  refine ⟨E8, _, n, e1.trans (e2.trans (e3.trans ((FM _ _).trans (e4.trans e5)))), .skip fun φ a w hT g => ?_⟩
  have g1 := A7 hx hT
  rw [hxv] at g1
  obtain ⟨b, s, tot, hφ, gx⟩ := EY g1
  obtain ⟨hl, h1⟩ := Jm hρ hc (A7 hy hT)
  have hlen := CW hl
  obtain ⟨w', q1, q2, q3⟩ := HK (P := P) g hp hφ hz (vs := (a.eval y).cells.toList) (by rw [hlen]; rfl) (fun i v hi => (Em.1 hl).2 i v hi) h1
  refine ⟨φ, w', ?_, q3, q2⟩
  have hsz:(a.eval y).cells.size=m := by rw [←h4, ←hlen]; simp
  simp [execOp, ho, gx, Instr.storeAt, Instr.sureAddr, storeVar, C0 hm, hsz, q1]
theorem OF {ty e:TypeId} {m esz:Nat} {x:Operand} {lo hi:Option Operand} {x':Opd} {lo' hi':Option Opd} (ho:o.op = .slice ty x lo hi none) (hx:BS N x=some x') (hlo:Im N lo=some lo') (hhi:Im N hi=some hi')
    (ht:P.underlying ty=some (.array m e)) (he:Dz P e=some esz):D6 P ρ B N o (KW m esz x' lo' hi' cf t h n) t h n := by
  intro κ hg
  have e1:KW m esz x' lo' hi' cf t h n κ=Mc (ev x' t) fun p off => Jw p h fun cs _ _ => br (Nat.ble (Nat.add off (Nat.mul m esz)) cs.len) (DX hi' t m fun b => DX lo' t 0 fun a => br (Nat.ble a b) (br (Nat.ble b m) (κ (.sl p (Nat.add off (Nat.mul a esz)) (Nat.sub b a) (Nat.sub m a) true esz) h n) (.fail "")) (.fail "")) (.fail "") := by
    simp only [KW, BM, A2, Ws]
  rw [e1] at hg
  obtain ⟨p, off, hxv, e2⟩ := FD hg
  rw [e2] at hg
  obtain ⟨cs, sup, prev, hp, e3⟩ := Fl hg
  rw [e3] at hg
  obtain ⟨h4, e4⟩ := A8 hg
  have h4 := A5.1 h4
  simp only [Nat.add_eq, Nat.mul_eq] at h4
  rw [e4] at hg
  obtain ⟨b, e5, hb⟩ := DR (ρ := ρ) hhi hg
  rw [e5] at hg
  obtain ⟨a, e6, ha⟩ := DR (ρ := ρ) hlo hg
  rw [e6] at hg
  obtain ⟨h7, e7⟩ := A8 hg
  rw [e7] at hg
  obtain ⟨h8, e8⟩ := A8 hg
  have h7 := A5.1 h7; have h8 := A5.1 h8
  refine ⟨_, e1.trans (e2.trans (e3.trans (e4.trans (e5.trans (e6.trans (e7.trans e8)))))), fun φ ac w hT g => ?_⟩
  have g1 := A7 hx hT
  rw [hxv] at g1
  obtain ⟨bk, s, tot, hφ, gx⟩ := EY g1
  obtain ⟨c, e', fr, k1, k2, k3, k4, k5⟩ := g.obj p _ bk s tot hp hφ
  refine ⟨.slice (if m=a then some ⟨bk, s+off, none⟩ else some ⟨bk, s+off+a*esz, none⟩) (b - a) (m - a), ?_, ?_⟩
  · have hsw:(if m=a then some (⟨bk, s+off, none⟩:Addr) else some ⟨bk, s+off+a*esz, none⟩)=some (if m=a then ⟨bk, s+off, none⟩ else ⟨bk, s+off+a*esz, none⟩) := by split <;> rfl
    rw [hsw]
    simp only [execOp, ho, gx, Instr.sliceAt, Instr.sureAddr, Sem.run_bind, run_underlying ht, Result.andThen_ok, Option.map_none, Sem.run_pure]
    simp [Fo (ha φ ac hT) (hb φ ac hT) h7 h8, C0 he, E9]
  · simp only [B1]
    have hmul:m - a=0∨a*esz+(m - a)*esz=m*esz := by
      rcases Nat.lt_or_ge a m with h' | h'
      · right; rw [←Nat.add_mul]; congr 1; omega
      · left; omega
    by_cases hca:m=a
    · rw [if_pos hca]
      refine ⟨bk, s, tot, s+off, m - a, hφ, rfl, by show b - a≤m - a; omega, Nat.le_refl _, fun _ => rfl, fun h0 => by omega⟩
    · rw [if_neg hca]
      refine ⟨bk, s, tot, s+off+a*esz, m - a, hφ, rfl, by show b - a≤m - a; omega, Nat.le_refl _, fun _ => rfl, fun h0 => ⟨by show s+off+a*esz=s+(off+a*esz); omega, ?_⟩⟩
      rcases hmul with h' | h'
      · omega
      · omega
theorem Kc {xs:List V} {κ:Nat->Nat->R} {why:String} (hg:(EI xs κ (.fail why)).good):∃ m c, EI xs κ (.fail why)=κ m c∧(Cs.b m c).len=xs.length∧(∀ i, (Cs.b m c).at i=xs[i]?)∧c<256 ^ m := by
  rcases Mf xs κ (.fail why) with e | e
  · rw [e] at hg; exact hg.elim
  · exact e
/-- Bytes, read one by one into a string. -/
theorem KL {φ:CP} {m c:Nat} {vs:List Value} (hl:vs.length=m) (hv:∀ i v, (Cs.b m c).at i=some v->∃ x, vs[i]? = some x∧B1 ρ φ v x) :
    ∃ bs:List UInt8, vs=bs.map (fun b => Value.int .u8 b.toNat)∧bs.length=m∧BU bs=c % 256 ^ m := by
  induction m generalizing c vs with
  | zero =>
    have:vs=[] := List.eq_nil_of_length_eq_zero hl
    subst this
    exact ⟨[], rfl, rfl, by simp [BU, Nat.mod_one]⟩
  | succ m ih =>
    cases vs with
    | nil => simp at hl
    | cons v vs =>
      obtain ⟨x, hx, hr⟩ := hv 0 _ (Cs.b_pos (by omega))
      simp at hx; subst hx
      obtain ⟨hlt, rfl⟩ := Eo hr
      obtain ⟨bs, rfl, hbl, hbe⟩ := ih (c := c / 256) (vs := vs) (by simpa using hl) (fun i u hu => by
        have hi := Cs.lt_of_at hu
        simp only [Cs.len] at hi
        rw [Cs.b_pos hi] at hu
        have := hv (i+1) u (by rw [Cs.b_pos (by omega), Nat.pow_succ, Nat.mul_comm, ←Nat.div_div_eq_div_mul]; exact hu)
        simpa using this)
      have hc:c / 256 ^ 0 % 256=c % 256 := by simp
      rw [hc] at hlt ⊢
      refine ⟨UInt8.ofNat (c % 256)::bs, ?_, by simp [hbl], ?_⟩
      · have:(UInt8.ofNat (c % 256)).toNat=c % 256 := by simp
        simp only [List.map_cons, List.cons.injEq, and_true, this]
        rw [B0 (by simp [Hk]; omega)]
      · have:(UInt8.ofNat (c % 256)).toNat=c % 256 := by simp
        simp only [BU, this, hbe]
        rw [Nat.pow_succ, Nat.mul_comm (256 ^ m) 256, Nat.mod_mul]
theorem run_bytesToString {a:Addr} {len cap:Nat} {w:World} (bs:List UInt8) (hl:bs.length=len) (h:(loadCells a len).run P w = .ok (bs.map (fun b => Value.int .u8 b.toNat)).toArray w) :
    (Conv.bytesToString (.slice (some a) len cap)).run P w = .ok (.string ⟨bs.toArray⟩) w := by
  have h' := Go.run_bytesToString w a len cap (bs.map fun b => (b.toNat:Int)) (by rw [List.map_map]; exact h)
  rw [h']
  have key:∀ (bs:List UInt8) (s:ByteArray), (bs.map fun b => (b.toNat:Int)).foldl (fun r n => r.push (UInt8.ofNat n.toNat)) s=⟨s.data++bs.toArray⟩ := by
    intro bs
    induction bs with
    | nil => intro s; simp
    | cons b bs ih =>
      intro s
      rw [List.map_cons, List.foldl_cons, ih]
      simp [ByteArray.push]
  rw [key]; simp
theorem Ok {src dst e:TypeId} {x:Operand} {x':Opd} (ho:o.op = .convert src dst x) (hx:BS N x=some x') (hs:P.underlying src=some (.slice e)) (hd:P.underlying dst=some .string) (he:P.underlying e=some (.int .u8)) :
    D6 P ρ B N o (Lt x' cf t h n) t h n := by
  intro κ hg
  have e1:Lt x' cf t h n κ=Gd (ev x' t) (κ (.str 0 0) h n) (fun p off len cap ex esz => br (Nat.beq esz 1) (Jw p h fun cs _ _ => Dg cs off len fun y => GE y fun l => EI l (fun m c => κ (.str m c) h n) (.fail "")) (.fail "")) (fun o => JF o (fun m c => κ (.str m c) h n) (.fail "")) := by
    simp only [Lt, BM]
  rw [e1] at hg
  rcases HM hg with ⟨hxv, e2⟩ | ⟨p, off, len, cap, ex, esz, hxv, e2⟩ | ⟨oo, hxv, e2⟩
  · refine ⟨_, e1.trans e2, fun φ a w hT g => ?_⟩
    have g1 := A7 hx hT
    rw [hxv] at g1
    have gx := E3 g1
    refine ⟨.string .empty, ?_, Sh .empty ρ φ⟩
    simp [execOp, ho, gx, Ea, convert, run_underlying hs, run_underlying hd, run_underlying he, Conv.bytesToString]
  · rw [e2] at hg
    obtain ⟨h3, e3⟩ := A8 hg
    have h3 := Nat.eq_of_beq_eq_true h3
    subst h3
    rw [e3] at hg
    obtain ⟨cs, sup, prev, hp, e4⟩ := Fl hg
    rw [e4] at hg
    obtain ⟨hle, y, hyl, hya, e5⟩ := ED hg
    rw [e5] at hg
    obtain ⟨l, e6, hll, hla⟩ := Il y fun l => EI l (fun m c => κ (.str m c) h n) (.fail "")
    rw [e6] at hg
    obtain ⟨m, c, e7, hml, hma, hcan⟩ := Kc hg
    · refine ⟨_, e1.trans (e2.trans (e3.trans (e4.trans (e5.trans (e6.trans e7))))), fun φ a w hT g => ?_⟩
      have g1 := A7 hx hT
      rw [hxv] at g1
      obtain ⟨b, s, tot, q, cap', hφ, gx, c1, c2, c3, c4⟩ := EN g1
      obtain ⟨cc, e', fr, k1, k2, k3, k4, k5⟩ := g.obj p _ b s tot hp hφ
      obtain ⟨vs, q1, q2, q3, q4⟩ := KB (J7 k5 hyl hya)
      have hm:m=len := by simp only [Cs.len] at hml; rw [hml, hll, hyl]
      subst hm
      obtain ⟨bs, hbs, hbl, hbe⟩ := KL (ρ := ρ) (φ := φ) (m := m) (c := c) (vs := vs) (by rw [q1, hyl]) (fun i v hv => by
        rw [hma i, hla i] at hv
        exact (Em.1 (q4 l hll hla)).2 i v (by rw [hla i]; exact hv))
      rw [Nat.mod_eq_of_lt hcan] at hbe
      refine ⟨.string ⟨bs.toArray⟩, ?_, ?_⟩
      · have hload:(loadCells ⟨b, q, none⟩ m).run P w = .ok (bs.map (fun b => Value.int .u8 b.toNat)).toArray w := by
          rcases Nat.eq_zero_or_pos m with h0 | h0
          · subst h0
            have:bs=[] := List.eq_nil_of_length_eq_zero hbl
            subst this; rfl
          · obtain ⟨c5, c6⟩ := c4 (by omega)
            have hrun := FE (P := P) (off := s+off) vs k1 (fun j v hj => by have := q2 j v hj; rwa [←Nat.add_assoc] at this)
            rw [q1, hyl, hbs] at hrun
            rw [c5]; exact hrun
        simp only [execOp, ho, gx, convert, Sem.run_bind, run_underlying hs, run_underlying hd, run_underlying he, Result.andThen_ok, run_bytesToString bs hbl hload, Sem.run_pure]
      · simp only [B1]
        exact ⟨⟨bs.toArray⟩, rfl, by simp [ByteArray.size, hbl], by simpa using hbe⟩
  · rw [e2] at hg
    cases oo with
    | rb m d =>
      refine ⟨.str m d, e1.trans e2, fun φ a w hT g => ?_⟩
      have g1 := A7 hx hT
      rw [hxv] at g1
      simp only [B1, Ik] at g1
      obtain ⟨ad, cap, gx, c1, c3, c4⟩ := g1
      obtain ⟨vs, q1, q2⟩:∃ vs:List Value, vs.length=m ∧ ∀ j, j<m->vs[j]? = some (.int .u8 ((d / 256 ^ j % 256:Nat):Int)) :=
        ⟨(List.range m).map fun j => .int .u8 ((d / 256 ^ j % 256:Nat):Int), by simp, fun j hj => by simp [List.getElem?_range hj]⟩
      obtain ⟨bs, hbs, hbl, hbe⟩ := KL (ρ := ρ) (φ := φ) (m := m) (c := d) (vs := vs) q1 (fun i v hv => by
        have hi:i<m := Cs.lt_of_at hv
        have hv:(if i<m then some (V.int .u8 (d / 256 ^ i % 256)) else none)=some v := hv
        rw [if_pos hi] at hv
        cases hv
        have hlt:d / 256 ^ i % 256<256 := Nat.mod_lt _ (by decide)
        exact ⟨_, q2 i hi, by simp only [B1]; exact ⟨hlt, by rw [B0 (by simp only [Hk]; exact hlt)]⟩⟩)
      rw [Nat.mod_eq_of_lt c3] at hbe
      refine ⟨.string ⟨bs.toArray⟩, ?_, ?_⟩
      · have hload:(loadCells ad m).run P w = .ok (bs.map (fun b => Value.int .u8 b.toNat)).toArray w := by
          rcases Nat.eq_zero_or_pos m with h0 | h0
          · subst h0
            have:bs=[] := List.eq_nil_of_length_eq_zero hbl
            subst this; rfl
          obtain ⟨b, q, cc, e', fr, rfl, c2, c4⟩ := c4 h0
          have hrun := FE (P := P) (w := w) (off := q) vs (g.glob b cc e' fr c2).2 (fun j v hj => by
            have hj':j<m := by rw [←q1]; exact (List.getElem?_eq_some_iff.1 hj).1
            rw [q2 j hj'] at hj
            rw [c4 j hj']; exact hj)
          rw [q1, hbs] at hrun
          exact hrun
        simp only [execOp, ho, gx, convert, Sem.run_bind, run_underlying hs, run_underlying hd, run_underlying he, Result.andThen_ok, run_bytesToString bs hbl hload, Sem.run_pure]
      · simp only [B1]
        exact ⟨⟨bs.toArray⟩, rfl, by simp [ByteArray.size, hbl], by simpa using hbe⟩
    | _ => exact hg.elim
end
end Go.Ev

namespace Go.Ev
set_option linter.unusedVariables false
section
variable {P:Program} {ρ:Env} {B N:Nat} {o:Oper} {cf:CF} {t:Regs} {h:Heap} {n:K4}
theorem HR {φ:CP} {es:List (V×V)}:∀ {l:List MapEntry}, Jd ρ φ es l->l.length=es.length := by
  induction es with
  | nil => intro l h; have h:l=[] := h; subst h; rfl
  | cons e es ih => rintro l ⟨y, ys, rfl, _, _, h⟩; simp [ih h]
theorem MK {φ:CP} {es:List (V×V)}:∀ {l:List MapEntry} {i:Nat} {e:V×V}, Jd ρ φ es l->es[i]? = some e->∃ m, l[i]? = some m∧B1 ρ φ e.1 m.key∧B1 ρ φ e.2 m.val := by
  induction es with
  | nil => intro l i e h he; simp at he
  | cons x es ih =>
    rintro l i e ⟨y, ys, rfl, h1, h2, h⟩ he
    cases i with
    | zero => simp at he; subst he; exact ⟨y, rfl, h1, h2⟩
    | succ i => simpa using ih h (by simpa using he)
theorem Ur {φ:CP} {es:List (V×V)}:∀ {l:List MapEntry} {i:Nat} {e:V×V} {m:MapEntry}, Jd ρ φ es l->B1 ρ φ e.1 m.key->B1 ρ φ e.2 m.val->Jd ρ φ (es.set i e) (l.set i m) := by
  induction es with
  | nil => intro l i e m h _ _; have h:l=[] := h; subst h; rfl
  | cons x es ih =>
    rintro l i e m ⟨y, ys, rfl, h1, h2, h⟩ k1 k2
    cases i with
    | zero => exact ⟨m, ys, rfl, k1, k2, h⟩
    | succ i => exact ⟨y, ys.set i m, rfl, h1, h2, ih h k1 k2⟩
theorem U1 {φ:CP} {es:List (V×V)}:∀ {l:List MapEntry} {e:V×V} {m:MapEntry}, Jd ρ φ es l->B1 ρ φ e.1 m.key->B1 ρ φ e.2 m.val->Jd ρ φ (es++[e]) (l++[m]) := by
  induction es with
  | nil => intro l e m h k1 k2; have h:l=[] := h; subst h; exact ⟨m, [], rfl, k1, k2, rfl⟩
  | cons x es ih => rintro l e m ⟨y, ys, rfl, h1, h2, h⟩ k1 k2; exact ⟨y, ys++[m], rfl, h1, h2, ih h k1 k2⟩
theorem Ru {φ:CP} {es:List (V×V)}:∀ {l:List MapEntry} {i:Nat}, Jd ρ φ es l->Jd ρ φ (es.eraseIdx i) (l.eraseIdx i) := by
  induction es with
  | nil => intro l i h; have h:l=[] := h; subst h; rfl
  | cons x es ih =>
    rintro l i ⟨y, ys, rfl, h1, h2, h⟩
    cases i with
    | zero => exact h
    | succ i => exact ⟨y, ys.eraseIdx i, rfl, h1, h2, ih h⟩
def Xe (pl:Plan) (x:V):Prop :=
  match pl with
  | .sc .i => ∃ k m, x = .int k m
  | .sc .s => ∃ m c, x = .str m c
  | .sc .b => ∃ q, x = .bool q
  | .ks l => ∃ a, x = .agg a∧a.length=l.length
  | _ => False
theorem RQ (ks:List Sc):∀ {a:List V} {κ:R}, (PL ks a κ).good->a.length=ks.length∧PL ks a κ=κ := by
  induction ks with
  | nil => intro a κ h; cases a with
    | nil => exact ⟨rfl, rfl⟩
    | cons => exact h.elim
  | cons k ks ih => intro a κ h; cases a with
    | nil => exact h.elim
    | cons u a => have := ih (a := a) (κ := κ) h; exact ⟨by simp [this.1], this.2⟩
theorem Lf {pl:Plan} {v:V} {κ:R} (h:(ML pl v κ).good):Xe pl v∧ML pl v κ=κ := by
  cases pl with
  | sc k =>
    cases k with
    | i => obtain ⟨k, m, rfl, e⟩ := Ew (show R.good (Jx v fun _ _ => κ) from h); exact ⟨⟨k, m, rfl⟩, rfl⟩
    | s => obtain ⟨k, m, rfl, e⟩ := E6 (show R.good (Dd v fun _ _ => κ) from h); exact ⟨⟨k, m, rfl⟩, rfl⟩
    | b => obtain ⟨q, rfl, e⟩ := He (show R.good (QX v fun _ => κ) from h); exact ⟨⟨q, rfl⟩, rfl⟩
  | st fs => exact h.elim
  | ks l =>
    obtain ⟨a, rfl, e⟩ := EF (show R.good (asAgg v fun a => PL l a κ) from h)
    obtain ⟨h1, h2⟩ := RQ l (show R.good (PL l a κ) from h)
    exact ⟨⟨a, rfl, h1⟩, h2⟩
  | rf w => exact h.elim
theorem G3 {kt:TypeId} {pl:Plan} (hp:Jy P kt=some pl) {b:Bool} {d:Nat} {K:Value} (hK:(∃ k n, K = .int k n)∨(∃ s, K = .string s)∨(∃ q, K = .bool q) ∨ ∃ cs:Array Value, K = .agg cs ∧ ∀ l, pl = .ks l->cs.size=l.length) (w:World)
    (hsh:(∃ fs, P.underlying kt=some (.struct fs))->∃ cs, K = .agg cs):(Instr.checkKey b (d+2) kt K).run P w = .ok () w := by
  have leaf:∀ (e:Nat) (t:TypeId) (X:Value) (k:Sc), QW P t=some k->(Instr.checkKey b (e+1) t X).run P w = .ok () w := fun e t X k hk => by
    unfold QW at hk
    split at hk
    · rename_i hu; cases X <;> simp [Instr.checkKey, run_underlying hu]
    · rename_i hu; cases X <;> simp [Instr.checkKey, run_underlying hu]
    · rename_i hu; cases X <;> simp [Instr.checkKey, run_underlying hu]
    · cases hk
  unfold Jy at hp
  split at hp
  · rename_i fs hu
    split at hp
    · cases hp
    · split at hp
      · rename_i offs hoffs
        split at hp
        · rename_i hr
          cases hp
          obtain ⟨cs, rfl⟩ := hsh ⟨fs, hu⟩
          have hcs:cs.size=offs.length := by
            rcases hK with ⟨_, _, h⟩ | ⟨_, h⟩ | ⟨_, h⟩ | ⟨cs', h, hl⟩
            · cases h
            · cases h
            · cases h
            · cases h; simpa using hl _ rfl
          rw [Instr.checkKey]
          simp only [Sem.run_bind, run_underlying hu, Result.andThen_ok]
          rw [←Array.forIn_toList]
          have key:∀ (fs:List Field) (offs':List (Nat×Sc)), Je P fs=some offs'->(∀ p∈offs', p.1<cs.size)->(forIn (m := Sem) fs PUnit.unit (fun f r => if f.name ≠ "_" then do
                Instr.checkKey b (d+1) f.type (←part f.type cs f.offset)
                pure (ForInStep.yield PUnit.unit) else pure (ForInStep.yield PUnit.unit))).run P w = .ok PUnit.unit w := by
            intro fs
            induction fs with
            | nil => intro offs' _ _; simp
            | cons f fs ih =>
              intro offs' ho hlt
              simp only [Je] at ho
              split at ho
              · rename_i hn
                split at ho
                · rename_i k r hk hr
                  cases ho
                  have hof:f.offset<cs.size := hlt _ (List.mem_cons_self ..)
                  have hpart := IT (w := w) hk (Array.getElem?_eq_getElem hof)
                  simp only [List.forIn_cons, hn, ne_eq, not_false_eq_true, if_true, Sem.run_bind, hpart, Result.andThen_ok, leaf d _ _ _ hk, Sem.run_pure]
                  exact ih _ hr fun p hp => hlt p (List.mem_cons_of_mem _ hp)
                · cases ho
              · cases ho
          have := key fs.toList offs hoffs (fun p hp => by
            obtain ⟨i, hi, rfl⟩ := List.getElem_of_mem hp
            have h1:(offs.map (·.1))[i]? = some offs[i].1 := by rw [List.getElem?_map, List.getElem?_eq_getElem hi]; rfl
            rw [hr, List.getElem?_range hi] at h1
            simp at h1
            omega)
          simp only [ne_eq, ite_not] at this ⊢
          rw [this]; rfl
        · cases hp
      · cases hp
  · cases hk:QW P kt with
    | none => rw [hk] at hp; cases hp
    | some k => exact leaf (d+1) kt K k hk
/-- A key that was looked for is such a one. -/
theorem Ib {kt:TypeId} {pl:Plan} (hp:Jy P kt=some pl) {x:V} {φ:CP} {K:Value} (hK:B1 ρ φ x K) (hs:Xe pl x) :
    ((∃ k n, K = .int k n)∨(∃ s, K = .string s)∨(∃ q, K = .bool q) ∨ ∃ cs:Array Value, K = .agg cs ∧ ∀ l, pl = .ks l->cs.size=l.length) ∧
    ((∃ fs, P.underlying kt=some (.struct fs))->∃ cs, K = .agg cs) := by
  unfold Jy at hp
  split at hp
  · rename_i fs hu
    split at hp
    · cases hp
    · split at hp
      · split at hp
        · cases hp
          obtain ⟨l, rfl, hl⟩ := hs
          obtain ⟨cs, rfl, hcs, _⟩ := Gz hK
          have := CW hcs
          exact ⟨.inr (.inr (.inr ⟨cs, rfl, fun l' h => by cases h; simp at this hl ⊢; omega⟩)), fun _ => ⟨cs, rfl⟩⟩
        · cases hp
      · cases hp
  · rename_i hns
    cases hk:QW P kt with
    | none => rw [hk] at hp; cases hp
    | some k =>
      rw [hk] at hp; cases hp
      refine ⟨?_, fun ⟨fs, hu⟩ => absurd hu (by intro hu; exact hns fs hu)⟩
      cases k with
      | i => obtain ⟨kd, m, rfl⟩ := hs; exact .inl ⟨_, _, (Eo hK).2⟩
      | s => obtain ⟨m, c, rfl⟩ := hs; obtain ⟨s, rfl, _⟩ := Ep hK; exact .inr (.inl ⟨s, rfl⟩)
      | b => obtain ⟨q, rfl⟩ := hs; exact .inr (.inr (.inl ⟨q, GD hK⟩))
theorem Ql {ty kt e:TypeId} {pl:Plan} {z:V} {zv:Value} {ok:Bool} {m k:Operand} {m' k':Opd} (ho:o.op = .lookup ty m k ok) (hm:BS N m=some m') (hk:BS N k=some k')
    (ht:P.underlying ty=some (.map kt e)) (hp:Jy P kt=some pl) (hzv:(P.info? e).bind (·.zero)=some zv) (hz:Lk zv=some z):D6 P ρ B N o (TN pl z ok m' k' cf t h n) t h n := by
  intro κ hg
  have e1:TN pl z ok m' k' cf t h n κ=ML pl (ev k' t) (G4 (ev m' t) (br ok (κ (.tup [z, .bool false]) h n) (κ z h n)) (fun p => Oq p h fun es _ _ => GU pl (ev k' t) es (fun r => br ok (κ (.tup [r, .bool true]) h n) (κ r h n)) (br ok (κ (.tup [z, .bool false]) h n) (κ z h n)))) := by
    simp only [TN, BM]
  rw [e1] at hg
  obtain ⟨hko, e2⟩ := Lf hg
  rw [e2] at hg
  have zr:∀ φ, B1 ρ φ z zv := fun φ => N2 hz φ
  -- what is told, of a value and whether it was there
  have tell:∀ (v:V) (q:Bool), br ok (κ (.tup [v, .bool q]) h n) (κ v h n)=κ (if ok then .tup [v, .bool q] else v) h n := fun v q => by cases ok <;> rfl
  have told:∀ (φ:CP) (v:V) (q:Bool) (X:Value), B1 ρ φ v X->B1 ρ φ (if ok then .tup [v, .bool q] else v) (if ok then .tuple #[X, .bool q] else X) := fun φ v q X hX => by
    cases ok with
    | true => simp only [if_true, B1, DE]; exact ⟨_, rfl, _, _, rfl, hX, _, _, rfl, rfl, rfl⟩
    | false => exact hX
  rcases FQ hg with ⟨hmv, e3⟩ | ⟨p, hmv, e3⟩
  · refine ⟨if ok then .tup [z, .bool false] else z, e1.trans (e2.trans (e3.trans (tell z false))), fun φ a w hT g => ⟨if ok then .tuple #[zv, .bool false] else zv, ?_, told φ z false zv (zr φ)⟩⟩
    have g1 := A7 hm hT
    rw [hmv] at g1
    have gx := E3 g1
    have g2 := A7 hk hT
    obtain ⟨s1, s2⟩ := Ib hp g2 hko
    have hck := G3 (P := P) (b := true) (d := 9998) hp s1 w s2
    have hfk := HE (P := P) (w := w) hp g2 (es := []) (ents := []) (r := none) rfl rfl
    simp only [execOp, ho, gx, Ea, Instr.lookup, Sem.run_bind, run_underlying ht, Result.andThen_ok, Sem.run_pure]
    simp [hck, hfk.1, Fz hzv]
  · rw [e3] at hg
    obtain ⟨es, bs, clk, hpm, e4⟩ := GK hg
    rw [e4] at hg
    obtain ⟨r, hf, hr⟩ := MC hp hg
    have key:∀ φ a w, TR ρ N φ t a->Gam ρ B h n φ w->∃ ents clk b, a.eval m = .map (some b)∧w.heap[b]? = some (.map ents clk)∧Jd ρ φ es ents.toList ∧
        (Instr.checkKey ents.isEmpty 10000 kt (a.eval k)).run P w = .ok () w∧(Instr.findKey kt (a.eval k) ents.toList).run P w = .ok (r.bind fun i => (ents.toList[i]?).map fun e => (i, e.val)) w := fun φ a w hT g => by
      have g1 := A7 hm hT
      rw [hmv] at g1
      obtain ⟨b, s, tot, hφ, gx⟩ := HG g1
      obtain ⟨ents, k1, k2, _⟩ := g.obj p _ b s tot hpm hφ
      have g2 := A7 hk hT
      obtain ⟨s1, s2⟩ := Ib hp g2 hko
      exact ⟨ents, clk, b, gx, k1, k2, G3 (d := 9998) hp s1 w s2, (HE hp g2 hf k2).1⟩
    cases r with
    | none =>
      refine ⟨if ok then .tup [z, .bool false] else z, e1.trans (e2.trans (e3.trans (e4.trans (Eq.trans hr (tell z false))))), fun φ a w hT g => ⟨if ok then .tuple #[zv, .bool false] else zv, ?_, told φ z false zv (zr φ)⟩⟩
      obtain ⟨ents, clk, b, gx, k1, k2, hck, hfk⟩ := key φ a w hT g
      have hgo:(getObj b).run P w = .ok (.map ents clk) w := by simp [getObj, Sem.run, k1]
      simp only [execOp, ho, gx, Instr.lookup, Sem.run_bind, run_underlying ht, Result.andThen_ok, Sem.run_pure, hgo, hck, hfk]
      simp [Fz hzv]
    | some i =>
      obtain ⟨ee, hee, hr⟩ := hr
      refine ⟨if ok then .tup [ee.2, .bool true] else ee.2, e1.trans (e2.trans (e3.trans (e4.trans (Eq.trans hr (tell ee.2 true))))), fun φ a w hT g => ?_⟩
      obtain ⟨ents, clk, b, gx, k1, k2, hck, hfk⟩ := key φ a w hT g
      obtain ⟨mm, hmm, _, hval⟩ := MK k2 hee
      refine ⟨if ok then .tuple #[mm.val, .bool true] else mm.val, ?_, told φ ee.2 true mm.val hval⟩
      have hgo:(getObj b).run P w = .ok (.map ents clk) w := by simp [getObj, Sem.run, k1]
      have hmm':ents[i]? = some mm := by simpa using hmm
      simp only [execOp, ho, gx, Instr.lookup, Sem.run_bind, run_underlying ht, Result.andThen_ok, Sem.run_pure, hgo, hck, hfk]
      simp [hmm']
theorem KS {α β:Type} (f:α->β):∀ (l:List α) (i:Nat), (l.eraseIdx i).map f=(l.map f).eraseIdx i
  | [], _ => rfl
  | _::_, 0 => rfl
  | x::l, i+1 => by simp [KS f l i]
theorem Me {b:Nat} {O O':Obj} {w:World} (h1:w.heap[b]? = some O) (h2:∀ c e f, O ≠ .cells c e f):(setObj b O').run P w = .ok () (F4 w b O') := by
  simp only [setObj, Sem.run, h1]
  cases O with
  | cells c e f => exact absurd rfl (h2 c e f)
  | _ => rfl
theorem L6 {φ:CP} {w:World} (g:Gam ρ B h n φ w) {p:K4} {es es':List (V×V)} {bs bs':List Nat} {clk0:Nat} {b s tot:Nat} {ents:Array MapEntry} {clk:Nat} (hp:A6 p h=some (.m es bs clk0)) (hφ:φ p=some (b, s, tot)) (hok:Jd ρ φ es' ents.toList) (hbs:ents.toList.map (·.born)=bs') :
    Gam ρ B (Aq p h (some (.m es' bs' clk))) n φ (F4 w b (.map ents clk))∧Fr h (Aq p h (some (.m es' bs' clk))) φ φ n n w (F4 w b (.map ents clk)) := by
  have hb := (g.blk p b s tot hφ).2
  exact ⟨g.write (o := .m es bs clk0) (o' := .m es' bs' clk) hp hφ rfl rfl ⟨ents, FY hb, hok, hbs⟩, Fr.write (o := .m es bs clk0) hp hφ⟩
theorem PU {ty kt e:TypeId} {pl:Plan} {m k v:Operand} {m' k' v':Opd} (ho:o.op = .mapUpdate ty m k v∨o.op = .insert ty m k v) (hm:BS N m=some m') (hk:BS N k=some k') (hv:BS N v=some v')
    (ht:P.underlying ty=some (.map kt e)) (hp:Jy P kt=some pl):EJ P ρ B N o (SY pl m' k' v' cf t h n) t h n := by
  intro κ hg
  have e1:SY pl m' k' v' cf t h n κ=ML pl (ev k' t) (G4 (ev m' t) (.fail "") (fun p => Oq p h fun es bs c => GP pl (ev k' t) (ev v' t) es fun es => κ E8 (Aq p h (some (.m es (if es.length=bs.length then bs else bs++[c]) (if es.length=bs.length then c else c+1)))) n)) := by
    simp only [SY, BM, CS, Uo]
  rw [e1] at hg
  obtain ⟨hko, e2⟩ := Lf hg
  rw [e2] at hg
  rcases FQ hg with ⟨hmv, e3⟩ | ⟨p, hmv, e3⟩
  · rw [e3] at hg; exact hg.elim
  rw [e3] at hg
  obtain ⟨es, bs, clk, hpm, e4⟩ := GK hg
  rw [e4] at hg
  obtain ⟨r, hf, e5⟩ := OY hp hg
  refine ⟨E8, _, n, e1.trans (e2.trans (e3.trans (e4.trans e5))), .skip fun φ a w hT g => ?_⟩
  have g1 := A7 hm hT
  rw [hmv] at g1
  obtain ⟨b, s, tot, hφ, gx⟩ := HG g1
  obtain ⟨ents, k1, k2, k3⟩ := g.obj p _ b s tot hpm hφ
  have hlen:es.length=bs.length := by rw [←HR k2, ←k3, List.length_map]
  have g2 := A7 hk hT
  have g3 := A7 hv hT
  obtain ⟨s1, s2⟩ := Ib hp g2 hko
  have hck := G3 (P := P) (b := false) (d := 9998) hp s1 w s2
  obtain ⟨hfk, hsb⟩ := HE (P := P) (w := w) hp g2 hf k2
  have hgo:(getObj b).run P w = .ok (.map ents clk) w := by simp [getObj, Sem.run, k1]
  have hso:∀ O', (setObj b O').run P w = .ok () (F4 w b O') := fun O' => Me k1 (by simp)
  have fin:∀ (es':List (V×V)) (ents':Array MapEntry) (bs':List Nat) (clk':Nat), Jd ρ φ es' ents'.toList->ents'.toList.map (·.born)=bs' →
      (Instr.mapUpdate ty (.map (some b)) (a.eval k) (a.eval v)).run P w = .ok () (F4 w b (.map ents' clk')) →
      ∃ φ' w', (execOp a.eval o).run P w = .ok .skip w'∧Fr h (Aq p h (some (.m es' bs' clk'))) φ φ' n n w w' ∧
        Gam ρ B (Aq p h (some (.m es' bs' clk'))) n φ' w' := fun es' ents' bs' clk' hok hbs hrun => by
    obtain ⟨q1, q2⟩ := L6 (clk := clk') g hpm hφ hok hbs
    refine ⟨φ, _, ?_, q2, q1⟩
    rcases ho with ho | ho <;> simp [execOp, ho, gx, hrun]
  cases r with
  | none =>
    show ∃ φ' w', _∧Fr h (Aq p h (some (.m (es++[(ev k' t, ev v' t)]) (if (es++[(ev k' t, ev v' t)]).length=bs.length then bs else bs++[clk]) (if (es++[(ev k' t, ev v' t)]).length=bs.length then clk else clk+1)))) φ φ' n n w w'∧_
    have hne:(es++[(ev k' t, ev v' t)]).length≠bs.length := by simp; omega
    rw [if_neg hne, if_neg hne]
    refine fin _ (ents.push { key := a.eval k, val := a.eval v, born := clk }) _ (clk+1) ?_ ?_ ?_
    · rw [Array.toList_push]; exact U1 k2 g2 g3
    · rw [Array.toList_push, List.map_append, k3]; rfl
    · simp only [Instr.mapUpdate, Sem.run_bind, run_underlying ht, Result.andThen_ok, hgo, hck, hfk]
      simp [hso]
  | some i =>
    obtain ⟨mm, hmm, hsame⟩ := hsb i rfl
    show ∃ φ' w', _∧Fr h (Aq p h (some (.m (es.set i (ev k' t, ev v' t)) (if (es.set i (ev k' t, ev v' t)).length=bs.length then bs else bs++[clk]) (if (es.set i (ev k' t, ev v' t)).length=bs.length then clk else clk+1)))) φ φ' n n w w'∧_
    have heq:(es.set i (ev k' t, ev v' t)).length=bs.length := by rw [List.length_set]; exact hlen
    rw [if_pos heq, if_pos heq]
    have hset:(ents.modify i fun e => { e with key := a.eval k, val := a.eval v }).toList=ents.toList.set i { mm with key := a.eval k, val := a.eval v } := by
      have hi:i<ents.toList.length := by
        rcases Nat.lt_or_ge i ents.toList.length with h' | h'
        · exact h'
        · rw [List.getElem?_eq_none h'] at hmm; cases hmm
      apply List.ext_getElem?
      intro j
      rw [Array.getElem?_toList, Array.getElem?_modify, List.getElem?_set]
      by_cases hj:i=j
      · subst hj
        have:ents[i]? = some mm := by simpa using hmm
        simp [this]; simpa using hi
      · simp [hj]
    refine fin _ (ents.modify i fun e => { e with key := a.eval k, val := a.eval v }) _ clk ?_ ?_ ?_
    · rw [hset]; exact Ur k2 g2 g3
    · rw [hset, ←k3, List.map_set]
      have hmb:(ents.toList.map (·.born))[i]? = some mm.born := by rw [List.getElem?_map, hmm]; rfl
      apply List.ext_getElem?
      intro j
      rw [List.getElem?_set]
      by_cases hj:i=j
      · subst hj
        rw [if_pos rfl, hmb]
        have hi:i<(ents.toList.map (·.born)).length := (List.getElem?_eq_some_iff.1 hmb).1
        rw [if_pos hi]
      · rw [if_neg hj]
    · have hmm':ents[i]? = some mm := by simpa using hmm
      simp only [Instr.mapUpdate, Sem.run_bind, run_underlying ht, Result.andThen_ok, hgo, hck, hfk]
      simp [hmm', Instr.keyThatStays, hsame, hso]
theorem TA {ct:Call} {ty kt e:TypeId} {pl:Plan} {m k:Operand} {m' k':Opd} {ts:List TypeId} (ho:o.op = .call ct) (hb:ct.callee = .builtin .delete) (hts:ct.argTypes.toList=ty::ts) (hargs:ct.args.toList=[m, k])
    (hm:BS N m=some m') (hk:BS N k=some k') (ht:P.underlying ty=some (.map kt e)) (hp:Jy P kt=some pl):EJ P ρ B N o (OI pl m' k' cf t h n) t h n := by
  intro κ hg
  have e1:OI pl m' k' cf t h n κ=ML pl (ev k' t) (G4 (ev m' t) (κ (.tup []) h n) (fun p => Oq p h fun es bs c => JE pl (ev k' t) es fun es' => JG pl (ev k' t) es bs fun bs => κ (.tup []) (Aq p h (some (.m es' bs c))) n)) := by
    simp only [OI, BM, CS]
  rw [e1] at hg
  obtain ⟨hko, e2⟩ := Lf hg
  rw [e2] at hg
  have hargs':ct.args = #[m, k] := by rw [←hargs]
  have hts':ct.argTypes[0]? = some ty := by rw [←Array.getElem?_toList, hts]; rfl
  have htup:∀ φ, B1 ρ φ (.tup []) (.tuple #[]) := fun φ => by simp only [B1]; exact ⟨#[], rfl, by simp only [DE]⟩
  rcases FQ hg with ⟨hmv, e3⟩ | ⟨p, hmv, e3⟩
  · refine ⟨_, h, n, e1.trans (e2.trans e3), .pure fun φ a w hT g => ⟨.tuple #[], ?_, htup φ⟩⟩
    have g1 := A7 hm hT
    rw [hmv] at g1
    have gx := E3 g1
    have g2 := A7 hk hT
    obtain ⟨s1, s2⟩ := Ib hp g2 hko
    have hck := G3 (P := P) (b := true) (d := 9998) hp s1 w s2
    simp only [execOp, ho, resolve, hb, hargs', invoke, builtin, Sem.run_bind, Sem.run_pure, Result.andThen_ok]
    simp [Builtin.delete_, hts', gx, Ea, run_underlying ht, hck]
  · rw [e3] at hg
    obtain ⟨es, bs, clk, hpm, e4⟩ := GK hg
    rw [e4] at hg
    obtain ⟨r, hf, e5⟩ := On hp hg
    rw [e5] at hg
    have e6 := OK hg hf
    refine ⟨_, _, n, e1.trans (e2.trans (e3.trans (e4.trans (e5.trans e6)))), .value fun φ a w hT g => ?_⟩
    have g1 := A7 hm hT
    rw [hmv] at g1
    obtain ⟨b, s, tot, hφ, gx⟩ := HG g1
    obtain ⟨ents, k1, k2, k3⟩ := g.obj p _ b s tot hpm hφ
    have g2 := A7 hk hT
    obtain ⟨s1, s2⟩ := Ib hp g2 hko
    have hck := G3 (P := P) (b := ents.isEmpty) (d := 9998) hp s1 w s2
    obtain ⟨hfk, hsb⟩ := HE (P := P) (w := w) hp g2 hf k2
    have hgo:(getObj b).run P w = .ok (.map ents clk) w := by simp [getObj, Sem.run, k1]
    have hso:∀ O', (setObj b O').run P w = .ok () (F4 w b O') := fun O' => Me k1 (by simp)
    cases r with
    | none =>
      obtain ⟨q1, q2⟩ := L6 (clk := clk) (ents := ents) g hpm hφ k2 k3
      refine ⟨φ, .tuple #[], _, ?_, q2, q1, htup φ⟩
      simp only [execOp, ho, resolve, hb, hargs', invoke, builtin, Sem.run_bind, Sem.run_pure, Result.andThen_ok]
      simp [Builtin.delete_, hts', gx, run_underlying ht, hgo, hck, hfk, hso]
    | some i =>
      obtain ⟨mm, hmm, _⟩ := hsb i rfl
      have hmm':ents[i]? = some mm := by simpa using hmm
      have hi:i<ents.size := by
        rcases Nat.lt_or_ge i ents.size with h' | h'
        · exact h'
        · rw [Array.getElem?_eq_none h'] at hmm'; cases hmm'
      have hel:(ents.eraseIdxIfInBounds i).toList=ents.toList.eraseIdx i := by
        unfold Array.eraseIdxIfInBounds; rw [dif_pos hi]; simp
      obtain ⟨q1, q2⟩ := L6 (clk := clk) (ents := ents.eraseIdxIfInBounds i) g hpm hφ (es' := es.eraseIdx i) (bs' := bs.eraseIdx i) (by rw [hel]; exact Ru k2) (by rw [hel, ←k3, KS])
      refine ⟨φ, .tuple #[], _, ?_, q2, q1, htup φ⟩
      simp only [execOp, ho, resolve, hb, hargs', invoke, builtin, Sem.run_bind, Sem.run_pure, Result.andThen_ok]
      simp [Builtin.delete_, hts', gx, run_underlying ht, hgo, hck, hfk, hmm', hso]
theorem Gf {m:Nat} {κ:V->R} (hg:(Fy m κ).good):m<Hk .i64∧Fy m κ=κ (.int .i64 m) := by
  obtain ⟨h1, e1⟩ := A8 (show R.good (br (Nat.ble (Nat.succ m) 9223372036854775808) (κ (.int .i64 m)) (.fail "")) from hg)
  exact ⟨DL h1, e1⟩
theorem Fs {m:Nat} (hm:m<Hk .i64) (φ:CP):B1 ρ φ (.int .i64 m) (goInt m) := by
  simp only [B1, goInt]
  exact ⟨Nat.lt_of_lt_of_le hm (J2 _), by rw [B0 hm]⟩
theorem VY (es:List (V×V)) (κ:Nat->R):UL es κ=κ es.length := by
  induction es generalizing κ with
  | nil => rfl
  | cons x xs ih => exact (ih fun n => A4 (Nat.succ n) κ).trans (A2 _ _)
theorem FW {ct:Call} {b:Builtin} (ho:o.op = .call ct) (hb:ct.callee = .builtin b) {a:Act} {w w':World} {v:Value}
    (hr:∀ cs, (builtin b ct.argTypes o.type cs (ct.args.map a.eval)).run P w = .ok (.value v) w'):(execOp a.eval o).run P w = .ok (.value v) w' := by
  simp [execOp, ho, resolve, hb, invoke, hr]
section
variable {ct:Call} {ty:TypeId} {x:Operand} {x':Opd} {ts:List TypeId} {xs:List Operand}
theorem Od (ho:o.op = .call ct) (hb:ct.callee = .builtin .len) (hts:ct.argTypes.toList=ty::ts) (hargs:ct.args.toList=x::xs)
    (hx:BS N x=some x') (ht:P.underlying ty=some .string):D6 P ρ B N o (OR x' cf t h n) t h n := by
  intro κ hg
  have e0:OR x' cf t h n κ=W3 (ev x' t) (fun l0 l1 _ _ => br (Nat.ble (Nat.succ l1) 9223372036854775808) (κ (.oth (.iv .i64 l0 l1)) h n) (.fail "")) (Dd (ev x' t) fun m _ => Fy m fun v => κ v h n) := by simp only [OR, BM]
  rw [e0] at hg
  have hargs':ct.args[0]? = some x := by rw [←Array.getElem?_toList, hargs]; rfl
  have hts':ct.argTypes[0]? = some ty := by rw [←Array.getElem?_toList, hts]; rfl
  rcases L2 (ev x' t) (fun l0 l1 _ _ => br (Nat.ble (Nat.succ l1) 9223372036854775808) (κ (.oth (.iv .i64 l0 l1)) h n) (.fail "")) (Dd (ev x' t) fun m _ => Fy m fun v => κ v h n) with ⟨l0, l1, _, _, hv, e1⟩ | e1
  · rw [e1] at hg
    obtain ⟨hb', e2⟩ := A8 hg
    have hb':l1+1≤9223372036854775808 := A5.1 hb'
    refine ⟨_, e0.trans (e1.trans e2), fun φ a w hT g => ?_⟩
    have g1 := A7 hx hT
    rw [hv] at g1
    simp only [B1] at g1
    obtain ⟨s, gx, h1, h2, _⟩ := g1
    refine ⟨goInt s.size, FW ho hb fun cs => ?_, ?_⟩
    · simp [builtin, Builtin.len_, hts', hargs', gx, run_underlying ht]
    · simp only [B1]
      exact ⟨s.size, h1, h2, by simp only [Mk]; omega, by rw [B0 (by simp only [Hk]; omega)]; rfl⟩
  have e1 := e0.trans e1
  rw [←e0, e1] at hg
  obtain ⟨m, c, hv, e2⟩ := E6 hg
  rw [e2] at hg
  obtain ⟨hm, e3⟩ := Gf hg
  refine ⟨_, e1.trans (e2.trans e3), fun φ a w hT g => ⟨goInt m, FW ho hb fun cs => ?_, Fs hm φ⟩⟩
  have g1 := A7 hx hT
  rw [hv] at g1
  obtain ⟨s, gx, hs, _⟩ := Ep g1
  simp [builtin, Builtin.len_, hts', hargs', gx, run_underlying ht, hs]
theorem NP {e:TypeId} (ho:o.op = .call ct) (hb:ct.callee = .builtin .len) (hts:ct.argTypes.toList=ty::ts) (hargs:ct.args.toList=x::xs)
    (hx:BS N x=some x') (ht:P.underlying ty=some (.slice e)):D6 P ρ B N o (NL x' cf t h n) t h n := by
  intro κ hg
  have e0:NL x' cf t h n κ=Gd (ev x' t) (κ (.int .i64 0) h n) (fun p off len cap ex esz => Fy len fun v => κ v h n) (fun o => Xx o (fun l0 l1 => br (Nat.ble (Nat.succ l1) 9223372036854775808) (κ (.oth (.iv .i64 l0 l1)) h n) (.fail "")) (Rs o (fun i l0 l1 z => br (Nat.ble (Nat.succ l1) 9223372036854775808) (br (Nat.beq l0 l1) (κ (.int .i64 l0) h n) (κ (.oth (.iv .i64 l0 l1)) h n)) (.fail "")) (LL o (fun l m z => Fy m fun v => κ v h n) (JF o (fun m c => Fy m fun v => κ v h n) (.fail ""))))) := by simp only [NL, BM]
  rw [e0] at hg
  have hargs':ct.args[0]? = some x := by rw [←Array.getElem?_toList, hargs]; rfl
  have hts':ct.argTypes[0]? = some ty := by rw [←Array.getElem?_toList, hts]; rfl
  rcases HM hg with ⟨hv, e2⟩ | ⟨p, off, len, cap, ex, esz, hv, e2⟩ | ⟨oo, hv, e2⟩
  · refine ⟨_, e0.trans e2, fun φ a w hT g => ⟨goInt 0, FW ho hb fun cs => ?_, Fs (by decide) φ⟩⟩
    have g1 := A7 hx hT
    rw [hv] at g1
    have gx := E3 g1
    simp [builtin, Builtin.len_, hts', hargs', gx, Ea, run_underlying ht]
  · rw [e2] at hg
    obtain ⟨hm, e3⟩ := Gf hg
    refine ⟨_, e0.trans (e2.trans e3), fun φ a w hT g => ⟨goInt len, FW ho hb fun cs => ?_, Fs hm φ⟩⟩
    have g1 := A7 hx hT
    rw [hv] at g1
    obtain ⟨b, s, tot, oo, rcap, hφ, gx, _⟩ := EN g1
    simp [builtin, Builtin.len_, hts', hargs', gx, run_underlying ht]
  · rw [e2] at hg
    cases oo with
    | os l0 l1 =>
      have hg':R.good (br (Nat.ble (Nat.succ l1) 9223372036854775808) (κ (.oth (.iv .i64 l0 l1)) h n) (.fail "")) := hg
      obtain ⟨hb', e3⟩ := A8 hg'
      have hb':l1+1≤9223372036854775808 := A5.1 hb'
      refine ⟨_, e0.trans (e2.trans e3), fun φ a w hT g => ?_⟩
      have g1 := A7 hx hT
      rw [hv] at g1
      simp only [B1] at g1
      obtain ⟨p, len, cap, gx, h1, h2, h3⟩ := g1
      refine ⟨goInt len, FW ho hb fun cs => ?_, ?_⟩
      · simp [builtin, Builtin.len_, hts', hargs', gx, run_underlying ht]
      · simp only [B1]
        exact ⟨len, h1, h2, by simp only [Mk]; omega, by rw [B0 (by simp only [Hk]; omega)]; rfl⟩
    | ro i l0 l1 z =>
      have hg':R.good (br (Nat.ble (Nat.succ l1) 9223372036854775808) (br (Nat.beq l0 l1) (κ (.int .i64 l0) h n) (κ (.oth (.iv .i64 l0 l1)) h n)) (.fail "")) := hg
      obtain ⟨hb', e3⟩ := A8 hg'
      have hb':l1+1≤9223372036854775808 := A5.1 hb'
      have key:∃ v, br (Nat.beq l0 l1) (κ (.int .i64 l0) h n) (κ (.oth (.iv .i64 l0 l1)) h n)=κ v h n ∧ ∀ (φ:CP) (len:Nat), l0≤len->len≤l1->B1 ρ φ v (goInt len) := by
        cases hl:Nat.beq l0 l1 with
        | true =>
          have hl := Nat.eq_of_beq_eq_true hl
          refine ⟨_, by rw [Aa], fun φ len h1 h2 => ?_⟩
          obtain rfl:len=l0 := by omega
          exact Fs (show len<9223372036854775808 by omega) φ
        | false =>
          refine ⟨_, by rw [AJ], fun φ len h1 h2 => ?_⟩
          simp only [B1]
          exact ⟨len, h1, h2, by simp only [Mk]; omega, by rw [B0 (by simp only [Hk]; omega)]; rfl⟩
      obtain ⟨v, e4, hv4⟩ := key
      refine ⟨_, e0.trans (e2.trans (e3.trans e4)), fun φ a w hT g => ?_⟩
      have g1 := A7 hx hT
      rw [hv] at g1
      simp only [B1] at g1
      obtain ⟨b, q, len, cap, c, e', fr, gx, h1, h2, h3, _⟩ := g1
      refine ⟨goInt len, FW ho hb fun cs => ?_, hv4 φ len h1 h2⟩
      simp [builtin, Builtin.len_, hts', hargs', gx, run_underlying ht]
    | rx l m z =>
      have hg':R.good (Fy m fun v => κ v h n) := hg
      obtain ⟨hm, e3⟩ := Gf hg'
      refine ⟨_, e0.trans (e2.trans e3), fun φ a w hT g => ⟨goInt m, FW ho hb fun cs => ?_, Fs hm φ⟩⟩
      have g1 := A7 hx hT
      rw [hv] at g1
      simp only [B1] at g1
      obtain ⟨ad, cap, gx, _⟩ := g1
      simp [builtin, Builtin.len_, hts', hargs', gx, run_underlying ht]
    | rb m c =>
      have hg':R.good (Fy m fun v => κ v h n) := hg
      obtain ⟨hm, e3⟩ := Gf hg'
      refine ⟨_, e0.trans (e2.trans e3), fun φ a w hT g => ⟨goInt m, FW ho hb fun cs => ?_, Fs hm φ⟩⟩
      have g1 := A7 hx hT
      rw [hv] at g1
      simp only [B1, Ik] at g1
      obtain ⟨ad, cap, gx, _⟩ := g1
      simp [builtin, Builtin.len_, hts', hargs', gx, run_underlying ht]
    | _ => exact hg.elim
theorem Ol {e:TypeId} (ho:o.op = .call ct) (hb:ct.callee = .builtin .cap) (hts:ct.argTypes.toList=ty::ts) (hargs:ct.args.toList=x::xs)
    (hx:BS N x=some x') (ht:P.underlying ty=some (.slice e)):D6 P ρ B N o (NT x' cf t h n) t h n := by
  intro κ hg
  have e1:NT x' cf t h n κ=Gq (ev x' t) (κ (.int .i64 0) h n) (fun p off len cap ex esz => br ex (Fy cap fun v => κ v h n) (.fail "")) := by simp only [NT, BM]
  rw [e1] at hg
  have hargs':ct.args[0]? = some x := by rw [←Array.getElem?_toList, hargs]; rfl
  have hts':ct.argTypes[0]? = some ty := by rw [←Array.getElem?_toList, hts]; rfl
  rcases FR hg with ⟨hv, e2⟩ | ⟨p, off, len, cap, ex, esz, hv, e2⟩
  · refine ⟨_, e1.trans e2, fun φ a w hT g => ⟨goInt 0, FW ho hb fun cs => ?_, Fs (by decide) φ⟩⟩
    have g1 := A7 hx hT
    rw [hv] at g1
    have gx := E3 g1
    simp [builtin, Builtin.cap_, hts', hargs', gx, Ea, run_underlying ht]
  · rw [e2] at hg
    obtain ⟨hex, e3⟩ := A8 hg
    rw [e3] at hg
    obtain ⟨hm, e4⟩ := Gf hg
    refine ⟨_, e1.trans (e2.trans (e3.trans e4)), fun φ a w hT g => ⟨goInt cap, FW ho hb fun cs => ?_, Fs hm φ⟩⟩
    have g1 := A7 hx hT
    rw [hv] at g1
    obtain ⟨b, s, tot, oo, rcap, hφ, gx, _, _, c3, _⟩ := EN g1
    have hc := c3 hex
    subst hc
    simp [builtin, Builtin.cap_, hts', hargs', gx, run_underlying ht]
theorem Nu {k e:TypeId} (ho:o.op = .call ct) (hb:ct.callee = .builtin .len) (hts:ct.argTypes.toList=ty::ts) (hargs:ct.args.toList=x::xs)
    (hx:BS N x=some x') (ht:P.underlying ty=some (.map k e)):D6 P ρ B N o (Og x' cf t h n) t h n := by
  intro κ hg
  have e1:Og x' cf t h n κ=G4 (ev x' t) (κ (.int .i64 0) h n) (fun p => Oq p h fun es _ _ => Fy es.length fun v => κ v h n) := by
    simp only [Og, BM]
    congr 1; funext p; congr 1; funext es _ _; exact VY es _
  rw [e1] at hg
  have hargs':ct.args[0]? = some x := by rw [←Array.getElem?_toList, hargs]; rfl
  have hts':ct.argTypes[0]? = some ty := by rw [←Array.getElem?_toList, hts]; rfl
  rcases FQ hg with ⟨hv, e2⟩ | ⟨p, hv, e2⟩
  · refine ⟨_, e1.trans e2, fun φ a w hT g => ⟨goInt 0, FW ho hb fun cs => ?_, Fs (by decide) φ⟩⟩
    have g1 := A7 hx hT
    rw [hv] at g1
    have gx := E3 g1
    simp [builtin, Builtin.len_, hts', hargs', gx, Ea, run_underlying ht]
  · rw [e2] at hg
    obtain ⟨es, bs, clk, hpm, e3⟩ := GK hg
    rw [e3] at hg
    obtain ⟨hm, e4⟩ := Gf hg
    refine ⟨_, e1.trans (e2.trans (e3.trans e4)), fun φ a w hT g => ⟨goInt es.length, FW ho hb fun cs => ?_, Fs hm φ⟩⟩
    have g1 := A7 hx hT
    rw [hv] at g1
    obtain ⟨b, s, tot, hφ, gx⟩ := HG g1
    obtain ⟨ents, k1, k2, _⟩ := g.obj p _ b s tot hpm hφ
    have hl := HR k2
    have hgo:(getObj b).run P w = .ok (.map ents clk) w := by simp [getObj, Sem.run, k1]
    simp [builtin, Builtin.len_, hts', hargs', gx, run_underlying ht, hgo]
    rw [←hl]; simp
end
end
end Go.Ev

namespace Go.Ev
set_option linter.unusedVariables false
section
variable {P:Program} {ρ:Env} {B N:Nat} {o:Oper} {cf:CF} {t:Regs} {h:Heap} {n:K4}
theorem Gam.frz {φ:CP} {w:World} (g:Gam ρ B h n φ w) {p:K4} {cs:Cs} {sup:Bool} {prev:Option K4} {b s tot:Nat} {c:Array Value} {e:TypeId} {fr fr':Nat×Nat}
    (hp:A6 p h=some (.c cs sup prev)) (hφ:φ p=some (b, s, tot)) (hw:w.heap[b]? = some (.cells c e fr)) (hf:XQ fr' c.size) :
    Gam ρ B h n φ (F4 w b (.cells c e fr'))∧Fr h h φ φ n n w (F4 w b (.cells c e fr')) := by
  have hb := (g.blk p b s tot hφ).2
  refine ⟨⟨by rw [Gr]; exact g.base, g.dom, fun q b1 s1 t1 hx => by rw [Gr]; exact g.blk q b1 s1 t1 hx, fun q o1 b1 s1 t1 hq hx => ?_, g.sep, g.sup, fun k c e fr hk => ⟨(g.glob k c e fr hk).1, by rw [Jj (by have := (g.glob k c e fr hk).1; have := (g.blk p b s tot hφ).1; omega)]; exact (g.glob k c e fr hk).2⟩⟩,
    ⟨CP.le_refl φ, fun _ _ h => .inl h, Nat.le_refl _, rfl, rfl, rfl, by rw [Gr]; exact Nat.le_refl _, fun k hk hn => Jj fun e => ?_, fun _ _ _ _ h => .inl h, fun _ _ h => h⟩⟩
  · have k := g.obj q o1 b1 s1 t1 hq hx
    by_cases e:b=b1
    · subst e
      cases o1 with
      | c cs1 sup1 prev1 =>
        obtain ⟨c1, e1, fr1, h1, h2, h3, h4, h5⟩ := k
        rw [hw] at h1; cases h1
        exact ⟨c, e, fr', FY hb, h2, h3, h2 ▸ hf, h5⟩
      | m es bs clk => obtain ⟨ents, h1, _⟩ := k; rw [hw] at h1; cases h1
      | it p since seen c => obtain ⟨bm, sm, tm, _, _, h1⟩ := k; rw [hw] at h1; cases h1
      | it0 => obtain ⟨_, h1⟩ := k; rw [hw] at h1; cases h1
      | lp _ _ => obtain ⟨_, A, fn, tmps, D, _, h1, _⟩ := k; rw [hw] at h1; cases h1
    · exact El (Jj e) k
  · subst e
    have := hn p s tot hφ; rw [hp] at this; cases this
theorem Tq {src dst e e':TypeId} {x:Operand} {x':Opd} (ho:o.op = .convert src dst x) (hx:BS N x=some x') (hs:P.underlying src=some (.slice e')) (hd:P.underlying dst=some (.slice e)) (hsd:(src == dst)=true) (he:P.underlying e=some (.int .u8)) :
    EJ P ρ B N o (OE x' cf t h n) t h n := by
  intro κ hg
  have e1:OE x' cf t h n κ=Gq (ev x' t) (.fail "") (fun p _ _ _ _ _ => Jw p h fun _ _ _ => κ (ev x' t) h n) := by simp only [OE, BM]
  rw [e1] at hg
  rcases FR hg with ⟨hv, e2⟩ | ⟨p, off, len, cap, ex, esz, hv, e2⟩
  · rw [e2] at hg; exact hg.elim
  · rw [e2] at hg
    obtain ⟨cs, sup, prev, hp, e3⟩ := Fl hg
    refine ⟨_, h, n, e1.trans (e2.trans e3), .value fun φ a w hT g => ?_⟩
    have g1 := A7 hx hT
    rw [hv] at g1
    obtain ⟨b, s, tot, q, cap', hφ, gx, _⟩ := EN g1
    obtain ⟨c, et, fr, k1, k2, k3, k4, k5⟩ := g.obj p _ b s tot hp hφ
    obtain ⟨g2, g3⟩ := g.frz hp hφ k1 (fr' := if fr.1 == fr.2 then (c.size, c.size+1) else (min fr.1 c.size, max fr.2 (c.size+1))) (by
      split
      · exact .inr (Nat.le_refl _)
      · rename_i hne
        rcases k4 with h' | h'
        · simp [h'] at hne
        · exact .inr (by show c.size≤min fr.1 c.size; omega))
    refine ⟨φ, a.eval x, _, ?_, g3, g2, by rw [hv]; exact g1⟩
    have hsh:w.shape? b=some (et, c.size) := by unfold World.shape?; rw [k1]
    have hfz := J6 (off := c.size) k1
    simp only [execOp, ho, gx, convert, Sem.run_bind, run_underlying hs, run_underlying hd, Result.andThen_ok, hsd, run_underlying he, markStringish]
    have hsr:(shape b).run P w = .ok (some (et, c.size)) w := by simp [shape, Sem.run, hsh]
    simp only [hsr, Result.andThen_ok, run_freeze, hfz, Sem.run_pure]
theorem Ro (off:Nat) (vs:List Value):∀ (k:Nat) (c:Array Value), off+k+vs.length≤c.size →
    ((vs.zipIdx k).foldl (fun cs (x:Value×Nat) => cs.setIfInBounds (off+x.2) x.1) c).toList=c.toList.take (off+k)++(vs++c.toList.drop (off+k+vs.length)) := by
  induction vs with
  | nil => intro k c _; simp
  | cons v vs ih =>
    intro k c hk
    simp only [List.length_cons] at hk
    rw [List.zipIdx_cons, List.foldl_cons, ih (k+1) _ (by simp; omega)]
    have hlt:off+k<c.toList.length := by simp; omega
    rw [Array.toList_setIfInBounds, List.set_eq_take_append_cons_drop, if_pos hlt]
    have hl:(c.toList.take (off+k)).length=off+k := by rw [List.length_take]; omega
    have h1:(c.toList.take (off+k)++v::c.toList.drop (off+k+1)).take (off+(k+1))=c.toList.take (off+k)++[v] := by
      rw [List.take_append, hl, List.take_of_length_le (by omega)]
      have:off+(k+1) - (off+k)=1 := by omega
      rw [this]; rfl
    have h2:(c.toList.take (off+k)++v::c.toList.drop (off+k+1)).drop (off+(k+1)+vs.length)=c.toList.drop (off+k+(v::vs).length) := by
      rw [List.drop_append, hl, List.drop_eq_nil_of_le (by omega)]
      have:off+(k+1)+vs.length - (off+k)=vs.length+1 := by omega
      rw [this, List.drop_succ_cons, List.drop_drop, List.nil_append]
      congr 1; simp only [List.length_cons]; omega
    rw [h1, h2]; simp
theorem TL {xs ys:List V} {off:Nat} {κ:List V->R} (hg:(Ni xs off ys κ).good):off+ys.length≤xs.length∧Ni xs off ys κ=κ (xs.take off++(ys++xs.drop (off+ys.length))) := by
  obtain ⟨h1, e1⟩ := Hr (show R.good (FX off xs _) from hg)
  have e1:Ni xs off ys κ=_ := e1
  rw [e1, FM, A2] at hg
  obtain ⟨h2, e2⟩ := Hp hg
  exact ⟨h2, by rw [e1, FM, A2, e2, GZ, GZ]; rfl⟩
theorem HP (hρ:DA ρ) {place:Nat->Option (Nat×Nat)}:∀ {parts:List (Nat×Operand)} {ps:List Part} {z:List V} {κ:List V->R}, HV N place parts=some ps->(Fw ps t z κ).good →
    ∃ l, l.length=z.length∧Fw ps t z κ=κ l ∧ ∀ (φ:CP) (a:Act) (zc:Array Value), TR ρ N φ t a->DE ρ φ z zc.toList->(∀ y∈zc.toList, y.oneCell'=true) →
      ∃ cells, Instr.fill place zc (parts.map fun x => (x.1, a.eval x.2))=some cells∧DE ρ φ l cells.toList ∧ ∀ y∈cells.toList, y.oneCell'=true
  | [], ps, z, κ, hp, hg => by
    simp only [HV, Option.some.injEq] at hp; subst hp
    exact ⟨z, rfl, rfl, fun φ a zc _ h1 h2 => ⟨zc, rfl, h1, h2⟩⟩
  | (i, x)::parts, ps, z, κ, hp, hg => by
    simp only [HV] at hp
    split at hp
    · rename_i off size x' xs hpl hx hxs
      cases hp
      have e1:Fw (⟨off, size, x'⟩::xs) t z κ=Gm (ev x' t) fun l => IW l fun m => br (Nat.beq m size) (Ni z off l fun z => Fw xs t z κ) (.fail "") := BM x' t _
      rw [e1] at hg
      obtain ⟨hc, e2⟩ := HI hg
      rw [e2, FM] at hg
      obtain ⟨h3, e3⟩ := A8 hg
      have h3 := Nat.eq_of_beq_eq_true h3
      rw [e3] at hg
      obtain ⟨h4, e4⟩ := TL hg
      rw [e4] at hg
      obtain ⟨l, hl, e5, H⟩ := HP hρ hxs hg
      have hlen:((z.take off)++((ev x' t).cl++z.drop (off+(ev x' t).cl.length))).length=z.length := by
        simp only [List.length_append, List.length_take, List.length_drop]; omega
      refine ⟨l, hl.trans hlen, e1.trans (e2.trans ((FM _ _).trans (e3.trans (e4.trans e5)))), fun φ a zc hT h1 h2 => ?_⟩
      obtain ⟨hr, ho⟩ := Jm hρ hc (A7 hx hT)
      have hrl := CW hr
      have hzl := CW h1
      have hsz:(a.eval x).cells.size=size := by rw [←h3, ←hrl]; simp
      have hle:off+0+(a.eval x).cells.toList.length≤zc.size := by rw [hrl]; simp at hzl; omega
      have hfold := Ro off (a.eval x).cells.toList 0 zc hle
      obtain ⟨cells, k1, k2, k3⟩ := H φ a (((a.eval x).cells.toList.zipIdx 0).foldl (fun cs (x:Value×Nat) => cs.setIfInBounds (off+x.2) x.1) zc) hT (by
        rw [hfold, Nat.add_zero, hrl]
        exact HJ (L1 h1 off) (HJ hr (Lj h1 _))) (fun y hy => by
        rw [hfold] at hy
        rcases List.mem_append.1 hy with hy | hy
        · exact h2 y (List.mem_of_mem_take hy)
        · rcases List.mem_append.1 hy with hy | hy
          · exact ho y hy
          · exact h2 y (List.mem_of_mem_drop hy))
      refine ⟨cells, ?_, k2, k3⟩
      rw [List.map_cons, Instr.fill, hpl]
      have hcond:((a.eval x).cells.size≠size || off+(a.eval x).cells.size > zc.size)=false := by
        simp at hle; simp [hsz]; omega
      simp only [hcond, Bool.false_eq_true, if_false]
      rw [←k1]
      congr 1
      rw [←Array.foldl_toList, Array.toList_zipIdx]
    · cases hp
theorem Fj {ty:TypeId} {z:List V} (hz:FF P ty=some z):∃ zv it, P.info? ty=some it∧it.zero=some zv ∧ ∀ φ, DE ρ φ z zv.cells.toList ∧ ∀ y∈zv.cells.toList, y.oneCell'=true := by
  unfold FF at hz
  cases hi:P.info? ty with
  | none => rw [hi] at hz; cases hz
  | some it =>
    rw [hi] at hz
    cases hzv:it.zero with
    | none => rw [Option.bind_some, hzv] at hz; cases hz
    | some zv =>
      rw [Option.bind_some, hzv] at hz
      exact ⟨zv, it, rfl, hzv, fun φ => H8 (show JI zv.cells.toList=some z from hz) φ⟩
theorem Hz {ty:TypeId} {parts:Array (Nat×Operand)} {place:Nat->Option (Nat×Nat)} {z:List V} {ps:List Part} (hρ:DA ρ) (ho:o.op = .build ty parts) (hz:FF P ty=some z) (hps:HV N place parts.toList=some ps)
    (hb:∀ it zv, P.info? ty=some it->it.zero=some zv->∀ l, P.built ty l=Instr.fill place zv.cells l):D6 P ρ B N o (Sn z ps cf t h n) t h n := by
  intro κ hg
  obtain ⟨l, hl, e1, H⟩ := HP hρ hps (show R.good (Fw ps t z fun l => κ (.agg l) h n) from hg)
  refine ⟨_, e1, fun φ a w hT g => ?_⟩
  obtain ⟨zv, it, hi, hzv, hr⟩ := Fj (ρ := ρ) hz
  obtain ⟨cells, k1, k2, k3⟩ := H φ a zv.cells hT (hr φ).1 (hr φ).2
  refine ⟨.agg cells, ?_, by simp only [B1]; exact ⟨_, rfl, k2, k3⟩⟩
  have hbuilt:P.built ty (parts.map fun (i, x) => (i, a.eval x)).toList=some cells := by
    rw [hb it zv hi hzv, Array.toList_map]; exact k1
  simp only [execOp, ho, Sem.run_bind, run_build w ty _ cells hbuilt, Result.andThen_ok, Sem.run_pure]
theorem G0 {φ:CP} {z:List V} {zc:Array Value} (hr:DE ρ φ z zc.toList) (ho:∀ y∈zc.toList, y.oneCell'=true) {k i:Nat} (hi:i<k) {v:V} (hv:z[i % z.length]? = some v) :
    ∃ x, ((Array.range k).map (zc[· % zc.size]!))[i]? = some x∧B1 ρ φ v x∧x.oneCell'=true := by
  have hl := CW hr
  obtain ⟨x, hx, hrx⟩ := (Em.1 hr).2 _ v hv
  refine ⟨x, ?_, hrx, ho x (List.mem_of_getElem? hx)⟩
  rw [Array.getElem?_map, Array.getElem?_range, if_pos hi]
  have hs:zc.size=z.length := by simpa using hl
  have hx':zc[i % z.length]? = some x := by simpa using hx
  simp [hs, getElem!_def, hx']
theorem Oh {z:List V}:∀ {m i:Nat}, i<m*z.length->(Gs z m)[i]? = z[i % z.length]? := by
  intro m
  induction m with
  | zero => intro i hi; simp at hi
  | succ m ih =>
    intro i hi
    simp only [Gs]
    by_cases hz:i<z.length
    · rw [List.getElem?_append_left hz, Nat.mod_eq_of_lt hz]
    · rw [List.getElem?_append_right (by omega), ih (by rw [Nat.succ_mul] at hi; omega)]
      congr 1
      rw [←Nat.mod_eq_sub_mod (by omega)]
theorem EL {z:List V} {m:Nat}:(Gs z m).length=m*z.length := by
  induction m with
  | zero => simp [Gs]
  | succ m ih => simp only [Gs, List.length_append, ih, Nat.succ_mul]; omega
theorem Iw {φ:CP} {p:K4} {b tot len cap esz:Nat} (h1:len≤cap) (h2:cap*esz≤tot):B1 ρ (GC φ p (b, 0, tot)) (.sl p 0 len cap true esz) (.slice (some ⟨b, 0, none⟩) len cap) := by
  simp only [B1]
  exact ⟨b, 0, tot, 0, cap, E5 _ _ _, rfl, h1, Nat.le_refl _, fun _ => rfl, fun _ => ⟨rfl, by omega⟩⟩
theorem Pn {ty e:TypeId} {len s:Nat} {parts:Array (Nat×Operand)} {z:List V} {ps:List Part} {u8:Bool} (hρ:DA ρ) (ho:o.op = .buildSlice ty len parts) (hu:P.underlying ty=some (.slice e)) (hs:Dz P e=some s) (hz:FF P e=some z)
    (hsz:s=z.length) (h0:0<s) (hbig:len*s≤2 ^ 24) (hps:HV N (fun i => some (i*s, s)) parts.toList=some ps):EJ P ρ B N o (J1 u8 len s (Gs z len) ps cf t h n) t h n := by
  intro κ hg
  obtain ⟨l, hl, e1, H⟩ := HP hρ hps (show R.good (Fw ps t (Gs z len) _) from hg)
  have e1:J1 u8 len s (Gs z len) ps cf t h n κ=_ := e1
  rw [e1] at hg
  rw [EL] at hl
  obtain ⟨zv, it, hi, hzv, hr⟩ := Fj (ρ := ρ) hz
  have hits:it.size=s := by unfold Dz at hs; rw [hi] at hs; simpa using hs
  -- the cells, whichever way they are kept
  have fin:∀ (cs:Cs) (n':K4), n'.toN=n.toN+1->cs.len=l.length->(∀ i, cs.at i=l[i]?)->IX P ρ B N o t h n (.sl n 0 len len true s) (Aq n h (some (.c cs false none))) n' := fun cs n' hn hcl hca => .value fun φ a w hT g => by
    have hzl := CW (hr φ).1
    obtain ⟨cells, k1, k2, k3⟩ := H φ a ((Array.range (len*s)).map (zv.cells[· % zv.cells.size]!)) hT (Em.2 ⟨by simp [EL, hsz], fun i v hv => by
        have hlt:i<len*z.length := by
          rcases Nat.lt_or_ge i (len*z.length) with h' | h'
          · exact h'
          · rw [List.getElem?_eq_none (by rw [EL]; exact h')] at hv; cases hv
        rw [Oh hlt] at hv
        obtain ⟨x, hx, hrx, _⟩ := G0 (hr φ).1 (hr φ).2 (k := len*s) (by rw [hsz]; exact hlt) hv
        exact ⟨x, by rw [Array.getElem?_toList]; exact hx, hrx⟩⟩) (fun y hy => by
        obtain ⟨i, hi', rfl⟩ := List.getElem_of_mem hy
        have hlt:i<len*z.length := by simpa [hsz] using hi'
        have hzp:i % z.length<z.length := Nat.mod_lt _ (by omega)
        obtain ⟨x, hx, _, hox⟩ := G0 (hr φ).1 (hr φ).2 (k := len*s) (i := i) (by rw [hsz]; exact hlt) (List.getElem?_eq_getElem hzp)
        have hx' := hx
        rw [←Array.getElem?_toList, List.getElem?_eq_getElem hi'] at hx'
        cases hx'; exact hox)
    have hcl2 := CW k2
    have hc := Gh k2 k3
    obtain ⟨g1, g2⟩ := EB g hn (e := e) (fr := (0, 0)) (c := cells) (cs := cs) (by rw [hcl]; simp at hcl2; omega) (LP _) (fun i v hv => by rw [hca i] at hv; simpa using hc i v hv)
    refine ⟨_, .slice (some ⟨w.heap.size, 0, none⟩) len len, _, ?_, g2, g1, Iw (Nat.le_refl _) (by simp at hcl2; rw [hcl2, hl, hsz]; exact Nat.le_refl _)⟩
    have hfill:Instr.fill (fun i => some (i*it.size, it.size)) ((Array.range (len*it.size)).map (zv.cells[· % zv.cells.size]!)) (parts.map fun (i, x) => (i, a.eval x)).toList=some cells := by
      rw [hits, Array.toList_map]; exact k1
    have hrun:(Instr.buildSlice ty len (parts.map fun (i, x) => (i, a.eval x))).run P w = .ok (.slice (some ⟨w.heap.size, 0, none⟩) len len) (w.alloc (.cells cells e)) := by
      by_cases h00:len*it.size=0
      · have hfill':Instr.fill (fun i => some (i*it.size, it.size)) #[] (parts.map fun (i, x) => (i, a.eval x)).toList=some cells := by
          have:(Array.range (len*it.size)).map (zv.cells[· % zv.cells.size]!) = #[] := Array.eq_empty_of_size_eq_zero (by simp [h00])
          rw [this] at hfill; exact hfill
        simp only [Instr.buildSlice, Sem.run_bind, run_underlying hu, Result.andThen_ok, C0 hs]
        rw [←hits]
        simp only [h00]
        have hr0:∀ q:Array Value, (Array.range 0).map (fun x => q[x % q.size]!) = #[] := fun q => Array.eq_empty_of_size_eq_zero (by simp)
        simp [hr0]
        rw [Array.toList_map] at hfill'
        rw [show (List.map (fun x:Nat×Operand => (x.fst, a.eval x.snd)) parts.toList)=List.map (fun x => match x with | (i, x) => (i, a.eval x)) parts.toList from rfl, hfill']
        rfl
      · exact run_buildSlice w ty e len _ cells it zv hu hi hzv (by rw [hits]; omega) h00 hfill
    simp only [execOp, ho, Sem.run_bind, hrun, Result.andThen_ok, Sem.run_pure]
  cases u8 with
  | true =>
    have hg':R.good (EI l (fun m c => Fi h n (.c (.b m c) false none) fun h' n' => κ (.sl n 0 len len true s) h' n') (.fail "")) := hg
    obtain ⟨m, c, e2, hml, hma, _⟩ := Kc hg'
    rw [e2] at hg'
    obtain ⟨n', hn, e3⟩ := Di hg'
    exact ⟨_, _, _, e1.trans (Eq.trans e2 e3), fin (.b m c) n' hn hml hma⟩
  | false =>
    obtain ⟨n', hn, e3⟩ := Di (show R.good (Fi h n (.c (.l l) false none) fun h' n' => κ (.sl n 0 len len true s) h' n') from hg)
    exact ⟨_, _, _, e1.trans e3, fin (.l l) n' hn rfl fun _ => rfl⟩
theorem P2 {z:List V} (h:N8 z=true):z=[.int .u8 0] := by
  unfold N8 at h
  split at h
  · rfl
  · cases h
theorem Rj {ty e:TypeId} {l c:Operand} {l' c':Opd} {s eb:Nat} {z:List V} (ho:o.op = .makeSlice ty l c) (hl:BS N l=some l') (hc:BS N c=some c') (hu:P.underlying ty=some (.slice e)) (hs:Dz P e=some s) (hb:Hu P e=some eb) (hz:FF P e=some z)
    (hsz:s=z.length) (h0:0<s) (hb0:0<eb):EJ P ρ B N o (IF eb (N8 z) z l' c' cf t h n) t h n := by
  intro κ hg
  have e1:IF eb (N8 z) z l' c' cf t h n κ=KY (ev l' t) fun a => KY (ev c' t) fun b => br (Nat.ble a b) (br (Nat.ble (Nat.mul eb b) 281474976710656) (Hm (N8 z) z b fun y => Fi h n (.c y false none) fun h' n' => κ (.sl n 0 a b true z.length) h' n') (.fail "")) (.fail "") := by
    simp only [IF, BM, FM]
  rw [e1] at hg
  obtain ⟨k1, a, hlv, ha, e2⟩ := FG hg
  rw [e2] at hg
  obtain ⟨k2, b, hcv, hbv, e3⟩ := FG hg
  rw [e3] at hg
  obtain ⟨h4, e4⟩ := A8 hg
  rw [e4] at hg
  obtain ⟨h5, e5⟩ := A8 hg
  rw [e5] at hg
  have h4 := A5.1 h4
  have h5:eb*b≤281474976710656 := A5.1 h5
  obtain ⟨y, e6, hyl, hya⟩ := Jr (N8 z) z b (fun y => Fi h n (.c y false none) fun h' n' => κ (.sl n 0 a b true z.length) h' n') P2
  rw [e6] at hg
  obtain ⟨n', hn, e7⟩ := Di hg
  refine ⟨_, _, _, e1.trans (e2.trans (e3.trans (e4.trans (e5.trans (e6.trans e7))))), .value fun φ ac w hT g => ?_⟩
  have g1 := A7 hl hT
  rw [hlv] at g1
  have gl := Gj ha g1
  have g2 := A7 hc hT
  rw [hcv] at g2
  have gc := Gj hbv g2
  obtain ⟨zv, it, hi, hzv, hr⟩ := Fj (ρ := ρ) hz
  have hits:it.size=s := by unfold Dz at hs; rw [hi] at hs; simpa using hs
  have hitb:it.bytes=eb := by unfold Hu at hb; rw [hi] at hb; simpa using hb
  have hb63:b≤281474976710656 := Nat.le_trans (Nat.le_mul_of_pos_left b hb0) h5
  have hrun := run_make (P := P) w ty e it zv hu hi hzv k1 k2 (a:Int) (b:Int) (by omega) (by omega) (by rw [hitb, ←Int.natCast_mul]; exact Int.ofNat_le.2 h5) (by omega)
  obtain ⟨g3, g4⟩ := EB g hn (e := e) (fr := (0, 0)) (c := madeCells zv.cells (b*it.size)) (cs := y) (by rw [size_madeCells, hyl, hits, hsz]; exact Nat.le_refl _) (LP _) (fun i v hv => by
    have hlt := Cs.lt_of_at hv
    rw [hyl] at hlt
    rw [hya i hlt] at hv
    exact G0 (hr φ).1 (hr φ).2 (k := b*it.size) (by rw [hits, hsz]; exact hlt) hv)
  refine ⟨_, .slice (some ⟨w.heap.size, 0, none⟩) a b, _, ?_, g4, g3, Iw h4 (by rw [size_madeCells, hits, hsz]; exact Nat.le_refl _)⟩
  simp only [execOp, ho, gl, gc, Sem.run_bind, hrun, Result.andThen_ok, Sem.run_pure, Int.toNat_natCast]
end
end Go.Ev
