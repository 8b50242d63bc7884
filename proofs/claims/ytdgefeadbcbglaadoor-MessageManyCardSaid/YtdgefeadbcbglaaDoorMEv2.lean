/- AN EVALUATOR OF THE MODEL OF Go, PROVED SOUND, PART 2: what it says of a call holds in every world, on every tape. Conditions: none of its own; each theorem bears its premises. -/
import Derived.Test.YtdgefeadbcbglaaDoorMEv1
import Derived.Great.BuildSlice
import Derived.Laws.BytesString
import Derived.Laws.MakeOwn
noncomputable section
set_option linter.unusedSimpArgs false
set_option linter.unusedVariables false
namespace Go.Ev
set_option linter.unusedVariables false
section
variable {P:Program} {ρ:Env} {φ:AT} {w:World}
theorem Cz {k:IntKind} {r:Nat} {x:Value} (h:As ρ φ (.int k r) x):r<Mk k∧x = .int k (C9 k r) := by simpa only [As] using h
theorem Ez {b:Bool} {x:Value} (h:As ρ φ (.bool b) x):x = .bool b := by simpa only [As] using h
theorem Cy {n c:Nat} {x:Value} (h:As ρ φ (.str n c) x):∃ s:ByteArray, x = .string s∧s.size=n∧Au s.data.toList=c := by simpa only [As] using h
theorem Er {l:List V} {x:Value} (h:As ρ φ (.agg l) x):∃ cs:Array Value, x = .agg cs∧By ρ φ l cs.toList ∧ ∀ y∈cs.toList, y.oneCell'=true := by simpa only [As] using h
theorem Q8 {l:List V} {x:Value} (h:As ρ φ (.tup l) x):∃ cs:Array Value, x = .tuple cs∧By ρ φ l cs.toList := by simpa only [As] using h
theorem Cd {u:Nl} {x:Value} (h:As ρ φ (.nil u) x):x=Ci u := by simpa only [As] using h
theorem D9 {p:K4} {off:Nat} {x:Value} (h:As ρ φ (.ptr p off) x):∃ b s tot, φ p=some (b, s, tot)∧x = .pointer (some ⟨b, s+off, none⟩) := by simpa only [As] using h
theorem GG {p:K4} {x:Value} (h:As ρ φ (.map p) x):∃ b s tot, φ p=some (b, s, tot)∧x = .map (some b) := by simpa only [As] using h
theorem Jc {f:Nat} {l:List V} {x:Value} (h:As ρ φ (.fn f l) x):∃ cs:Array Value, x = .func (.func f) #[] cs∧By ρ φ l cs.toList := by simpa only [As] using h
theorem CW {p:K4} {off len cap:Nat} {ex:Bool} {esz:Nat} {x:Value} (h:As ρ φ (.sl p off len cap ex esz) x) :
    ∃ b s tot o cap', φ p=some (b, s, tot)∧x = .slice (some ⟨b, o, none⟩) len cap'∧len≤cap∧cap≤cap'∧(ex=true->cap'=cap)∧(0<cap'->o=s+off∧o+cap'*esz≤tot) := by simpa only [As] using h
def V4 (k:Sc) (X Y:Value) (r:Bool):Prop :=
  match k with
  | .i => ∃ kd a b, X = .int kd a∧Y = .int kd b∧r=(a == b)
  | .s => ∃ s u, X = .string s∧Y = .string u∧r=(s.toList == u.toList)
  | .b => ∃ a b, X = .bool a∧Y = .bool b∧r=(a == b)
theorem Hp {k:Sc} {x y:V} {κ:Bool->R} (h:(L8 k x y κ).good) :
    ∃ r, (∀ κ', L8 k x y κ'=κ' r) ∧ ∀ X Y, As ρ φ x X->As ρ φ y Y->V4 k X Y r := by
  cases k with
  | i =>
    obtain ⟨kd, a, rfl, e⟩ := CI (show R.good (GS x _) from h)
    have h:R.good (GS y _) := h
    obtain ⟨j, b, rfl, e'⟩ := CI h
    have h:R.good (br (Bk kd j) (Cn (Nat.beq a b) κ) (.fail "")) := h
    obtain ⟨rfl, _⟩ := kb h
    have hk:Bk kd kd=true := AL.2 rfl
    refine ⟨Nat.beq a b, fun κ' => ?_, fun X Y hx hy => ?_⟩
    · show br (Bk kd kd) (Cn (Nat.beq a b) κ') (.fail "")=_
      rw [hk, Ac, Bu]
    · obtain ⟨ha, rfl⟩ := Cz hx
      obtain ⟨hb, rfl⟩ := Cz hy
      refine ⟨kd, _, _, rfl, rfl, ?_⟩
      rw [Bool.eq_iff_iff, beq_iff_eq]
      exact ⟨fun h => by rw [Nat.eq_of_beq_eq_true h], fun h => by have := JR ha hb h; subst this; exact Nat.beq_refl _⟩
  | s =>
    obtain ⟨n, c, rfl, e⟩ := Ce (show R.good (Be x _) from h)
    have h:R.good (Be y _) := h
    obtain ⟨m, d, rfl, e'⟩ := Ce h
    refine ⟨DE n c m d, fun κ' => Bu _ _, fun X Y hx hy => ?_⟩
    obtain ⟨s, rfl, rfl, rfl⟩ := Cy hx
    obtain ⟨u, rfl, rfl, rfl⟩ := Cy hy
    exact ⟨s, u, rfl, rfl, Kc s u⟩
  | b =>
    obtain ⟨b, rfl, e⟩ := Fb (show R.good (P3 x _) from h)
    have h:R.good (P3 y _) := h
    obtain ⟨c, rfl, e'⟩ := Fb h
    refine ⟨b == c, fun κ' => by cases b <;> cases c <;> rfl, fun X Y hx hy => ?_⟩
    exact ⟨b, c, Ez hx, Ez hy, rfl⟩
theorem GZ {k:Sc} {t:TypeId} (hk:P2 P t=some k) {X Y:Value} {r:Bool} (h:V4 k X Y r) (d:Nat):(Op.equalIn (d+1) t X Y).run P w = .ok r w := by
  unfold P2 at hk
  split at hk
  · cases hk
    rename_i kd hu
    obtain ⟨kd', a, b, rfl, rfl, rfl⟩ := h
    simp [Op.equalIn, run_underlying hu]
  · cases hk
    rename_i hu
    obtain ⟨s, u, rfl, rfl, rfl⟩ := h
    simp [Op.equalIn, run_underlying hu, beq_toListBytes]
  · cases hk
    rename_i hu
    obtain ⟨s, u, rfl, rfl, rfl⟩ := h
    simp [Op.equalIn, run_underlying hu]
  · cases hk
theorem SP {k:Sc} {t:TypeId} (hk:P2 P t=some k):(isAgg t).run P w = .ok false w := by
  unfold P2 at hk
  split at hk
  · rename_i hu; simp [isAgg, run_underlying hu]
  · rename_i hu; simp [isAgg, run_underlying hu]
  · rename_i hu; simp [isAgg, run_underlying hu]
  · cases hk
theorem Hh {k:Sc} {t:TypeId} (hk:P2 P t=some k) {cs:Array Value} {off:Nat} {v:Value} (h:cs[off]? = some v):(part t cs off).run P w = .ok v w := by
  simp [part, SP hk, h]
theorem MW:∀ {fs:List Field} {offs:List (Nat×Sc)}, H9 P fs=some offs->∀ {a b:List V} {κ:Bool->R}, (IX offs a b κ).good →
    ∃ r, (∀ κ', IX offs a b κ'=κ' r) ∧ ∀ (xs ys:Array Value) (d:Nat) (w:World), By ρ φ a xs.toList->By ρ φ b ys.toList->(Op.eqFields (d+1) xs ys fs).run P w = .ok r w
  | [], offs, ho, a, b, κ, h => by
    simp only [H9, Option.some.injEq] at ho; subst ho
    exact ⟨true, fun _ => rfl, fun xs ys d w _ _ => rfl⟩
  | f::fs, offs, ho, a, b, κ, h => by
    simp only [H9] at ho
    split at ho
    · rename_i hn
      split at ho
      · rename_i k r hk hr
        cases ho
        obtain ⟨u, hu, e1⟩ := EX (show R.good (DL f.offset a _) from h)
        have h:R.good (DL f.offset a _) := h
        rw [e1] at h
        obtain ⟨v, hv, e2⟩ := EX h
        rw [e2] at h
        obtain ⟨q, e3, hq⟩ := Hp (ρ := ρ) (φ := φ) h
        rw [e3] at h
        have unf:∀ κ', IX ((f.offset, k)::r) a b κ'=br q (IX r a b κ') (κ' false) := fun κ' => by
          show DL f.offset a (fun u => DL f.offset b fun v => L8 k u v fun q => br q (IX r a b κ') (κ' false))=_
          have n1:∀ (l:List V) (i:Nat) (x:V) (κ:V->R), l[i]? = some x->DL i l κ=κ x := fun l i => by
            induction i generalizing l with
            | zero => intro x κ hx; cases l with
              | nil => simp at hx
              | cons y l => simp at hx; subst hx; rfl
            | succ i ih => intro x κ hx; cases l with
              | nil => simp at hx
              | cons y l => exact ih l x κ (by simpa using hx)
          rw [n1 _ _ _ _ hu, n1 _ _ _ _ hv, e3]
        have hrun:∀ (xs ys:Array Value) (d:Nat) (w:World), By ρ φ a xs.toList->By ρ φ b ys.toList →
            (Op.eqFields (d+1) xs ys (f::fs)).run P w=if q then (Op.eqFields (d+1) xs ys fs).run P w else .ok false w := fun xs ys d w hxs hys => by
          obtain ⟨X, hX, hrX⟩ := (Cr.1 hxs).2 _ _ hu
          obtain ⟨Y, hY, hrY⟩ := (Cr.1 hys).2 _ _ hv
          have := hq X Y hrX hrY
          simp only [Op.eqFields, hn, ne_eq, not_false_eq_true, if_true, Sem.run_bind, Hh hk (show xs[f.offset]? = some X by simpa using hX),
            Hh hk (show ys[f.offset]? = some Y by simpa using hY), Result.andThen_ok, GZ hk this]
          cases q <;> simp
        cases q with
        | true =>
          have h:(IX r a b κ).good := h
          obtain ⟨r', g1, g2⟩ := MW hr h
          exact ⟨r', fun κ' => (unf κ').trans (g1 κ'), fun xs ys d w hxs hys => (hrun xs ys d w hxs hys).trans (g2 xs ys d w hxs hys)⟩
        | false => exact ⟨false, fun κ' => unf κ', fun xs ys d w hxs hys => hrun xs ys d w hxs hys⟩
      · cases ho
    · cases ho
theorem GJ {u:Nl} {v:V} {κn κo:R} (h:(GM u v κn κo).good) :
    (v = .nil u ∧ ∀ a b:R, GM u v a b=a)∨((∀ a b:R, GM u v a b=b) ∧ ∀ X, As ρ φ v X->match u with
      | .ptr => ∃ a, X = .pointer (some a) | .sl => ∃ a n c, X = .slice (some a) n c | .map => ∃ b, X = .map (some b) | .fn => ∃ f a c, X = .func f a c | .iface => False) := by
  cases v with
  | nil w' =>
    left
    have h:R.good (br (Nat.beq w'.ix u.ix) κn (.fail "")) := h
    obtain ⟨h1, _⟩ := Ae h
    have:w'=u := by cases w' <;> cases u <;> first | rfl | exact absurd h1 (by decide)
    subst this
    exact ⟨rfl, fun a b => by cases w' <;> rfl⟩
  | ptr p o =>
    right
    cases u <;> first | exact h.elim | skip
    exact ⟨fun a b => rfl, fun X hX => by obtain ⟨_, _, _, _, rfl⟩ := D9 hX; exact ⟨_, rfl⟩⟩
  | sl p o l c e z =>
    right
    cases u <;> first | exact h.elim | skip
    exact ⟨fun a b => rfl, fun X hX => by obtain ⟨_, _, _, _, _, _, rfl, _⟩ := CW hX; exact ⟨_, _, _, rfl⟩⟩
  | map p =>
    right
    cases u <;> first | exact h.elim | skip
    exact ⟨fun a b => rfl, fun X hX => by obtain ⟨_, _, _, _, rfl⟩ := GG hX; exact ⟨_, rfl⟩⟩
  | fn f l =>
    right
    cases u <;> first | exact h.elim | skip
    exact ⟨fun a b => rfl, fun X hX => by obtain ⟨_, rfl, _⟩ := Jc hX; exact ⟨_, _, _, rfl⟩⟩
  | oth o =>
    right
    cases o with
    | rb n c =>
      cases u <;> first | exact h.elim | skip
      exact ⟨fun a b => rfl, fun X hX => by simp only [As, GK] at hX; obtain ⟨_, _, rfl, _⟩ := hX; exact ⟨_, _, _, rfl⟩⟩
    | rx l m z =>
      cases u <;> first | exact h.elim | skip
      exact ⟨fun a b => rfl, fun X hX => by simp only [As] at hX; obtain ⟨_, _, rfl, _⟩ := hX; exact ⟨_, _, _, rfl⟩⟩
    | _ => exact (by cases u <;> exact h.elim)
  | _ => exact h.elim
/-- Two references of one sort, held against each other. -/
def YU (P:Program) (u:Nl) (t:TypeId):Prop :=
  match u with
  | .ptr => ∃ e s, P.underlying t=some (.pointer e)∧Bj P e=some (s+1)
  | .sl => ∃ e, P.underlying t=some (.slice e)
  | .map => ∃ k e, P.underlying t=some (.map k e)
  | .fn => ∃ a b c, P.underlying t=some (.func a b c)
  | .iface => False
theorem Hs {u:Nl} {t:TypeId} (ht:YU P u t) {x y:V} {κ:Bool->R} (h:(JG u x y κ).good) :
    ∃ r, (∀ κ', JG u x y κ'=κ' r) ∧ ∀ X Y d w, As ρ φ x X->As ρ φ y Y->(Op.equalIn (d+1) t X Y).run P w = .ok r w := by
  rcases GJ (ρ := ρ) (φ := φ) (show R.good (GM u x _ _) from h) with ⟨rfl, e1⟩ | ⟨e1, hx⟩
  · have h:R.good (GM u (.nil u) (GM u y (κ true) (κ false)) _) := h
    rw [e1] at h
    rcases GJ (ρ := ρ) (φ := φ) h with ⟨rfl, e2⟩ | ⟨e2, hy⟩
    · refine ⟨true, fun κ' => by unfold JG; rw [e1, e1], fun X Y d w hX hY => ?_⟩
      rw [Cd hX, Cd hY]
      cases u with
      | ptr => obtain ⟨e, s, hu, hs⟩ := ht; simp [Op.equalIn, run_underlying hu, Ci]
      | sl => obtain ⟨e, hu⟩ := ht; simp [Op.equalIn, run_underlying hu, Ci]
      | map => obtain ⟨k, e, hu⟩ := ht; simp [Op.equalIn, run_underlying hu, Ci]
      | fn => obtain ⟨a, b, c, hu⟩ := ht; simp [Op.equalIn, run_underlying hu, Ci]
      | iface => exact ht.elim
    · refine ⟨false, fun κ' => by unfold JG; rw [e1, e2], fun X Y d w hX hY => ?_⟩
      rw [Cd hX]
      have hy := hy Y hY
      cases u with
      | ptr => obtain ⟨e, s, hu, hs⟩ := ht; obtain ⟨a, rfl⟩ := hy; simp [Op.equalIn, run_underlying hu, Ci]
      | sl => obtain ⟨e, hu⟩ := ht; obtain ⟨a, n, c, rfl⟩ := hy; simp [Op.equalIn, run_underlying hu, Ci]
      | map => obtain ⟨k, e, hu⟩ := ht; obtain ⟨a, rfl⟩ := hy; simp [Op.equalIn, run_underlying hu, Ci]
      | fn => obtain ⟨a, b, c, hu⟩ := ht; obtain ⟨f, n, c, rfl⟩ := hy; simp [Op.equalIn, run_underlying hu, Ci]
      | iface => exact ht.elim
  · have h:R.good (GM u x _ (GM u y (κ false) (JP x fun p o => JP y fun q o' => br (K4.beq p q) (Cn (Nat.beq o o') κ) (.fail "")))) := h
    rw [e1] at h
    rcases GJ (ρ := ρ) (φ := φ) h with ⟨rfl, e2⟩ | ⟨e2, hy⟩
    · refine ⟨false, fun κ' => by unfold JG; rw [e1, e2], fun X Y d w hX hY => ?_⟩
      rw [Cd hY]
      have hx := hx X hX
      cases u with
      | ptr => obtain ⟨e, s, hu, hs⟩ := ht; obtain ⟨a, rfl⟩ := hx; simp [Op.equalIn, run_underlying hu, Ci]
      | sl => obtain ⟨e, hu⟩ := ht; obtain ⟨a, n, c, rfl⟩ := hx; simp [Op.equalIn, run_underlying hu, Ci]
      | map => obtain ⟨k, e, hu⟩ := ht; obtain ⟨a, rfl⟩ := hx; simp [Op.equalIn, run_underlying hu, Ci]
      | fn => obtain ⟨a, b, c, hu⟩ := ht; obtain ⟨f, n, c, rfl⟩ := hx; simp [Op.equalIn, run_underlying hu, Ci]
      | iface => exact ht.elim
    · rw [e2] at h
      obtain ⟨p, o, rfl, e3⟩ := Dt h
      rw [e3] at h
      obtain ⟨q, o', rfl, e4⟩ := Dt h
      rw [e4] at h
      obtain ⟨h5, e5⟩ := Ae h
      have := K4.beq_iff.1 h5
      subst this
      refine ⟨Nat.beq o o', fun κ' => by unfold JG; rw [e1, e2]; show br (K4.beq p p) _ _=_; rw [h5, Ac, Bu], fun X Y d w hX hY => ?_⟩
      have hx := hx X hX
      obtain ⟨b, s, tot, hp, rfl⟩ := D9 hX
      obtain ⟨b', s', tot', hp', rfl⟩ := D9 hY
      rw [hp] at hp'; cases hp'
      cases u with
      | ptr =>
        obtain ⟨e, sz, hu, hs⟩ := ht
        simp only [Op.equalIn, Sem.run_bind, run_underlying hu, Result.andThen_ok, AM hs, ne_eq, Nat.add_eq_zero_iff, Nat.one_ne_zero, and_false, not_false_eq_true, if_true, sameAddr, beq_self_eq_true]
        simp only [Sem.run_pure]
        congr 1
        rw [Bool.eq_iff_iff, beq_iff_eq]
        constructor
        · intro h; simp at h; rw [h]; exact Nat.beq_refl _
        · intro h; rw [Nat.eq_of_beq_eq_true h]
      | sl => obtain ⟨a, n, c, h⟩ := hx; cases h
      | map => obtain ⟨a, h⟩ := hx; cases h
      | fn => obtain ⟨f, n, c, h⟩ := hx; cases h
      | iface => exact ht.elim
end
end Go.Ev

namespace Go.Ev
set_option linter.unusedVariables false
section
variable {P:Program} {ρ:Env} {φ:AT} {w:World}
theorem P0 {t:TypeId} {fs:Array Field} (h:P.underlying t=some (.struct fs)):P.underlying t=some (.struct (P.fieldsOf t)) := by
  unfold Program.fieldsOf; rw [h]
theorem M4 {t:TypeId} {fs:Array Field} {offs:List (Nat×Sc)} (ht:P.underlying t=some (.struct fs)) (hs:P.stoodInHeld t=false) (ho:H9 P fs.toList=some offs)
    {x y:V} {κ:Bool->R} (h:(L3 (.st offs) x y κ).good) :
    ∃ r, (∀ κ', L3 (.st offs) x y κ'=κ' r) ∧ ∀ X Y d w, As ρ φ x X->As ρ φ y Y->(Op.equalIn (d+2) t X Y).run P w = .ok r w ∧ ∃ a b, X = .agg a∧Y = .agg b := by
  obtain ⟨a, rfl, e⟩ := CR (show R.good (asAgg x _) from h)
  obtain ⟨b, rfl, e'⟩ := CR (show R.good (asAgg y _) from h)
  obtain ⟨r, g1, g2⟩ := MW (ρ := ρ) (φ := φ) ho (show R.good (IX offs a b κ) from h)
  refine ⟨r, fun κ' => g1 κ', fun X Y d w hX hY => ?_⟩
  obtain ⟨xs, rfl, hx, _⟩ := Er hX
  obtain ⟨ys, rfl, hy, _⟩ := Er hY
  refine ⟨?_, xs, ys, rfl, rfl⟩
  have hf:P.fieldsOf t=fs := by unfold Program.fieldsOf; rw [ht]
  rw [run_equalIn_struct w (d+1) t xs ys (P0 ht) hs, hf]
  exact g2 xs ys d w hx hy
theorem Jx {t:TypeId} {pl:Plan} (hp:KG P t=some pl) {x y:V} {κ:Bool->R} (h:(L3 pl x y κ).good) :
    ∃ r, (∀ κ', L3 pl x y κ'=κ' r) ∧ ∀ X Y w, As ρ φ x X->As ρ φ y Y->(Op.equal t X Y).run P w = .ok r w := by
  unfold KG at hp
  split at hp
  · cases hp
    rename_i hu
    obtain ⟨r, g1, g2⟩ := Hp (ρ := ρ) (φ := φ) (show R.good (L8 .b x y κ) from h)
    exact ⟨r, fun κ' => g1 κ', fun X Y w hX hY => GZ (by unfold P2; rw [hu]) (g2 X Y hX hY) 9999⟩
  · rename_i fs hu
    split at hp
    · cases hp
    · rename_i hs
      cases ho:H9 P fs.toList with
      | none => rw [ho] at hp; cases hp
      | some offs =>
        rw [ho] at hp; cases hp
        obtain ⟨r, g1, g2⟩ := M4 (ρ := ρ) (φ := φ) hu (by simpa using hs) ho h
        exact ⟨r, g1, fun X Y w hX hY => (g2 X Y 9998 w hX hY).1⟩
  · rename_i e hu
    split at hp
    · rename_i s hs
      cases hp
      obtain ⟨r, g1, g2⟩ := Hs (P := P) (ρ := ρ) (φ := φ) (u := .ptr) (t := t) ⟨e, s, hu, hs⟩ (show R.good (JG .ptr x y κ) from h)
      exact ⟨r, fun κ' => g1 κ', fun X Y w hX hY => g2 X Y 9999 w hX hY⟩
    · cases hp
  · rename_i e hu
    cases hp
    obtain ⟨r, g1, g2⟩ := Hs (P := P) (ρ := ρ) (φ := φ) (u := .sl) (t := t) ⟨e, hu⟩ (show R.good (JG .sl x y κ) from h)
    exact ⟨r, fun κ' => g1 κ', fun X Y w hX hY => g2 X Y 9999 w hX hY⟩
  · rename_i k e hu
    cases hp
    obtain ⟨r, g1, g2⟩ := Hs (P := P) (ρ := ρ) (φ := φ) (u := .map) (t := t) ⟨k, e, hu⟩ (show R.good (JG .map x y κ) from h)
    exact ⟨r, fun κ' => g1 κ', fun X Y w hX hY => g2 X Y 9999 w hX hY⟩
  · rename_i a b c hu
    cases hp
    obtain ⟨r, g1, g2⟩ := Hs (P := P) (ρ := ρ) (φ := φ) (u := .fn) (t := t) ⟨a, b, c, hu⟩ (show R.good (JG .fn x y κ) from h)
    exact ⟨r, fun κ' => g1 κ', fun X Y w hX hY => g2 X Y 9999 w hX hY⟩
  · cases hp
/-- Two keys held against each other: what the model's ways say. -/
def VI (P:Program) (sc:Bool) (d:TypeDesc) (t:TypeId) (X Y:Value) (r:Bool):Prop :=
  Instr.sameNow d X Y=(if sc then some r else none)∧(∀ w, (Op.equal t X Y).run P w = .ok r w)∧(r=true->Instr.sameBits 10000 Y X=true)
theorem HO {k:Sc} {X Y:Value} {n:Nat} (h:V4 k X Y true):Instr.sameBits n Y X=true := by
  cases k with
  | i =>
    obtain ⟨kd, a, b, rfl, rfl, hr⟩ := h
    have := eq_of_beq hr.symm
    simp [Instr.sameBits, this]
  | s =>
    obtain ⟨a, b, rfl, rfl, hr⟩ := h
    have := eq_of_beq hr.symm
    simp only [Instr.sameBits, beq_toListBytes, this]; exact beq_self_eq_true _
  | b =>
    obtain ⟨a, b, rfl, rfl, hr⟩ := h
    have := eq_of_beq hr.symm
    simp [Instr.sameBits, this]
theorem RL (ks:List Sc):∀ {a b:List V} {κ:Bool->R}, (Oq ks a b κ).good →
    ∃ r, (∀ κ', Oq ks a b κ'=κ' r)∧(∀ (pa pb:List V) (offs:List (Nat×Sc)), pa.length=pb.length->offs=ks.zipIdx.map (fun p => (pa.length+p.2, p.1))->∀ κ', IX offs (pa++a) (pb++b) κ'=κ' r) ∧
      (r=true->∀ xs ys:List Value, By ρ φ a xs->By ρ φ b ys->xs.length=ys.length ∧ ∀ n, (ys.zip xs).all (fun (x, y) => Instr.sameBits n x y)=true) := by
  induction ks with
  | nil =>
    intro a b κ h
    cases a with
    | cons u a => exact h.elim
    | nil =>
      cases b with
      | cons v b => exact h.elim
      | nil =>
        refine ⟨true, fun _ => rfl, fun pa pb offs _ ho κ' => by subst ho; rfl, fun _ xs ys hx hy => ?_⟩
        rw [AF] at hx hy; subst hx hy; exact ⟨rfl, fun n => rfl⟩
  | cons k ks ih =>
    intro a b κ h
    cases a with
    | nil => exact h.elim
    | cons u a =>
      cases b with
      | nil => exact h.elim
      | cons v b =>
        have h:R.good (L8 k u v fun r => br r (Oq ks a b κ) (κ false)) := h
        obtain ⟨q, e3, hq⟩ := Hp (ρ := ρ) (φ := φ) h
        rw [e3] at h
        have unf:∀ κ', Oq (k::ks) (u::a) (v::b) κ'=br q (Oq ks a b κ') (κ' false) := fun κ' => e3 _
        have at1:∀ (pa pb:List V) (offs:List (Nat×Sc)), pa.length=pb.length->offs=(k::ks).zipIdx.map (fun p => (pa.length+p.2, p.1))->∀ κ', IX offs (pa++u::a) (pb++v::b) κ' =
            br q (IX (ks.zipIdx.map (fun p => ((pa++[u]).length+p.2, p.1))) ((pa++[u])++a) ((pb++[v])++b) κ') (κ' false) := fun pa pb offs hl ho κ' => by
          subst ho
          have n1:∀ (l m:List V) (x:V) (κ:V->R), DL l.length (l++x::m) κ=κ x := fun l => by
            induction l with
            | nil => intro m x κ; rfl
            | cons y l ih => intro m x κ; exact ih m x κ
          have hz:((k::ks).zipIdx.map (fun p => (pa.length+p.2, p.1)))=(pa.length, k)::ks.zipIdx.map (fun p => ((pa++[u]).length+p.2, p.1)) := by
            rw [List.zipIdx_cons, List.map_cons]
            simp only [Nat.add_zero, List.cons.injEq, true_and]
            rw [List.zipIdx_eq_map_add, List.map_map]
            apply List.map_congr_left
            intro p _
            simp; omega
          rw [hz]
          show DL pa.length (pa++u::a) (fun u => DL pa.length (pb++v::b) fun v => L8 k u v fun q => br q (IX _ (pa++_::a) (pb++_::b) κ') (κ' false))=_
          rw [n1, hl, n1, e3]
          simp
        cases q with
        | true =>
          obtain ⟨r, g1, g2, g3⟩ := ih (show R.good (Oq ks a b κ) from h)
          refine ⟨r, fun κ' => (unf κ').trans (g1 κ'), fun pa pb offs hl ho κ' => ?_, fun hr xs ys hx hy => ?_⟩
          · rw [at1 pa pb offs hl ho κ']
            exact g2 (pa++[u]) (pb++[v]) _ (by simp [hl]) rfl κ'
          · obtain ⟨x, xs, rfl, hx, hxs⟩ := Aw.1 hx
            obtain ⟨y, ys, rfl, hy, hys⟩ := Aw.1 hy
            obtain ⟨h1, h2⟩ := g3 hr xs ys hxs hys
            refine ⟨by simp [h1], fun n => ?_⟩
            have h2 := h2 n
            simp only [List.zip_cons_cons, List.all_cons, HO (hq x y hx hy), Bool.true_and]
            exact h2
        | false =>
          exact ⟨false, fun κ' => unf κ', fun pa pb offs hl ho κ' => at1 pa pb offs hl ho κ', fun hr => by cases hr⟩
theorem Pc {k:Sc} {t:TypeId} (hk:P2 P t=some k) {X Y:Value} {r:Bool} (h:V4 k X Y r):∃ d, P.underlying t=some d∧Instr.sameNow d X Y=some r ∧ ¬ ∃ fs, d = .struct fs := by
  unfold P2 at hk
  split at hk
  · cases hk
    rename_i kd hu
    obtain ⟨kd', a, b, rfl, rfl, rfl⟩ := h
    exact ⟨_, hu, by simp [Instr.sameNow], by simp⟩
  · cases hk
    rename_i hu
    obtain ⟨s, u, rfl, rfl, rfl⟩ := h
    exact ⟨_, hu, by simp [Instr.sameNow, beq_toListBytes], by simp⟩
  · cases hk
    rename_i hu
    obtain ⟨s, u, rfl, rfl, rfl⟩ := h
    exact ⟨_, hu, by simp [Instr.sameNow], by simp⟩
  · cases hk
theorem Ie {t:TypeId} {pl:Plan} (hp:HJ P t=some pl):∃ d sc, P.underlying t=some d ∧ ∀ {x y:V} {κ:Bool->R}, (L3 pl x y κ).good →
    ∃ r, (∀ κ', L3 pl x y κ'=κ' r) ∧ ∀ X Y, As ρ φ x X->As ρ φ y Y->VI P sc d t X Y r := by
  unfold HJ at hp
  split at hp
  · rename_i fs hu
    split at hp
    · cases hp
    · rename_i hs
      split at hp
      · rename_i offs ho
        split at hp
        · rename_i hr
          cases hp
          refine ⟨_, false, hu, fun {x y κ} h => ?_⟩
          obtain ⟨a, rfl, e⟩ := CR (show R.good (asAgg x _) from h)
          obtain ⟨b, rfl, e'⟩ := CR (show R.good (asAgg y _) from h)
          obtain ⟨r, g1, g2, g3⟩ := RL (ρ := ρ) (φ := φ) (offs.map (·.2)) (show R.good (Oq (offs.map (·.2)) a b κ) from h)
          refine ⟨r, fun κ' => g1 κ', fun X Y hX hY => ?_⟩
          obtain ⟨xs, rfl, hx, _⟩ := Er hX
          obtain ⟨ys, rfl, hy, _⟩ := Er hY
          have hoffs:offs=(offs.map (·.2)).zipIdx.map (fun p => (([]:List V).length+p.2, p.1)) := by
            apply List.ext_getElem?
            intro i
            rw [List.getElem?_map, List.getElem?_zipIdx, List.getElem?_map]
            cases hi:offs[i]? with
            | none => rfl
            | some p =>
              have h1:(offs.map (·.1))[i]? = some p.1 := by rw [List.getElem?_map, hi]; rfl
              rw [hr] at h1
              have hlt:i<offs.length := by
                rcases Nat.lt_or_ge i offs.length with h' | h'
                · exact h'
                · rw [List.getElem?_eq_none h'] at hi; cases hi
              rw [List.getElem?_range hlt] at h1
              obtain ⟨p1, p2⟩ := p
              simp at h1
              subst h1
              simp
          have hg:(L3 (.st offs) (.agg a) (.agg b) (fun q => R.rv (.bool q) AJ ⟨.d0, .d0, .d0, .d0⟩)).good := by
            show R.good (IX offs a b (fun q => R.rv (.bool q) AJ ⟨.d0, .d0, .d0, .d0⟩))
            have := g2 [] [] offs rfl hoffs (fun q => R.rv (.bool q) AJ ⟨.d0, .d0, .d0, .d0⟩)
            simp only [List.nil_append] at this
            rw [this]; trivial
          obtain ⟨r', k1, k2⟩ := M4 (ρ := ρ) (φ := φ) hu (by simpa using hs) ho hg
          have hrr:r'=r := by
            have e1 := k1 (fun q => R.rv (.bool q) AJ ⟨.d0, .d0, .d0, .d0⟩)
            have e2:L3 (.st offs) (.agg a) (.agg b) (fun q => R.rv (.bool q) AJ ⟨.d0, .d0, .d0, .d0⟩)=_ := g2 [] [] offs rfl hoffs (fun q => R.rv (.bool q) AJ ⟨.d0, .d0, .d0, .d0⟩)
            rw [e1] at e2
            simpa using e2
          subst hrr
          refine ⟨by simp [Instr.sameNow], fun w => (k2 _ _ 9998 w hX hY).1, fun hr' => ?_⟩
          obtain ⟨h1, h2⟩ := g3 hr' xs.toList ys.toList hx hy
          have h2 := h2 9999
          simp only [Instr.sameBits, Bool.and_eq_true, beq_iff_eq]
          exact ⟨by simpa using h1.symm, h2⟩
        · cases hp
      · cases hp
  · cases hk:P2 P t with
    | none => rw [hk] at hp; cases hp
    | some k =>
      rw [hk] at hp; cases hp
      cases hu:P.underlying t with
      | none => simp [P2, hu] at hk
      | some d =>
        refine ⟨d, true, rfl, fun {x y κ} h => ?_⟩
        obtain ⟨r, g1, g2⟩ := Hp (ρ := ρ) (φ := φ) (show R.good (L8 k x y κ) from h)
        refine ⟨r, fun κ' => g1 κ', fun X Y hX hY => ?_⟩
        obtain ⟨d', hd', hn, _⟩ := Pc hk (g2 X Y hX hY)
        rw [hu] at hd'; cases hd'
        exact ⟨hn, fun w => GZ hk (g2 X Y hX hY) 9999, fun hr => by subst hr; exact HO (g2 X Y hX hY)⟩
/-- Where a key is first found. -/
def WJ (pl:Plan) (k:V):List (V×V)->Option Nat->Prop
  | [], r => r=none
  | e::es, r => ∃ q:Bool, (∀ κ, L3 pl k e.1 κ=κ q)∧if q then r=some 0 else ∃ r', WJ pl k es r'∧r=r'.map (· + 1)
theorem KY {t:TypeId} {pl:Plan} (hp:HJ P t=some pl) {k:V} {κf:V->R} {κn:R}:∀ {es:List (V×V)}, (EK pl k es κf κn).good →
    ∃ r, WJ pl k es r∧match r with | none => EK pl k es κf κn=κn | some i => ∃ e, es[i]? = some e∧EK pl k es κf κn=κf e.2
  | [], h => ⟨none, rfl, rfl⟩
  | (a, b)::es, h => by
    obtain ⟨d, sc, _, hk⟩ := Ie (ρ := { v := fun _ => .nilFunc, ap := fun _ => none }) (φ := fun _ => none) hp
    have h:R.good (L3 pl k a fun r => br r (κf b) (EK pl k es κf κn)) := h
    obtain ⟨q, g1, _⟩ := hk h
    rw [g1] at h
    have unf:EK pl k ((a, b)::es) κf κn=br q (κf b) (EK pl k es κf κn) := g1 _
    cases q with
    | true => exact ⟨some 0, ⟨true, g1, rfl⟩, (a, b), rfl, unf⟩
    | false =>
      obtain ⟨r, h1, h2⟩ := KY hp (show R.good (EK pl k es κf κn) from h)
      refine ⟨r.map (· + 1), ⟨false, g1, r, h1, rfl⟩, ?_⟩
      cases r with
      | none => exact unf.trans h2
      | some i => obtain ⟨e, he, h2⟩ := h2; exact ⟨e, by simpa using he, unf.trans h2⟩
theorem Mo {t:TypeId} {pl:Plan} (hp:HJ P t=some pl) {k v:V}:∀ {es:List (V×V)} {κ:List (V×V)->R}, (HL pl k v es κ).good →
    ∃ r, WJ pl k es r∧HL pl k v es κ=κ (match r with | none => es++[(k, v)] | some i => es.set i (k, v))
  | [], κ, h => ⟨none, rfl, rfl⟩
  | (a, b)::es, κ, h => by
    obtain ⟨d, sc, _, hk⟩ := Ie (ρ := { v := fun _ => .nilFunc, ap := fun _ => none }) (φ := fun _ => none) hp
    have h:R.good (L3 pl k a fun r => br r (κ ((k, v)::es)) (HL pl k v es fun l => κ ((a, b)::l))) := h
    obtain ⟨q, g1, _⟩ := hk h
    rw [g1] at h
    have unf:HL pl k v ((a, b)::es) κ=br q (κ ((k, v)::es)) (HL pl k v es fun l => κ ((a, b)::l)) := g1 _
    cases q with
    | true => exact ⟨some 0, ⟨true, g1, rfl⟩, unf⟩
    | false =>
      obtain ⟨r, h1, h2⟩ := Mo hp (show R.good (HL pl k v es fun l => κ ((a, b)::l)) from h)
      refine ⟨r.map (· + 1), ⟨false, g1, r, h1, rfl⟩, ?_⟩
      rw [unf]
      show HL pl k v es _=_
      rw [h2]
      cases r <;> rfl
theorem Lt {t:TypeId} {pl:Plan} (hp:HJ P t=some pl) {k:V}:∀ {es:List (V×V)} {κ:List (V×V)->R}, (HF pl k es κ).good →
    ∃ r, WJ pl k es r∧HF pl k es κ=κ (match r with | none => es | some i => es.eraseIdx i)
  | [], κ, h => ⟨none, rfl, rfl⟩
  | (a, b)::es, κ, h => by
    obtain ⟨d, sc, _, hk⟩ := Ie (ρ := { v := fun _ => .nilFunc, ap := fun _ => none }) (φ := fun _ => none) hp
    have h:R.good (L3 pl k a fun r => br r (κ es) (HF pl k es fun l => κ ((a, b)::l))) := h
    obtain ⟨q, g1, _⟩ := hk h
    rw [g1] at h
    have unf:HF pl k ((a, b)::es) κ=br q (κ es) (HF pl k es fun l => κ ((a, b)::l)) := g1 _
    cases q with
    | true => exact ⟨some 0, ⟨true, g1, rfl⟩, unf⟩
    | false =>
      obtain ⟨r, h1, h2⟩ := Lt hp (show R.good (HF pl k es fun l => κ ((a, b)::l)) from h)
      refine ⟨r.map (· + 1), ⟨false, g1, r, h1, rfl⟩, ?_⟩
      rw [unf]
      show HF pl k es _=_
      rw [h2]
      cases r <;> rfl
theorem LD {pl:Plan} {k:V}:∀ {es:List (V×V)} {bs:List Nat} {κ:List Nat->R} {r:Option Nat}, (HH pl k es bs κ).good->WJ pl k es r →
    HH pl k es bs κ=κ (match r with | none => bs | some i => bs.eraseIdx i)
  | [], bs, κ, r, _, hf => by have hf:r=none := hf; subst hf; rfl
  | (a, b)::es, [], κ, r, h, _ => h.elim
  | (a, b)::es, c::bs, κ, r, h, hf => by
    obtain ⟨q, g1, hf⟩ := hf
    have h:R.good (L3 pl k a fun r => br r (κ bs) (HH pl k es bs fun l => κ (c::l))) := h
    rw [g1] at h
    have unf:HH pl k ((a, b)::es) (c::bs) κ=br q (κ bs) (HH pl k es bs fun l => κ (c::l)) := g1 _
    cases q with
    | true =>
      have hf:r=some 0 := by simpa using hf
      subst hf; exact unf
    | false =>
      simp only [Bool.false_eq_true, if_false] at hf
      obtain ⟨r', hf', rfl⟩ := hf
      rw [unf]
      show HH pl k es bs _=_
      rw [LD (show R.good (HH pl k es bs fun l => κ (c::l)) from h) hf']
      cases r' <;> rfl
theorem Mj:∀ (es:List (V×V)) (bs:List Nat), KM es bs=decide (es.length=bs.length)
  | [], [] => rfl
  | [], _::_ => rfl
  | _::_, [] => rfl
  | _::es, _::bs => by
    show KM es bs=_
    rw [Mj es bs]; simp
theorem OF (c:Nat):∀ (bs:List Nat) (κ:List Nat->R), Qz bs c κ=κ (bs++[c])
  | [], _ => rfl
  | b::bs, κ => by
    show Qz bs c (fun l => κ (b::l))=_
    rw [OF c bs]; rfl
theorem WG (es:List (V×V)) (bs:List Nat) (c:Nat) (κ:List Nat->Nat->R):Vy es bs c κ=κ (if es.length=bs.length then bs else bs++[c]) (if es.length=bs.length then c else c+1) := by
  unfold Vy
  rw [Mj, OF, A9]
  by_cases h:es.length=bs.length <;> simp [h, br]
/-- The model finds what is found here. -/
theorem FE {t:TypeId} {pl:Plan} (hp:HJ P t=some pl) {k:V} {K:Value} (hK:As ρ φ k K):∀ {es:List (V×V)} {ents:List MapEntry} {r:Option Nat}, WJ pl k es r->H5 ρ φ es ents →
    (Instr.findKey t K ents).run P w = .ok (r.bind fun i => (ents[i]?).map fun e => (i, e.val)) w ∧
    (∀ i, r=some i->∃ e, ents[i]? = some e∧Instr.sameBits 10000 e.key K=true) := by
  obtain ⟨d, sc, hu, hk⟩ := Ie (ρ := ρ) (φ := φ) hp
  have gd:∀ (x y:V) (q:Bool), (∀ κ, L3 pl x y κ=κ q)->∀ X Y, As ρ φ x X->As ρ φ y Y->VI P sc d t X Y q := fun x y q hq X Y hX hY => by
    obtain ⟨r, g1, g2⟩ := hk (x := x) (y := y) (κ := fun q => .rv (.bool q) AJ ⟨.d0, .d0, .d0, .d0⟩) (by rw [hq]; trivial)
    have e1 := hq (fun q => .rv (.bool q) AJ ⟨.d0, .d0, .d0, .d0⟩)
    rw [g1] at e1
    simp at e1
    subst e1
    exact g2 X Y hX hY
  have key:∀ (es:List (V×V)) (ents:List MapEntry) (r:Option Nat) (i:Nat), WJ pl k es r->H5 ρ φ es ents →
      ((sc=true->Instr.findNow d K ents i=some (r.bind fun j => (ents[j]?).map fun e => (i+j, e.val))) ∧
       (sc=false->ents≠[]->Instr.findNow d K ents i=none) ∧
       (Instr.findAsking t K ents i).run P w = .ok (r.bind fun j => (ents[j]?).map fun e => (i+j, e.val)) w) ∧
      (∀ j, r=some j->∃ e, ents[j]? = some e∧Instr.sameBits 10000 e.key K=true) := by
    intro es
    induction es with
    | nil =>
      intro ents r i hf he
      have hf:r=none := hf
      have he:ents=[] := he
      subst hf he
      exact ⟨⟨fun _ => rfl, fun _ h => absurd rfl h, rfl⟩, fun j h => by cases h⟩
    | cons e es ih =>
      intro ents r i hf he
      obtain ⟨q, hq, hf⟩ := hf
      obtain ⟨y, ys, rfl, hy1, hy2, hys⟩ := he
      obtain ⟨n1, n2, n3⟩ := gd k e.1 q hq K y.key hK hy1
      cases q with
      | true =>
        have hf:r=some 0 := by simpa using hf
        subst hf
        refine ⟨⟨fun hs => ?_, fun hs _ => ?_, ?_⟩, fun j hj => ?_⟩
        · subst hs; simp at n1; simp [Instr.findNow, n1]
        · subst hs; simp at n1; simp [Instr.findNow, n1]
        · simp only [Instr.findAsking, Sem.run_bind, n2, Result.andThen_ok, if_true]; simp
        · cases hj; exact ⟨y, rfl, n3 rfl⟩
      | false =>
        simp only [Bool.false_eq_true, if_false] at hf
        obtain ⟨r', hf', rfl⟩ := hf
        obtain ⟨⟨k1, k2, k3⟩, k4⟩ := ih ys r' (i+1) hf' hys
        have hr:((r'.map (· + 1)).bind fun j => ((y::ys)[j]?).map fun e => (i+j, e.val))=r'.bind fun j => (ys[j]?).map fun e => (i+1+j, e.val) := by
          cases r' with
          | none => rfl
          | some j => simp [Nat.add_assoc, Nat.add_comm 1 j]
        refine ⟨⟨fun hs => ?_, fun hs _ => ?_, ?_⟩, fun j hj => ?_⟩
        · subst hs; simp at n1; rw [hr]; simp only [Instr.findNow, n1]; exact k1 rfl
        · subst hs; simp at n1; simp [Instr.findNow, n1]
        · rw [hr]
          simp only [Instr.findAsking, Sem.run_bind, n2, Result.andThen_ok, Bool.false_eq_true, if_false]
          exact k3
        · cases r' with
          | none => cases hj
          | some j' => simp at hj; subst hj; simpa using k4 j' rfl
  intro es ents r hf he
  obtain ⟨⟨k1, k2, k3⟩, k4⟩ := key es ents r 0 hf he
  simp only [Nat.zero_add] at k1 k3
  refine ⟨?_, fun i hi => ?_⟩
  · simp only [Instr.findKey, Sem.run_bind, run_underlying hu, Result.andThen_ok]
    cases sc with
    | true => rw [k1 rfl]; rfl
    | false =>
      cases hen:ents with
      | nil => rw [hen] at k3; simp only [Instr.findNow]; exact k3
      | cons e l => rw [←hen, k2 rfl (by rw [hen]; simp)]; exact k3
  · obtain ⟨e, h1, h2⟩ := k4 i hi
    exact ⟨e, h1, h2⟩
end
end Go.Ev

namespace Go.Ev
set_option linter.unusedVariables false
section
variable {P:Program} {ρ:Env} {B N:Nat} {o:Oper} {cf:CF} {t:Regs} {h:Heap} {n:K4}
theorem Kr {f:KV->R} {v:V} (e:∀ κ, f κ=κ v h n)
    (H:∀ φ a w, TR ρ N φ t a->Gam ρ B h n φ w->∃ x, (execOp a.eval o).run P w = .ok (.value x) w∧As ρ φ v x):Bf P ρ B N o f t h n :=
  fun κ _ => ⟨v, e κ, H⟩
theorem Iv {y:Operand} {x:Opd} (ho:o.op = .move y∨o.op = .assign y) (hx:AH N y=some x):Bf P ρ B N o (Vn x cf t h n) t h n :=
  Kr (v := ev x t) (fun κ => AD x t _) fun φ a w ht hg => ⟨a.eval y, by rcases ho with ho | ho <;> simp [execOp, ho], Ad hx ht⟩
theorem KI {c x y:Operand} {c' x' y':Opd} (ho:o.op = .pick c x y) (hc:AH N c=some c') (hx:AH N x=some x') (hy:AH N y=some y') :
    Bf P ρ B N o (I1 c' x' y' cf t h n) t h n := by
  intro κ hg
  have e:I1 c' x' y' cf t h n κ=P3 (ev c' t) fun q => br q (κ (ev x' t) h n) (κ (ev y' t) h n) := by simp only [I1, AD]
  rw [e] at hg
  obtain ⟨b, hb, e'⟩ := Fb hg
  refine ⟨if b then ev x' t else ev y' t, e.trans (e'.trans (by cases b <;> rfl)), fun φ a w ht hg => ?_⟩
  have h1 := Ad hc ht
  rw [hb] at h1
  have h1 := Ez h1
  refine ⟨if b then a.eval x else a.eval y, by simp [execOp, ho, h1, asBool], ?_⟩
  cases b
  · exact Ad hy ht
  · exact Ad hx ht
theorem Rx {op:BinOp} {x y:V} {κ:V->R} (h:(Lf op x y κ).good) :
    (∃ k a j b, x = .int k a∧y = .int j b∧Lf op x y κ=Lp op k a j b κ)∨(∃ n c m d, x = .str n c∧y = .str m d∧Lf op x y κ=JD op n c m d κ)∨Lf op x y κ=JT op x y κ ∨ ∃ l0 l1 n c m d, x = .oth (.ss l0 l1 n c)∧y = .str m d∧Lf op x y κ=Q2 op l0 l1 n c m d κ := by
  cases x with
  | int k a =>
    cases y with
    | int j b => exact .inl ⟨k, a, j, b, rfl, rfl, rfl⟩
    | oth o => exact .inr (.inr (.inl rfl))
    | _ => exact h.elim
  | str n c =>
    obtain ⟨m, d, rfl, e⟩ := Ce (show R.good (Be y fun m d => JD op n c m d κ) from h)
    exact .inr (.inl ⟨n, c, m, d, rfl, rfl, rfl⟩)
  | oth o =>
    have e0:Lf op (.oth o) y κ=CD op (.oth o) y κ := rfl
    rcases IY (.oth o) (fun l0 l1 n c => Be y fun m d => Q2 op l0 l1 n c m d κ) (JT op (.oth o) y κ) with ⟨l0, l1, n, c, e, e1⟩ | e1
    · rw [e0] at h
      have e1:CD op (.oth o) y κ=_ := e1
      rw [e1] at h
      obtain ⟨m, d, rfl, e2⟩ := Ce h
      exact .inr (.inr (.inr ⟨l0, l1, n, c, m, d, e, rfl, e0.trans (e1.trans e2)⟩))
    · exact .inr (.inr (.inl (e0.trans e1)))
  | _ => exact h.elim
theorem Ix {op:BinOp} {ty yt:TypeId} {x y:Operand} {a:Act} {w:World} {r:Value} (ho:o.op = .binOp op ty x y yt)
    (he:eqGuard op ty x y (a.eval x) (a.eval y)=Pure.pure ()) (hr:(Go.binOp op ty (a.eval x) (a.eval y)).run P w = .ok r w):(execOp a.eval o).run P w = .ok (.value r) w := by
  simp [execOp, ho, he, hr]
theorem Xl {f:V->R} {c:Bool} {u v:V}:∃ x, br c (f u) (f v)=f x := by
  cases c
  · exact ⟨v, rfl⟩
  · exact ⟨u, rfl⟩
theorem CE {v:V} {κ:IntKind->Nat->Nat->R} (hg:(Jg v κ).good):∃ k lo hi, Jg v κ=κ k lo hi ∧ ∀ (ρ:Env) (φ:AT) X, As ρ φ v X->∃ r, lo≤r∧r≤hi∧r<Mk k∧X = .int k (C9 k r) := by
  cases v with
  | int k r => exact ⟨k, r, r, rfl, fun ρ φ X hx => by simp only [As] at hx; exact ⟨r, Nat.le_refl _, Nat.le_refl _, hx.1, hx.2⟩⟩
  | oth o => cases o with
    | iv k lo hi => exact ⟨k, lo, hi, rfl, fun ρ φ X hx => by simpa only [As] using hx⟩
    | rs m j =>
      obtain ⟨h1, e⟩ := Ae (show R.good (br (Nat.ble 18446744073709551616 m) (br (Nat.ble (Nat.succ m) 36893488147419103232) (κ .i64 0 9223372036854775807) (.fail "")) (.fail "")) from hg)
      have hg:R.good (br (Nat.ble 18446744073709551616 m) (br (Nat.ble (Nat.succ m) 36893488147419103232) (κ .i64 0 9223372036854775807) (.fail "")) (.fail "")) := hg
      rw [e] at hg
      obtain ⟨h2, e2⟩ := Ae hg
      refine ⟨.i64, 0, 9223372036854775807, e.trans e2, fun ρ φ X hx => ?_⟩
      simp only [As] at hx
      obtain ⟨z, rfl, z1, z2, z3, z4, _⟩ := hx
      have := z4 (Aa.1 h1) (Aa.1 h2)
      refine ⟨z.toNat, by omega, by omega, by simp only [Mk]; omega, ?_⟩
      rw [Ao (by simp only [Hk]; omega)]
      congr 1; omega
    | sy k i =>
      refine ⟨k, 0, Nat.sub (Mk k) 1, rfl, fun ρ φ X hx => ?_⟩
      simp only [As] at hx
      obtain ⟨_, r, h1, h2⟩ := hx
      exact ⟨r, Nat.zero_le _, show r≤Mk k - 1 by omega, h1, h2⟩
    | _ => exact hg.elim
  | _ => exact hg.elim
theorem En {k:IntKind} {r s:Nat} (hr:r<Mk k) (hs:s<Mk k):(C9 k r<C9 k s ↔ B2 (Hk k) (Mk k) r<B2 (Hk k) (Mk k) s)∧(C9 k r=C9 k s ↔ B2 (Hk k) (Mk k) r=B2 (Hk k) (Mk k) s) := by
  have hH := GP k
  have e:∀ r, r<Mk k->C9 k r=(B2 (Hk k) (Mk k) r:Int) - ((Mk k - Hk k:Nat):Int) := fun r hr => by
    unfold B2
    by_cases h:Hk k≤r
    · rw [Aa.2 h, Ac, CA (by omega)]
      show _=((r - Hk k:Nat):Int) - _
      omega
    · rw [AS (by omega), Aq, Ao (by omega)]
      show _=((r+(Mk k - Hk k):Nat):Int) - _
      omega
  rw [e r hr, e s hs]
  constructor <;> omega
theorem Cv {H M lo hi r:Nat} (ho:CS H lo hi=true) (h1:lo≤r) (h2:r≤hi):B2 H M lo≤B2 H M r∧B2 H M r≤B2 H M hi := by
  unfold CS at ho
  unfold B2
  by_cases h:hi+1≤H
  · rw [AS (by omega), AS (by omega), AS (by omega)]
    simp only [Aq]
    exact ⟨Nat.add_le_add_right h1 _, Nat.add_le_add_right h2 _⟩
  · rw [AS (by omega), Aq] at ho
    have ho := Aa.1 ho
    rw [Aa.2 (by omega), Aa.2 (by omega), Aa.2 (by omega)]
    simp only [Ac]
    exact ⟨Nat.sub_le_sub_right h1 _, Nat.sub_le_sub_right h2 _⟩
theorem EE {ρ:Env} {φ:AT} (b:Bool):As ρ φ (.oth .bl) (.bool b) := by simp only [As]; exact ⟨b, rfl⟩
theorem QI (a b c d:Nat) (κ:V->R):∃ v, Uy a b c d κ=κ v ∧ ∀ p q, a≤p->p≤b->c≤q->q≤d->∀ (ρ:Env) (φ:AT), As ρ φ v (.bool (decide (p<q))) := by
  unfold Uy
  by_cases h1:b+1≤c
  · exact ⟨.bool true, by rw [Aa.2 h1, Ac], fun p q _ _ _ _ ρ φ => by rw [decide_eq_true (by omega)]; exact BX _ ρ φ⟩
  · rw [AS (by omega), Aq]
    by_cases h2:d≤a
    · exact ⟨.bool false, by rw [Aa.2 h2, Ac], fun p q _ _ _ _ ρ φ => by rw [decide_eq_false (by omega)]; exact BX _ ρ φ⟩
    · exact ⟨_, by rw [AS (by omega), Aq], fun p q _ _ _ _ ρ φ => EE _⟩
theorem QG (a b c d:Nat) (κ:V->R):∃ v, V8 a b c d κ=κ v ∧ ∀ p q, a≤p->p≤b->c≤q->q≤d->∀ (ρ:Env) (φ:AT), As ρ φ v (.bool (decide (q≤p))) := by
  unfold V8
  by_cases h1:b+1≤c
  · exact ⟨.bool false, by rw [Aa.2 h1, Ac], fun p q _ _ _ _ ρ φ => by rw [decide_eq_false (by omega)]; exact BX _ ρ φ⟩
  · rw [AS (by omega), Aq]
    by_cases h2:d≤a
    · exact ⟨.bool true, by rw [Aa.2 h2, Ac], fun p q _ _ _ _ ρ φ => by rw [decide_eq_true (by omega)]; exact BX _ ρ φ⟩
    · exact ⟨_, by rw [AS (by omega), Aq], fun p q _ _ _ _ ρ φ => EE _⟩
theorem LU {a b c d:Nat} (h:LH a b c d=true):a=b∧b=c∧c=d := by
  unfold LH at h
  cases h1:Nat.beq a b with
  | false => rw [h1] at h; cases h
  | true =>
    rw [h1, Ac] at h
    cases h2:Nat.beq b c with
    | false => rw [h2] at h; cases h
    | true => rw [h2, Ac] at h; exact ⟨Nat.eq_of_beq_eq_true h1, Nat.eq_of_beq_eq_true h2, Nat.eq_of_beq_eq_true h⟩
theorem Vi (a b c d:Nat) (κ:V->R):∃ v, WW a b c d κ=κ v ∧ ∀ p q, a≤p->p≤b->c≤q->q≤d->∀ (ρ:Env) (φ:AT), As ρ φ v (.bool (decide (p=q))) := by
  unfold WW
  by_cases h1:b+1≤c
  · exact ⟨.bool false, by rw [Aa.2 h1, Ac], fun p q _ _ _ _ ρ φ => by rw [decide_eq_false (by omega)]; exact BX _ ρ φ⟩
  · rw [AS (by omega), Aq]
    by_cases h2:d+1≤a
    · exact ⟨.bool false, by rw [Aa.2 h2, Ac], fun p q _ _ _ _ ρ φ => by rw [decide_eq_false (by omega)]; exact BX _ ρ φ⟩
    · rw [AS (by omega), Aq]
      cases h3:LH a b c d with
      | true => obtain ⟨h4, h5, h6⟩ := LU h3; exact ⟨.bool true, by rw [Ac], fun p q _ _ _ _ ρ φ => by rw [decide_eq_true (by omega)]; exact BX _ ρ φ⟩
      | false => exact ⟨_, by rw [Aq], fun p q _ _ _ _ ρ φ => EE _⟩
theorem Ut (a b c d:Nat) (κ:V->R):∃ v, Xo a b c d κ=κ v ∧ ∀ p q, a≤p->p≤b->c≤q->q≤d->∀ (ρ:Env) (φ:AT), As ρ φ v (.bool (decide (p≠q))) := by
  unfold Xo
  by_cases h1:b+1≤c
  · exact ⟨.bool true, by rw [Aa.2 h1, Ac], fun p q _ _ _ _ ρ φ => by rw [decide_eq_true (by omega)]; exact BX _ ρ φ⟩
  · rw [AS (by omega), Aq]
    by_cases h2:d+1≤a
    · exact ⟨.bool true, by rw [Aa.2 h2, Ac], fun p q _ _ _ _ ρ φ => by rw [decide_eq_true (by omega)]; exact BX _ ρ φ⟩
    · rw [AS (by omega), Aq]
      cases h3:LH a b c d with
      | true => obtain ⟨h4, h5, h6⟩ := LU h3; exact ⟨.bool false, by rw [Ac], fun p q _ _ _ _ ρ φ => by rw [decide_eq_false (by omega)]; exact BX _ ρ φ⟩
      | false => exact ⟨_, by rw [Aq], fun p q _ _ _ _ ρ φ => EE _⟩
theorem Pj {op:BinOp} {κ:V->R} (hg:(HT op κ).good):HT op κ=κ (.oth .bl) ∧ ∀ k p q, DY op (.int k p) (.int k q) (.oth .bl) := by
  cases op with
  | lss => exact ⟨rfl, fun k p q => ⟨.bool (decide (p<q)), fun P t w => by rw [binOp_lss, Sem.run_pure], fun ρ φ => EE _⟩⟩
  | gtr => exact ⟨rfl, fun k p q => ⟨.bool (decide (p > q)), fun P t w => by rw [binOp_gtr, Sem.run_pure], fun ρ φ => EE _⟩⟩
  | leq => exact ⟨rfl, fun k p q => ⟨.bool (decide (p≤q)), fun P t w => by rw [binOp_leq, Sem.run_pure], fun ρ φ => EE _⟩⟩
  | geq => exact ⟨rfl, fun k p q => ⟨.bool (decide (p ≥ q)), fun P t w => by rw [binOp_geq, Sem.run_pure], fun ρ φ => EE _⟩⟩
  | eql => exact ⟨rfl, fun k p q => ⟨.bool (p == q), fun P t w => by rw [binOp_eql, Sem.run_pure], fun ρ φ => EE _⟩⟩
  | neq => exact ⟨rfl, fun k p q => ⟨.bool (p != q), fun P t w => by rw [binOp_neq, Sem.run_pure], fun ρ φ => EE _⟩⟩
  | _ => exact hg.elim
theorem RH {op:BinOp} {x y:V} {κ:V->R} (hg:(GR op x y κ).good):∃ v, GR op x y κ=κ v ∧ ∀ (ρ:Env) (φ:AT) X Y, As ρ φ x X->As ρ φ y Y →
    ∃ k p q, X = .int k p∧Y = .int k q∧DY op X Y v := by
  unfold GR at hg ⊢
  obtain ⟨k, a, b, e1, H1⟩ := CE hg
  rw [e1] at hg ⊢
  obtain ⟨j, c, d, e2, H2⟩ := CE hg
  rw [e2] at hg ⊢
  obtain ⟨hk, e3⟩ := Ae hg
  rw [e3] at hg ⊢
  obtain rfl := AL.1 hk
  have any0:∀ {κ':V->R}, (HT op κ').good->∃ v, HT op κ'=κ' v ∧ ∀ (ρ:Env) (φ:AT) X Y, As ρ φ x X->As ρ φ y Y->∃ k p q, X = .int k p∧Y = .int k q∧DY op X Y v := fun hg => by
    obtain ⟨e, H⟩ := Pj hg
    refine ⟨_, e, fun ρ φ X Y hX hY => ?_⟩
    obtain ⟨r, r1, r2, r3, rfl⟩ := H1 ρ φ X hX
    obtain ⟨s, s1, s2, s3, rfl⟩ := H2 ρ φ Y hY
    exact ⟨k, _, _, rfl, rfl, H k _ _⟩
  have any:∀ {κ':V->R}, (U3 op a b c d κ').good->∃ v, U3 op a b c d κ'=κ' v ∧ ∀ (ρ:Env) (φ:AT) X Y, As ρ φ x X->As ρ φ y Y->∃ k p q, X = .int k p∧Y = .int k q∧DY op X Y v := fun {κ'} hg => by
    unfold U3 at hg ⊢
    cases ha:br (Nat.ble (Nat.succ b) c) true (Nat.ble (Nat.succ d) a) with
    | false => rw [ha] at hg; exact any0 hg
    | true =>
      rw [ha] at hg
      have hap:b<c∨d<a := by
        cases h1:Nat.ble (Nat.succ b) c with
        | true => exact .inl (Aa.1 h1)
        | false =>
          rw [h1] at ha
          exact .inr (Aa.1 (show Nat.ble (Nat.succ d) a=true from ha))
      have ne:∀ (ρ:Env) (φ:AT) X Y, As ρ φ x X->As ρ φ y Y->∃ r s, X = .int k (C9 k r)∧Y = .int k (C9 k s)∧C9 k r≠C9 k s := fun ρ φ X Y hX hY => by
        obtain ⟨r, r1, r2, r3, rfl⟩ := H1 ρ φ X hX
        obtain ⟨s, s1, s2, s3, rfl⟩ := H2 ρ φ Y hY
        exact ⟨r, s, rfl, rfl, fun h => by have := JR r3 s3 h; omega⟩
      by_cases he:op = .eql
      · subst he
        refine ⟨.bool false, rfl, fun ρ φ X Y hX hY => ?_⟩
        obtain ⟨r, s, rfl, rfl, h⟩ := ne ρ φ X Y hX hY
        refine ⟨k, _, _, rfl, rfl, .bool false, fun P t w => ?_, fun ρ φ => by simp only [As]⟩
        rw [binOp_eql, Sem.run_pure]
        congr 2
        exact beq_false_of_ne h
      · by_cases he2:op = .neq
        · subst he2
          refine ⟨.bool true, rfl, fun ρ φ X Y hX hY => ?_⟩
          obtain ⟨r, s, rfl, rfl, h⟩ := ne ρ φ X Y hX hY
          refine ⟨k, _, _, rfl, rfl, .bool true, fun P t w => ?_, fun ρ φ => by simp only [As]⟩
          rw [binOp_neq, Sem.run_pure]
          congr 2
          exact bne_iff_ne.2 h
        · have e:Uw op κ' (HT op κ')=HT op κ' := by cases op <;> first | rfl | exact absurd rfl he | exact absurd rfl he2
          have hg:(Uw op κ' (HT op κ')).good := hg
          rw [e] at hg
          show ∃ v, Uw op κ' (HT op κ')=_∧_
          rw [e]
          exact any0 hg
  cases o1:CS (Hk k) a b with
  | false => rw [o1] at hg; exact any hg
  | true =>
  rw [o1, Ac] at hg
  show ∃ v, br (CS (Hk k) c d) _ _=_∧_
  cases o2:CS (Hk k) c d with
  | false => rw [o2] at hg; exact any hg
  | true =>
  rw [o2, Ac] at hg
  show ∃ v, Zn op _ _ _ _ κ=_∧_
  have bd:∀ (ρ:Env) (φ:AT) X Y, As ρ φ x X->As ρ φ y Y->∃ r s, X = .int k (C9 k r)∧Y = .int k (C9 k s)∧r<Mk k∧s<Mk k ∧
      B2 (Hk k) (Mk k) a≤B2 (Hk k) (Mk k) r∧B2 (Hk k) (Mk k) r≤B2 (Hk k) (Mk k) b∧B2 (Hk k) (Mk k) c≤B2 (Hk k) (Mk k) s∧B2 (Hk k) (Mk k) s≤B2 (Hk k) (Mk k) d := fun ρ φ X Y hX hY => by
    obtain ⟨r, r1, r2, r3, rfl⟩ := H1 ρ φ X hX
    obtain ⟨s, s1, s2, s3, rfl⟩ := H2 ρ φ Y hY
    have := Cv (M := Mk k) o1 r1 r2
    have := Cv (M := Mk k) o2 s1 s2
    exact ⟨r, s, rfl, rfl, r3, s3, by omega, by omega, by omega, by omega⟩
  cases op with
  | lss =>
    obtain ⟨v, e, H⟩ := QI (B2 (Hk k) (Mk k) a) (B2 (Hk k) (Mk k) b) (B2 (Hk k) (Mk k) c) (B2 (Hk k) (Mk k) d) κ
    refine ⟨v, e, fun ρ φ X Y hX hY => ?_⟩
    obtain ⟨r, s, rfl, rfl, hr, hs, k1, k2, k3, k4⟩ := bd ρ φ X Y hX hY
    refine ⟨k, _, _, rfl, rfl, .bool (decide (B2 (Hk k) (Mk k) r<B2 (Hk k) (Mk k) s)), fun P t w => ?_, fun ρ φ => H _ _ k1 k2 k3 k4 ρ φ⟩
    rw [binOp_lss, Sem.run_pure, decide_eq_decide.2 (En hr hs).1]
  | gtr =>
    obtain ⟨v, e, H⟩ := QI (B2 (Hk k) (Mk k) c) (B2 (Hk k) (Mk k) d) (B2 (Hk k) (Mk k) a) (B2 (Hk k) (Mk k) b) κ
    refine ⟨v, e, fun ρ φ X Y hX hY => ?_⟩
    obtain ⟨r, s, rfl, rfl, hr, hs, k1, k2, k3, k4⟩ := bd ρ φ X Y hX hY
    refine ⟨k, _, _, rfl, rfl, .bool (decide (B2 (Hk k) (Mk k) s<B2 (Hk k) (Mk k) r)), fun P t w => ?_, fun ρ φ => H _ _ k3 k4 k1 k2 ρ φ⟩
    rw [binOp_gtr, Sem.run_pure]
    congr 2
    exact decide_eq_decide.2 (En hs hr).1
  | leq =>
    obtain ⟨v, e, H⟩ := QG (B2 (Hk k) (Mk k) c) (B2 (Hk k) (Mk k) d) (B2 (Hk k) (Mk k) a) (B2 (Hk k) (Mk k) b) κ
    refine ⟨v, e, fun ρ φ X Y hX hY => ?_⟩
    obtain ⟨r, s, rfl, rfl, hr, hs, k1, k2, k3, k4⟩ := bd ρ φ X Y hX hY
    refine ⟨k, _, _, rfl, rfl, .bool (decide (B2 (Hk k) (Mk k) r≤B2 (Hk k) (Mk k) s)), fun P t w => ?_, fun ρ φ => H _ _ k3 k4 k1 k2 ρ φ⟩
    rw [binOp_leq, Sem.run_pure]
    congr 2
    exact decide_eq_decide.2 (by have := (En hs hr).1; omega)
  | geq =>
    obtain ⟨v, e, H⟩ := QG (B2 (Hk k) (Mk k) a) (B2 (Hk k) (Mk k) b) (B2 (Hk k) (Mk k) c) (B2 (Hk k) (Mk k) d) κ
    refine ⟨v, e, fun ρ φ X Y hX hY => ?_⟩
    obtain ⟨r, s, rfl, rfl, hr, hs, k1, k2, k3, k4⟩ := bd ρ φ X Y hX hY
    refine ⟨k, _, _, rfl, rfl, .bool (decide (B2 (Hk k) (Mk k) s≤B2 (Hk k) (Mk k) r)), fun P t w => ?_, fun ρ φ => H _ _ k1 k2 k3 k4 ρ φ⟩
    rw [binOp_geq, Sem.run_pure]
    congr 2
    exact decide_eq_decide.2 (by have := (En hr hs).1; omega)
  | eql =>
    obtain ⟨v, e, H⟩ := Vi (B2 (Hk k) (Mk k) a) (B2 (Hk k) (Mk k) b) (B2 (Hk k) (Mk k) c) (B2 (Hk k) (Mk k) d) κ
    refine ⟨v, e, fun ρ φ X Y hX hY => ?_⟩
    obtain ⟨r, s, rfl, rfl, hr, hs, k1, k2, k3, k4⟩ := bd ρ φ X Y hX hY
    refine ⟨k, _, _, rfl, rfl, .bool (decide (B2 (Hk k) (Mk k) r=B2 (Hk k) (Mk k) s)), fun P t w => ?_, fun ρ φ => H _ _ k1 k2 k3 k4 ρ φ⟩
    rw [binOp_eql, Sem.run_pure]
    congr 2
    rw [Bool.eq_iff_iff, beq_iff_eq, decide_eq_true_iff]
    exact (En hr hs).2
  | neq =>
    obtain ⟨v, e, H⟩ := Ut (B2 (Hk k) (Mk k) a) (B2 (Hk k) (Mk k) b) (B2 (Hk k) (Mk k) c) (B2 (Hk k) (Mk k) d) κ
    refine ⟨v, e, fun ρ φ X Y hX hY => ?_⟩
    obtain ⟨r, s, rfl, rfl, hr, hs, k1, k2, k3, k4⟩ := bd ρ φ X Y hX hY
    refine ⟨k, _, _, rfl, rfl, .bool (decide (B2 (Hk k) (Mk k) r≠B2 (Hk k) (Mk k) s)), fun P t w => ?_, fun ρ φ => H _ _ k1 k2 k3 k4 ρ φ⟩
    rw [binOp_neq, Sem.run_pure]
    congr 2
    rw [Bool.eq_iff_iff, bne_iff_ne, decide_eq_true_iff]
    exact not_congr (En hr hs).2
  | _ => exact hg.elim
theorem Xe {k:IntKind} {r s:Nat} (hr:r<Mk k) (hs:s<Mk k) (h:r+s<Hk k):DY .add (.int k (C9 k r)) (.int k (C9 k s)) (.int k (r+s)) := by
  have e0:Lp .add k r k s (fun v => R.rv v AJ ⟨.d0, .d0, .d0, .d0⟩)=R.rv (.int k (r+s)) AJ ⟨.d0, .d0, .d0, .d0⟩ := by
    show br (Bk k k) (Ab (Nat.mod (Nat.add r s) (Mk k)) fun r => R.rv (.int k r) AJ ⟨.d0, .d0, .d0, .d0⟩) (.fail "")=_
    rw [AL.2 rfl, Ac, A9]
    show R.rv (.int k ((r+s) % Mk k)) _ _=_
    rw [Nat.mod_eq_of_lt (Nat.lt_of_lt_of_le h (GP k))]
  obtain ⟨v, e, H⟩ := Gl .add k r k s (fun v => R.rv v AJ ⟨.d0, .d0, .d0, .d0⟩) hr hs (by rw [e0]; trivial)
  rw [e0] at e
  cases e
  exact H
theorem add_mod {k:IntKind} {r s:Nat} (hr:r<Mk k) (hs:s<Mk k):DY .add (.int k (C9 k r)) (.int k (C9 k s)) (.int k ((r+s) % Mk k)) := by
  have e0:Lp .add k r k s (fun v => R.rv v AJ ⟨.d0, .d0, .d0, .d0⟩)=R.rv (.int k ((r+s) % Mk k)) AJ ⟨.d0, .d0, .d0, .d0⟩ := by
    show br (Bk k k) (Ab (Nat.mod (Nat.add r s) (Mk k)) fun r => R.rv (.int k r) AJ ⟨.d0, .d0, .d0, .d0⟩) (.fail "")=_
    rw [AL.2 rfl, Ac, A9]
    rfl
  obtain ⟨v, e, H⟩ := Gl .add k r k s (fun v => R.rv v AJ ⟨.d0, .d0, .d0, .d0⟩) hr hs (by rw [e0]; trivial)
  rw [e0] at e
  cases e
  exact H
theorem Wr {k:IntKind} {r s:Nat} (hr:r<Mk k) (hs:s<Mk k) (h:s≤r):DY .sub (.int k (C9 k r)) (.int k (C9 k s)) (.int k (r - s)) := by
  have e0:Lp .sub k r k s (fun v => R.rv v AJ ⟨.d0, .d0, .d0, .d0⟩)=R.rv (.int k (r - s)) AJ ⟨.d0, .d0, .d0, .d0⟩ := by
    show br (Bk k k) (Ab (Nat.mod (Nat.add r (Nat.sub (Mk k) s)) (Mk k)) fun r => R.rv (.int k r) AJ ⟨.d0, .d0, .d0, .d0⟩) (.fail "")=_
    rw [AL.2 rfl, Ac, A9]
    show R.rv (.int k ((r+(Mk k - s)) % Mk k)) _ _=_
    rw [show r+(Mk k - s)=r - s+Mk k by omega, Nat.add_mod_right, Nat.mod_eq_of_lt (by omega)]
  obtain ⟨v, e, H⟩ := Gl .sub k r k s (fun v => R.rv v AJ ⟨.d0, .d0, .d0, .d0⟩) hr hs (by rw [e0]; trivial)
  rw [e0] at e
  cases e
  exact H
theorem DY.iv {op:BinOp} {x y:Value} {k:IntKind} {r lo hi:Nat} (h:DY op x y (.int k r)) (h1:lo≤r) (h2:r≤hi):DY op x y (.oth (.iv k lo hi)) := by
  obtain ⟨z, hz, hr⟩ := h
  refine ⟨z, hz, fun ρ φ => ?_⟩
  have := hr ρ φ
  simp only [As] at this ⊢
  exact ⟨r, h1, h2, this.1, this.2⟩
theorem TX {r b:Nat} (h1:r<Hk .i64) (h2:b<Hk .i64) (h3:1≤b):DY .rem (.int .i64 (C9 .i64 r)) (.int .i64 (C9 .i64 b)) (.int .i64 (r % b)) := by
  have hd:r % b<Hk .i64 := Nat.lt_of_le_of_lt (Nat.mod_le r b) h1
  have hp:Ng .i64 r .i64 b (br (Nat.ble 1 b) (Ab (Nat.mod r b) fun r => R.rv (.int .i64 r) AJ ⟨.d0, .d0, .d0, .d0⟩) (.fail ""))=R.rv (.int .i64 (r % b)) AJ ⟨.d0, .d0, .d0, .d0⟩ := by
    unfold Ng
    rw [AL.2 rfl, Ac, Aa.2 (show r+1≤Hk .i64 from h1), Ac, Aa.2 (show b+1≤Hk .i64 from h2), Ac, Aa.2 h3, Ac, A9]
    rfl
  have hp:Lp .rem .i64 r .i64 b (fun v => R.rv v AJ ⟨.d0, .d0, .d0, .d0⟩)=R.rv (.int .i64 (r % b)) AJ ⟨.d0, .d0, .d0, .d0⟩ := by
    show br (Nat.ble (Nat.succ r) (Hk .i64)) (Ng .i64 r .i64 b (br (Nat.ble 1 b) (Ab (Nat.mod r b) fun r => R.rv (.int .i64 r) AJ ⟨.d0, .d0, .d0, .d0⟩) (.fail ""))) (M2 .i64 r .i64 b fun v => R.rv v AJ ⟨.d0, .d0, .d0, .d0⟩)=_
    rw [Aa.2 (show r+1≤Hk .i64 from h1), Ac]; exact hp
  obtain ⟨v, e, H⟩ := Gl .rem .i64 r .i64 b (fun v => R.rv v AJ ⟨.d0, .d0, .d0, .d0⟩) (Nat.lt_of_lt_of_le h1 (GP .i64)) (Nat.lt_of_lt_of_le h2 (GP .i64)) (by rw [hp]; trivial)
  rw [hp] at e
  cases e
  exact H
theorem UH {p:Int} {b:Nat} (p1 : -9223372036854775808≤p) (p2:p<9223372036854775808) (h1:1≤b) (h2:b<Hk .i64):DY .rem (.int .i64 p) (.int .i64 (C9 .i64 b)) (.oth (.iv .i64 0 18446744073709551615)) := by
  have hz:(p.tmod b).natAbs<9223372036854775808 := by
    rw [Int.natAbs_tmod]
    have h2:b<9223372036854775808 := h2
    have := Nat.mod_lt p.natAbs (show (b:Int).natAbs > 0 by omega)
    omega
  refine ⟨.int .i64 (p.tmod b), fun P t w => ?_, fun ρ φ => ?_⟩
  · rw [Ao h2, binOp_rem]
    simp only [Op.intDiv]
    rw [if_neg (by omega)]
    simp only [Sem.run_pure]
  · simp only [As]
    generalize p.tmod b=z at hz
    by_cases h0:0≤z
    · refine ⟨z.toNat, Nat.zero_le _, by omega, by simp only [Mk]; omega, ?_⟩
      rw [Ao (by simp only [Hk]; omega)]; congr 1; omega
    · refine ⟨(z+18446744073709551616).toNat, Nat.zero_le _, by omega, by simp only [Mk]; omega, ?_⟩
      rw [CA (by simp only [Hk]; omega)]; congr 1; simp only [Mk]; omega
theorem P5 {x y:V} {κ:V->R} (hg:(QR x y κ).good):∃ v, QR x y κ=κ v ∧ ∀ (ρ:Env) (φ:AT) X Y, As ρ φ x X->As ρ φ y Y →
    ∃ k p q, X = .int k p∧Y = .int k q∧DY .rem X Y v := by
  unfold QR at hg ⊢
  obtain ⟨k, a, b, e1, H1⟩ := CE hg
  rw [e1] at hg ⊢
  obtain ⟨j, d, rfl, e2⟩ := CI hg
  rw [e2] at hg ⊢
  obtain ⟨hk, e3⟩ := Ae hg
  rw [e3] at hg ⊢
  obtain rfl := AL.1 hk
  obtain ⟨hj, e4⟩ := Ae hg
  rw [e4] at hg ⊢
  obtain rfl := AL.1 hj
  obtain ⟨h1, e5⟩ := Ae hg
  rw [e5] at hg ⊢
  obtain ⟨h2, e6⟩ := Ae hg
  rw [e6] at hg ⊢
  have h1 := Aa.1 h1
  have h2:d+1≤9223372036854775808 := Aa.1 h2
  have hd:d<Hk .i64 := by simp only [Hk]; omega
  have hY:∀ (ρ:Env) (φ:AT) Y, As ρ φ (.int .i64 d) Y->Y = .int .i64 (C9 .i64 d) := fun ρ φ Y h => by
    have h:d<Mk .i64∧Y = .int .i64 (C9 .i64 d) := by simpa only [As] using h
    exact h.2
  cases hb:Nat.ble (Nat.succ b) 9223372036854775808 with
  | true =>
    have hb:b+1≤9223372036854775808 := Aa.1 hb
    refine ⟨.oth (.iv .i64 0 (d - 1)), by rw [Ac, A9]; rfl, fun ρ φ X Y hX hY' => ?_⟩
    obtain ⟨r, r1, r2, r3, rfl⟩ := H1 ρ φ X hX
    obtain rfl := hY ρ φ Y hY'
    have hr:r<Hk .i64 := by simp only [Hk]; omega
    exact ⟨.i64, _, _, rfl, rfl, (TX hr hd h1).iv (Nat.zero_le _) (by have := Nat.mod_lt r (show d > 0 by omega); omega)⟩
  | false =>
    refine ⟨_, rfl, fun ρ φ X Y hX hY' => ?_⟩
    obtain ⟨r, r1, r2, r3, rfl⟩ := H1 ρ φ X hX
    obtain rfl := hY ρ φ Y hY'
    have hw : -9223372036854775808≤C9 .i64 r∧C9 .i64 r<9223372036854775808 := by
      have r3:r<18446744073709551616 := r3
      by_cases h:r<Hk .i64
      · rw [Ao h]; have h:r<9223372036854775808 := h; omega
      · rw [CA (by omega)]; have h:¬ r<9223372036854775808 := h; simp only [Mk]; omega
    exact ⟨.i64, _, _, rfl, rfl, UH hw.1 hw.2 h1 hd⟩
theorem LO {op:BinOp} {x y:V} {κ:V->R} (hg:(Gj op x y κ).good):∃ v, Gj op x y κ=κ v ∧ ∀ (ρ:Env) (φ:AT) X Y, As ρ φ x X->As ρ φ y Y →
    ∃ k p q, X = .int k p∧Y = .int k q∧DY op X Y v := by
  by_cases h1:op = .add
  · subst h1
    have hg:(Q7 x y κ).good := hg
    show ∃ v, Q7 x y κ=κ v∧_
    unfold Q7 at hg ⊢
    obtain ⟨k, a, b, e1, H1⟩ := CE hg
    rw [e1] at hg ⊢
    obtain ⟨j, c, d, e2, H2⟩ := CE hg
    rw [e2] at hg ⊢
    obtain ⟨hk, e3⟩ := Ae hg
    rw [e3] at hg ⊢
    obtain rfl := AL.1 hk
    rw [A9, A9] at hg ⊢
    cases hh:Nat.ble (Nat.succ (Nat.add b d)) (Hk k) with
    | true =>
      have hh:b+d+1≤Hk k := Aa.1 hh
      refine ⟨_, rfl, fun ρ φ X Y hX hY => ?_⟩
      obtain ⟨r, r1, r2, r3, rfl⟩ := H1 ρ φ X hX
      obtain ⟨s, s1, s2, s3, rfl⟩ := H2 ρ φ Y hY
      exact ⟨k, _, _, rfl, rfl, (Xe r3 s3 (by omega)).iv (show a+c≤r+s by omega) (show r+s≤b+d by omega)⟩
    | false =>
      refine ⟨.oth (.iv k 0 (Mk k - 1)), by rw [Aq, A9]; rfl, fun ρ φ X Y hX hY => ?_⟩
      obtain ⟨r, r1, r2, r3, rfl⟩ := H1 ρ φ X hX
      obtain ⟨s, s1, s2, s3, rfl⟩ := H2 ρ φ Y hY
      exact ⟨k, _, _, rfl, rfl, (add_mod r3 s3).iv (Nat.zero_le _) (by have := Nat.mod_lt (r+s) (DS k); omega)⟩
  · by_cases h2:op = .sub
    · subst h2
      have hg:(PW x y κ).good := hg
      show ∃ v, PW x y κ=κ v∧_
      unfold PW at hg ⊢
      obtain ⟨k, a, b, e1, H1⟩ := CE hg
      rw [e1] at hg ⊢
      obtain ⟨j, c, d, e2, H2⟩ := CE hg
      rw [e2] at hg ⊢
      obtain ⟨hk, e3⟩ := Ae hg
      rw [e3] at hg ⊢
      obtain rfl := AL.1 hk
      obtain ⟨q1, e4⟩ := Ae hg
      rw [e4] at hg ⊢
      obtain ⟨q2, e5⟩ := Ae hg
      rw [e5, A9, A9]
      have q1:d≤a := Aa.1 q1
      refine ⟨_, rfl, fun ρ φ X Y hX hY => ?_⟩
      obtain ⟨r, r1, r2, r3, rfl⟩ := H1 ρ φ X hX
      obtain ⟨s, s1, s2, s3, rfl⟩ := H2 ρ φ Y hY
      exact ⟨k, _, _, rfl, rfl, (Wr r3 s3 (by omega)).iv (show a - d≤r - s by omega) (show r - s≤b - c by omega)⟩
    · by_cases h3:op = .rem
      · subst h3; exact P5 hg
      have e:Gj op x y κ=GR op x y κ := by cases op <;> first | rfl | exact absurd rfl h1 | exact absurd rfl h2 | exact absurd rfl h3
      rw [e] at hg ⊢
      exact RH hg
/-- The greater of two. -/
theorem NQ {a b c d:Nat} {yes no:R} (hg:(Up a b c d yes no).good):(Up a b c d yes no=yes∧b<c)∨(Up a b c d yes no=no∧d≤a) := by
  unfold Up at hg ⊢
  cases h:Nat.ble (Nat.succ b) c with
  | true => exact .inl ⟨rfl, Aa.1 h⟩
  | false =>
    rw [h] at hg
    obtain ⟨h2, e⟩ := Ae (show R.good (br (Nat.ble d a) no (.fail "")) from hg)
    exact .inr ⟨e, Aa.1 h2⟩
theorem Ud {x y:V} {κ:V->R} (hg:(Xt x y κ).good):∃ u, Xt x y κ=κ u ∧ ∀ (ρ:Env) (φ:AT) X Y, As ρ φ x X->As ρ φ y Y →
    ∃ k p q, X = .int k p∧Y = .int k q∧As ρ φ u (.int k (if q > p then q else p)) := by
  unfold Xt at hg ⊢
  obtain ⟨k, a, b, e1, H1⟩ := CE hg
  rw [e1] at hg ⊢
  obtain ⟨j, c, d, e2, H2⟩ := CE hg
  rw [e2] at hg ⊢
  obtain ⟨hk, e3⟩ := Ae hg
  rw [e3] at hg ⊢
  obtain rfl := AL.1 hk
  obtain ⟨o1, e4⟩ := Ae hg
  rw [e4] at hg ⊢
  obtain ⟨o2, e5⟩ := Ae hg
  rw [e5] at hg ⊢
  rcases NQ hg with ⟨e, h⟩ | ⟨e, h⟩
  · refine ⟨y, e, fun ρ φ X Y hX hY => ?_⟩
    obtain ⟨r, r1, r2, r3, rfl⟩ := H1 ρ φ X hX
    obtain ⟨s, s1, s2, s3, rfl⟩ := H2 ρ φ Y hY
    have k1 := Cv (M := Mk k) o1 r1 r2
    have k2 := Cv (M := Mk k) o2 s1 s2
    have := (En r3 s3).1
    exact ⟨k, _, _, rfl, rfl, by rw [if_pos (by omega)]; exact hY⟩
  · refine ⟨x, e, fun ρ φ X Y hX hY => ?_⟩
    obtain ⟨r, r1, r2, r3, rfl⟩ := H1 ρ φ X hX
    obtain ⟨s, s1, s2, s3, rfl⟩ := H2 ρ φ Y hY
    have k1 := Cv (M := Mk k) o1 r1 r2
    have k2 := Cv (M := Mk k) o2 s1 s2
    have := (En r3 s3).1
    exact ⟨k, _, _, rfl, rfl, by rw [if_neg (by omega)]; exact hX⟩
theorem TZ {x y:V} {κ:V->R} (hg:(Xr x y κ).good):∃ u, Xr x y κ=κ u ∧ ∀ (ρ:Env) (φ:AT) X Y, As ρ φ x X->As ρ φ y Y →
    ∃ k p q, X = .int k p∧Y = .int k q∧As ρ φ u (.int k (if q<p then q else p)) := by
  unfold Xr at hg ⊢
  obtain ⟨k, a, b, e1, H1⟩ := CE hg
  rw [e1] at hg ⊢
  obtain ⟨j, c, d, e2, H2⟩ := CE hg
  rw [e2] at hg ⊢
  obtain ⟨hk, e3⟩ := Ae hg
  rw [e3] at hg ⊢
  obtain rfl := AL.1 hk
  obtain ⟨o1, e4⟩ := Ae hg
  rw [e4] at hg ⊢
  obtain ⟨o2, e5⟩ := Ae hg
  rw [e5] at hg ⊢
  rcases NQ hg with ⟨e, h⟩ | ⟨e, h⟩
  · refine ⟨y, e, fun ρ φ X Y hX hY => ?_⟩
    obtain ⟨r, r1, r2, r3, rfl⟩ := H1 ρ φ X hX
    obtain ⟨s, s1, s2, s3, rfl⟩ := H2 ρ φ Y hY
    have k1 := Cv (M := Mk k) o1 r1 r2
    have k2 := Cv (M := Mk k) o2 s1 s2
    have := (En s3 r3).1
    exact ⟨k, _, _, rfl, rfl, by rw [if_pos (by omega)]; exact hY⟩
  · refine ⟨x, e, fun ρ φ X Y hX hY => ?_⟩
    obtain ⟨r, r1, r2, r3, rfl⟩ := H1 ρ φ X hX
    obtain ⟨s, s1, s2, s3, rfl⟩ := H2 ρ φ Y hY
    have k1 := Cv (M := Mk k) o1 r1 r2
    have k2 := Cv (M := Mk k) o2 s1 s2
    have := (En s3 r3).1
    exact ⟨k, _, _, rfl, rfl, by rw [if_neg (by omega)]; exact hX⟩
theorem S1 {m j b:Nat} {κ:V->R} (hg:(VS m j b κ).good) (hb1:1≤b) (hb2:b+1≤9223372036854775808):∃ v, VS m j b κ=κ v ∧ ∀ (ρ:Env) (φ:AT) X Y, As ρ φ (.oth (.rs m j)) X->As ρ φ (.int .i64 b) Y →
    ∃ k p q, X = .int k p∧Y = .int k q∧DY .rem X Y v := by
  unfold VS at hg ⊢
  obtain ⟨hm, e1⟩ := Ae hg
  rw [e1] at hg ⊢
  rw [A9] at hg ⊢
  obtain ⟨hd, e2⟩ := Ae hg
  rw [e2] at hg ⊢
  obtain ⟨h1, e3⟩ := Ae hg
  rw [e3, A9]
  have hm:m=73786976294838206464+b := Nat.eq_of_beq_eq_true hm
  have hd:j % 18446744073709551616=j / 18446744073709551616 := Nat.eq_of_beq_eq_true hd
  have h1:1≤j % 18446744073709551616 := Aa.1 h1
  refine ⟨_, rfl, fun ρ φ X Y hX hY => ?_⟩
  simp only [As] at hX
  obtain ⟨z, rfl, z1, z2, z3, _, z5⟩ := hX
  have hY:(b<Mk .i64∧Y = .int .i64 (C9 .i64 b)) := by simpa only [As] using hY
  obtain ⟨_, rfl⟩ := hY
  have hz := z5 (by omega)
  have e6:m % 18446744073709551616=b := by omega
  have z3:z.natAbs % b=j % 18446744073709551616 := by
    rcases z3 with ⟨h, _⟩ | ⟨_, h, h'⟩
    · omega
    · rw [e6] at h h'; omega
  rw [show C9 .i64 b=(b:Int) from Ao (by simp only [Hk]; omega)]
  refine ⟨.i64, _, _, rfl, rfl, .int .i64 (z.tmod b), fun P t w => by
    rw [binOp_rem]
    simp only [Op.intDiv]
    rw [if_neg (by omega)]
    simp only [Sem.run_pure], fun ρ φ => ?_⟩
  have h0 := Int.natAbs_tmod z b
  rw [Int.natAbs_natCast, z3] at h0
  have hjb:j % 18446744073709551616<b := by rw [←z3]; exact Nat.mod_lt _ (by omega)
  have hneg:z.tmod b≤0 := by
    have h4:0≤(-z).tmod b := Int.tmod_nonneg _ (by omega)
    rw [Int.neg_tmod] at h4
    omega
  generalize z.tmod b=y at h0 hneg
  simp only [As]
  have hs:Nat.sub 18446744073709551616 (j % 18446744073709551616)=18446744073709551616 - j % 18446744073709551616 := rfl
  refine ⟨by show 18446744073709551616 - j % 18446744073709551616<Mk .i64; simp only [Mk]; omega, ?_⟩
  show Value.int .i64 y = .int .i64 (C9 .i64 (18446744073709551616 - j % 18446744073709551616))
  rw [CA (by simp only [Hk]; omega)]
  congr 1; simp only [Mk]; omega
theorem Kk {op:BinOp} {x y:V} {κ:V->R} (hg:(Qt op x y κ (Gj op x y κ)).good):∃ v, Qt op x y κ (Gj op x y κ)=κ v ∧ ∀ (ρ:Env) (φ:AT) X Y, As ρ φ x X->As ρ φ y Y →
    ∃ k p q, X = .int k p∧Y = .int k q∧DY op X Y v := by
  by_cases hop:op = .rem
  · subst hop
    rcases RM x (fun m j => GS y fun k b => br (Bk k .i64) (br (Nat.ble 1 b) (br (Nat.ble (Nat.succ b) 9223372036854775808) (br (Nat.beq m (Nat.add 18446744073709551616 b)) (κ (.int .i64 j)) (br (Nat.beq m b) (br (Nat.beq j 0) (κ (.int .i64 0)) (κ (.oth (.iv .i64 1 18446744073709551615)))) (VS m j b κ))) (.fail "")) (.fail "")) (.fail "")) (Gj .rem x y κ) with ⟨m, j, rfl, e0⟩ | e0
    · have e0:Qt .rem (.oth (.rs m j)) y κ (Gj .rem (.oth (.rs m j)) y κ)=_ := e0
      rw [e0] at hg ⊢
      obtain ⟨k, b, rfl, e1⟩ := CI hg
      rw [e1] at hg ⊢
      obtain ⟨hk, e2⟩ := Ae hg
      rw [e2] at hg ⊢
      obtain rfl := AL.1 hk
      obtain ⟨hb1, e3⟩ := Ae hg
      rw [e3] at hg ⊢
      obtain ⟨hb2, e4⟩ := Ae hg
      rw [e4] at hg ⊢
      cases hm:Nat.beq m (Nat.add 18446744073709551616 b) with
      | false =>
        rw [hm] at hg
        have hg:(br (Nat.beq m b) (br (Nat.beq j 0) (κ (.int .i64 0)) (κ (.oth (.iv .i64 1 18446744073709551615)))) (VS m j b κ)).good := hg
        cases hmb:Nat.beq m b with
        | false =>
          rw [hmb] at hg
          obtain ⟨v, e5, H⟩ := S1 (show R.good (VS m j b κ) from hg) (Aa.1 hb1) (Aa.1 hb2)
          exact ⟨v, e5, H⟩
        | true =>
        have e5:br true (br (Nat.beq j 0) (κ (.int .i64 0)) (κ (.oth (.iv .i64 1 18446744073709551615)))) (VS m j b κ)=br (Nat.beq j 0) (κ (.int .i64 0)) (κ (.oth (.iv .i64 1 18446744073709551615))) := rfl
        have hb1 := Aa.1 hb1
        have hb2:b+1≤9223372036854775808 := Aa.1 hb2
        have hmb:m=b := Nat.eq_of_beq_eq_true hmb
        have key:∀ (ρ:Env) (φ:AT) X Y, As ρ φ (.oth (.rs m j)) X->As ρ φ (.int .i64 b) Y->∃ z:Int, X = .int .i64 z∧Y = .int .i64 (b:Int) ∧ -9223372036854775808≤z∧z<9223372036854775808∧z.natAbs % b=j := fun ρ φ X Y hX hY => by
          simp only [As] at hX
          obtain ⟨z, rfl, z1, z2, z3, _⟩ := hX
          have hY:(b<Mk .i64∧Y = .int .i64 (C9 .i64 b)) := by simpa only [As] using hY
          obtain ⟨_, rfl⟩ := hY
          refine ⟨z, rfl, by rw [Ao (by simp only [Hk]; omega)], z1, z2, ?_⟩
          rcases z3 with ⟨_, z3⟩ | ⟨z3, _⟩
          · rw [hmb, Nat.mod_eq_of_lt (show b<18446744073709551616 by omega)] at z3; exact z3
          · omega
        cases hj:Nat.beq j 0 with
        | true =>
          obtain rfl := Nat.eq_of_beq_eq_true hj
          refine ⟨_, e5, fun ρ φ X Y hX hY => ?_⟩
          obtain ⟨z, rfl, rfl, z1, z2, z3⟩ := key ρ φ X Y hX hY
          refine ⟨.i64, _, _, rfl, rfl, .int .i64 (z.tmod b), fun P t w => by
            rw [binOp_rem]
            simp only [Op.intDiv]
            rw [if_neg (by omega)]
            simp only [Sem.run_pure], fun ρ φ => ?_⟩
          have h0:z.tmod b=0 := by
            have := Int.natAbs_tmod z b
            rw [Int.natAbs_natCast, z3] at this
            omega
          rw [h0]
          simp only [As]
          exact ⟨by simp only [Mk]; omega, rfl⟩
        | false =>
          rw [hj] at e5
          refine ⟨_, e5, fun ρ φ X Y hX hY => ?_⟩
          obtain ⟨z, rfl, rfl, z1, z2, z3⟩ := key ρ φ X Y hX hY
          refine ⟨.i64, _, _, rfl, rfl, .int .i64 (z.tmod b), fun P t w => by
            rw [binOp_rem]
            simp only [Op.intDiv]
            rw [if_neg (by omega)]
            simp only [Sem.run_pure], fun ρ φ => ?_⟩
          have hj0:j≠0 := fun h => by subst h; cases hj
          have h0 := Int.natAbs_tmod z b
          rw [Int.natAbs_natCast, z3] at h0
          have hjb:j<b := by rw [←z3]; exact Nat.mod_lt _ (by omega)
          generalize z.tmod b=y at h0
          simp only [As]
          by_cases hy:0≤y
          · refine ⟨y.toNat, by omega, by omega, by simp only [Mk]; omega, ?_⟩
            rw [Ao (by simp only [Hk]; omega)]; congr 1; omega
          · refine ⟨(y+18446744073709551616).toNat, by omega, by omega, by simp only [Mk]; omega, ?_⟩
            rw [CA (by simp only [Hk]; omega)]; congr 1; simp only [Mk]; omega
      | true =>
      rw [hm] at hg
      refine ⟨_, rfl, fun ρ φ X Y hX hY => ?_⟩
      have hb1 := Aa.1 hb1
      have hb2:b+1≤9223372036854775808 := Aa.1 hb2
      have hm:m=18446744073709551616+b := Nat.eq_of_beq_eq_true hm
      simp only [As] at hX
      obtain ⟨z, rfl, z1, z2, z3, z4, _⟩ := hX
      have hY:(b<Mk .i64∧Y = .int .i64 (C9 .i64 b)) := by simpa only [As] using hY
      obtain ⟨_, rfl⟩ := hY
      have hz := z4 (by omega) (by omega)
      have z3:z.natAbs % (m % 18446744073709551616)=j := by
        rcases z3 with ⟨_, z3⟩ | ⟨z3, _⟩
        · exact z3
        · omega
      have e6:m % 18446744073709551616=b := by omega
      rw [e6] at z3
      obtain ⟨r, rfl⟩:∃ r:Nat, z=r := ⟨z.toNat, by omega⟩
      have hr:r<Hk .i64 := by simp only [Hk]; omega
      have h := TX (b := b) hr (by simp only [Hk]; omega) hb1
      rw [Ao hr] at h
      have e7:r % b=j := by rw [←z3, Int.natAbs_natCast]
      rw [e7] at h
      exact ⟨.i64, _, _, rfl, rfl, h⟩
    · have e0:Qt .rem x y κ (Gj .rem x y κ)=Gj .rem x y κ := e0
      rw [e0] at hg ⊢
      exact LO hg
  · have e0:Qt op x y κ (Gj op x y κ)=Gj op x y κ := by cases op <;> first | rfl | exact absurd rfl hop
    rw [e0] at hg ⊢
    exact LO hg
theorem MV (v:V) (κ:IntKind->Nat->R) (e:R):(∃ k i, v = .oth (.sy k i)∧XZ v κ e=κ k i)∨XZ v κ e=e := by
  cases v with
  | oth o =>
    rcases P4 o κ e with ⟨k, i, rfl, h⟩ | h
    · exact .inl ⟨k, i, rfl, h⟩
    · exact .inr h
  | _ => exact .inr rfl
theorem IJ (x y:V) (a e:R):(∃ k i, x = .oth (.sy k i)∧y = .oth (.sy k i)∧Kz x y a e=a)∨Kz x y a e=e := by
  unfold Kz
  rcases MV x (fun k i => XZ y (fun j i' => br (Bk k j) (br (Nat.beq i i') a e) e) e) e with ⟨k, i, rfl, h⟩ | h
  · rw [h]
    rcases MV y (fun j i' => br (Bk k j) (br (Nat.beq i i') a e) e) e with ⟨j, i', rfl, h'⟩ | h'
    · rw [h']
      cases hk:Bk k j with
      | false => exact .inr rfl
      | true =>
        cases hi:Nat.beq i i' with
        | false => exact .inr rfl
        | true =>
          obtain rfl := AL.1 hk
          obtain rfl := Nat.eq_of_beq_eq_true hi
          exact .inl ⟨k, i, rfl, rfl, rfl⟩
    · rw [h']; exact .inr rfl
  · rw [h]; exact .inr rfl
theorem Sx {op:BinOp} {x y:V} {κ:V->R} (hg:(JT op x y κ).good):∃ v, JT op x y κ=κ v ∧ ∀ (ρ:Env) (φ:AT) X Y, As ρ φ x X->As ρ φ y Y →
    ∃ k p q, X = .int k p∧Y = .int k q∧DY op X Y v := by
  unfold JT at hg ⊢
  by_cases h1:op = .eql
  · subst h1
    rcases IJ x y (κ (.bool true)) (Qt .eql x y κ (Gj .eql x y κ)) with ⟨k, i, rfl, rfl, e⟩ | e
    · refine ⟨_, e, fun ρ φ X Y hX hY => ?_⟩
      simp only [As] at hX hY
      obtain ⟨h1, r, hr, h2⟩ := hX
      obtain rfl:Y=X := hY.1.trans h1.symm
      subst h2
      exact ⟨k, _, _, rfl, rfl, .bool true, fun P t w => by rw [binOp_eql, Sem.run_pure, beq_self_eq_true], fun ρ φ => BX _ ρ φ⟩
    · have e:ZD .eql x y κ (Qt .eql x y κ (Gj .eql x y κ))=Qt .eql x y κ (Gj .eql x y κ) := e
      rw [e] at hg ⊢
      exact Kk hg
  by_cases h2:op = .neq
  · subst h2
    rcases IJ x y (κ (.bool false)) (Qt .neq x y κ (Gj .neq x y κ)) with ⟨k, i, rfl, rfl, e⟩ | e
    · refine ⟨_, e, fun ρ φ X Y hX hY => ?_⟩
      simp only [As] at hX hY
      obtain ⟨h1, r, hr, h2⟩ := hX
      obtain rfl:Y=X := hY.1.trans h1.symm
      subst h2
      exact ⟨k, _, _, rfl, rfl, .bool false, fun P t w => by rw [binOp_neq, Sem.run_pure, bne_self_eq_false], fun ρ φ => BX _ ρ φ⟩
    · have e:ZD .neq x y κ (Qt .neq x y κ (Gj .neq x y κ))=Qt .neq x y κ (Gj .neq x y κ) := e
      rw [e] at hg ⊢
      exact Kk hg
  have e:ZD op x y κ (Qt op x y κ (Gj op x y κ))=Qt op x y κ (Gj op x y κ) := by cases op <;> first | rfl | exact absurd rfl h1 | exact absurd rfl h2
  rw [e] at hg ⊢
  exact Kk hg
theorem D0 {op:BinOp} {ty yt:TypeId} {x y:Operand} {x' y':Opd} (ho:o.op = .binOp op ty x y yt) (hx:AH N x=some x') (hy:AH N y=some y') :
    Bf P ρ B N o (KA op x' y' cf t h n) t h n := by
  intro κ hg
  have e:KA op x' y' cf t h n κ=Lf op (ev x' t) (ev y' t) fun r => κ r h n := by simp only [KA, AD]
  rw [e] at hg
  have key:∀ φ a, TR ρ N φ t a->∃ X Y, a.eval x=X∧a.eval y=Y∧As ρ φ (ev x' t) X∧As ρ φ (ev y' t) Y := fun φ a ht => ⟨_, _, rfl, rfl, Ad hx ht, Ad hy ht⟩
  rcases Rx hg with ⟨k, a, j, b, hxv, hyv, e'⟩ | ⟨n', c, m, d, hxv, hyv, e'⟩ | e' | ⟨l0, l1, n', c, m, d, hxv, hyv, e'⟩
  · by_cases hab:a<Mk k∧b<Mk j
    · rw [e'] at hg
      obtain ⟨v, e2, r, hr, hv⟩ := Gl op k a j b _ hab.1 hab.2 hg
      refine ⟨v, e.trans (e'.trans e2), fun φ ac w ht hg => ⟨r, ?_, hv ρ φ⟩⟩
      obtain ⟨X, Y, hX, hY, rX, rY⟩ := key φ ac ht
      rw [hxv] at rX; rw [hyv] at rY
      obtain ⟨_, rfl⟩ := Cz rX
      obtain ⟨_, rfl⟩ := Cz rY
      refine Ix ho ?_ ?_
      · rw [hX, hY, eqGuard_at_int]
      · rw [hX, hY]; exact hr P ty w
    · -- no world has such a residue
      rw [e'] at hg
      have hv:∃ v, Lp op k a j b (fun r => κ r h n)=κ v h n := by
        have gk:∀ (f:V->R) (c:Nat->V) (m:Nat), Ab m (fun r => f (c r))=f (c m) := fun f c m => A9 _ _
        cases op <;> (simp only [Lp, Ve, N2, US, R3, Lc, QO, M2, Tj, XK, S3, OV, T4, Rg, Zv, Zx, Zz, ZE, Zu, ZG, Ng, A9, Bu] at hg ⊢)
        all_goals
          repeat' first
            | exact ⟨_, rfl⟩
            | (obtain ⟨_, ee⟩ := Ae hg; rw [ee] at hg ⊢)
            | exact Xl (f := fun v => κ v h n)
            | (cases hbr:Nat.ble (Nat.succ a) (Hk k) <;> rw [hbr] at hg <;> simp only [hbr, Ac, Aq] at hg ⊢)
      obtain ⟨v, hv⟩ := hv
      refine ⟨v, e.trans (e'.trans hv), fun φ ac w ht hg => ?_⟩
      obtain ⟨X, Y, hX, hY, rX, rY⟩ := key φ ac ht
      rw [hxv] at rX; rw [hyv] at rY
      exact absurd ⟨(Cz rX).1, (Cz rY).1⟩ hab
  · by_cases hw:∃ s u:ByteArray, n'=s.size∧c=Au s.data.toList∧m=u.size∧d=Au u.data.toList
    · obtain ⟨s, u, rfl, rfl, rfl, rfl⟩ := hw
      rw [e'] at hg
      obtain ⟨v, e2, r, hr, hv⟩ := RQ op s u _ hg
      refine ⟨v, e.trans (e'.trans e2), fun φ ac w ht hg => ⟨r, ?_, hv ρ φ⟩⟩
      obtain ⟨X, Y, hX, hY, rX, rY⟩ := key φ ac ht
      rw [hxv] at rX; rw [hyv] at rY
      obtain ⟨s', rfl, h1, h2⟩ := Cy rX
      obtain ⟨u', rfl, h3, h4⟩ := Cy rY
      have es:s'=s := by
        have := IR (a := s'.data.toList) (b := s.data.toList) (by rw [C1, C1, h1]) h2
        cases s'; cases s; simp at this; rw [this]
      have eu:u'=u := by
        have := IR (a := u'.data.toList) (b := u.data.toList) (by rw [C1, C1, h3]) h4
        cases u'; cases u; simp at this; rw [this]
      subst es eu
      refine Ix ho ?_ ?_
      · rw [hX, hY, eqGuard_at_string]
      · rw [hX, hY]; exact hr P ty w
    · rw [e'] at hg
      have hv:∃ v, JD op n' c m d (fun r => κ r h n)=κ v h n := by
        cases op <;> first
          | exact hg.elim
          | (simp only [JD, WL, Wz, sne, slt, sge, A9, Bu] at hg ⊢)
        · obtain ⟨_, ee⟩ := Ae hg; rw [ee]; exact ⟨_, rfl⟩
        · exact ⟨_, rfl⟩
        · cases DE n' c m d <;> exact ⟨_, rfl⟩
        · exact ⟨_, rfl⟩
        · cases Po n' c m d <;> exact ⟨_, rfl⟩
      obtain ⟨v, hv⟩ := hv
      refine ⟨v, e.trans (e'.trans hv), fun φ ac w ht hg => ?_⟩
      obtain ⟨X, Y, hX, hY, rX, rY⟩ := key φ ac ht
      rw [hxv] at rX; rw [hyv] at rY
      obtain ⟨s', rfl, h1, h2⟩ := Cy rX
      obtain ⟨u', rfl, h3, h4⟩ := Cy rY
      exact absurd ⟨s', u', h1.symm, h2.symm, h3.symm, h4.symm⟩ hw
  · rw [e'] at hg
    obtain ⟨v, e2, H⟩ := Sx hg
    refine ⟨v, e.trans (e'.trans e2), fun φ ac w ht hg => ?_⟩
    obtain ⟨X, Y, hX, hY, rX, rY⟩ := key φ ac ht
    obtain ⟨k, p, q, rfl, rfl, r, hr, hv⟩ := H ρ φ X Y rX rY
    refine ⟨r, Ix ho ?_ ?_, hv ρ φ⟩
    · rw [hX, hY, eqGuard_at_int]
    · rw [hX, hY]; exact hr P ty w
  · rw [e'] at hg
    unfold Q2 at hg e'
    obtain ⟨hne, e2⟩ := Ae hg
    rw [e2] at hg
    have ne:∀ φ ac, TR ρ N φ t ac->∃ s u:ByteArray, ac.eval x = .string s∧ac.eval y = .string u∧(s.toList == u.toList)=false := fun φ ac ht => by
      obtain ⟨X, Y, hX, hY, rX, rY⟩ := key φ ac ht
      rw [hxv] at rX; rw [hyv] at rY
      simp only [As] at rX
      obtain ⟨s, rfl, k1, k2, k3⟩ := rX
      obtain ⟨u, rfl, k4, k5⟩ := Cy rY
      refine ⟨s, u, hX, hY, ?_⟩
      rw [Bool.eq_false_iff]
      intro hc
      have hc := eq_of_beq hc
      have hsu:s=u := by
        rw [ByteArray.toList_eq, ByteArray.toList_eq] at hc
        cases s; cases u; simp at hc; rw [hc]
      subst hsu
      rw [k4] at k1 k2 k3
      rw [k5] at k3
      rw [Aa.2 k1, Aa.2 k2] at hne
      simp only [Ac] at hne
      cases h1:Nat.beq m n' with
      | false => rw [h1] at hne; cases hne
      | true =>
        rw [h1, Ac] at hne
        exact k3 ⟨Nat.eq_of_beq_eq_true h1, Nat.eq_of_beq_eq_true hne⟩
    cases op with
    | eql =>
      refine ⟨.bool false, e.trans (e'.trans e2), fun φ ac w ht hg => ⟨.bool false, ?_, BX _ ρ φ⟩⟩
      obtain ⟨s, u, hX, hY, hn⟩ := ne φ ac ht
      refine Ix ho (by rw [hX, hY, eqGuard_at_string]) ?_
      rw [hX, hY, show (Go.binOp .eql ty (.string s) (.string u)).run P w = .ok (.bool (s.toList == u.toList)) w from rfl, hn]
    | neq =>
      refine ⟨.bool true, e.trans (e'.trans e2), fun φ ac w ht hg => ⟨.bool true, ?_, BX _ ρ φ⟩⟩
      obtain ⟨s, u, hX, hY, hn⟩ := ne φ ac ht
      refine Ix ho (by rw [hX, hY, eqGuard_at_string]) ?_
      rw [hX, hY, show (Go.binOp .neq ty (.string s) (.string u)).run P w = .ok (.bool !(s.toList == u.toList)) w from rfl, hn]; rfl
    | _ => exact hg.elim
end
end Go.Ev

namespace Go.Ev
set_option linter.unusedVariables false
section
variable {P:Program} {ρ:Env} {B N:Nat} {o:Oper} {cf:CF} {t:Regs} {h:Heap} {n:K4}
theorem Il {ty:TypeId} {x y:Operand} {X Y:Value} {op:BinOp} (hg:P.eqGuardType P.depth ty=false) (hX:X ≠ .nilIface) (w:World):(eqGuard op ty x y X Y).run P w = .ok () w := by
  unfold eqGuard
  cases op <;> simp <;> (split <;> first | (exact absurd rfl hX) | simp [hg] | simp)
theorem Lb {ty:TypeId} {X Y:Value} {w:World} {r:Bool} (hr:(Op.equal ty X Y).run P w = .ok r w) (hX:(∃ b, X = .bool b)∨(∃ a, X = .agg a)∨(∃ a, X = .pointer a)∨(∃ a b c, X = .slice a b c)∨(∃ a, X = .map a)∨(∃ a b c, X = .func a b c)∨X = .nilFunc) :
    (Go.binOp .eql ty X Y).run P w = .ok (.bool r) w∧(Go.binOp .neq ty X Y).run P w = .ok (.bool !r) w := by
  rcases hX with ⟨b, rfl⟩ | ⟨a, rfl⟩ | ⟨a, rfl⟩ | ⟨a, b, c, rfl⟩ | ⟨a, rfl⟩ | ⟨a, b, c, rfl⟩ | rfl <;> (constructor <;> (unfold Go.binOp; simp [hr]))
theorem Rw {pl:Plan} {ty:TypeId} (hp:KG P ty=some pl) {x y:V} {κ:Bool->R} (hg:(L3 pl x y κ).good) {φ:AT} {X:Value} (hX:As ρ φ x X) :
    (∃ b, X = .bool b)∨(∃ a, X = .agg a)∨(∃ a, X = .pointer a)∨(∃ a b c, X = .slice a b c)∨(∃ a, X = .map a)∨(∃ a b c, X = .func a b c)∨X = .nilFunc := by
  have ref:∀ u, u ≠ .iface->(JG u x y κ).good->(∃ b, X = .bool b)∨(∃ a, X = .agg a)∨(∃ a, X = .pointer a)∨(∃ a b c, X = .slice a b c)∨(∃ a, X = .map a)∨(∃ a b c, X = .func a b c)∨X = .nilFunc := fun u hu hg => by
    rcases GJ (ρ := ρ) (φ := φ) (show R.good (GM u x _ _) from hg) with ⟨rfl, _⟩ | ⟨_, hx⟩
    · rw [Cd hX]
      cases u <;> simp [Ci] at hu ⊢
    · have := hx X hX
      cases u with
      | ptr => obtain ⟨a, rfl⟩ := this; exact .inr (.inr (.inl ⟨_, rfl⟩))
      | sl => obtain ⟨a, b, c, rfl⟩ := this; exact .inr (.inr (.inr (.inl ⟨_, _, _, rfl⟩)))
      | map => obtain ⟨a, rfl⟩ := this; exact .inr (.inr (.inr (.inr (.inl ⟨_, rfl⟩))))
      | fn => obtain ⟨a, b, c, rfl⟩ := this; exact .inr (.inr (.inr (.inr (.inr (.inl ⟨_, _, _, rfl⟩)))))
      | iface => exact absurd rfl hu
  unfold KG at hp
  split at hp
  · cases hp
    obtain ⟨b, rfl, _⟩ := Fb (show R.good (P3 x _) from hg)
    exact .inl ⟨b, Ez hX⟩
  · split at hp
    · cases hp
    · cases ho:H9 P _ with
      | none => rw [ho] at hp; cases hp
      | some offs =>
        rw [ho] at hp; cases hp
        obtain ⟨a, rfl, _⟩ := CR (show R.good (asAgg x _) from hg)
        obtain ⟨xs, rfl, _⟩ := Er hX
        exact .inr (.inl ⟨_, rfl⟩)
  · split at hp
    · cases hp; exact ref .ptr (by simp) hg
    · cases hp
  · cases hp; exact ref .sl (by simp) hg
  · cases hp; exact ref .map (by simp) hg
  · cases hp; exact ref .fn (by simp) hg
  · cases hp
theorem IP {neg:Bool} {pl:Plan} {ty yt:TypeId} {x y:Operand} {x' y':Opd} (ho:o.op = .binOp (if neg then .neq else .eql) ty x y yt) (hx:AH N x=some x') (hy:AH N y=some y')
    (hp:KG P ty=some pl) (hgd:P.eqGuardType P.depth ty=false):Bf P ρ B N o (Rk neg pl x' y' cf t h n) t h n := by
  intro κ hg
  have e:Rk neg pl x' y' cf t h n κ=L3 pl (ev x' t) (ev y' t) fun r => br neg (br r (κ (.bool false) h n) (κ (.bool true) h n)) (κ (.bool r) h n) := by simp only [Rk, AD]
  rw [e] at hg
  obtain ⟨r, g1, _⟩ := Jx (ρ := ρ) (φ := fun _ => none) hp hg
  refine ⟨.bool (if neg then !r else r), e.trans ((g1 _).trans (by cases neg <;> cases r <;> rfl)), fun φ a w ht hG => ⟨.bool (if neg then !r else r), ?_, BX _ ρ φ⟩⟩
  obtain ⟨r', g2, g3⟩ := Jx (ρ := ρ) (φ := φ) hp hg
  have hrr:r'=r := by
    have e1 := g1 (fun q => R.rv (.bool q) AJ ⟨.d0, .d0, .d0, .d0⟩)
    rw [g2] at e1
    simpa using e1
  subst hrr
  have hX := Ad hx ht
  have hY := Ad hy ht
  have hsh := Rw hp hg hX
  have hrun := Lb (g3 _ _ w hX hY) hsh
  have hne:a.eval x ≠ .nilIface := by
    rcases hsh with ⟨b, e⟩ | ⟨b, e⟩ | ⟨b, e⟩ | ⟨b, c, d, e⟩ | ⟨b, e⟩ | ⟨b, c, d, e⟩ | e <;> rw [e] <;> simp
  cases neg
  · simp only [Bool.false_eq_true, if_false] at ho ⊢
    simp only [execOp, ho, Sem.run_bind, Il hgd hne, Result.andThen_ok, hrun.1, Sem.run_pure]
  · simp only [if_true] at ho ⊢
    simp only [execOp, ho, Sem.run_bind, Il hgd hne, Result.andThen_ok, hrun.2, Sem.run_pure]
theorem Lu {ty:TypeId} {x:Operand} {x':Opd} (ho:o.op = .unOp .not ty x) (hx:AH N x=some x'):Bf P ρ B N o (ME x' cf t h n) t h n := by
  intro κ hg
  have e:ME x' cf t h n κ=P3 (ev x' t) fun q => br q (κ (.bool false) h n) (κ (.bool true) h n) := by simp only [ME, AD]
  rw [e] at hg
  obtain ⟨b, hb, e'⟩ := Fb hg
  refine ⟨.bool !b, e.trans (e'.trans (by cases b <;> rfl)), fun φ a w ht hg => ⟨.bool !b, ?_, BX _ ρ φ⟩⟩
  have h1 := Ad hx ht
  rw [hb] at h1
  simp [execOp, ho, Ez h1, Op.unary]
theorem Mn {ty:TypeId} {x:Operand} {x':Opd} (ho:o.op = .unOp .neg ty x) (hx:AH N x=some x'):Bf P ρ B N o (MK x' cf t h n) t h n := by
  intro κ hg
  have e:MK x' cf t h n κ=GS (ev x' t) fun k r => N2 k 0 k r fun v => κ v h n := by simp only [MK, AD]
  rw [e] at hg
  obtain ⟨k, r, hb, e'⟩ := CI hg
  have hk:Bk k k=true := AL.2 rfl
  have e2:(N2 k 0 k r fun v => κ v h n)=κ (.int k ((0+(Mk k - r)) % Mk k)) h n := by
    unfold N2; rw [hk, Ac, A9]; rfl
  refine ⟨.int k ((0+(Mk k - r)) % Mk k), e.trans (e'.trans e2), fun φ a w ht hg => ⟨.int k (C9 k ((0+(Mk k - r)) % Mk k)), ?_, Ey k _ (Nat.mod_lt _ (DS k)) ρ φ⟩⟩
  have h1 := Ad hx ht
  rw [hb] at h1
  obtain ⟨hr, h1⟩ := Cz h1
  have h0:(0:Int)=C9 k 0 := by rw [Ao (by cases k <;> simp [Hk])]; rfl
  simp only [execOp, ho, h1, Op.unary, Op.intArith, Sem.run_bind, Sem.run_pure, Result.andThen_ok]
  rw [h0, Oc k 0 r hr]
theorem Lz {ty:TypeId} {x:Operand} {x':Opd} (ho:o.op = .unOp .xor ty x) (hx:AH N x=some x'):Bf P ρ B N o (Ms x' cf t h n) t h n := by
  intro κ hg
  have e:Ms x' cf t h n κ=GS (ev x' t) fun k r => κ (.int k (Nat.xor (Nat.sub (Mk k) 1) r)) h n := by simp only [Ms, AD, A9]
  rw [e] at hg
  obtain ⟨k, r, hb, e'⟩ := CI hg
  by_cases hr:r<Mk k
  · have hl:Nat.xor (Mk k - 1) r<Mk k := TH k _ _ (by have := DS k; omega) hr
    refine ⟨_, e.trans e', fun φ a w ht hg => ⟨.int k (C9 k (Nat.xor (Mk k - 1) r)), ?_, Ey k _ hl ρ φ⟩⟩
    have h1 := Ad hx ht
    rw [hb] at h1
    obtain ⟨_, h1⟩ := Cz h1
    have hm:(if k.signed then -1 else k.max:Int)=C9 k (Mk k - 1) := by
      cases k <;> simp [IntKind.signed, IntKind.max, IntKind.bits, C9, Mk, Hk]
    simp only [execOp, ho, h1, Op.unary, Op.intBits, hm, BitVec.toNat_xor, bv _ _ hr, bv k (Mk k - 1) (by have := DS k; omega), Sem.run_bind, Sem.run_pure, Result.andThen_ok]
    rw [Fn k ((Mk k - 1) ^^^ r) hl]; rfl
  · refine ⟨_, e.trans e', fun φ a w ht hg => ?_⟩
    have h1 := Ad hx ht
    rw [hb] at h1
    exact absurd (Cz h1).1 hr
theorem WA (j k:IntKind) (r:Nat) (hr:r<Mk j) :
    k.wrap (C9 j r)=C9 k (if r<Hk j then r % Mk k else if Mk k≤Mk j then r % Mk k else Mk k - (Mk j - r)) := by
  apply GC
  by_cases h1:r<Hk j
  · rw [Ao h1, if_pos h1, ←Int.natCast_emod]
  · rw [CA h1, if_neg h1]
    cases j <;> cases k <;> simp only [Mk, Hk] at * <;> (try simp) <;> omega
theorem LI {src dst:TypeId} {j k:IntKind} {x:Operand} {x':Opd} (ho:o.op = .convert src dst x) (hx:AH N x=some x') (hs:P.underlying src=some (.int j)) (hd:P.underlying dst=some (.int k)) :
    Bf P ρ B N o (M9 k x' cf t h n) t h n := by
  intro κ hg
  have e:M9 k x' cf t h n κ=GS (ev x' t) fun j r => br (Nat.ble (Nat.succ r) (Hk j)) (κ (.int k (Nat.mod r (Mk k))) h n) (br (Nat.ble (Mk k) (Mk j)) (κ (.int k (Nat.mod r (Mk k))) h n) (κ (.int k (Nat.sub (Mk k) (Nat.sub (Mk j) r))) h n)) := by
    simp only [M9, AD, A9]
  rw [e] at hg
  obtain ⟨i, r, hb, e'⟩ := CI hg
  have e2:br (Nat.ble (Nat.succ r) (Hk i)) (κ (.int k (Nat.mod r (Mk k))) h n) (br (Nat.ble (Mk k) (Mk i)) (κ (.int k (Nat.mod r (Mk k))) h n) (κ (.int k (Nat.sub (Mk k) (Nat.sub (Mk i) r))) h n)) =
      κ (.int k (if r<Hk i then r % Mk k else if Mk k≤Mk i then r % Mk k else Mk k - (Mk i - r))) h n := by
    by_cases h1:r<Hk i
    · rw [Aa.2 h1, Ac, if_pos h1]; rfl
    · rw [AS (by omega), Aq, if_neg h1]
      by_cases h2:Mk k≤Mk i
      · rw [Aa.2 h2, Ac, if_pos h2]; rfl
      · rw [AS (by omega), Aq, if_neg h2]; rfl
  refine ⟨_, e.trans (e'.trans e2), fun φ a w ht hg => ?_⟩
  have h1 := Ad hx ht
  rw [hb] at h1
  obtain ⟨hr, h1⟩ := Cz h1
  refine ⟨_, ?_, Ey k _ ?_ ρ φ⟩
  · simp only [execOp, ho, h1, convert, Sem.run_bind, run_underlying hs, run_underlying hd, Result.andThen_ok, Conv.intToInt, Sem.run_pure]
    rw [WA i k r hr]
  · have := DS k
    split
    · exact Nat.mod_lt _ this
    · split
      · exact Nat.mod_lt _ this
      · omega
theorem LL {src dst:TypeId} {x:Operand} {x':Opd} (ho:o.op = .convert src dst x) (hx:AH N x=some x') (hs:P.underlying src=some .string) (hd:P.underlying dst=some .string) :
    Bf P ρ B N o (MM x' cf t h n) t h n := by
  intro κ hg
  have e:MM x' cf t h n κ=Be (ev x' t) fun _ _ => κ (ev x' t) h n := by simp only [MM, AD]
  rw [e] at hg
  obtain ⟨m, c, hb, e'⟩ := Ce hg
  refine ⟨_, e.trans e', fun φ a w ht hg => ⟨a.eval x, ?_, Ad hx ht⟩⟩
  have h1 := Ad hx ht
  rw [hb] at h1
  obtain ⟨s, h1, _⟩ := Cy h1
  simp [execOp, ho, h1, convert, run_underlying hs, run_underlying hd]
theorem KN {f:Nat} {caps:Array Operand} {l:List Opd} (ho:o.op = .makeFunc (.func f) #[] caps) (hl:Bw N caps.toList=some l):Bf P ρ B N o (Pz f l cf t h n) t h n :=
  Kr (v := .fn f (l.map (ev · t))) (fun κ => by simp only [Pz, FD]) fun φ a w ht hg => ⟨.func (.func f) #[] (caps.map a.eval), by simp [execOp, ho, Instr.makeFunc], by
    simp only [As]; exact ⟨_, rfl, by simpa using F0 hl ht⟩⟩
theorem MA {i:Nat} {x:Operand} {x':Opd} (ho:o.op = .extract x i) (hx:AH N x=some x'):Bf P ρ B N o (MT i x' cf t h n) t h n := by
  intro κ hg
  have e:MT i x' cf t h n κ=KE (ev x' t) fun l => DL i l fun v => κ v h n := by simp only [MT, AD]
  rw [e] at hg
  obtain ⟨l, hb, e'⟩ := KZ hg
  rw [e'] at hg
  obtain ⟨v, hv, e2⟩ := EX hg
  refine ⟨v, e.trans (e'.trans e2), fun φ a w ht hg => ?_⟩
  have h1 := Ad hx ht
  rw [hb] at h1
  obtain ⟨cs, h1, hl⟩ := Q8 h1
  obtain ⟨X, hX, hr⟩ := (Cr.1 hl).2 i v hv
  exact ⟨X, by simp [execOp, ho, h1, Instr.extract, show cs[i]? = some X by simpa using hX], hr⟩
theorem Dv {v:V} {κ:Nat->R} (h:(IW v κ).good):∃ k r, v = .int k r∧r<Hk k∧IW v κ=κ r := by
  obtain ⟨k, r, rfl, e⟩ := CI (show R.good (GS v _) from h)
  have h:R.good (br (Nat.ble (Nat.succ r) (Hk k)) (κ r) (.fail "")) := h
  obtain ⟨h1, e1⟩ := Ae h
  exact ⟨k, r, rfl, Bq h1, e1⟩
theorem Eg {φ:AT} {k:IntKind} {r:Nat} (hr:r<Hk k) {X:Value} (h:As ρ φ (.int k r) X):X = .int k (r:Int) := by rw [(Cz h).2, Ao hr]
theorem LF {s:TypeId} {f:Nat} {fs:Array Field} {fd:Field} {x:Operand} {x':Opd} (ho:o.op = .fieldAddr s x f) (hx:AH N x=some x') (hs:P.underlying s=some (.struct fs)) (hf:fs[f]? = some fd) {sz:Nat} (hsz:Bj P fd.type=some (sz+1)) :
    Bf P ρ B N o (MH fd.offset x' cf t h n) t h n := by
  intro κ hg
  have e:MH fd.offset x' cf t h n κ=L5 (ev x' t) (fun p o => κ (.ptr p (Nat.add o fd.offset)) h n) (fun o => RJ o (fun i j m => br (Nat.ble (Nat.succ fd.offset) m) (κ (.oth (.ap i (Nat.add j fd.offset) (Nat.sub m fd.offset))) h n) (.fail "")) (KR o (fun l => br (Nat.ble (Nat.succ fd.offset) l.length) (κ (.oth (.rp (l.drop fd.offset))) h n) (.fail "")) (.fail ""))) := by simp only [MH, AD, A9]
  rw [e] at hg
  rcases HX hg with ⟨p, off, hb, e'⟩ | ⟨oo, hb, e'⟩
  rotate_left
  · rw [e'] at hg
    cases oo with
    | ap i j m =>
      have hg':R.good (br (Nat.ble (Nat.succ fd.offset) m) (κ (.oth (.ap i (Nat.add j fd.offset) (Nat.sub m fd.offset))) h n) (.fail "")) := hg
      obtain ⟨h1, e1⟩ := Ae hg'
      have h1 := Bq h1
      refine ⟨_, e.trans (e'.trans e1), fun φ a w ht hg => ?_⟩
      have h2 := Ad hx ht
      rw [hb] at h2
      simp only [As] at h2
      obtain ⟨b, q, c, e2, fr, h2, c1, c2⟩ := h2
      refine ⟨.pointer (some ⟨b, q+fd.offset, none⟩), ?_, ?_⟩
      · have hfp:(fieldPlace ⟨b, q, none⟩ fd).run P w = .ok ⟨b, q+fd.offset, none⟩ w := by
          unfold fieldPlace
          simp [Ch, AM hsz]
        simp [execOp, ho, h2, Instr.fieldAt, run_underlying hs, hf, Instr.sureAddr, hfp]
      · simp only [As]
        refine ⟨b, q+fd.offset, c, e2, fr, rfl, c1, fun j' hj => ?_⟩
        have hj:j'<m - fd.offset := hj
        obtain ⟨y, y1, y2⟩ := c2 (fd.offset+j') (by omega)
        refine ⟨y, by rw [Nat.add_assoc]; exact y1, ?_⟩
        have e5:Nat.add j fd.offset+j'=j+(fd.offset+j') := Nat.add_assoc ..
        rw [e5]; exact y2
    | rp l =>
      have hg':R.good (br (Nat.ble (Nat.succ fd.offset) l.length) (κ (.oth (.rp (l.drop fd.offset))) h n) (.fail "")) := hg
      obtain ⟨h1, e1⟩ := Ae hg'
      have h1 := Bq h1
      refine ⟨_, e.trans (e'.trans e1), fun φ a w ht hg => ?_⟩
      have h2 := Ad hx ht
      rw [hb] at h2
      simp only [As] at h2
      obtain ⟨b, q, c, e2, fr, h2, c1, c2⟩ := h2
      refine ⟨.pointer (some ⟨b, q+fd.offset, none⟩), ?_, ?_⟩
      · have hfp:(fieldPlace ⟨b, q, none⟩ fd).run P w = .ok ⟨b, q+fd.offset, none⟩ w := by
          unfold fieldPlace
          simp [Ch, AM hsz]
        simp [execOp, ho, h2, Instr.fieldAt, run_underlying hs, hf, Instr.sureAddr, hfp]
      · simp only [As]
        refine ⟨b, q+fd.offset, c, e2, fr, rfl, c1, fun j v hv => ?_⟩
        rw [List.getElem?_drop] at hv
        obtain ⟨y, y1, y2⟩ := c2 (fd.offset+j) v hv
        exact ⟨y, by rw [Nat.add_assoc]; exact y1, y2⟩
    | _ => exact hg.elim
  refine ⟨_, e.trans e', fun φ a w ht hg => ?_⟩
  have h1 := Ad hx ht
  rw [hb] at h1
  obtain ⟨b, sh, tot, hp, h1⟩ := D9 h1
  refine ⟨.pointer (some ⟨b, sh+(off+fd.offset), none⟩), ?_, by simp only [As]; exact ⟨b, sh, tot, hp, rfl⟩⟩
  have hfp:(fieldPlace ⟨b, sh+off, none⟩ fd).run P w = .ok ⟨b, sh+(off+fd.offset), none⟩ w := by
    unfold fieldPlace
    simp [Ch, Nat.add_assoc, AM hsz]
  simp [execOp, ho, h1, Instr.fieldAt, run_underlying hs, hf, Instr.sureAddr, hfp]
theorem MR {s:TypeId} {f:Nat} {fs:Array Field} {fd:Field} {ag:Bool} {sz:Nat} {x:Operand} {x':Opd} (ho:o.op = .field s x f) (hx:AH N x=some x') (hs:P.underlying s=some (.struct fs)) (hf:fs[f]? = some fd)
    (ha:KO P fd.type=some ag) (hsz:Bj P fd.type=some sz):Bf P ρ B N o (MI fd.offset sz ag x' cf t h n) t h n := by
  intro κ hg
  have e:MI fd.offset sz ag x' cf t h n κ=asAgg (ev x' t) fun l => br ag (Du fd.offset l fun r => D6 sz r fun r => κ (.agg r) h n) (DL fd.offset l fun v => κ v h n) := by simp only [MI, AD]
  rw [e] at hg
  obtain ⟨l, hb, e'⟩ := CR hg
  rw [e'] at hg
  cases ag with
  | true =>
    have hg:R.good (Du fd.offset l fun r => D6 sz r fun r => κ (.agg r) h n) := hg
    obtain ⟨_, e2⟩ := Fm hg
    rw [e2] at hg
    obtain ⟨h3, e3⟩ := F8 hg
    refine ⟨.agg ((l.drop fd.offset).take sz), e.trans (e'.trans (e2.trans e3)), fun φ a w ht hg => ?_⟩
    have h1 := Ad hx ht
    rw [hb] at h1
    obtain ⟨cs, h1, hl, h2⟩ := Er h1
    refine ⟨.agg (cs.extract fd.offset (fd.offset+sz)), by simp [execOp, ho, h1, Instr.field, run_underlying hs, hf, Go.asAgg, part, Cq ha, AM hsz], ?_⟩
    simp only [As]
    have hx:(cs.extract fd.offset (fd.offset+sz)).toList=(cs.toList.drop fd.offset).take sz := by simp
    exact ⟨_, rfl, by rw [hx]; exact Jb (J3 hl _) _, fun y hy => h2 y (by rw [hx] at hy; exact List.mem_of_mem_drop (List.mem_of_mem_take hy))⟩
  | false =>
    have hg:R.good (DL fd.offset l fun v => κ v h n) := hg
    obtain ⟨v, hv, e2⟩ := EX hg
    refine ⟨v, e.trans (e'.trans e2), fun φ a w ht hg => ?_⟩
    have h1 := Ad hx ht
    rw [hb] at h1
    obtain ⟨cs, h1, hl, h2⟩ := Er h1
    obtain ⟨X, hX, hr⟩ := (Cr.1 hl).2 _ v hv
    exact ⟨X, by simp [execOp, ho, h1, Instr.field, run_underlying hs, hf, Go.asAgg, part, Cq ha, show cs[fd.offset]? = some X by simpa using hX], hr⟩
theorem M7 {ty e:TypeId} {esz:Nat} {x i:Operand} {x' i':Opd} (ho:o.op = .indexAddr ty x i) (hx:AH N x=some x') (hi:AH N i=some i') (ht:P.underlying ty=some (.slice e)) (he:Bj P e=some esz) :
    Bf P ρ B N o (Mb esz x' i' cf t h n) t h n := by
  intro κ hg
  have e1:Mb esz x' i' cf t h n κ=IW (ev i' t) fun a => E3 (ev x' t) (.fail "") (fun p off len cap ex esz' => br (Nat.beq esz' esz) (br (Nat.ble (Nat.succ a) len) (κ (.ptr p (Nat.add off (Nat.mul a esz))) h n) (.fail "")) (.fail ""))
      (fun o => PT o (fun i lo hi z => br (Nat.beq z esz) (br (Nat.ble (Nat.succ a) lo) (κ (.oth (.ap i (Nat.mul a esz) esz)) h n) (.fail "")) (.fail "")) (JC o (fun l m z => br (Nat.beq z esz) (br (Nat.ble (Nat.succ a) m) (κ (.oth (.rp (l.drop (Nat.mul a esz)))) h n) (.fail "")) (.fail "")) (HG o (fun m c => br (Nat.beq esz 1) (br (Nat.ble (Nat.succ a) m) (κ (.oth (.rp [.i .u8 (Ev.lo (sh c a) 1)])) h n) (.fail "")) (.fail "")) (.fail "")))) := by
    simp only [Mb, AD, A9]
  rw [e1] at hg
  obtain ⟨k, r, hiv, hr, e2⟩ := Dv hg
  rw [e2] at hg
  rcases Fx hg with ⟨_, e3⟩ | ⟨p, off, len, cap, ex, esz', hxv, e3⟩ | ⟨oo, hxv, e3⟩
  · rw [e3] at hg; exact hg.elim
  rotate_left
  · rw [e3] at hg
    cases oo with
    | ro i0 l0 l1 z =>
      have hg':R.good (br (Nat.beq z esz) (br (Nat.ble (Nat.succ r) l0) (κ (.oth (.ap i0 (Nat.mul r esz) esz)) h n) (.fail "")) (.fail "")) := hg
      obtain ⟨h4, e4⟩ := Ae hg'
      rw [e4] at hg'
      obtain ⟨h5, e5⟩ := Ae hg'
      have h4 := Nat.eq_of_beq_eq_true h4
      have h5 := Bq h5
      subst h4
      refine ⟨_, e1.trans (e2.trans (e3.trans (e4.trans e5))), fun φ a w hT hg => ?_⟩
      have g1 := Ad hx hT
      have g2 := Ad hi hT
      rw [hxv] at g1; rw [hiv] at g2
      simp only [As] at g1
      obtain ⟨b, q, len, cap, c, e', fr, g1, c1, c2, c3, c4, c5⟩ := g1
      have g2 := Eg hr g2
      refine ⟨.pointer (some ⟨b, q+r*z, none⟩), ?_, ?_⟩
      · simp only [execOp, ho, g1, g2, Instr.indexAt, Go.asIntOf, Sem.run_bind, Sem.run_pure, Result.andThen_ok, run_underlying ht]
        have hc:(0:Int)≤(r:Int)∧(r:Int)<(len:Int) := by omega
        simp [hc, AM he, Ch]
      · simp only [As]
        refine ⟨b, q+r*z, c, e', fr, rfl, c4, fun j hj => ?_⟩
        have h6:r*z+j<len*z := Nat.lt_of_lt_of_le (Nat.add_lt_add_left hj _) (by rw [←Nat.succ_mul]; exact Nat.mul_le_mul_right _ (by omega))
        obtain ⟨y, y1, y2⟩ := c5 (r*z+j) h6
        exact ⟨y, by rw [Nat.add_assoc]; exact y1, y2⟩
    | rx l m z =>
      have hg':R.good (br (Nat.beq z esz) (br (Nat.ble (Nat.succ r) m) (κ (.oth (.rp (l.drop (Nat.mul r esz)))) h n) (.fail "")) (.fail "")) := hg
      obtain ⟨h4, e4⟩ := Ae hg'
      rw [e4] at hg'
      obtain ⟨h5, e5⟩ := Ae hg'
      have h4 := Nat.eq_of_beq_eq_true h4
      have h5 := Bq h5
      subst h4
      refine ⟨_, e1.trans (e2.trans (e3.trans (e4.trans e5))), fun φ a w hT hg => ?_⟩
      have g1 := Ad hx hT
      have g2 := Ad hi hT
      rw [hxv] at g1; rw [hiv] at g2
      simp only [As] at g1
      obtain ⟨ad, cap, g1, c1, c3, c4⟩ := g1
      obtain ⟨b, q, c, e', fr, rfl, c2, c4⟩ := c4 (by omega)
      have g2 := Eg hr g2
      refine ⟨.pointer (some ⟨b, q+r*z, none⟩), ?_, ?_⟩
      · simp only [execOp, ho, g1, g2, Instr.indexAt, Go.asIntOf, Sem.run_bind, Sem.run_pure, Result.andThen_ok, run_underlying ht]
        have hc:(0:Int)≤(r:Int)∧(r:Int)<(m:Int) := by omega
        simp [hc, AM he, Ch]
      · simp only [As]
        refine ⟨b, q+r*z, c, e', fr, rfl, c2, fun j v hv => ?_⟩
        rw [List.getElem?_drop] at hv
        obtain ⟨y, y1, y2⟩ := c4 (r*z+j) v hv
        exact ⟨y, by rw [Nat.add_assoc]; exact y1, y2⟩
    | rb m d =>
      have hg':R.good (br (Nat.beq esz 1) (br (Nat.ble (Nat.succ r) m) (κ (.oth (.rp [.i .u8 (Ev.lo (sh d r) 1)])) h n) (.fail "")) (.fail "")) := hg
      obtain ⟨h4, e4⟩ := Ae hg'
      rw [e4] at hg'
      obtain ⟨h5, e5⟩ := Ae hg'
      have h4 := Nat.eq_of_beq_eq_true h4
      have h5 := Bq h5
      subst h4
      refine ⟨_, e1.trans (e2.trans (e3.trans (e4.trans e5))), fun φ a w hT hg => ?_⟩
      have g1 := Ad hx hT
      have g2 := Ad hi hT
      rw [hxv] at g1; rw [hiv] at g2
      simp only [As, GK] at g1
      obtain ⟨ad, cap, g1, c1, c3, c4⟩ := g1
      obtain ⟨b, q, c, e', fr, rfl, c2, c4⟩ := c4 (by omega)
      have g2 := Eg hr g2
      refine ⟨.pointer (some ⟨b, q+r, none⟩), ?_, ?_⟩
      · simp only [execOp, ho, g1, g2, Instr.indexAt, Go.asIntOf, Sem.run_bind, Sem.run_pure, Result.andThen_ok, run_underlying ht]
        have hc:(0:Int)≤(r:Int)∧(r:Int)<(m:Int) := by omega
        simp [hc, AM he, Ch]
      · simp only [As]
        refine ⟨b, q+r, c, e', fr, rfl, c2, fun j v hv => ?_⟩
        cases j with
        | succ j => simp at hv
        | zero =>
          have hv:some (RV.i .u8 (Ev.lo (sh d r) 1))=some v := hv
          cases hv
          have hlt:d / 256 ^ r % 256<256 := Nat.mod_lt _ (by decide)
          refine ⟨_, c4 r h5, ?_⟩
          rw [TA]
          exact ⟨hlt, by rw [Ao (by simp only [Hk]; exact hlt)]⟩
    | _ => exact hg.elim
  rw [e3] at hg
  obtain ⟨h4, e4⟩ := Ae hg
  rw [e4] at hg
  obtain ⟨h5, e5⟩ := Ae hg
  have h4 := Nat.eq_of_beq_eq_true h4
  have h5 := Bq h5
  subst h4
  refine ⟨_, e1.trans (e2.trans (e3.trans (e4.trans e5))), fun φ a w hT hg => ?_⟩
  have g1 := Ad hx hT
  have g2 := Ad hi hT
  rw [hxv] at g1; rw [hiv] at g2
  obtain ⟨b, s, tot, q, cap', hp, g1, c1, c2, c3, c4⟩ := CW g1
  have g2 := Eg hr g2
  obtain ⟨c5, c6⟩ := c4 (by omega)
  refine ⟨.pointer (some ⟨b, s+(off+r*esz'), none⟩), ?_, by simp only [As]; exact ⟨b, s, tot, hp, rfl⟩⟩
  simp only [execOp, ho, g1, g2, Instr.indexAt, Go.asIntOf, Sem.run_bind, Sem.run_pure, Result.andThen_ok, run_underlying ht]
  have hc:(0:Int)≤(r:Int)∧(r:Int)<(len:Int) := by omega
  simp [hc, AM he, Ch, c5, Nat.add_assoc]
theorem MO {ty e:TypeId} {m esz:Nat} {x i:Operand} {x' i':Opd} (ho:o.op = .indexAddr ty x i) (hx:AH N x=some x') (hi:AH N i=some i') (ht:P.underlying ty=some (.array m e)) (he:Bj P e=some esz) :
    Bf P ρ B N o (LV m esz x' i' cf t h n) t h n := by
  intro κ hg
  have e1:LV m esz x' i' cf t h n κ=IW (ev i' t) fun a => JP (ev x' t) fun p off => br (Nat.ble (Nat.succ a) m) (κ (.ptr p (Nat.add off (Nat.mul a esz))) h n) (.fail "") := by
    simp only [LV, AD, A9]
  rw [e1] at hg
  obtain ⟨k, r, hiv, hr, e2⟩ := Dv hg
  rw [e2] at hg
  obtain ⟨p, off, hxv, e3⟩ := Dt hg
  rw [e3] at hg
  obtain ⟨h5, e5⟩ := Ae hg
  have h5 := Bq h5
  refine ⟨_, e1.trans (e2.trans (e3.trans e5)), fun φ a w hT hg => ?_⟩
  have g1 := Ad hx hT
  have g2 := Ad hi hT
  rw [hxv] at g1; rw [hiv] at g2
  obtain ⟨b, s, tot, hp, g1⟩ := D9 g1
  have g2 := Eg hr g2
  refine ⟨.pointer (some ⟨b, s+(off+r*esz), none⟩), ?_, by simp only [As]; exact ⟨b, s, tot, hp, rfl⟩⟩
  simp only [execOp, ho, g1, g2, Instr.indexAt, Go.asIntOf, Instr.sureAddr, Sem.run_bind, Sem.run_pure, Result.andThen_ok, run_underlying ht]
  have hc:(0:Int)≤(r:Int)∧(r:Int)<(m:Int) := by omega
  simp [hc, AM he, Ch, Nat.add_assoc]
theorem Mr {ty:TypeId} {x i:Operand} {x' i':Opd} (ho:o.op = .index ty x i) (hx:AH N x=some x') (hi:AH N i=some i') (ht:P.underlying ty=some .string) :
    Bf P ρ B N o (LQ x' i' cf t h n) t h n := by
  intro κ hg
  have e1:LQ x' i' cf t h n κ=IW (ev i' t) fun a => Be (ev x' t) fun m c => br (Nat.ble (Nat.succ a) m) (κ (.int .u8 (lo (sh c a) 1)) h n) (.fail "") := by
    simp only [LQ, AD, A9]
  rw [e1] at hg
  obtain ⟨k, r, hiv, hr, e2⟩ := Dv hg
  rw [e2] at hg
  obtain ⟨m, c, hxv, e3⟩ := Ce hg
  rw [e3] at hg
  obtain ⟨h5, e5⟩ := Ae hg
  have h5 := Bq h5
  refine ⟨_, e1.trans (e2.trans (e3.trans e5)), fun φ a w hT hg => ?_⟩
  have g1 := Ad hx hT
  have g2 := Ad hi hT
  rw [hxv] at g1; rw [hiv] at g2
  obtain ⟨s, gx, hs, hc⟩ := Cy g1
  have g2 := Eg hr g2
  clear g1
  subst hs hc
  have hr':r<s.data.toList.length := by rw [C1]; exact h5
  have hb:lo (sh (Au s.data.toList) r) 1=s.data.toList[r].toNat := by rw [TA]; exact Ib _ _ hr'
  have hlt := s.data.toList[r].toNat_lt
  refine ⟨.int .u8 (s.data.toList[r].toNat:Nat), ?_, ?_⟩
  · simp only [execOp, ho, gx, g2, Instr.index, Go.asIntOf, Sem.run_bind, Sem.run_pure, Result.andThen_ok, run_underlying ht]
    have h0:(0:Int)≤(r:Int) := by omega
    have A8:s[(r:Int).toNat]? = some s.data.toList[r] := by
      rw [Int.toNat_natCast, getElem?_pos s r h5]; rfl
    simp only [h0, if_true, A8, Sem.run_pure, Result.andThen_ok]
  · rw [hb]
    simp only [As]
    refine ⟨by simp [Mk]; exact hlt, ?_⟩
    rw [Ao (by simp [Hk]; exact hlt)]
theorem Mc {ty e:TypeId} {m esz:Nat} {ag:Bool} {x i:Operand} {x' i':Opd} (ho:o.op = .index ty x i) (hx:AH N x=some x') (hi:AH N i=some i') (ht:P.underlying ty=some (.array m e))
    (ha:KO P e=some ag) (he:Bj P e=some esz):Bf P ρ B N o (Lv m esz ag x' i' cf t h n) t h n := by
  intro κ hg
  have e1:Lv m esz ag x' i' cf t h n κ=IW (ev i' t) fun a => asAgg (ev x' t) fun l => br (Nat.ble (Nat.succ a) m) (br ag (Du (Nat.mul a esz) l fun r => D6 esz r fun r => κ (.agg r) h n) (DL (Nat.mul a esz) l fun v => κ v h n)) (.fail "") := by
    simp only [Lv, AD, A9]
  rw [e1] at hg
  obtain ⟨k, r, hiv, hr, e2⟩ := Dv hg
  rw [e2] at hg
  obtain ⟨l, hxv, e3⟩ := CR hg
  rw [e3] at hg
  obtain ⟨h5, e5⟩ := Ae hg
  rw [e5] at hg
  have h5 := Bq h5
  have key:∀ (v:V) (part:∀ (φ:AT) (cs:Array Value) (w:World), By ρ φ l cs.toList->(∀ y∈cs.toList, y.oneCell'=true)->∃ X, (Go.part e cs (r*esz)).run P w = .ok X w∧As ρ φ v X), Sh P ρ B N o t h n v := fun v part =>
    fun φ a w hT hg => by
      have g1 := Ad hx hT
      have g2 := Ad hi hT
      rw [hxv] at g1; rw [hiv] at g2
      obtain ⟨cs, g1, hl, h2⟩ := Er g1
      have g2 := Eg hr g2
      obtain ⟨X, hX, hrX⟩ := part φ cs w hl h2
      refine ⟨X, ?_, hrX⟩
      simp only [execOp, ho, g1, g2, Instr.index, Go.asIntOf, Sem.run_bind, Sem.run_pure, Result.andThen_ok, run_underlying ht]
      have hc:(0:Int)≤(r:Int)∧(r:Int)<(m:Int) := by omega
      simp [hc, AM he, hX]
  cases ag with
  | true =>
    have hg:R.good (Du (r*esz) l fun r => D6 esz r fun r => κ (.agg r) h n) := hg
    obtain ⟨_, e6⟩ := Fm hg
    rw [e6] at hg
    obtain ⟨h7, e7⟩ := F8 hg
    refine ⟨.agg ((l.drop (r*esz)).take esz), e1.trans (e2.trans (e3.trans (e5.trans (e6.trans e7)))), key _ fun φ cs w hl h2 => ?_⟩
    refine ⟨.agg (cs.extract (r*esz) (r*esz+esz)), by simp [part, Cq ha, AM he], ?_⟩
    simp only [As]
    have hx:(cs.extract (r*esz) (r*esz+esz)).toList=(cs.toList.drop (r*esz)).take esz := by simp
    exact ⟨_, rfl, by rw [hx]; exact Jb (J3 hl _) _, fun y hy => h2 y (by rw [hx] at hy; exact List.mem_of_mem_drop (List.mem_of_mem_take hy))⟩
  | false =>
    have hg:R.good (DL (r*esz) l fun v => κ v h n) := hg
    obtain ⟨v, hv, e6⟩ := EX hg
    refine ⟨v, e1.trans (e2.trans (e3.trans (e5.trans e6))), key v fun φ cs w hl h2 => ?_⟩
    obtain ⟨X, hX, hrX⟩ := (Cr.1 hl).2 _ v hv
    exact ⟨X, by simp [part, Cq ha, show cs[r*esz]? = some X by simpa using hX], hrX⟩
theorem Jz {x:Operand} {x':Opd} (ho:o.op = .nilCheck x) (hx:AH N x=some x'):Bf P ρ B N o (D7 x' cf t h n) t h n := by
  intro κ hg
  cases hv:ev x' t with
  | ptr p off =>
    refine ⟨_, (by simp only [D7, AD]; rw [hv]:D7 x' cf t h n κ=κ (.ptr p off) h n), fun φ a w hT hg => ?_⟩
    have g1 := Ad hx hT
    rw [hv] at g1
    obtain ⟨b, s, tot, hp, e⟩ := D9 g1
    exact ⟨a.eval x, by simp [execOp, ho, e], g1⟩
  | fn f l =>
    refine ⟨_, (by simp only [D7, AD]; rw [hv]:D7 x' cf t h n κ=κ (.fn f l) h n), fun φ a w hT hg => ?_⟩
    have g1 := Ad hx hT
    rw [hv] at g1
    obtain ⟨cs, e, hl⟩ := Jc g1
    exact ⟨a.eval x, by simp [execOp, ho, e], g1⟩
  | oth oo =>
    cases oo with
    | rp l =>
      refine ⟨_, (by simp only [D7, AD]; rw [hv]; rfl:D7 x' cf t h n κ=κ (.oth (.rp l)) h n), fun φ a w hT hg => ?_⟩
      have g1 := Ad hx hT
      rw [hv] at g1
      have g1' := g1
      simp only [As] at g1'
      obtain ⟨b, q, c, e', fr, e, _⟩ := g1'
      exact ⟨a.eval x, by simp [execOp, ho, e], g1⟩
    | _ =>
      have e:D7 x' cf t h n κ = .fail "" := by simp only [D7, AD]; rw [hv]; rfl
      rw [e] at hg; exact hg.elim
  | _ =>
    have e:D7 x' cf t h n κ = .fail "" := by simp only [D7, AD]; rw [hv]
    rw [e] at hg; exact hg.elim
theorem Oh {k:IntKind} {x y:Int} (w:World):(Builtin.max2 (.int k x) (.int k y)).run P w = .ok (.int k (if y > x then y else x)) w := rfl
theorem Th {k:IntKind} {x y:Int} (w:World):(Builtin.min2 (.int k x) (.int k y)).run P w = .ok (.int k (if y<x then y else x)) w := rfl
theorem LT {c:Call} {x y:Operand} {x' y':Opd} (ho:o.op = .call c) (hc:c.callee = .builtin .min) (ha:c.args.toList=[x, y]) (hx:AH N x=some x') (hy:AH N y=some y') :
    Bf P ρ B N o (LG x' y' cf t h n) t h n := by
  intro κ hg
  have e1:LG x' y' cf t h n κ=Xr (ev x' t) (ev y' t) fun v => κ v h n := by simp only [LG, AD]
  rw [e1] at hg
  obtain ⟨u, e2, H⟩ := TZ hg
  refine ⟨u, e1.trans e2, fun φ ac w hT hg => ?_⟩
  have g1 := Ad hx hT
  have g2 := Ad hy hT
  obtain ⟨k, p, q, q1, q2, hr⟩ := H ρ φ _ _ g1 g2
  have hargs:c.args = #[x, y] := by rw [←ha]
  refine ⟨_, ?_, hr⟩
  simp only [execOp, ho, resolve, hc, hargs, invoke, builtin, Builtin.min_, Sem.run_bind, Sem.run_pure, Result.andThen_ok]
  simp only [List.map_toArray, List.map_cons, List.map_nil, List.foldlM_cons, List.foldlM_nil, q1, q2, Sem.run_bind, Th, Result.andThen_ok, Sem.run_pure]
theorem Mp {c:Call} {x y:Operand} {x' y':Opd} (ho:o.op = .call c) (hc:c.callee = .builtin .max) (ha:c.args.toList=[x, y]) (hx:AH N x=some x') (hy:AH N y=some y') :
    Bf P ρ B N o (My x' y' cf t h n) t h n := by
  intro κ hg
  have e1:My x' y' cf t h n κ=Xt (ev x' t) (ev y' t) fun v => κ v h n := by simp only [My, AD]
  rw [e1] at hg
  obtain ⟨u, e2, H⟩ := Ud hg
  refine ⟨u, e1.trans e2, fun φ ac w hT hg => ?_⟩
  have g1 := Ad hx hT
  have g2 := Ad hy hT
  obtain ⟨k, p, q, q1, q2, hr⟩ := H ρ φ _ _ g1 g2
  have hargs:c.args = #[x, y] := by rw [←ha]
  refine ⟨_, ?_, hr⟩
  simp only [execOp, ho, resolve, hc, hargs, invoke, builtin, Builtin.max_, Sem.run_bind, Sem.run_pure, Result.andThen_ok]
  simp only [List.map_toArray, List.map_cons, List.map_nil, List.foldlM_cons, List.foldlM_nil, q1, q2, Sem.run_bind, Oh, Result.andThen_ok, Sem.run_pure]
theorem HY {l:List Operand} {x:Opd} {xs:List Opd} (h:Bw N l=some (x::xs)):∃ x0 l0, l=x0::l0∧AH N x0=some x∧Bw N l0=some xs := by
  cases l with
  | nil => simp [Bw] at h
  | cons a l =>
    simp only [Bw] at h
    split at h
    · rename_i y ys h1 h2
      cases h
      exact ⟨a, l, rfl, h1, h2⟩
    · cases h
theorem Hi {l:List Operand} {x y z:Opd} (h:Bw N l=some [x, y, z]):∃ x0 y0 z0, l=[x0, y0, z0]∧AH N x0=some x∧AH N y0=some y∧AH N z0=some z := by
  obtain ⟨x0, l0, rfl, hx, h⟩ := HY h
  obtain ⟨y0, l1, rfl, hy, h⟩ := HY h
  obtain ⟨z0, l2, rfl, hz, h⟩ := HY h
  cases l2 with
  | nil => exact ⟨x0, y0, z0, rfl, hx, hy, hz⟩
  | cons a l =>
    simp only [Bw] at h
    split at h <;> cases h
theorem Kl {c:Call} {x y z:Operand} {x' y' z':Opd} (ho:o.op = .call c) (hc:c.callee = .builtin .max) (ha:c.args.toList=[x, y, z]) (hx:AH N x=some x') (hy:AH N y=some y') (hz:AH N z=some z') :
    Bf P ρ B N o (Je x' y' z' cf t h n) t h n := by
  intro κ hg
  have e1:Je x' y' z' cf t h n κ=GS (ev x' t) fun k a => GS (ev y' t) fun j b => GS (ev z' t) fun i c => br (Bk k j) (br (Bk k i) (br (DK k a b) (br (DK k b c) (κ (ev z' t) h n) (κ (ev y' t) h n)) (br (DK k a c) (κ (ev z' t) h n) (κ (ev x' t) h n))) (.fail "")) (.fail "") := by simp only [Je, AD]
  rw [e1] at hg
  obtain ⟨k, a, hxv, e2⟩ := CI hg
  rw [e2] at hg
  obtain ⟨j, b, hyv, e3⟩ := CI hg
  rw [e3] at hg
  obtain ⟨i, d, hzv, e4⟩ := CI hg
  rw [e4] at hg
  obtain ⟨rfl, e5⟩ := kb hg
  rw [e5] at hg
  obtain ⟨rfl, e6⟩ := kb hg
  refine ⟨if DK k a b then (if DK k b d then ev z' t else ev y' t) else (if DK k a d then ev z' t else ev x' t), e1.trans (e2.trans (e3.trans (e4.trans (e5.trans (e6.trans (by cases DK k a b <;> cases DK k b d <;> cases DK k a d <;> rfl)))))), fun φ ac w hT hg => ?_⟩
  have g1 := Ad hx hT
  have g2 := Ad hy hT
  have g3 := Ad hz hT
  have g1' := g1; have g2' := g2; have g3' := g3
  rw [hxv] at g1'; rw [hyv] at g2'; rw [hzv] at g3'
  obtain ⟨ha1, q1⟩ := Cz g1'
  obtain ⟨hb1, q2⟩ := Cz g2'
  obtain ⟨hd1, q3⟩ := Cz g3'
  have hargs:c.args = #[x, y, z] := by rw [←ha]
  refine ⟨if DK k a b then (if DK k b d then ac.eval z else ac.eval y) else (if DK k a d then ac.eval z else ac.eval x), ?_, by cases DK k a b <;> cases DK k b d <;> cases DK k a d <;> assumption⟩
  simp only [execOp, ho, resolve, hc, hargs, invoke, builtin, Builtin.max_, Sem.run_bind, Sem.run_pure, Result.andThen_ok]
  simp only [List.map_toArray, List.map_cons, List.map_nil, List.foldlM_cons, List.foldlM_nil, q1, q2, q3, Sem.run_bind, Oh, Result.andThen_ok, Sem.run_pure]
  rw [EP ha1 hb1, EP hb1 hd1, EP ha1 hd1]
  by_cases h1:C9 k a<C9 k b <;> by_cases h2:C9 k b<C9 k d <;> by_cases h3:C9 k a<C9 k d <;> simp [h1, h2, h3]
end
end Go.Ev

namespace Go.Ev
set_option linter.unusedVariables false
section
variable {P:Program} {ρ:Env} {B N:Nat} {o:Oper} {cf:CF} {t:Regs} {h:Heap} {n:K4}
def Jw (v:Option Value) (r d:Nat):Prop := (v=none∧r=d) ∨ ∃ k, v=some (.int k (r:Int))
theorem Bv {oo:Option Operand} {x:Option Opd} (hx:Et N oo=some x) {d:Nat} {κ:Nat->R} (hg:(BG x t d κ).good) :
    ∃ r, BG x t d κ=κ r ∧ ∀ φ a, TR ρ N φ t a->Jw (oo.map a.eval) r d := by
  cases oo with
  | none =>
    simp only [Et, Option.some.injEq] at hx; subst hx
    exact ⟨d, rfl, fun φ a _ => .inl ⟨rfl, rfl⟩⟩
  | some y =>
    simp only [Et] at hx
    cases hy:AH N y with
    | none => rw [hy] at hx; cases hx
    | some y' =>
      rw [hy] at hx; cases hx
      have e:BG (some y') t d κ=IW (ev y' t) κ := AD y' t _
      rw [e] at hg
      obtain ⟨k, r, hv, hr, e'⟩ := Dv hg
      refine ⟨r, e.trans e', fun φ a ht => .inr ⟨k, ?_⟩⟩
      have := Ad hy ht
      rw [hv] at this
      rw [Option.map_some, Eg hr this]
theorem Df {sl:Bool} {len cap:Nat} {lo hi:Option Value} {l m:Nat} (hl:Jw lo l 0) (hh:Jw hi m len) (h1:l≤m) (h2:m≤cap) (w:World) :
    (Instr.sliceBounds sl len cap lo hi none).run P w = .ok (l, m, cap) w := by
  have hb:∀ (k:IntKind) (r y:Nat) (c:BoundsCode), r≤y->(Instr.sliceBound (.int k (r:Int)) y c).run P w = .ok r w := fun k r y c hr => by
    simp only [Instr.sliceBound, Go.asIntOf, Sem.run_bind, Sem.run_pure, Result.andThen_ok]
    have hc:(0:Int)≤(r:Int)∧(r:Int)≤(y:Int) := by omega
    simp [hc]
  rcases hl with ⟨rfl, rfl⟩ | ⟨k, rfl⟩ <;> rcases hh with ⟨rfl, rfl⟩ | ⟨j, rfl⟩ <;> simp [Instr.sliceBounds, hb _ _ _ _ h1, hb _ _ _ _ h2]
theorem Mt {ty:TypeId} {x:Operand} {lo hi:Option Operand} {x':Opd} {lo' hi':Option Opd} (ho:o.op = .slice ty x lo hi none) (hx:AH N x=some x') (hlo:Et N lo=some lo') (hhi:Et N hi=some hi')
    (ht:P.underlying ty=some .string):Bf P ρ B N o (Iz x' lo' hi' cf t h n) t h n := by
  intro κ hg
  have e0:Iz x' lo' hi' cf t h n κ=V7 (ev x' t) (fun l0 l1 _ _ => br (br (Em hi') true (Nat.beq l0 l1)) (BG hi' t l0 fun b => BG lo' t 0 fun a => br (Nat.ble a b) (br (Nat.ble b l0) (κ (.oth (.ss (Nat.sub b a) (Nat.sub b a) (Nat.succ (Nat.sub b a)) 0)) h n) (.fail "")) (.fail "")) (.fail "")) (Be (ev x' t) fun m c => BG hi' t m fun b => BG lo' t 0 fun a => br (Nat.ble a b) (br (Nat.ble b m) (κ (.str (Nat.sub b a) (Ev.lo (sh c a) (Nat.sub b a))) h n) (.fail "")) (.fail "")) := by
    simp only [Iz, AD, A9]
  rw [e0] at hg
  rcases IY (ev x' t) (fun l0 l1 _ _ => br (br (Em hi') true (Nat.beq l0 l1)) (BG hi' t l0 fun b => BG lo' t 0 fun a => br (Nat.ble a b) (br (Nat.ble b l0) (κ (.oth (.ss (Nat.sub b a) (Nat.sub b a) (Nat.succ (Nat.sub b a)) 0)) h n) (.fail "")) (.fail "")) (.fail "")) (Be (ev x' t) fun m c => BG hi' t m fun b => BG lo' t 0 fun a => br (Nat.ble a b) (br (Nat.ble b m) (κ (.str (Nat.sub b a) (Ev.lo (sh c a) (Nat.sub b a))) h n) (.fail "")) (.fail "")) with ⟨l0, l1, _, _, hxv, e1⟩ | e1
  · rw [e1] at hg
    obtain ⟨hex, e2⟩ := Ae hg
    rw [e2] at hg
    obtain ⟨b, e3, hb⟩ := Bv (ρ := ρ) hhi hg
    rw [e3] at hg
    obtain ⟨a, e4, ha⟩ := Bv (ρ := ρ) hlo hg
    rw [e4] at hg
    obtain ⟨h6, e6⟩ := Ae hg
    rw [e6] at hg
    obtain ⟨h7, e7⟩ := Ae hg
    have h6 := Aa.1 h6; have h7 := Aa.1 h7
    refine ⟨_, e0.trans (e1.trans (e2.trans (e3.trans (e4.trans (e6.trans e7))))), fun φ ac w hT hg => ?_⟩
    have g1 := Ad hx hT
    rw [hxv] at g1
    simp only [As] at g1
    obtain ⟨s, gx, c1, c2, _⟩ := g1
    have hb':Jw (hi.map ac.eval) b s.size := by
      rcases hb φ ac hT with ⟨h1, h2⟩ | h1
      · left
        refine ⟨h1, ?_⟩
        have hn:Em hi'=false := by
          cases hi with
          | some y => cases h1
          | none => simp only [Et, Option.some.injEq] at hhi; subst hhi; rfl
        rw [hn, Aq] at hex
        have := Nat.eq_of_beq_eq_true hex
        omega
      · exact .inr h1
    refine ⟨.string (s.extract a b), ?_, ?_⟩
    · simp only [execOp, ho, gx, Instr.sliceAt, Instr.slice, Sem.run_bind, run_underlying ht, Result.andThen_ok, Option.map_none]
      simp [Df (ha φ ac hT) hb' h6 (by omega:b≤s.size)]
    · simp only [As]
      have hsz:(s.extract a b).size=b - a := by rw [ByteArray.size_extract]; omega
      exact ⟨_, rfl, by show b - a≤_; omega, by show _≤b - a; omega, fun h => by have h1:(s.extract a b).size=(b - a)+1 := h.1; omega⟩
  have e1 := e0.trans e1
  rw [←e0, e1] at hg
  obtain ⟨m, c, hxv, e2⟩ := Ce hg
  rw [e2] at hg
  obtain ⟨b, e3, hb⟩ := Bv (ρ := ρ) hhi hg
  rw [e3] at hg
  obtain ⟨a, e4, ha⟩ := Bv (ρ := ρ) hlo hg
  rw [e4] at hg
  obtain ⟨h5, e5⟩ := Ae hg
  rw [e5] at hg
  obtain ⟨h6, e6⟩ := Ae hg
  have h5 := Aa.1 h5; have h6 := Aa.1 h6
  refine ⟨_, e1.trans (e2.trans (e3.trans (e4.trans (e5.trans e6)))), fun φ ac w hT hg => ?_⟩
  have g1 := Ad hx hT
  rw [hxv] at g1
  obtain ⟨s, gx, hs, hc⟩ := Cy g1
  clear g1
  subst hs hc
  refine ⟨.string (s.extract a b), ?_, ?_⟩
  · simp only [execOp, ho, gx, Instr.sliceAt, Instr.slice, Sem.run_bind, run_underlying ht, Result.andThen_ok, Option.map_none]
    simp [Df (ha φ ac hT) (hb φ ac hT) h5 h6]
  · have := Q5 (s.extract a b) ρ φ
    have e:(s.extract a b).data.toList=(s.data.toList.drop a).take (b - a) := by
      rw [ByteArray.data_extract]; simp
    rw [e, ←IM, ←Io] at this
    have hsz:(s.extract a b).size=b - a := by rw [ByteArray.size_extract]; omega
    rw [hsz] at this
    rw [E0, Fv]; exact this
theorem NJ {sl:Bool} {len cap:Nat} {hi mx:Option Value} {m c:Nat} (hh:Jw hi m len) (hm:Jw mx c cap) (hs:mx.isSome=true) (hs2:hi.isSome=true) (h2:m≤c) (h3:c≤cap) (w:World) :
    (Instr.sliceBounds sl len cap none hi mx).run P w = .ok (0, m, c) w := by
  have hb:∀ (k:IntKind) (r y:Nat) (c:BoundsCode), r≤y->(Instr.sliceBound (.int k (r:Int)) y c).run P w = .ok r w := fun k r y c hr => by
    simp only [Instr.sliceBound, Go.asIntOf, Sem.run_bind, Sem.run_pure, Result.andThen_ok]
    have hc:(0:Int)≤(r:Int)∧(r:Int)≤(y:Int) := by omega
    simp [hc]
  rcases hm with ⟨rfl, rfl⟩ | ⟨k, rfl⟩
  · cases hs
  · rcases hh with ⟨rfl, rfl⟩ | ⟨j, rfl⟩
    · cases hs2
    · simp [Instr.sliceBounds, hb _ _ _ _ h2, hb _ _ _ _ h3]
set_option linter.constructorNameAsVariable false in
theorem Mx {ty e:TypeId} {s0:Nat} {x hi mx:Operand} {x' hi' mx':Opd} (ho:o.op = .slice ty x none (some hi) (some mx)) (ht:P.underlying ty=some (.slice e)) (hx:AH N x=some x') (hhi:AH N hi=some hi') (hmx:AH N mx=some mx')
    (he:Bj P e=some s0):Bf P ρ B N o (GO (s0+4294967296) x' (some mx') (some hi') cf t h n) t h n := by
  intro κ hg
  have hhi2:Et N (some hi)=some (some hi') := by simp only [Et, hhi, Option.map_some]
  have hmx2:Et N (some mx)=some (some mx') := by simp only [Et, hmx, Option.map_some]
  have e0:GO (s0+4294967296) x' (some mx') (some hi') cf t h n κ=DM (ev x' t) (.fail "") (fun p off len cap ex esz' => BG (some hi') t len fun b => BG (some mx') t cap fun c => br (Nat.beq esz' s0) (br (Nat.ble b c) (br (Nat.ble c cap) (κ (.sl p off b c true s0) h n) (.fail "")) (.fail "")) (.fail "")) := by
    simp only [GO, QC, AD]
    rw [show Nat.ble 4294967296 (s0+4294967296)=true from Aa.2 (by omega), Ac, show Nat.sub (s0+4294967296) 4294967296=s0 from Nat.add_sub_cancel _ _]
  rw [e0] at hg
  rcases Dl hg with ⟨hxv, e2⟩ | ⟨p, off, len, cap, ex, esz', hxv, e2⟩
  · rw [e2] at hg; exact hg.elim
  · rw [e2] at hg
    obtain ⟨b, e3, hb⟩ := Bv (ρ := ρ) hhi2 hg
    rw [e3] at hg
    obtain ⟨c, e4, hc⟩ := Bv (ρ := ρ) hmx2 hg
    rw [e4] at hg
    obtain ⟨h5, e5⟩ := Ae hg
    rw [e5] at hg
    obtain ⟨h6, e6⟩ := Ae hg
    rw [e6] at hg
    obtain ⟨h7, e7⟩ := Ae hg
    have h5 := Nat.eq_of_beq_eq_true h5; have h6 := Aa.1 h6; have h7 := Aa.1 h7
    subst h5
    refine ⟨_, e0.trans (e2.trans (e3.trans (e4.trans (e5.trans (e6.trans e7))))), fun φ ac w hT hg => ?_⟩
    have g1 := Ad hx hT
    rw [hxv] at g1
    obtain ⟨bk, s, tot, q, cap', hp, gx, c1, c2, c3, c4⟩ := CW g1
    have hc':Jw ((some mx).map ac.eval) c cap' := by
      rcases hc φ ac hT with ⟨h1, _⟩ | h1
      · cases h1
      · exact .inr h1
    refine ⟨.slice (some ⟨bk, q, none⟩) b c, ?_, ?_⟩
    · simp only [execOp, ho, gx, Instr.sliceAt, Instr.slice, Sem.run_bind, run_underlying ht, Result.andThen_ok]
      have hr := fun w => NJ (P := P) (sl := true) (hb φ ac hT) hc' rfl rfl h6 (Nat.le_trans h7 c2) w
      simp only [Option.map_some, Option.map_none] at hr ⊢
      simp [hr, AM he]
      intros; rfl
    · simp only [As]
      refine ⟨bk, s, tot, q, c, hp, rfl, h6, Nat.le_refl _, fun _ => rfl, fun h0 => ?_⟩
      obtain ⟨c5, c6⟩ := c4 (by omega)
      refine ⟨c5, ?_⟩
      have := Nat.mul_le_mul_right esz' (Nat.le_trans h7 c2)
      omega
theorem LE {ty e:TypeId} {esz:Nat} {x:Operand} {lo hi:Option Operand} {x':Opd} {lo' hi':Option Opd} (ho:o.op = .slice ty x lo hi none) (hx:AH N x=some x') (hlo:Et N lo=some lo') (hhi:Et N hi=some hi')
    (ht:P.underlying ty=some (.slice e)) (he:Bj P e=some esz) (hlt:esz<4294967296):Bf P ρ B N o (GO esz x' lo' hi' cf t h n) t h n := by
  intro κ hg
  have e0:GO esz x' lo' hi' cf t h n κ=XT (ev x' t) (fun l0 l1 => br (br (Em hi') true (Nat.beq l0 l1)) (BG hi' t l0 fun b => BG lo' t 0 fun a => br (Nat.ble a b) (br (Nat.ble b l0) (κ (.oth (.os (Nat.sub b a) (Nat.sub b a))) h n) (.fail "")) (.fail "")) (.fail "")) (E3 (ev x' t) (BG hi' t 0 fun b => BG lo' t 0 fun a => br (Nat.beq b 0) (br (Nat.beq a 0) (κ (.nil .sl) h n) (.fail "")) (.fail ""))
      (fun p off len cap ex esz' => BG hi' t len fun b => BG lo' t 0 fun a => br (Nat.beq esz' esz) (br (Nat.ble a b) (br (Nat.ble b cap) (κ (.sl p (Nat.add off (Nat.mul a esz)) (Nat.sub b a) (Nat.sub cap a) ex esz) h n) (.fail "")) (.fail "")) (.fail "")) (fun o => JC o (fun l m z => BG hi' t m fun b => BG lo' t 0 fun a => br (Nat.beq z esz) (br (Nat.ble a b) (br (Nat.ble b m) (κ (.oth (.rx ((l.drop (Nat.mul a esz)).take (Nat.mul (Nat.sub b a) esz)) (Nat.sub b a) esz)) h n) (.fail "")) (.fail "")) (.fail "")) (HG o (fun m c => BG hi' t m fun b => BG lo' t 0 fun a => br (Nat.beq esz 1) (br (Nat.ble a b) (br (Nat.ble b m) (κ (.oth (.rb (Nat.sub b a) (Ev.lo (sh c a) (Nat.sub b a)))) h n) (.fail "")) (.fail "")) (.fail "")) (.fail "")))) := by
    simp only [GO, AD, A9]
    rw [show Nat.ble 4294967296 esz=false from AS hlt, Aq]
  rw [e0] at hg
  rcases R6 (ev x' t) (fun l0 l1 => br (br (Em hi') true (Nat.beq l0 l1)) (BG hi' t l0 fun b => BG lo' t 0 fun a => br (Nat.ble a b) (br (Nat.ble b l0) (κ (.oth (.os (Nat.sub b a) (Nat.sub b a))) h n) (.fail "")) (.fail "")) (.fail "")) (E3 (ev x' t) (BG hi' t 0 fun b => BG lo' t 0 fun a => br (Nat.beq b 0) (br (Nat.beq a 0) (κ (.nil .sl) h n) (.fail "")) (.fail ""))
      (fun p off len cap ex esz' => BG hi' t len fun b => BG lo' t 0 fun a => br (Nat.beq esz' esz) (br (Nat.ble a b) (br (Nat.ble b cap) (κ (.sl p (Nat.add off (Nat.mul a esz)) (Nat.sub b a) (Nat.sub cap a) ex esz) h n) (.fail "")) (.fail "")) (.fail "")) (fun o => JC o (fun l m z => BG hi' t m fun b => BG lo' t 0 fun a => br (Nat.beq z esz) (br (Nat.ble a b) (br (Nat.ble b m) (κ (.oth (.rx ((l.drop (Nat.mul a esz)).take (Nat.mul (Nat.sub b a) esz)) (Nat.sub b a) esz)) h n) (.fail "")) (.fail "")) (.fail "")) (HG o (fun m c => BG hi' t m fun b => BG lo' t 0 fun a => br (Nat.beq esz 1) (br (Nat.ble a b) (br (Nat.ble b m) (κ (.oth (.rb (Nat.sub b a) (Ev.lo (sh c a) (Nat.sub b a)))) h n) (.fail "")) (.fail "")) (.fail "")) (.fail "")))) with ⟨l0, l1, hxv, e1⟩ | e1
  · rw [e1] at hg
    obtain ⟨hex, e2⟩ := Ae hg
    rw [e2] at hg
    obtain ⟨b, e3, hb⟩ := Bv (ρ := ρ) hhi hg
    rw [e3] at hg
    obtain ⟨a, e4, ha⟩ := Bv (ρ := ρ) hlo hg
    rw [e4] at hg
    obtain ⟨h6, e6⟩ := Ae hg
    rw [e6] at hg
    obtain ⟨h7, e7⟩ := Ae hg
    have h6 := Aa.1 h6; have h7 := Aa.1 h7
    refine ⟨_, e0.trans (e1.trans (e2.trans (e3.trans (e4.trans (e6.trans e7))))), fun φ ac w hT hg => ?_⟩
    have g1 := Ad hx hT
    rw [hxv] at g1
    simp only [As] at g1
    obtain ⟨p, len, cap, gx, c1, c2, c3⟩ := g1
    have hb':Jw (hi.map ac.eval) b len := by
      rcases hb φ ac hT with ⟨h1, h2⟩ | h1
      · left
        refine ⟨h1, ?_⟩
        have hn:Em hi'=false := by
          cases hi with
          | some y => cases h1
          | none => simp only [Et, Option.some.injEq] at hhi; subst hhi; rfl
        rw [hn, Aq] at hex
        have := Nat.eq_of_beq_eq_true hex
        omega
      · exact .inr h1
    refine ⟨.slice (if cap=a then p else p.map (·.add (a*esz))) (b - a) (cap - a), ?_, ?_⟩
    · simp only [execOp, ho, gx, Instr.sliceAt, Instr.slice, Sem.run_bind, run_underlying ht, Result.andThen_ok, Option.map_none]
      simp [Df (ha φ ac hT) hb' h6 (by omega:b≤cap), AM he]
    · simp only [As]
      exact ⟨_, _, _, rfl, Nat.le_refl _, Nat.le_refl _, by show b - a≤cap - a; omega⟩
  have e1 := e0.trans e1
  rw [←e0, e1] at hg
  rcases Fx hg with ⟨hxv, e2⟩ | ⟨p, off, len, cap, ex, esz', hxv, e2⟩ | ⟨oo, hxv, e2⟩
  · rw [e2] at hg
    obtain ⟨b, e3, hb⟩ := Bv (ρ := ρ) hhi hg
    rw [e3] at hg
    obtain ⟨a, e4, ha⟩ := Bv (ρ := ρ) hlo hg
    rw [e4] at hg
    obtain ⟨h5, e5⟩ := Ae hg
    rw [e5] at hg
    obtain ⟨h6, e6⟩ := Ae hg
    have h5 := Nat.eq_of_beq_eq_true h5; have h6 := Nat.eq_of_beq_eq_true h6
    subst h5 h6
    refine ⟨_, e1.trans (e2.trans (e3.trans (e4.trans (e5.trans e6)))), fun φ ac w hT hg => ?_⟩
    have g1 := Ad hx hT
    rw [hxv] at g1
    have gx := Cd g1
    refine ⟨.slice none 0 0, ?_, by simp only [As, Ci]⟩
    simp only [execOp, ho, gx, Ci, Instr.sliceAt, Instr.slice, Sem.run_bind, run_underlying ht, Result.andThen_ok, Option.map_none]
    simp [Df (ha φ ac hT) (hb φ ac hT) (Nat.le_refl 0) (Nat.le_refl 0), AM he]
  · rw [e2] at hg
    obtain ⟨b, e3, hb⟩ := Bv (ρ := ρ) hhi hg
    rw [e3] at hg
    obtain ⟨a, e4, ha⟩ := Bv (ρ := ρ) hlo hg
    rw [e4] at hg
    obtain ⟨h5, e5⟩ := Ae hg
    rw [e5] at hg
    obtain ⟨h6, e6⟩ := Ae hg
    rw [e6] at hg
    obtain ⟨h7, e7⟩ := Ae hg
    have h5 := Nat.eq_of_beq_eq_true h5; have h6 := Aa.1 h6; have h7 := Aa.1 h7
    subst h5
    refine ⟨_, e1.trans (e2.trans (e3.trans (e4.trans (e5.trans (e6.trans e7))))), fun φ ac w hT hg => ?_⟩
    have g1 := Ad hx hT
    rw [hxv] at g1
    obtain ⟨bk, s, tot, q, cap', hp, gx, c1, c2, c3, c4⟩ := CW g1
    refine ⟨.slice (if cap'=a then some ⟨bk, q, none⟩ else some ⟨bk, q+a*esz', none⟩) (b - a) (cap' - a), ?_, ?_⟩
    · simp only [execOp, ho, gx, Instr.sliceAt, Instr.slice, Sem.run_bind, run_underlying ht, Result.andThen_ok, Option.map_none]
      simp [Df (ha φ ac hT) (hb φ ac hT) h6 (Nat.le_trans h7 c2), AM he, Ch]
    · simp only [As]
      by_cases hca:cap'=a
      · rw [if_pos hca]
        refine ⟨bk, s, tot, q, cap' - a, hp, rfl, by show b - a≤cap - a; omega, by show cap - a≤cap' - a; omega, fun hex => by have := c3 hex; show cap' - a=cap - a; omega, fun h0 => by omega⟩
      · rw [if_neg hca]
        refine ⟨bk, s, tot, q+a*esz', cap' - a, hp, rfl, by show b - a≤cap - a; omega, by show cap - a≤cap' - a; omega, fun hex => by have := c3 hex; show cap' - a=cap - a; omega, fun h0 => ?_⟩
        obtain ⟨c5, c6⟩ := c4 (by omega)
        refine ⟨by show q+a*esz'=s+(off+a*esz'); omega, ?_⟩
        have hmul:a*esz'+(cap' - a)*esz'=cap'*esz' := by rw [←Nat.add_mul]; congr 1; omega
        omega
  · rw [e2] at hg
    cases oo with
    | rx l m z =>
      have hg':R.good (BG hi' t m fun b => BG lo' t 0 fun a => br (Nat.beq z esz) (br (Nat.ble a b) (br (Nat.ble b m) (κ (.oth (.rx ((l.drop (Nat.mul a esz)).take (Nat.mul (Nat.sub b a) esz)) (Nat.sub b a) esz)) h n) (.fail "")) (.fail "")) (.fail "")) := hg
      obtain ⟨b, e3, hb⟩ := Bv (ρ := ρ) hhi hg'
      rw [e3] at hg'
      obtain ⟨a, e4, ha⟩ := Bv (ρ := ρ) hlo hg'
      rw [e4] at hg'
      obtain ⟨h5, e5⟩ := Ae hg'
      rw [e5] at hg'
      obtain ⟨h6, e6⟩ := Ae hg'
      rw [e6] at hg'
      obtain ⟨h7, e7⟩ := Ae hg'
      have h5 := Nat.eq_of_beq_eq_true h5
      have h6 := Aa.1 h6; have h7 := Aa.1 h7
      subst h5
      refine ⟨_, e1.trans (e2.trans (e3.trans (e4.trans (e5.trans (e6.trans e7))))), fun φ ac w hT hg => ?_⟩
      have g1 := Ad hx hT
      rw [hxv] at g1
      simp only [As] at g1
      obtain ⟨ad, cap, gx, c1, c3, c4⟩ := g1
      have hlen:((l.drop (a*z)).take ((b - a)*z)).length=(b - a)*z := by
        rw [List.length_take, List.length_drop, c3]
        refine Nat.min_eq_left ?_
        rw [Nat.sub_mul]
        have := Nat.mul_le_mul_right z h7
        omega
      refine ⟨.slice (some (if cap=a then ad else ad.add (a*z))) (b - a) (cap - a), ?_, ?_⟩
      · simp only [execOp, ho, gx, Instr.sliceAt, Instr.slice, Sem.run_bind, run_underlying ht, Result.andThen_ok, Option.map_none]
        simp [Df (ha φ ac hT) (hb φ ac hT) h6 (Nat.le_trans h7 c1), AM he]
        split <;> rfl
      · simp only [As]
        refine ⟨_, cap - a, rfl, by show b - a≤cap - a; omega, hlen, fun h0 => ?_⟩
        have h0:0<b - a := h0
        obtain ⟨bk, q, c, e', fr, rfl, c2, c4⟩ := c4 (by omega)
        refine ⟨bk, q+a*z, c, e', fr, by rw [if_neg (by omega)]; exact Ch .., c2, fun j v hv => ?_⟩
        have hv:((l.drop (a*z)).take ((b - a)*z))[j]? = some v := hv
        rw [List.getElem?_take] at hv
        split at hv
        · rw [List.getElem?_drop] at hv
          obtain ⟨y, y1, y2⟩ := c4 (a*z+j) v hv
          exact ⟨y, by rw [Nat.add_assoc]; exact y1, y2⟩
        · cases hv
    | rb m d =>
      have hg':R.good (BG hi' t m fun b => BG lo' t 0 fun a => br (Nat.beq esz 1) (br (Nat.ble a b) (br (Nat.ble b m) (κ (.oth (.rb (Nat.sub b a) (Ev.lo (sh d a) (Nat.sub b a)))) h n) (.fail "")) (.fail "")) (.fail "")) := hg
      obtain ⟨b, e3, hb⟩ := Bv (ρ := ρ) hhi hg'
      rw [e3] at hg'
      obtain ⟨a, e4, ha⟩ := Bv (ρ := ρ) hlo hg'
      rw [e4] at hg'
      obtain ⟨h5, e5⟩ := Ae hg'
      rw [e5] at hg'
      obtain ⟨h6, e6⟩ := Ae hg'
      rw [e6] at hg'
      obtain ⟨h7, e7⟩ := Ae hg'
      have h5 := Nat.eq_of_beq_eq_true h5
      have h6 := Aa.1 h6; have h7 := Aa.1 h7
      subst h5
      refine ⟨_, e1.trans (e2.trans (e3.trans (e4.trans (e5.trans (e6.trans e7))))), fun φ ac w hT hg => ?_⟩
      have g1 := Ad hx hT
      rw [hxv] at g1
      simp only [As, GK] at g1
      obtain ⟨ad, cap, gx, c1, c3, c4⟩ := g1
      refine ⟨.slice (some (if cap=a then ad else ad.add (a*1))) (b - a) (cap - a), ?_, ?_⟩
      · simp only [execOp, ho, gx, Instr.sliceAt, Instr.slice, Sem.run_bind, run_underlying ht, Result.andThen_ok, Option.map_none]
        simp [Df (ha φ ac hT) (hb φ ac hT) h6 (Nat.le_trans h7 c1), AM he]
        split <;> rfl
      · simp only [As, GK]
        have hlo2:Ev.lo (sh d a) (Nat.sub b a)=d / 256 ^ a % 256 ^ (b - a) := by rw [E0, Fv]; rfl
        rw [hlo2]
        refine ⟨_, cap - a, rfl, by show b - a≤cap - a; omega, Nat.mod_lt _ (Nat.pow_pos (by decide)), fun h0 => ?_⟩
        have h0:0<b - a := h0
        obtain ⟨bk, q, c, e', fr, rfl, c2, c4⟩ := c4 (by omega)
        refine ⟨bk, q+a*1, c, e', fr, by rw [if_neg (by omega)]; exact Ch .., c2, fun j hj => ?_⟩
        have hj:j<b - a := hj
        rw [Nat.mul_one, Nat.add_assoc, c4 (a+j) (by omega), FL _ _ _ hj, Nat.div_div_eq_div_mul, ←Nat.pow_add]
    | _ => exact hg.elim
theorem Bp {ob:Ob} {κ:Heap->K4->R} (hg:(Di h n ob κ).good):∃ n':K4, n'.toN=n.toN+1∧Di h n ob κ=κ (Af n h (some ob)) n' := by
  have e:Di h n ob κ=n.nx fun n' => κ (Af n h (some ob)) n' := B6 _ _ _ _
  rw [e] at hg
  rcases K4.nx_eq n (fun n' => κ (Af n h (some ob)) n') with ⟨w, h'⟩ | ⟨q, h1, h2⟩
  · rw [h'] at hg; exact hg.elim
  · exact ⟨q, h1, e.trans h2⟩
theorem Gam.at_n {φ:AT} {w:World} (g:Gam ρ B h n φ w):φ n=none := by
  cases hx:φ n with
  | none => rfl
  | some x => have := g.dom n x hx; omega
/-- A new object for cells that are E1. -/
theorem CM {φ:AT} {w:World} {n':K4} (g:Gam ρ B h n φ w) (hn:n'.toN=n.toN+1) {cs:Cs} {c:Array Value} {e:TypeId} {fr:Nat×Nat} (hl:cs.len≤c.size) (hf:WE fr c.size)
    (hc:EV ρ φ cs fun i => c[i]?) :
    Gam ρ B (Af n h (some (.c cs false none))) n' (EG φ n (w.heap.size, 0, c.size)) (w.alloc (.cells c e fr)) ∧
    Fr h (Af n h (some (.c cs false none))) φ (EG φ n (w.heap.size, 0, c.size)) n n' w (w.alloc (.cells c e fr)) := by
  refine ⟨g.alloc g.at_n (by omega) (by omega) (.c cs false none) rfl _ c.size fun φ' hle w' hw' => ?_, Fr.alloc g.at_n (by omega) (Nat.le_refl _) (by omega) _ _ _⟩
  exact ⟨c, e, fr, hw', rfl, by omega, hf, G9 hle (fun i v hv => by rw [Nat.zero_add]; exact hc i v hv)⟩
theorem JE (k:Nat):WE (0, 0) k := .inl rfl
theorem Ee {φ:AT} {l:List V} {xs:List Value} (h:By ρ φ l xs) (h1:∀ y∈xs, y.oneCell'=true):EV ρ φ (.l l) fun i => xs[i]? := fun i v hv => by
  obtain ⟨x, hx, hr⟩ := (Cr.1 h).2 i v hv
  exact ⟨x, hx, hr, h1 x (List.mem_of_getElem? hx)⟩
theorem Dh {φ:AT} {p:K4} {b tot:Nat}:As ρ (EG φ p (b, 0, tot)) (.ptr p 0) (.pointer (some ⟨b, 0, none⟩)) := by
  simp only [As]; exact ⟨b, 0, tot, Cj _ _ _, rfl⟩
theorem Fl {e:TypeId} {c:Array Value} (w:World):(newRow e c).run P w = .ok ⟨w.heap.size, 0, none⟩ (w.alloc (.cells c e)) := rfl
theorem RC {e:TypeId} {z:List V} (ho:o.op = .alloc e) (hz:Dw P e=some z):CX P ρ B N o (OR (.l z) cf t h n) t h n := by
  intro κ hg
  obtain ⟨n', hn, e1⟩ := Bp (show R.good (Di h n (.c (.l z) false none) fun h' n' => κ (.ptr n 0) h' n') from hg)
  refine ⟨_, _, _, e1, .value fun φ a w hT g => ?_⟩
  unfold Dw at hz
  cases hi:(P.info? e).bind (·.zero) with
  | none => rw [hi] at hz; cases hz
  | some zv =>
    rw [hi] at hz
    obtain ⟨hl, h1⟩ := EY (ρ := ρ) (show HQ zv.cells.toList=some z from hz) φ
    have hc := Ee hl h1
    obtain ⟨g1, g2⟩ := CM g hn (e := e) (fr := (0, 0)) (c := zv.cells) (by have := B5 hl; simp only [Cs.len]; simp at this; omega) (JE _) (cs := .l z) (fun i v hv => by simpa using hc i v hv)
    refine ⟨_, .pointer (some ⟨w.heap.size, 0, none⟩), _, ?_, g2, g1, Dh⟩
    simp [execOp, ho, Instr.alloc, Dx hi, newVar, Fl]
theorem RA {e:TypeId} {x:Operand} {x':Opd} (hρ:Bo ρ) (ho:o.op = .box e x) (hx:AH N x=some x'):CX P ρ B N o (IG x' cf t h n) t h n := by
  intro κ hg
  have e1:IG x' cf t h n κ=Eb (ev x' t) fun l => Di h n (.c (.l l) false none) fun h' n' => κ (.ptr n 0) h' n' := by simp only [IG, AD]
  rw [e1] at hg
  obtain ⟨hc, e2⟩ := FJ hg
  rw [e2] at hg
  obtain ⟨n', hn, e3⟩ := Bp hg
  refine ⟨_, _, _, e1.trans (e2.trans e3), .value fun φ a w hT g => ?_⟩
  obtain ⟨hl, h1⟩ := Hn hρ hc (Ad hx hT)
  have hcs := Ee hl h1
  obtain ⟨g1, g2⟩ := CM g hn (e := e) (fr := (0, 0)) (c := (a.eval x).cells) (by have := B5 hl; simp only [Cs.len]; simp at this; omega) (JE _) (cs := .l (ev x' t).cl) (fun i v hv => by simpa using hcs i v hv)
  refine ⟨_, .pointer (some ⟨w.heap.size, 0, none⟩), _, ?_, g2, g1, Dh⟩
  simp [execOp, ho, Instr.box, newVar, Fl]
theorem OE {ty:TypeId} (ho:o.op = .makeMap ty none):CX P ρ B N o (ID cf t h n) t h n := by
  intro κ hg
  obtain ⟨n', hn, e1⟩ := Bp (show R.good (Di h n (.m [] [] 0) fun h' n' => κ (.map n) h' n') from hg)
  refine ⟨_, _, _, e1, .value fun φ a w hT g => ?_⟩
  refine ⟨_, .map (some w.heap.size), w.alloc (.map #[] 0), by simp [execOp, ho, Instr.makeMap, run_newObj], Fr.alloc g.at_n (by omega) (Nat.le_refl _) (by omega) _ _ 0, ?_, ?_⟩
  · exact g.alloc g.at_n (by omega) (by omega) (.m [] [] 0) rfl _ 0 fun φ' hle w' hw' => ⟨#[], hw', rfl, rfl⟩
  · simp only [As]; exact ⟨w.heap.size, 0, 0, Cj _ _ _, rfl⟩
theorem Rj {src dst e:TypeId} {x:Operand} {x':Opd} (ho:o.op = .convert src dst x) (hx:AH N x=some x') (hs:P.underlying src=some .string) (hd:P.underlying dst=some (.slice e)) (he:P.underlying e=some (.int .u8)) :
    CX P ρ B N o (If x' cf t h n) t h n := by
  intro κ hg
  have e1:If x' cf t h n κ=Be (ev x' t) fun m c => Di h n (.c (.b m c) false none) fun h' n' => κ (.sl n 0 m m false 1) h' n' := by simp only [If, AD]
  rw [e1] at hg
  obtain ⟨m, c, hxv, e2⟩ := Ce hg
  rw [e2] at hg
  obtain ⟨n', hn, e3⟩ := Bp hg
  refine ⟨_, _, _, e1.trans (e2.trans e3), .value fun φ a w hT g => ?_⟩
  have g1 := Ad hx hT
  rw [hxv] at g1
  obtain ⟨s, gx, hsz, hc⟩ := Cy g1
  clear g1
  subst hsz hc
  -- the capacity is drawn
  obtain ⟨cap, w1, hcap, hrun, hw1⟩:∃ cap w1, s.size≤cap∧(choose (.appendCap s.size 0 e)).run P w = .ok cap w1∧w1=w.drew := by
    refine ⟨_, _, ?_, by rw [run_choose]; simp only [Question.forced, Bool.false_eq_true, if_false]; rfl, rfl⟩
    simp only [Question.cut]; omega
  subst hw1
  let cells:Array Value := s.data.map (fun b => Value.int .u8 b.toNat)++Array.replicate (cap - s.size) (.int .u8 0)
  have hsize:cells.size=cap := by simp [cells]; omega
  have hcs:EV ρ φ (.b s.size (Au s.data.toList)) fun i => cells[i]? := fun i v hv => by
    have hi:i<s.size := Cs.lt_of_at hv
    rw [Cs.b_pos hi] at hv
    have hi':i<s.data.toList.length := by rw [C1]; exact hi
    rw [Ib _ _ hi'] at hv
    cases hv
    have hlt := s.data.toList[i].toNat_lt
    refine ⟨.int .u8 (s.data.toList[i].toNat:Nat), ?_, ?_, rfl⟩
    · have hi2:i<s.data.size := hi
      show (s.data.map (fun b => Value.int .u8 b.toNat)++Array.replicate (cap - s.size) (.int .u8 0))[i]? = _
      rw [Array.getElem?_append_left (by simpa using hi2), Array.getElem?_map, Array.getElem?_eq_getElem hi2]
      simp
    · simp only [As]
      exact ⟨by simp [Mk]; exact hlt, by rw [Ao (by simp [Hk]; exact hlt)]⟩
  obtain ⟨g2, g3⟩ := CM (g.drew) hn (e := e) (fr := (cap, cap+1)) (c := cells) (by simp only [Cs.len]; omega) (.inr (by rw [hsize]; exact Nat.le_refl _)) hcs
  refine ⟨_, .slice (some ⟨w.heap.size, 0, none⟩) s.size cap, _, ?_, Fr.trans Fr.drew g3, g2, ?_⟩
  · simp only [execOp, ho, gx, convert, Sem.run_bind, run_underlying hs, run_underlying hd, run_underlying he, Result.andThen_ok, Conv.stringToBytes, hrun]
    have hrow:(newRow e (Array.map (fun b => Value.int IntKind.u8 ↑b.toNat) s.data++Array.replicate (cap - s.size) (Value.int IntKind.u8 0))).run P w.drew = .ok ⟨w.heap.size, 0, none⟩ (w.drew.alloc (.cells cells e)) := rfl
    simp only [hrow, Result.andThen_ok]
    have hsh:(w.drew.alloc (.cells cells e)).shape? w.heap.size=some (e, cap) := by
      have:(w.drew.alloc (.cells cells e)).heap[w.heap.size]? = some (.cells cells e) := by show (w.heap.push _)[w.heap.size]? = _; simp
      unfold World.shape?; rw [this]; simp [hsize]
    have hfz:(w.drew.alloc (.cells cells e)).freeze { block := w.heap.size, off := cap } 1=w.drew.alloc (.cells cells e (cap, cap+1)) := by
      exact (H6 (show (w.drew.alloc (.cells cells e)).heap[w.heap.size]? = some (.cells cells e (0, 0)) from Ik (w := w.drew))).trans (Kj (w := w.drew))
    simp only [markStringish, Sem.run_bind, run_shape, hsh, Result.andThen_ok, run_freeze, hfz, Sem.run_pure]
  · simp only [As]
    refine ⟨w.heap.size, 0, cells.size, 0, cap, Cj _ _ _, rfl, Nat.le_refl _, hcap, (fun h => by cases h), (fun _ => ⟨rfl, by rw [hsize]; omega⟩)⟩
end
end Go.Ev

namespace Go.Ev
set_option linter.unusedVariables false
section
variable {P:Program} {ρ:Env} {B N:Nat} {o:Oper} {cf:CF} {t:Regs} {h:Heap} {n:K4}
theorem Dd {p:K4} {κ:Cs->Bool->Option K4->R} (hg:(Ht p h κ).good):∃ cs sup prev, A8 p h=some (.c cs sup prev)∧Ht p h κ=κ cs sup prev := by
  have e:Ht p h κ=@Option.rec Ob (fun _ => R) (.fail "") (fun o => @Ob.rec (fun _ => R) κ (Cb "") (Fp "") (.fail "") (AG "") o) (A8 p h) := CZ _ _ _
  rw [e] at hg
  cases hx:A8 p h with
  | none => rw [hx] at hg; exact hg.elim
  | some ob =>
    rw [hx] at hg e
    cases ob with
    | c cs sup prev => exact ⟨cs, sup, prev, rfl, e⟩
    | m _ _ _ => exact hg.elim
    | it _ _ _ _ => exact hg.elim
    | it0 => exact hg.elim
    | lp _ _ => exact hg.elim
theorem Fk {p:K4} {κ:List (V×V)->List Nat->Nat->R} (hg:(Oi p h κ).good):∃ es bs c, A8 p h=some (.m es bs c)∧Oi p h κ=κ es bs c := by
  have e:Oi p h κ=@Option.rec Ob (fun _ => R) (.fail "") (fun o => @Ob.rec (fun _ => R) (Cb "") κ (Fp "") (.fail "") (AG "") o) (A8 p h) := CZ _ _ _
  rw [e] at hg
  cases hx:A8 p h with
  | none => rw [hx] at hg; exact hg.elim
  | some ob =>
    rw [hx] at hg e
    cases ob with
    | c cs sup prev => exact hg.elim
    | m es bs c => exact ⟨es, bs, c, rfl, e⟩
    | it _ _ _ _ => exact hg.elim
    | it0 => exact hg.elim
    | lp _ _ => exact hg.elim
theorem Vc {ρ:Env} {φ:AT} {z:Int} (z1 : -9223372036854775808≤z) (z2:z<9223372036854775808):As ρ φ (.oth (.iv .i64 0 18446744073709551615)) (.int .i64 z) := by
  simp only [As]
  by_cases h0:0≤z
  · refine ⟨z.toNat, Nat.zero_le _, by omega, by simp only [Mk]; omega, ?_⟩
    rw [Ao (by simp only [Hk]; omega)]; congr 1; omega
  · refine ⟨(z+18446744073709551616).toNat, Nat.zero_le _, by omega, by simp only [Mk]; omega, ?_⟩
    rw [CA (by simp only [Hk]; omega)]; congr 1; simp only [Mk]; omega
theorem Uj {ρ:Env} {i j:Nat} {κ:V->R} (hg:(Yj i j κ).good) (h3:¬ i≤36893488147419103231) (h5:i≤73786976294838206463):∃ v, Yj i j κ=κ v ∧ ∀ (φ:AT) y, Lm ρ i j y->As ρ φ v y := by
  have key:∀ y, Lm ρ i j y->∃ r, r<Mk .i64∧y = .int .i64 (C9 .i64 r)∧(36893488147419103232<i->j=YA i->(C9 .i64 r).tmod (Ic i:Nat)+(Ic i:Nat)=(Qx i:Nat)) := fun y hy => by
    rcases hy with ⟨h, _⟩ | ⟨_, h, _⟩ | ⟨_, h, _⟩ | ⟨_, _, h⟩ | ⟨h, _⟩
    · omega
    · omega
    · omega
    · exact h
    · omega
  have any:∀ (φ:AT) y, Lm ρ i j y->As ρ φ (.oth (.iv .i64 0 18446744073709551615)) y := fun φ y hy => by
    obtain ⟨r, hr, rfl, _⟩ := key y hy
    simp only [As]; exact ⟨r, Nat.zero_le _, by simp only [Mk] at hr; omega, hr, rfl⟩
  unfold Yj at hg ⊢
  cases h1:Nat.ble i 36893488147419103232 with
  | true => exact ⟨_, rfl, any⟩
  | false =>
    have h1':¬ i≤36893488147419103232 := fun h => by rw [Aa.2 h] at h1; cases h1
    rw [h1, Aq] at hg
    rw [Aq]
    cases h2:Nat.beq j (YA i) with
    | false => exact ⟨_, rfl, any⟩
    | true =>
      rw [h2] at hg
      have h2:j=YA i := Nat.eq_of_beq_eq_true h2
      have hm:Ic i<65536 := Nat.mod_lt _ (by decide)
      have ht:Qx i<65536 := Nat.mod_lt _ (by decide)
      rw [Ac, A9, A9] at hg ⊢
      -- the remainder, as an integer
      have val:∀ y, Lm ρ i j y->∃ z:Int, y = .int .i64 z ∧ -9223372036854775808≤z∧z<9223372036854775808∧z.tmod (Ic i:Nat)+(Ic i:Nat)=(Qx i:Nat) := fun y hy => by
        obtain ⟨r, hr, rfl, hz⟩ := key y hy
        have hz := hz (by omega) h2
        refine ⟨_, rfl, ?_, ?_, hz⟩
        · have hr:r<18446744073709551616 := hr
          by_cases hh:r<9223372036854775808
          · rw [Ao (by simp only [Hk]; omega)]; omega
          · rw [CA (by simp only [Hk]; omega)]; simp only [Mk]; omega
        · have hr:r<18446744073709551616 := hr
          by_cases hh:r<9223372036854775808
          · rw [Ao (by simp only [Hk]; omega)]; omega
          · rw [CA (by simp only [Hk]; omega)]; simp only [Mk]; omega
      have abs:∀ z:Int, (z.tmod (Ic i:Nat)).natAbs=z.natAbs % Ic i := fun z => by rw [Int.natAbs_tmod, Int.natAbs_natCast]
      cases h3:Nat.ble (Nat.succ (Ic i)) (Qx i) with
      | true =>
        have h3:Ic i+1≤Qx i := Aa.1 h3
        refine ⟨.oth (.rs (18446744073709551616+Ic i) (Qx i - Ic i)), by rw [Ac, A9]; rfl, fun φ y hy => ?_⟩
        obtain ⟨z, rfl, z1, z2, z3⟩ := val y hy
        have ha := abs z
        have hz:0≤z := by
          by_cases hz:0≤z
          · exact hz
          · have h4:0≤(-z).tmod (Ic i:Nat) := Int.tmod_nonneg _ (by omega)
            rw [Int.neg_tmod] at h4
            omega
        simp only [As]
        refine ⟨z, rfl, z1, z2, .inl ⟨by omega, ?_⟩, fun _ _ => hz, fun h => by omega⟩
        rw [show (18446744073709551616+Ic i) % 18446744073709551616=Ic i by omega, ←ha]; omega
      | false =>
        have h3':¬ Ic i+1≤Qx i := fun h => by rw [Aa.2 h] at h3; cases h3
        rw [h3, Aq] at hg
        rw [Aq]
        cases h4:Nat.beq (Qx i) (Ic i) with
        | true =>
          have h4':Qx i=Ic i := Nat.eq_of_beq_eq_true h4
          rw [h4, Ac] at hg
          obtain ⟨h6, e⟩ := Ae hg
          refine ⟨.oth (.rs (Ic i) 0), by rw [Ac]; exact e, fun φ y hy => ?_⟩
          obtain ⟨z, rfl, z1, z2, z3⟩ := val y hy
          have ha := abs z
          simp only [As]
          refine ⟨z, rfl, z1, z2, .inl ⟨by omega, ?_⟩, fun h => by omega, fun h => by omega⟩
          rw [Nat.mod_eq_of_lt (show Ic i<18446744073709551616 by omega), ←ha]; omega
        | false =>
          have h4':Qx i≠Ic i := fun h => by rw [h, Nat.beq_refl] at h4; cases h4
          refine ⟨.oth (.rs (73786976294838206464+Ic i) ((Ic i - Qx i)*18446744073709551616+(Ic i - Qx i))), by rw [Aq, A9]; rfl, fun φ y hy => ?_⟩
          obtain ⟨z, rfl, z1, z2, z3⟩ := val y hy
          have ha := abs z
          have hz:z<0 := by
            by_cases hz:0≤z
            · have h4:0≤z.tmod (Ic i:Nat) := Int.tmod_nonneg _ hz
              omega
            · omega
          simp only [As]
          have e7:(73786976294838206464+Ic i) % 18446744073709551616=Ic i := by omega
          refine ⟨z, rfl, z1, z2, .inr ⟨by omega, ?_, ?_⟩, fun _ h => by omega, fun _ => hz⟩
          · rw [e7, ←ha]; omega
          · rw [e7, ←ha]; omega
theorem TU {ρ:Env} {i j:Nat} {κ:V->R} (hg:(Y8 i j κ).good) (h5:¬ i≤73786976294838206463):∃ v, Y8 i j κ=κ v ∧ ∀ (φ:AT) y, Lm ρ i j y->As ρ φ v y := by
  have key:∀ y, Lm ρ i j y->∃ z:Int, y = .int .i64 z ∧ -9223372036854775808≤z∧z<9223372036854775808∧(j<ZF i->z.natAbs % Xj i=ZA i j) := fun y hy => by
    rcases hy with ⟨h, _⟩ | ⟨_, h, _⟩ | ⟨_, h, _⟩ | ⟨_, h, _⟩ | ⟨_, z, rfl, z1, z2, z3⟩
    · omega
    · omega
    · omega
    · omega
    · exact ⟨z, rfl, z1, z2, z3⟩
  unfold Y8 at hg ⊢
  cases h1:Nat.ble (Nat.succ j) (ZF i) with
  | false =>
    refine ⟨_, by rw [Aq], fun φ y hy => ?_⟩
    obtain ⟨z, rfl, z1, z2, _⟩ := key y hy
    exact Vc z1 z2
  | true =>
    rw [h1, Ac, A9] at hg
    obtain ⟨hm, e⟩ := Ae hg
    have hm := Aa.1 hm
    refine ⟨.oth (.rs (Xj i) (ZA i j)), by rw [Ac, A9, e, A9], fun φ y hy => ?_⟩
    obtain ⟨z, rfl, z1, z2, z3⟩ := key y hy
    have z3 := z3 (Aa.1 h1)
    simp only [As]
    exact ⟨z, rfl, z1, z2, .inl ⟨by omega, by rw [Nat.mod_eq_of_lt (show Xj i<18446744073709551616 by omega)]; exact z3⟩, fun h => by omega, fun h => by omega⟩
theorem OK {ty:TypeId} {x:Operand} {x':Opd} (ho:o.op = .load ty x) (hx:AH N x=some x') (ha:KO P ty=some false):Bf P ρ B N o (RX x' cf t h n) t h n := by
  intro κ hg
  have e1:RX x' cf t h n κ=L5 (ev x' t) (fun p off => Ht p h fun cs _ _ => Ge cs off fun v => κ v h n) (fun o => RJ o (fun i j m => br (Nat.ble 1 m) (VK i j fun v => κ v h n) (.fail "")) (KR o (fun l => T9 l fun v => κ v h n) (.fail ""))) := by simp only [RX, AD]
  rw [e1] at hg
  rcases HX hg with ⟨p, off, hxv, e2⟩ | ⟨oo, hxv, e2⟩
  rotate_left
  · rw [e2] at hg
    cases oo with
    | ap i j m =>
      have hg':R.good (br (Nat.ble 1 m) (VK i j fun v => κ v h n) (.fail "")) := hg
      obtain ⟨h1, e3⟩ := Ae hg'
      have h1 := Aa.1 h1
      have key:∃ v, VK i j (fun v => κ v h n)=κ v h n ∧ ∀ (φ:AT) y, Lm ρ i j y->As ρ φ v y := by
        unfold VK
        cases hi:Nat.beq i 0 with
        | true =>
          have hi := Nat.eq_of_beq_eq_true hi
          refine ⟨_, by rw [Ac], fun φ y hy => ?_⟩
          rcases hy with ⟨_, b, rfl⟩ | ⟨h, _⟩ | ⟨h, _⟩ | ⟨h, _⟩ | ⟨h, _⟩
          · exact EE b
          · omega
          · omega
          · omega
          · omega
        | false =>
          have hi0:i≠0 := fun h => by subst h; cases hi
          rw [Aq]
          cases h2f:Nat.ble i 18446744073709551615 with
          | true =>
            have h2 := Aa.1 h2f
            refine ⟨.oth (.sy .i64 (i+j)), by first | (rw [Ac, A9]; rfl) | (rw [A9]; rfl) | rw [A9], fun φ y hy => ?_⟩
            rcases hy with ⟨h, _⟩ | ⟨_, _, h2, r, h3, h4⟩ | ⟨h, _⟩ | ⟨h, _⟩ | ⟨h, _⟩
            · exact absurd h hi0
            · simp only [As]; exact ⟨h2, r, h3, h4⟩
            · omega
            · omega
            · omega
          | false =>
            have h2:¬ i≤18446744073709551615 := fun h => by rw [Aa.2 h] at h2f; cases h2f
            rw [Aq]
            cases h3f:Nat.ble i 36893488147419103231 with
            | true =>
              have h3 := Aa.1 h3f
              rw [Ac]
              cases h4:Nat.ble (Nat.succ j) (Nat.div (Nat.sub i 18446744073709551616) 4294967296) with
              | true =>
                have h4 := Aa.1 h4
                rw [Ac]
                refine ⟨.bool (PV i j), by cases PV i j <;> rfl, fun φ y hy => ?_⟩
                rcases hy with ⟨h, _⟩ | ⟨_, h, _⟩ | ⟨_, _, b, rfl, hb⟩ | ⟨h, _⟩ | ⟨h, _⟩
                · omega
                · omega
                · rw [hb h4]; simp only [As]
                · omega
                · omega
              | false =>
                rw [Aq]
                refine ⟨_, rfl, fun φ y hy => ?_⟩
                rcases hy with ⟨h, _⟩ | ⟨_, h, _⟩ | ⟨_, _, b, rfl, hb⟩ | ⟨h, _⟩ | ⟨h, _⟩
                · omega
                · omega
                · exact EE b
                · omega
                · omega
            | false =>
              have h3:¬ i≤36893488147419103231 := fun h => by rw [Aa.2 h] at h3f; cases h3f
              rw [Aq]
              cases h5f:Nat.ble i 73786976294838206463 with
              | true =>
                have h5 := Aa.1 h5f
                rw [Ac]
                have hg2:R.good (Yj i j fun v => κ v h n) := by
                  have hg3 := hg'
                  rw [e3] at hg3
                  unfold VK at hg3
                  rw [show Nat.beq i 0=false from hi, Aq, h2f, Aq, h3f, Aq, h5f, Ac] at hg3
                  exact hg3
                exact Uj hg2 h3 h5
              | false =>
                have h5:¬ i≤73786976294838206463 := fun h => by rw [Aa.2 h] at h5f; cases h5f
                rw [Aq]
                have hg2:R.good (Y8 i j fun v => κ v h n) := by
                  have hg3 := hg'
                  rw [e3] at hg3
                  unfold VK at hg3
                  rw [show Nat.beq i 0=false from hi, Aq, h2f, Aq, h3f, Aq, h5f, Aq] at hg3
                  exact hg3
                exact TU hg2 h5
      obtain ⟨v, e4, hv⟩ := key
      refine ⟨v, e1.trans (e2.trans (e3.trans e4)), fun φ a w hT g => ?_⟩
      have g1 := Ad hx hT
      rw [hxv] at g1
      simp only [As] at g1
      obtain ⟨b, q, c, e, fr, gx, c1, c2⟩ := g1
      obtain ⟨y, y1, y2⟩ := c2 0 (by omega)
      refine ⟨y, ?_, hv φ y y2⟩
      have hc := (g.glob b c e fr c1).2
      simp [execOp, ho, gx, Instr.loadAt, Instr.sureAddr, loadVar, Cq ha, Gs hc (show c[q]? = some y from y1)]
    | rp l =>
      cases l with
      | nil => exact hg.elim
      | cons v l =>
      refine ⟨v.v, e1.trans e2, fun φ a w hT g => ?_⟩
      have g1 := Ad hx hT
      rw [hxv] at g1
      simp only [As] at g1
      obtain ⟨b, q, c, e, fr, gx, c1, c2⟩ := g1
      obtain ⟨y, y1, y2⟩ := c2 0 v rfl
      refine ⟨y, ?_, NI y2⟩
      have hc := (g.glob b c e fr c1).2
      simp [execOp, ho, gx, Instr.loadAt, Instr.sureAddr, loadVar, Cq ha, Gs hc (show c[q]? = some y from y1)]
    | _ => exact hg.elim
  rw [e2] at hg
  obtain ⟨cs, sup, prev, hp, e3⟩ := Dd hg
  rw [e3] at hg
  obtain ⟨v, hv, e4⟩ := Hz hg
  refine ⟨v, e1.trans (e2.trans (e3.trans e4)), fun φ a w hT g => ?_⟩
  have g1 := Ad hx hT
  rw [hxv] at g1
  obtain ⟨b, s, tot, hφ, gx⟩ := D9 g1
  obtain ⟨c, e, fr, k1, k2, k3, k4, k5⟩ := g.obj p _ b s tot hp hφ
  obtain ⟨X, hX, hr, _⟩ := k5 off v hv
  refine ⟨X, ?_, hr⟩
  simp [execOp, ho, gx, Instr.loadAt, Instr.sureAddr, loadVar, Cq ha, Gs k1 hX]
theorem MG {ty:TypeId} {m:Nat} {x:Operand} {x':Opd} (ho:o.op = .load ty x) (hx:AH N x=some x') (ha:KO P ty=some true) (hm:Bj P ty=some m):Bf P ρ B N o (MS m x' cf t h n) t h n := by
  intro κ hg
  have e1:MS m x' cf t h n κ=L5 (ev x' t) (fun p off => Ht p h fun cs _ _ => Bh cs off m fun y => E4 y fun l => κ (.agg l) h n) (fun o => KR o (fun l => br (Nat.ble m l.length) (κ (.agg ((l.take m).map RV.v)) h n) (.fail "")) (.fail "")) := by simp only [MS, AD]
  rw [e1] at hg
  rcases HX hg with ⟨p, off, hxv, e2⟩ | ⟨oo, hxv, e2⟩
  rotate_left
  · rw [e2] at hg
    cases oo with
    | rp l =>
      have hg':R.good (br (Nat.ble m l.length) (κ (.agg ((l.take m).map RV.v)) h n) (.fail "")) := hg
      obtain ⟨h1, e3⟩ := Ae hg'
      have h1 := Aa.1 h1
      refine ⟨.agg ((l.take m).map RV.v), e1.trans (e2.trans e3), fun φ a w hT g => ?_⟩
      have g1 := Ad hx hT
      rw [hxv] at g1
      simp only [As] at g1
      obtain ⟨b, q, c, e, fr, gx, c1, c2⟩ := g1
      have c3:QD ρ (l.take m) c q := fun j v hv => by
        rw [List.getElem?_take] at hv
        split at hv
        · exact c2 j v hv
        · cases hv
      obtain ⟨vs, q1, q2, q3, q4⟩ := Kq (φ := φ) c3
      have hlm:vs.length=m := by rw [q1, List.length_take]; omega
      have hrun := Dr (P := P) (w := w) (off := q) vs (g.glob b c e fr c1).2 q2
      rw [hlm] at hrun
      refine ⟨.agg vs.toArray, ?_, ?_⟩
      · simp [execOp, ho, gx, Instr.loadAt, Instr.sureAddr, loadVar, Cq ha, AM hm, hrun]
      · simp only [As]
        exact ⟨_, rfl, q4, q3⟩
    | _ => exact hg.elim
  rw [e2] at hg
  obtain ⟨cs, sup, prev, hp, e3⟩ := Dd hg
  rw [e3] at hg
  obtain ⟨hle, y, hyl, hya, e4⟩ := CL hg
  obtain ⟨l, e5, hll, hla⟩ := G0 y fun l => κ (.agg l) h n
  refine ⟨.agg l, e1.trans (e2.trans (e3.trans (e4.trans e5))), fun φ a w hT g => ?_⟩
  have g1 := Ad hx hT
  rw [hxv] at g1
  obtain ⟨b, s, tot, hφ, gx⟩ := D9 g1
  obtain ⟨c, e, fr, k1, k2, k3, k4, k5⟩ := g.obj p _ b s tot hp hφ
  obtain ⟨vs, q1, q2, q3, q4⟩ := IC (He k5 hyl hya)
  have hrun := Dr (P := P) (off := s+off) vs k1 (fun j v hj => by have := q2 j v hj; rwa [←Nat.add_assoc] at this)
  rw [q1, hyl] at hrun
  refine ⟨.agg vs.toArray, ?_, ?_⟩
  · simp [execOp, ho, gx, Instr.loadAt, Instr.sureAddr, loadVar, Cq ha, AM hm, hrun]
  · simp only [As]
    exact ⟨_, rfl, q4 l (by rw [hll]) hla, q3⟩
theorem Fq {p:K4} {off:Nat} {y:Cs} {κ:Heap->R} (hg:(DV h p off y κ).good):∃ cs prev z, A8 p h=some (.c cs false prev)∧Qb cs off y z ∧
    DV h p off y κ=κ (Af p (EL prev h) (some (.c z false none))) := by
  obtain ⟨cs, sup, prev, hp, e1⟩ := Dd (show R.good (Ht p h _) from hg)
  have e1:DV h p off y κ=_ := e1
  rw [e1] at hg
  obtain ⟨h2, e2⟩ := Gd hg
  subst h2
  rw [e2] at hg
  obtain ⟨z, hz, e3⟩ := Rb hg
  refine ⟨cs, prev, z, hp, hz, e1.trans (e2.trans (e3.trans ?_))⟩
  rw [Gq, B6]
theorem FF {φ:AT} {w:World} (g:Gam ρ B h n φ w) {p:K4} {off:Nat} {cs y z:Cs} {prev:Option K4} {b s tot:Nat} (hp:A8 p h=some (.c cs false prev)) (hφ:φ p=some (b, s, tot)) (hz:Qb cs off y z)
    {vs:List Value} (hl:vs.length=y.len) (hv:∀ i v, y.at i=some v->∃ x, vs[i]? = some x∧As ρ φ v x) (h1:∀ x∈vs, x.oneCell'=true) :
    ∃ w', (storeCells ⟨b, s+off, none⟩ vs).run P w = .ok () w'∧Gam ρ B (Af p (EL prev h) (some (.c z false none))) n φ w'∧Fr h (Af p (EL prev h) (some (.c z false none))) φ φ n n w w' := by
  obtain ⟨c, e, fr, k1, k2, k3, k4, k5⟩ := g.obj p _ b s tot hp hφ
  obtain ⟨z1, z2, z3, z4, z5⟩ := hz
  obtain ⟨c', q1, q2, q3, q4⟩ := H3 (P := P) vs w b (s+off) 0 c e fr k1 (by omega) (by rw [k2]; exact k4) h1
  have hb := (g.blk p b s tot hφ).2
  refine ⟨_, q4, g.write (o := .c cs false prev) (o' := .c z false none) hp hφ rfl rfl ⟨c', e, fr, DI hb, by rw [q1, k2], by rw [z2]; exact k3, k4, fun i v hi => ?_⟩, Fr.write (o := .c cs false prev) hp hφ⟩
  by_cases ha:i<off
  · rw [z3 i ha] at hi
    obtain ⟨x, hx, hr⟩ := k5 i v hi
    exact ⟨x, by show c'[s+i]? = some x; rw [q2 (s+i) (by omega)]; exact hx, hr⟩
  · by_cases hb':i<off+y.len
    · obtain ⟨j, rfl⟩:∃ j, i=off+j := ⟨i - off, by omega⟩
      rw [z4 j (by omega)] at hi
      obtain ⟨x, hx, hr⟩ := hv j v hi
      refine ⟨x, ?_, hr, h1 x (List.mem_of_getElem? hx)⟩
      show c'[s+(off+j)]? = some x
      rw [←q3 j x hx]; congr 1; omega
    · rw [z5 i (by omega)] at hi
      obtain ⟨x, hx, hr⟩ := k5 i v hi
      exact ⟨x, by show c'[s+i]? = some x; rw [q2 (s+i) (by omega)]; exact hx, hr⟩
theorem T7 {ty:TypeId} {m:Nat} {x y:Operand} {x' y':Opd} (hρ:Bo ρ) (ho:o.op = .store ty x y) (hx:AH N x=some x') (hy:AH N y=some y') (hm:Bj P ty=some m) :
    CX P ρ B N o (Rh m x' y' cf t h n) t h n := by
  intro κ hg
  have e1:Rh m x' y' cf t h n κ=JP (ev x' t) fun p off => Eb (ev y' t) fun l => Gk l fun k => br (Nat.beq k m) (DV h p off (.l l) fun h' => κ Ay h' n) (.fail "") := by simp only [Rh, AD]
  rw [e1] at hg
  obtain ⟨p, off, hxv, e2⟩ := Dt hg
  rw [e2] at hg
  obtain ⟨hc, e3⟩ := FJ hg
  rw [e3, CV] at hg
  obtain ⟨h4, e4⟩ := Ae hg
  have h4 := Nat.eq_of_beq_eq_true h4
  rw [e4] at hg
  obtain ⟨cs, prev, z, hp, hz, e5⟩ := Fq hg
  refine ⟨Ay, _, n, e1.trans (e2.trans (e3.trans ((CV _ _).trans (e4.trans e5)))), .skip fun φ a w hT g => ?_⟩
  have g1 := Ad hx hT
  rw [hxv] at g1
  obtain ⟨b, s, tot, hφ, gx⟩ := D9 g1
  obtain ⟨hl, h1⟩ := Hn hρ hc (Ad hy hT)
  have hlen := B5 hl
  obtain ⟨w', q1, q2, q3⟩ := FF (P := P) g hp hφ hz (vs := (a.eval y).cells.toList) (by rw [hlen]; rfl) (fun i v hi => (Cr.1 hl).2 i v hi) h1
  refine ⟨φ, w', ?_, q3, q2⟩
  have hsz:(a.eval y).cells.size=m := by rw [←h4, ←hlen]; simp
  simp [execOp, ho, gx, Instr.storeAt, Instr.sureAddr, storeVar, AM hm, hsz, q1]
theorem LM {ty e:TypeId} {m esz:Nat} {x:Operand} {lo hi:Option Operand} {x':Opd} {lo' hi':Option Opd} (ho:o.op = .slice ty x lo hi none) (hx:AH N x=some x') (hlo:Et N lo=some lo') (hhi:Et N hi=some hi')
    (ht:P.underlying ty=some (.array m e)) (he:Bj P e=some esz):Bf P ρ B N o (Ip m esz x' lo' hi' cf t h n) t h n := by
  intro κ hg
  have e1:Ip m esz x' lo' hi' cf t h n κ=JP (ev x' t) fun p off => Ht p h fun cs _ _ => br (Nat.ble (Nat.add off (Nat.mul m esz)) cs.len) (BG hi' t m fun b => BG lo' t 0 fun a => br (Nat.ble a b) (br (Nat.ble b m) (κ (.sl p (Nat.add off (Nat.mul a esz)) (Nat.sub b a) (Nat.sub m a) true esz) h n) (.fail "")) (.fail "")) (.fail "") := by
    simp only [Ip, AD, A9, UW]
  rw [e1] at hg
  obtain ⟨p, off, hxv, e2⟩ := Dt hg
  rw [e2] at hg
  obtain ⟨cs, sup, prev, hp, e3⟩ := Dd hg
  rw [e3] at hg
  obtain ⟨h4, e4⟩ := Ae hg
  have h4 := Aa.1 h4
  simp only [Nat.add_eq, Nat.mul_eq] at h4
  rw [e4] at hg
  obtain ⟨b, e5, hb⟩ := Bv (ρ := ρ) hhi hg
  rw [e5] at hg
  obtain ⟨a, e6, ha⟩ := Bv (ρ := ρ) hlo hg
  rw [e6] at hg
  obtain ⟨h7, e7⟩ := Ae hg
  rw [e7] at hg
  obtain ⟨h8, e8⟩ := Ae hg
  have h7 := Aa.1 h7; have h8 := Aa.1 h8
  refine ⟨_, e1.trans (e2.trans (e3.trans (e4.trans (e5.trans (e6.trans (e7.trans e8)))))), fun φ ac w hT g => ?_⟩
  have g1 := Ad hx hT
  rw [hxv] at g1
  obtain ⟨bk, s, tot, hφ, gx⟩ := D9 g1
  obtain ⟨c, e', fr, k1, k2, k3, k4, k5⟩ := g.obj p _ bk s tot hp hφ
  refine ⟨.slice (if m=a then some ⟨bk, s+off, none⟩ else some ⟨bk, s+off+a*esz, none⟩) (b - a) (m - a), ?_, ?_⟩
  · have hsw:(if m=a then some (⟨bk, s+off, none⟩:Addr) else some ⟨bk, s+off+a*esz, none⟩)=some (if m=a then ⟨bk, s+off, none⟩ else ⟨bk, s+off+a*esz, none⟩) := by split <;> rfl
    rw [hsw]
    simp only [execOp, ho, gx, Instr.sliceAt, Instr.sureAddr, Sem.run_bind, run_underlying ht, Result.andThen_ok, Option.map_none, Sem.run_pure]
    simp [Df (ha φ ac hT) (hb φ ac hT) h7 h8, AM he, Ch]
  · simp only [As]
    have hmul:m - a=0∨a*esz+(m - a)*esz=m*esz := by
      rcases Nat.lt_or_ge a m with h' | h'
      · right; rw [←Nat.add_mul]; congr 1; omega
      · left; omega
    by_cases hca:m=a
    · rw [if_pos hca]
      refine ⟨bk, s, tot, s+off, m - a, hφ, rfl, by show b - a≤m - a; omega, Nat.le_refl _, fun _ => rfl, fun h0 => by omega⟩
    · rw [if_neg hca]
      refine ⟨bk, s, tot, s+off+a*esz, m - a, hφ, rfl, by show b - a≤m - a; omega, Nat.le_refl _, fun _ => rfl, fun h0 => ⟨by show s+off+a*esz=s+(off+a*esz); omega, ?_⟩⟩
      rcases hmul with h' | h'
      · omega
      · omega
theorem I9 {xs:List V} {κ:Nat->Nat->R} {why:String} (hg:(Ct xs κ (.fail why)).good):∃ m c, Ct xs κ (.fail why)=κ m c∧(Cs.b m c).len=xs.length∧(∀ i, (Cs.b m c).at i=xs[i]?)∧c<256 ^ m := by
  rcases KU xs κ (.fail why) with e | e
  · rw [e] at hg; exact hg.elim
  · exact e
/-- Bytes, read one by one into a string. -/
theorem IE {φ:AT} {m c:Nat} {vs:List Value} (hl:vs.length=m) (hv:∀ i v, (Cs.b m c).at i=some v->∃ x, vs[i]? = some x∧As ρ φ v x) :
    ∃ bs:List UInt8, vs=bs.map (fun b => Value.int .u8 b.toNat)∧bs.length=m∧Au bs=c % 256 ^ m := by
  induction m generalizing c vs with
  | zero =>
    have:vs=[] := List.eq_nil_of_length_eq_zero hl
    subst this
    exact ⟨[], rfl, rfl, by simp [Au, Nat.mod_one]⟩
  | succ m ih =>
    cases vs with
    | nil => simp at hl
    | cons v vs =>
      obtain ⟨x, hx, hr⟩ := hv 0 _ (Cs.b_pos (by omega))
      simp at hx; subst hx
      obtain ⟨hlt, rfl⟩ := Cz hr
      obtain ⟨bs, rfl, hbl, hbe⟩ := ih (c := c / 256) (vs := vs) (by simpa using hl) (fun i u hu => by
        have hi := Cs.lt_of_at hu
        simp only [Cs.len] at hi
        rw [Cs.b_pos hi] at hu
        have := hv (i+1) u (by rw [Cs.b_pos (by omega), Nat.pow_succ, Nat.mul_comm, ←Nat.div_div_eq_div_mul]; exact hu)
        simpa using this)
      have hc:c / 256 ^ 0 % 256=c % 256 := by simp
      rw [hc] at hlt ⊢
      refine ⟨UInt8.ofNat (c % 256)::bs, ?_, by simp [hbl], ?_⟩
      · have:(UInt8.ofNat (c % 256)).toNat=c % 256 := by simp
        simp only [List.map_cons, List.cons.injEq, and_true, this]
        rw [Ao (by simp [Hk]; omega)]
      · have:(UInt8.ofNat (c % 256)).toNat=c % 256 := by simp
        simp only [Au, this, hbe]
        rw [Nat.pow_succ, Nat.mul_comm (256 ^ m) 256, Nat.mod_mul]
theorem run_bytesToString {a:Addr} {len cap:Nat} {w:World} (bs:List UInt8) (hl:bs.length=len) (h:(loadCells a len).run P w = .ok (bs.map (fun b => Value.int .u8 b.toNat)).toArray w) :
    (Conv.bytesToString (.slice (some a) len cap)).run P w = .ok (.string ⟨bs.toArray⟩) w := by
  have h' := Go.run_bytesToString w a len cap (bs.map fun b => (b.toNat:Int)) (by rw [List.map_map]; exact h)
  rw [h']
  have key:∀ (bs:List UInt8) (s:ByteArray), (bs.map fun b => (b.toNat:Int)).foldl (fun r n => r.push (UInt8.ofNat n.toNat)) s=⟨s.data++bs.toArray⟩ := by
    intro bs
    induction bs with
    | nil => intro s; simp
    | cons b bs ih =>
      intro s
      rw [List.map_cons, List.foldl_cons, ih]
      simp [ByteArray.push]
  rw [key]; simp
theorem Ma {src dst e:TypeId} {x:Operand} {x':Opd} (ho:o.op = .convert src dst x) (hx:AH N x=some x') (hs:P.underlying src=some (.slice e)) (hd:P.underlying dst=some .string) (he:P.underlying e=some (.int .u8)) :
    Bf P ρ B N o (Ji x' cf t h n) t h n := by
  intro κ hg
  have e1:Ji x' cf t h n κ=E3 (ev x' t) (κ (.str 0 0) h n) (fun p off len cap ex esz => br (Nat.beq esz 1) (Ht p h fun cs _ _ => Bh cs off len fun y => E4 y fun l => Ct l (fun m c => κ (.str m c) h n) (.fail "")) (.fail "")) (fun o => HG o (fun m c => κ (.str m c) h n) (.fail "")) := by
    simp only [Ji, AD]
  rw [e1] at hg
  rcases Fx hg with ⟨hxv, e2⟩ | ⟨p, off, len, cap, ex, esz, hxv, e2⟩ | ⟨oo, hxv, e2⟩
  · refine ⟨_, e1.trans e2, fun φ a w hT g => ?_⟩
    have g1 := Ad hx hT
    rw [hxv] at g1
    have gx := Cd g1
    refine ⟨.string .empty, ?_, Q5 .empty ρ φ⟩
    simp [execOp, ho, gx, Ci, convert, run_underlying hs, run_underlying hd, run_underlying he, Conv.bytesToString]
  · rw [e2] at hg
    obtain ⟨h3, e3⟩ := Ae hg
    have h3 := Nat.eq_of_beq_eq_true h3
    subst h3
    rw [e3] at hg
    obtain ⟨cs, sup, prev, hp, e4⟩ := Dd hg
    rw [e4] at hg
    obtain ⟨hle, y, hyl, hya, e5⟩ := CL hg
    rw [e5] at hg
    obtain ⟨l, e6, hll, hla⟩ := G0 y fun l => Ct l (fun m c => κ (.str m c) h n) (.fail "")
    rw [e6] at hg
    obtain ⟨m, c, e7, hml, hma, hcan⟩ := I9 hg
    · refine ⟨_, e1.trans (e2.trans (e3.trans (e4.trans (e5.trans (e6.trans e7))))), fun φ a w hT g => ?_⟩
      have g1 := Ad hx hT
      rw [hxv] at g1
      obtain ⟨b, s, tot, q, cap', hφ, gx, c1, c2, c3, c4⟩ := CW g1
      obtain ⟨cc, e', fr, k1, k2, k3, k4, k5⟩ := g.obj p _ b s tot hp hφ
      obtain ⟨vs, q1, q2, q3, q4⟩ := IC (He k5 hyl hya)
      have hm:m=len := by simp only [Cs.len] at hml; rw [hml, hll, hyl]
      subst hm
      obtain ⟨bs, hbs, hbl, hbe⟩ := IE (ρ := ρ) (φ := φ) (m := m) (c := c) (vs := vs) (by rw [q1, hyl]) (fun i v hv => by
        rw [hma i, hla i] at hv
        exact (Cr.1 (q4 l hll hla)).2 i v (by rw [hla i]; exact hv))
      rw [Nat.mod_eq_of_lt hcan] at hbe
      refine ⟨.string ⟨bs.toArray⟩, ?_, ?_⟩
      · have hload:(loadCells ⟨b, q, none⟩ m).run P w = .ok (bs.map (fun b => Value.int .u8 b.toNat)).toArray w := by
          rcases Nat.eq_zero_or_pos m with h0 | h0
          · subst h0
            have:bs=[] := List.eq_nil_of_length_eq_zero hbl
            subst this; rfl
          · obtain ⟨c5, c6⟩ := c4 (by omega)
            have hrun := Dr (P := P) (off := s+off) vs k1 (fun j v hj => by have := q2 j v hj; rwa [←Nat.add_assoc] at this)
            rw [q1, hyl, hbs] at hrun
            rw [c5]; exact hrun
        simp only [execOp, ho, gx, convert, Sem.run_bind, run_underlying hs, run_underlying hd, run_underlying he, Result.andThen_ok, run_bytesToString bs hbl hload, Sem.run_pure]
      · simp only [As]
        exact ⟨⟨bs.toArray⟩, rfl, by simp [ByteArray.size, hbl], by simpa using hbe⟩
  · rw [e2] at hg
    cases oo with
    | rb m d =>
      refine ⟨.str m d, e1.trans e2, fun φ a w hT g => ?_⟩
      have g1 := Ad hx hT
      rw [hxv] at g1
      simp only [As, GK] at g1
      obtain ⟨ad, cap, gx, c1, c3, c4⟩ := g1
      obtain ⟨vs, q1, q2⟩:∃ vs:List Value, vs.length=m ∧ ∀ j, j<m->vs[j]? = some (.int .u8 ((d / 256 ^ j % 256:Nat):Int)) :=
        ⟨(List.range m).map fun j => .int .u8 ((d / 256 ^ j % 256:Nat):Int), by simp, fun j hj => by simp [List.getElem?_range hj]⟩
      obtain ⟨bs, hbs, hbl, hbe⟩ := IE (ρ := ρ) (φ := φ) (m := m) (c := d) (vs := vs) q1 (fun i v hv => by
        have hi:i<m := Cs.lt_of_at hv
        have hv:(if i<m then some (V.int .u8 (d / 256 ^ i % 256)) else none)=some v := hv
        rw [if_pos hi] at hv
        cases hv
        have hlt:d / 256 ^ i % 256<256 := Nat.mod_lt _ (by decide)
        exact ⟨_, q2 i hi, by simp only [As]; exact ⟨hlt, by rw [Ao (by simp only [Hk]; exact hlt)]⟩⟩)
      rw [Nat.mod_eq_of_lt c3] at hbe
      refine ⟨.string ⟨bs.toArray⟩, ?_, ?_⟩
      · have hload:(loadCells ad m).run P w = .ok (bs.map (fun b => Value.int .u8 b.toNat)).toArray w := by
          rcases Nat.eq_zero_or_pos m with h0 | h0
          · subst h0
            have:bs=[] := List.eq_nil_of_length_eq_zero hbl
            subst this; rfl
          obtain ⟨b, q, cc, e', fr, rfl, c2, c4⟩ := c4 h0
          have hrun := Dr (P := P) (w := w) (off := q) vs (g.glob b cc e' fr c2).2 (fun j v hj => by
            have hj':j<m := by rw [←q1]; exact (List.getElem?_eq_some_iff.1 hj).1
            rw [q2 j hj'] at hj
            rw [c4 j hj']; exact hj)
          rw [q1, hbs] at hrun
          exact hrun
        simp only [execOp, ho, gx, convert, Sem.run_bind, run_underlying hs, run_underlying hd, run_underlying he, Result.andThen_ok, run_bytesToString bs hbl hload, Sem.run_pure]
      · simp only [As]
        exact ⟨⟨bs.toArray⟩, rfl, by simp [ByteArray.size, hbl], by simpa using hbe⟩
    | _ => exact hg.elim
end
end Go.Ev

namespace Go.Ev
set_option linter.unusedVariables false
section
variable {P:Program} {ρ:Env} {B N:Nat} {o:Oper} {cf:CF} {t:Regs} {h:Heap} {n:K4}
theorem Fw {φ:AT} {es:List (V×V)}:∀ {l:List MapEntry}, H5 ρ φ es l->l.length=es.length := by
  induction es with
  | nil => intro l h; have h:l=[] := h; subst h; rfl
  | cons e es ih => rintro l ⟨y, ys, rfl, _, _, h⟩; simp [ih h]
theorem KL {φ:AT} {es:List (V×V)}:∀ {l:List MapEntry} {i:Nat} {e:V×V}, H5 ρ φ es l->es[i]? = some e->∃ m, l[i]? = some m∧As ρ φ e.1 m.key∧As ρ φ e.2 m.val := by
  induction es with
  | nil => intro l i e h he; simp at he
  | cons x es ih =>
    rintro l i e ⟨y, ys, rfl, h1, h2, h⟩ he
    cases i with
    | zero => simp at he; subst he; exact ⟨y, rfl, h1, h2⟩
    | succ i => simpa using ih h (by simpa using he)
theorem To {φ:AT} {es:List (V×V)}:∀ {l:List MapEntry} {i:Nat} {e:V×V} {m:MapEntry}, H5 ρ φ es l->As ρ φ e.1 m.key->As ρ φ e.2 m.val->H5 ρ φ (es.set i e) (l.set i m) := by
  induction es with
  | nil => intro l i e m h _ _; have h:l=[] := h; subst h; rfl
  | cons x es ih =>
    rintro l i e m ⟨y, ys, rfl, h1, h2, h⟩ k1 k2
    cases i with
    | zero => exact ⟨m, ys, rfl, k1, k2, h⟩
    | succ i => exact ⟨y, ys.set i m, rfl, h1, h2, ih h k1 k2⟩
theorem RY {φ:AT} {es:List (V×V)}:∀ {l:List MapEntry} {e:V×V} {m:MapEntry}, H5 ρ φ es l->As ρ φ e.1 m.key->As ρ φ e.2 m.val->H5 ρ φ (es++[e]) (l++[m]) := by
  induction es with
  | nil => intro l e m h k1 k2; have h:l=[] := h; subst h; exact ⟨m, [], rfl, k1, k2, rfl⟩
  | cons x es ih => rintro l e m ⟨y, ys, rfl, h1, h2, h⟩ k1 k2; exact ⟨y, ys++[m], rfl, h1, h2, ih h k1 k2⟩
theorem Pb {φ:AT} {es:List (V×V)}:∀ {l:List MapEntry} {i:Nat}, H5 ρ φ es l->H5 ρ φ (es.eraseIdx i) (l.eraseIdx i) := by
  induction es with
  | nil => intro l i h; have h:l=[] := h; subst h; rfl
  | cons x es ih =>
    rintro l i ⟨y, ys, rfl, h1, h2, h⟩
    cases i with
    | zero => exact h
    | succ i => exact ⟨y, ys.eraseIdx i, rfl, h1, h2, ih h⟩
def W1 (pl:Plan) (x:V):Prop :=
  match pl with
  | .sc .i => ∃ k m, x = .int k m
  | .sc .s => ∃ m c, x = .str m c
  | .sc .b => ∃ q, x = .bool q
  | .ks l => ∃ a, x = .agg a∧a.length=l.length
  | _ => False
theorem Pt (ks:List Sc):∀ {a:List V} {κ:R}, (NS ks a κ).good->a.length=ks.length∧NS ks a κ=κ := by
  induction ks with
  | nil => intro a κ h; cases a with
    | nil => exact ⟨rfl, rfl⟩
    | cons => exact h.elim
  | cons k ks ih => intro a κ h; cases a with
    | nil => exact h.elim
    | cons u a => have := ih (a := a) (κ := κ) h; exact ⟨by simp [this.1], this.2⟩
theorem J6 {pl:Plan} {v:V} {κ:R} (h:(K0 pl v κ).good):W1 pl v∧K0 pl v κ=κ := by
  cases pl with
  | sc k =>
    cases k with
    | i => obtain ⟨k, m, rfl, e⟩ := CI (show R.good (GS v fun _ _ => κ) from h); exact ⟨⟨k, m, rfl⟩, rfl⟩
    | s => obtain ⟨k, m, rfl, e⟩ := Ce (show R.good (Be v fun _ _ => κ) from h); exact ⟨⟨k, m, rfl⟩, rfl⟩
    | b => obtain ⟨q, rfl, e⟩ := Fb (show R.good (P3 v fun _ => κ) from h); exact ⟨⟨q, rfl⟩, rfl⟩
  | st fs => exact h.elim
  | ks l =>
    obtain ⟨a, rfl, e⟩ := CR (show R.good (asAgg v fun a => NS l a κ) from h)
    obtain ⟨h1, h2⟩ := Pt l (show R.good (NS l a κ) from h)
    exact ⟨⟨a, rfl, h1⟩, h2⟩
  | rf w => exact h.elim
theorem DR {kt:TypeId} {pl:Plan} (hp:HJ P kt=some pl) {b:Bool} {d:Nat} {K:Value} (hK:(∃ k n, K = .int k n)∨(∃ s, K = .string s)∨(∃ q, K = .bool q) ∨ ∃ cs:Array Value, K = .agg cs ∧ ∀ l, pl = .ks l->cs.size=l.length) (w:World)
    (hsh:(∃ fs, P.underlying kt=some (.struct fs))->∃ cs, K = .agg cs):(Instr.checkKey b (d+2) kt K).run P w = .ok () w := by
  have leaf:∀ (e:Nat) (t:TypeId) (X:Value) (k:Sc), P2 P t=some k->(Instr.checkKey b (e+1) t X).run P w = .ok () w := fun e t X k hk => by
    unfold P2 at hk
    split at hk
    · rename_i hu; cases X <;> simp [Instr.checkKey, run_underlying hu]
    · rename_i hu; cases X <;> simp [Instr.checkKey, run_underlying hu]
    · rename_i hu; cases X <;> simp [Instr.checkKey, run_underlying hu]
    · cases hk
  unfold HJ at hp
  split at hp
  · rename_i fs hu
    split at hp
    · cases hp
    · split at hp
      · rename_i offs hoffs
        split at hp
        · rename_i hr
          cases hp
          obtain ⟨cs, rfl⟩ := hsh ⟨fs, hu⟩
          have hcs:cs.size=offs.length := by
            rcases hK with ⟨_, _, h⟩ | ⟨_, h⟩ | ⟨_, h⟩ | ⟨cs', h, hl⟩
            · cases h
            · cases h
            · cases h
            · cases h; simpa using hl _ rfl
          rw [Instr.checkKey]
          simp only [Sem.run_bind, run_underlying hu, Result.andThen_ok]
          rw [←Array.forIn_toList]
          have key:∀ (fs:List Field) (offs':List (Nat×Sc)), H9 P fs=some offs'->(∀ p∈offs', p.1<cs.size)->(forIn (m := Sem) fs PUnit.unit (fun f r => if f.name ≠ "_" then do
                Instr.checkKey b (d+1) f.type (←part f.type cs f.offset)
                pure (ForInStep.yield PUnit.unit) else pure (ForInStep.yield PUnit.unit))).run P w = .ok PUnit.unit w := by
            intro fs
            induction fs with
            | nil => intro offs' _ _; simp
            | cons f fs ih =>
              intro offs' ho hlt
              simp only [H9] at ho
              split at ho
              · rename_i hn
                split at ho
                · rename_i k r hk hr
                  cases ho
                  have hof:f.offset<cs.size := hlt _ (List.mem_cons_self ..)
                  have hpart := Hh (w := w) hk (Array.getElem?_eq_getElem hof)
                  simp only [List.forIn_cons, hn, ne_eq, not_false_eq_true, if_true, Sem.run_bind, hpart, Result.andThen_ok, leaf d _ _ _ hk, Sem.run_pure]
                  exact ih _ hr fun p hp => hlt p (List.mem_cons_of_mem _ hp)
                · cases ho
              · cases ho
          have := key fs.toList offs hoffs (fun p hp => by
            obtain ⟨i, hi, rfl⟩ := List.getElem_of_mem hp
            have h1:(offs.map (·.1))[i]? = some offs[i].1 := by rw [List.getElem?_map, List.getElem?_eq_getElem hi]; rfl
            rw [hr, List.getElem?_range hi] at h1
            simp at h1
            omega)
          simp only [ne_eq, ite_not] at this ⊢
          rw [this]; rfl
        · cases hp
      · cases hp
  · cases hk:P2 P kt with
    | none => rw [hk] at hp; cases hp
    | some k => exact leaf (d+1) kt K k hk
/-- A key that was looked for is such a one. -/
theorem G2 {kt:TypeId} {pl:Plan} (hp:HJ P kt=some pl) {x:V} {φ:AT} {K:Value} (hK:As ρ φ x K) (hs:W1 pl x) :
    ((∃ k n, K = .int k n)∨(∃ s, K = .string s)∨(∃ q, K = .bool q) ∨ ∃ cs:Array Value, K = .agg cs ∧ ∀ l, pl = .ks l->cs.size=l.length) ∧
    ((∃ fs, P.underlying kt=some (.struct fs))->∃ cs, K = .agg cs) := by
  unfold HJ at hp
  split at hp
  · rename_i fs hu
    split at hp
    · cases hp
    · split at hp
      · split at hp
        · cases hp
          obtain ⟨l, rfl, hl⟩ := hs
          obtain ⟨cs, rfl, hcs, _⟩ := Er hK
          have := B5 hcs
          exact ⟨.inr (.inr (.inr ⟨cs, rfl, fun l' h => by cases h; simp at this hl ⊢; omega⟩)), fun _ => ⟨cs, rfl⟩⟩
        · cases hp
      · cases hp
  · rename_i hns
    cases hk:P2 P kt with
    | none => rw [hk] at hp; cases hp
    | some k =>
      rw [hk] at hp; cases hp
      refine ⟨?_, fun ⟨fs, hu⟩ => absurd hu (by intro hu; exact hns fs hu)⟩
      cases k with
      | i => obtain ⟨kd, m, rfl⟩ := hs; exact .inl ⟨_, _, (Cz hK).2⟩
      | s => obtain ⟨m, c, rfl⟩ := hs; obtain ⟨s, rfl, _⟩ := Cy hK; exact .inr (.inl ⟨s, rfl⟩)
      | b => obtain ⟨q, rfl⟩ := hs; exact .inr (.inr (.inl ⟨q, Ez hK⟩))
theorem ON {ty kt e:TypeId} {pl:Plan} {z:V} {zv:Value} {ok:Bool} {m k:Operand} {m' k':Opd} (ho:o.op = .lookup ty m k ok) (hm:AH N m=some m') (hk:AH N k=some k')
    (ht:P.underlying ty=some (.map kt e)) (hp:HJ P kt=some pl) (hzv:(P.info? e).bind (·.zero)=some zv) (hz:J0 zv=some z):Bf P ρ B N o (R1 pl z ok m' k' cf t h n) t h n := by
  intro κ hg
  have e1:R1 pl z ok m' k' cf t h n κ=K0 pl (ev k' t) (E2 (ev m' t) (br ok (κ (.tup [z, .bool false]) h n) (κ z h n)) (fun p => Oi p h fun es _ _ => EK pl (ev k' t) es (fun r => br ok (κ (.tup [r, .bool true]) h n) (κ r h n)) (br ok (κ (.tup [z, .bool false]) h n) (κ z h n)))) := by
    simp only [R1, AD]
  rw [e1] at hg
  obtain ⟨hko, e2⟩ := J6 hg
  rw [e2] at hg
  have zr:∀ φ, As ρ φ z zv := fun φ => Kh hz φ
  -- what is told, of a value and whether it was there
  have tell:∀ (v:V) (q:Bool), br ok (κ (.tup [v, .bool q]) h n) (κ v h n)=κ (if ok then .tup [v, .bool q] else v) h n := fun v q => by cases ok <;> rfl
  have told:∀ (φ:AT) (v:V) (q:Bool) (X:Value), As ρ φ v X->As ρ φ (if ok then .tup [v, .bool q] else v) (if ok then .tuple #[X, .bool q] else X) := fun φ v q X hX => by
    cases ok with
    | true => simp only [if_true, As, By]; exact ⟨_, rfl, _, _, rfl, hX, _, _, rfl, rfl, rfl⟩
    | false => exact hX
  rcases Ec hg with ⟨hmv, e3⟩ | ⟨p, hmv, e3⟩
  · refine ⟨if ok then .tup [z, .bool false] else z, e1.trans (e2.trans (e3.trans (tell z false))), fun φ a w hT g => ⟨if ok then .tuple #[zv, .bool false] else zv, ?_, told φ z false zv (zr φ)⟩⟩
    have g1 := Ad hm hT
    rw [hmv] at g1
    have gx := Cd g1
    have g2 := Ad hk hT
    obtain ⟨s1, s2⟩ := G2 hp g2 hko
    have hck := DR (P := P) (b := true) (d := 9998) hp s1 w s2
    have hfk := FE (P := P) (w := w) hp g2 (es := []) (ents := []) (r := none) rfl rfl
    simp only [execOp, ho, gx, Ci, Instr.lookup, Sem.run_bind, run_underlying ht, Result.andThen_ok, Sem.run_pure]
    simp [hck, hfk.1, Dx hzv]
  · rw [e3] at hg
    obtain ⟨es, bs, clk, hpm, e4⟩ := Fk hg
    rw [e4] at hg
    obtain ⟨r, hf, hr⟩ := KY hp hg
    have key:∀ φ a w, TR ρ N φ t a->Gam ρ B h n φ w->∃ ents clk b, a.eval m = .map (some b)∧w.heap[b]? = some (.map ents clk)∧H5 ρ φ es ents.toList ∧
        (Instr.checkKey ents.isEmpty 10000 kt (a.eval k)).run P w = .ok () w∧(Instr.findKey kt (a.eval k) ents.toList).run P w = .ok (r.bind fun i => (ents.toList[i]?).map fun e => (i, e.val)) w := fun φ a w hT g => by
      have g1 := Ad hm hT
      rw [hmv] at g1
      obtain ⟨b, s, tot, hφ, gx⟩ := GG g1
      obtain ⟨ents, k1, k2, _⟩ := g.obj p _ b s tot hpm hφ
      have g2 := Ad hk hT
      obtain ⟨s1, s2⟩ := G2 hp g2 hko
      exact ⟨ents, clk, b, gx, k1, k2, DR (d := 9998) hp s1 w s2, (FE hp g2 hf k2).1⟩
    cases r with
    | none =>
      refine ⟨if ok then .tup [z, .bool false] else z, e1.trans (e2.trans (e3.trans (e4.trans (Eq.trans hr (tell z false))))), fun φ a w hT g => ⟨if ok then .tuple #[zv, .bool false] else zv, ?_, told φ z false zv (zr φ)⟩⟩
      obtain ⟨ents, clk, b, gx, k1, k2, hck, hfk⟩ := key φ a w hT g
      have hgo:(getObj b).run P w = .ok (.map ents clk) w := by simp [getObj, Sem.run, k1]
      simp only [execOp, ho, gx, Instr.lookup, Sem.run_bind, run_underlying ht, Result.andThen_ok, Sem.run_pure, hgo, hck, hfk]
      simp [Dx hzv]
    | some i =>
      obtain ⟨ee, hee, hr⟩ := hr
      refine ⟨if ok then .tup [ee.2, .bool true] else ee.2, e1.trans (e2.trans (e3.trans (e4.trans (Eq.trans hr (tell ee.2 true))))), fun φ a w hT g => ?_⟩
      obtain ⟨ents, clk, b, gx, k1, k2, hck, hfk⟩ := key φ a w hT g
      obtain ⟨mm, hmm, _, hval⟩ := KL k2 hee
      refine ⟨if ok then .tuple #[mm.val, .bool true] else mm.val, ?_, told φ ee.2 true mm.val hval⟩
      have hgo:(getObj b).run P w = .ok (.map ents clk) w := by simp [getObj, Sem.run, k1]
      have hmm':ents[i]? = some mm := by simpa using hmm
      simp only [execOp, ho, gx, Instr.lookup, Sem.run_bind, run_underlying ht, Result.andThen_ok, Sem.run_pure, hgo, hck, hfk]
      simp [hmm']
theorem Im {α β:Type} (f:α->β):∀ (l:List α) (i:Nat), (l.eraseIdx i).map f=(l.map f).eraseIdx i
  | [], _ => rfl
  | _::_, 0 => rfl
  | x::l, i+1 => by simp [Im f l i]
theorem L1 {b:Nat} {O O':Obj} {w:World} (h1:w.heap[b]? = some O) (h2:∀ c e f, O ≠ .cells c e f):(setObj b O').run P w = .ok () (Da w b O') := by
  simp only [setObj, Sem.run, h1]
  cases O with
  | cells c e f => exact absurd rfl (h2 c e f)
  | _ => rfl
theorem J1 {φ:AT} {w:World} (g:Gam ρ B h n φ w) {p:K4} {es es':List (V×V)} {bs bs':List Nat} {clk0:Nat} {b s tot:Nat} {ents:Array MapEntry} {clk:Nat} (hp:A8 p h=some (.m es bs clk0)) (hφ:φ p=some (b, s, tot)) (hok:H5 ρ φ es' ents.toList) (hbs:ents.toList.map (·.born)=bs') :
    Gam ρ B (Af p h (some (.m es' bs' clk))) n φ (Da w b (.map ents clk))∧Fr h (Af p h (some (.m es' bs' clk))) φ φ n n w (Da w b (.map ents clk)) := by
  have hb := (g.blk p b s tot hφ).2
  exact ⟨g.write (o := .m es bs clk0) (o' := .m es' bs' clk) hp hφ rfl rfl ⟨ents, DI hb, hok, hbs⟩, Fr.write (o := .m es bs clk0) hp hφ⟩
theorem OO {ty kt e:TypeId} {pl:Plan} {m k v:Operand} {m' k' v':Opd} (ho:o.op = .mapUpdate ty m k v∨o.op = .insert ty m k v) (hm:AH N m=some m') (hk:AH N k=some k') (hv:AH N v=some v')
    (ht:P.underlying ty=some (.map kt e)) (hp:HJ P kt=some pl):CX P ρ B N o (RS pl m' k' v' cf t h n) t h n := by
  intro κ hg
  have e1:RS pl m' k' v' cf t h n κ=K0 pl (ev k' t) (E2 (ev m' t) (.fail "") (fun p => Oi p h fun es bs c => HL pl (ev k' t) (ev v' t) es fun es => κ Ay (Af p h (some (.m es (if es.length=bs.length then bs else bs++[c]) (if es.length=bs.length then c else c+1)))) n)) := by
    simp only [RS, AD, B6, WG]
  rw [e1] at hg
  obtain ⟨hko, e2⟩ := J6 hg
  rw [e2] at hg
  rcases Ec hg with ⟨hmv, e3⟩ | ⟨p, hmv, e3⟩
  · rw [e3] at hg; exact hg.elim
  rw [e3] at hg
  obtain ⟨es, bs, clk, hpm, e4⟩ := Fk hg
  rw [e4] at hg
  obtain ⟨r, hf, e5⟩ := Mo hp hg
  refine ⟨Ay, _, n, e1.trans (e2.trans (e3.trans (e4.trans e5))), .skip fun φ a w hT g => ?_⟩
  have g1 := Ad hm hT
  rw [hmv] at g1
  obtain ⟨b, s, tot, hφ, gx⟩ := GG g1
  obtain ⟨ents, k1, k2, k3⟩ := g.obj p _ b s tot hpm hφ
  have hlen:es.length=bs.length := by rw [←Fw k2, ←k3, List.length_map]
  have g2 := Ad hk hT
  have g3 := Ad hv hT
  obtain ⟨s1, s2⟩ := G2 hp g2 hko
  have hck := DR (P := P) (b := false) (d := 9998) hp s1 w s2
  obtain ⟨hfk, hsb⟩ := FE (P := P) (w := w) hp g2 hf k2
  have hgo:(getObj b).run P w = .ok (.map ents clk) w := by simp [getObj, Sem.run, k1]
  have hso:∀ O', (setObj b O').run P w = .ok () (Da w b O') := fun O' => L1 k1 (by simp)
  have fin:∀ (es':List (V×V)) (ents':Array MapEntry) (bs':List Nat) (clk':Nat), H5 ρ φ es' ents'.toList->ents'.toList.map (·.born)=bs' →
      (Instr.mapUpdate ty (.map (some b)) (a.eval k) (a.eval v)).run P w = .ok () (Da w b (.map ents' clk')) →
      ∃ φ' w', (execOp a.eval o).run P w = .ok .skip w'∧Fr h (Af p h (some (.m es' bs' clk'))) φ φ' n n w w' ∧
        Gam ρ B (Af p h (some (.m es' bs' clk'))) n φ' w' := fun es' ents' bs' clk' hok hbs hrun => by
    obtain ⟨q1, q2⟩ := J1 (clk := clk') g hpm hφ hok hbs
    refine ⟨φ, _, ?_, q2, q1⟩
    rcases ho with ho | ho <;> simp [execOp, ho, gx, hrun]
  cases r with
  | none =>
    show ∃ φ' w', _∧Fr h (Af p h (some (.m (es++[(ev k' t, ev v' t)]) (if (es++[(ev k' t, ev v' t)]).length=bs.length then bs else bs++[clk]) (if (es++[(ev k' t, ev v' t)]).length=bs.length then clk else clk+1)))) φ φ' n n w w'∧_
    have hne:(es++[(ev k' t, ev v' t)]).length≠bs.length := by simp; omega
    rw [if_neg hne, if_neg hne]
    refine fin _ (ents.push { key := a.eval k, val := a.eval v, born := clk }) _ (clk+1) ?_ ?_ ?_
    · rw [Array.toList_push]; exact RY k2 g2 g3
    · rw [Array.toList_push, List.map_append, k3]; rfl
    · simp only [Instr.mapUpdate, Sem.run_bind, run_underlying ht, Result.andThen_ok, hgo, hck, hfk]
      simp [hso]
  | some i =>
    obtain ⟨mm, hmm, hsame⟩ := hsb i rfl
    show ∃ φ' w', _∧Fr h (Af p h (some (.m (es.set i (ev k' t, ev v' t)) (if (es.set i (ev k' t, ev v' t)).length=bs.length then bs else bs++[clk]) (if (es.set i (ev k' t, ev v' t)).length=bs.length then clk else clk+1)))) φ φ' n n w w'∧_
    have heq:(es.set i (ev k' t, ev v' t)).length=bs.length := by rw [List.length_set]; exact hlen
    rw [if_pos heq, if_pos heq]
    have hset:(ents.modify i fun e => { e with key := a.eval k, val := a.eval v }).toList=ents.toList.set i { mm with key := a.eval k, val := a.eval v } := by
      have hi:i<ents.toList.length := by
        rcases Nat.lt_or_ge i ents.toList.length with h' | h'
        · exact h'
        · rw [List.getElem?_eq_none h'] at hmm; cases hmm
      apply List.ext_getElem?
      intro j
      rw [Array.getElem?_toList, Array.getElem?_modify, List.getElem?_set]
      by_cases hj:i=j
      · subst hj
        have:ents[i]? = some mm := by simpa using hmm
        simp [this]; simpa using hi
      · simp [hj]
    refine fin _ (ents.modify i fun e => { e with key := a.eval k, val := a.eval v }) _ clk ?_ ?_ ?_
    · rw [hset]; exact To k2 g2 g3
    · rw [hset, ←k3, List.map_set]
      have hmb:(ents.toList.map (·.born))[i]? = some mm.born := by rw [List.getElem?_map, hmm]; rfl
      apply List.ext_getElem?
      intro j
      rw [List.getElem?_set]
      by_cases hj:i=j
      · subst hj
        rw [if_pos rfl, hmb]
        have hi:i<(ents.toList.map (·.born)).length := (List.getElem?_eq_some_iff.1 hmb).1
        rw [if_pos hi]
      · rw [if_neg hj]
    · have hmm':ents[i]? = some mm := by simpa using hmm
      simp only [Instr.mapUpdate, Sem.run_bind, run_underlying ht, Result.andThen_ok, hgo, hck, hfk]
      simp [hmm', Instr.keyThatStays, hsame, hso]
theorem Rv {ct:Call} {ty kt e:TypeId} {pl:Plan} {m k:Operand} {m' k':Opd} {ts:List TypeId} (ho:o.op = .call ct) (hb:ct.callee = .builtin .delete) (hts:ct.argTypes.toList=ty::ts) (hargs:ct.args.toList=[m, k])
    (hm:AH N m=some m') (hk:AH N k=some k') (ht:P.underlying ty=some (.map kt e)) (hp:HJ P kt=some pl):CX P ρ B N o (MQ pl m' k' cf t h n) t h n := by
  intro κ hg
  have e1:MQ pl m' k' cf t h n κ=K0 pl (ev k' t) (E2 (ev m' t) (κ (.tup []) h n) (fun p => Oi p h fun es bs c => HF pl (ev k' t) es fun es' => HH pl (ev k' t) es bs fun bs => κ (.tup []) (Af p h (some (.m es' bs c))) n)) := by
    simp only [MQ, AD, B6]
  rw [e1] at hg
  obtain ⟨hko, e2⟩ := J6 hg
  rw [e2] at hg
  have hargs':ct.args = #[m, k] := by rw [←hargs]
  have hts':ct.argTypes[0]? = some ty := by rw [←Array.getElem?_toList, hts]; rfl
  have htup:∀ φ, As ρ φ (.tup []) (.tuple #[]) := fun φ => by simp only [As]; exact ⟨#[], rfl, by simp only [By]⟩
  rcases Ec hg with ⟨hmv, e3⟩ | ⟨p, hmv, e3⟩
  · refine ⟨_, h, n, e1.trans (e2.trans e3), .pure fun φ a w hT g => ⟨.tuple #[], ?_, htup φ⟩⟩
    have g1 := Ad hm hT
    rw [hmv] at g1
    have gx := Cd g1
    have g2 := Ad hk hT
    obtain ⟨s1, s2⟩ := G2 hp g2 hko
    have hck := DR (P := P) (b := true) (d := 9998) hp s1 w s2
    simp only [execOp, ho, resolve, hb, hargs', invoke, builtin, Sem.run_bind, Sem.run_pure, Result.andThen_ok]
    simp [Builtin.delete_, hts', gx, Ci, run_underlying ht, hck]
  · rw [e3] at hg
    obtain ⟨es, bs, clk, hpm, e4⟩ := Fk hg
    rw [e4] at hg
    obtain ⟨r, hf, e5⟩ := Lt hp hg
    rw [e5] at hg
    have e6 := LD hg hf
    refine ⟨_, _, n, e1.trans (e2.trans (e3.trans (e4.trans (e5.trans e6)))), .value fun φ a w hT g => ?_⟩
    have g1 := Ad hm hT
    rw [hmv] at g1
    obtain ⟨b, s, tot, hφ, gx⟩ := GG g1
    obtain ⟨ents, k1, k2, k3⟩ := g.obj p _ b s tot hpm hφ
    have g2 := Ad hk hT
    obtain ⟨s1, s2⟩ := G2 hp g2 hko
    have hck := DR (P := P) (b := ents.isEmpty) (d := 9998) hp s1 w s2
    obtain ⟨hfk, hsb⟩ := FE (P := P) (w := w) hp g2 hf k2
    have hgo:(getObj b).run P w = .ok (.map ents clk) w := by simp [getObj, Sem.run, k1]
    have hso:∀ O', (setObj b O').run P w = .ok () (Da w b O') := fun O' => L1 k1 (by simp)
    cases r with
    | none =>
      obtain ⟨q1, q2⟩ := J1 (clk := clk) (ents := ents) g hpm hφ k2 k3
      refine ⟨φ, .tuple #[], _, ?_, q2, q1, htup φ⟩
      simp only [execOp, ho, resolve, hb, hargs', invoke, builtin, Sem.run_bind, Sem.run_pure, Result.andThen_ok]
      simp [Builtin.delete_, hts', gx, run_underlying ht, hgo, hck, hfk, hso]
    | some i =>
      obtain ⟨mm, hmm, _⟩ := hsb i rfl
      have hmm':ents[i]? = some mm := by simpa using hmm
      have hi:i<ents.size := by
        rcases Nat.lt_or_ge i ents.size with h' | h'
        · exact h'
        · rw [Array.getElem?_eq_none h'] at hmm'; cases hmm'
      have hel:(ents.eraseIdxIfInBounds i).toList=ents.toList.eraseIdx i := by
        unfold Array.eraseIdxIfInBounds; rw [dif_pos hi]; simp
      obtain ⟨q1, q2⟩ := J1 (clk := clk) (ents := ents.eraseIdxIfInBounds i) g hpm hφ (es' := es.eraseIdx i) (bs' := bs.eraseIdx i) (by rw [hel]; exact Pb k2) (by rw [hel, ←k3, Im])
      refine ⟨φ, .tuple #[], _, ?_, q2, q1, htup φ⟩
      simp only [execOp, ho, resolve, hb, hargs', invoke, builtin, Sem.run_bind, Sem.run_pure, Result.andThen_ok]
      simp [Builtin.delete_, hts', gx, run_underlying ht, hgo, hck, hfk, hmm', hso]
theorem Ei {m:Nat} {κ:V->R} (hg:(DX m κ).good):m<Hk .i64∧DX m κ=κ (.int .i64 m) := by
  obtain ⟨h1, e1⟩ := Ae (show R.good (br (Nat.ble (Nat.succ m) 9223372036854775808) (κ (.int .i64 m)) (.fail "")) from hg)
  exact ⟨Bq h1, e1⟩
theorem Dm {m:Nat} (hm:m<Hk .i64) (φ:AT):As ρ φ (.int .i64 m) (goInt m) := by
  simp only [As, goInt]
  exact ⟨Nat.lt_of_lt_of_le hm (GP _), by rw [Ao hm]⟩
theorem Vk (es:List (V×V)) (κ:Nat->R):U6 es κ=κ es.length := by
  induction es generalizing κ with
  | nil => rfl
  | cons x xs ih => exact (ih fun n => Ab (Nat.succ n) κ).trans (A9 _ _)
theorem DH {ct:Call} {b:Builtin} (ho:o.op = .call ct) (hb:ct.callee = .builtin b) {a:Act} {w w':World} {v:Value}
    (hr:∀ cs, (builtin b ct.argTypes o.type cs (ct.args.map a.eval)).run P w = .ok (.value v) w'):(execOp a.eval o).run P w = .ok (.value v) w' := by
  simp [execOp, ho, resolve, hb, invoke, hr]
section
variable {ct:Call} {ty:TypeId} {x:Operand} {x':Opd} {ts:List TypeId} {xs:List Operand}
theorem Me (ho:o.op = .call ct) (hb:ct.callee = .builtin .len) (hts:ct.argTypes.toList=ty::ts) (hargs:ct.args.toList=x::xs)
    (hx:AH N x=some x') (ht:P.underlying ty=some .string):Bf P ρ B N o (MC x' cf t h n) t h n := by
  intro κ hg
  have e0:MC x' cf t h n κ=V7 (ev x' t) (fun l0 l1 _ _ => br (Nat.ble (Nat.succ l1) 9223372036854775808) (κ (.oth (.iv .i64 l0 l1)) h n) (.fail "")) (Be (ev x' t) fun m _ => DX m fun v => κ v h n) := by simp only [MC, AD]
  rw [e0] at hg
  have hargs':ct.args[0]? = some x := by rw [←Array.getElem?_toList, hargs]; rfl
  have hts':ct.argTypes[0]? = some ty := by rw [←Array.getElem?_toList, hts]; rfl
  rcases IY (ev x' t) (fun l0 l1 _ _ => br (Nat.ble (Nat.succ l1) 9223372036854775808) (κ (.oth (.iv .i64 l0 l1)) h n) (.fail "")) (Be (ev x' t) fun m _ => DX m fun v => κ v h n) with ⟨l0, l1, _, _, hv, e1⟩ | e1
  · rw [e1] at hg
    obtain ⟨hb', e2⟩ := Ae hg
    have hb':l1+1≤9223372036854775808 := Aa.1 hb'
    refine ⟨_, e0.trans (e1.trans e2), fun φ a w hT g => ?_⟩
    have g1 := Ad hx hT
    rw [hv] at g1
    simp only [As] at g1
    obtain ⟨s, gx, h1, h2, _⟩ := g1
    refine ⟨goInt s.size, DH ho hb fun cs => ?_, ?_⟩
    · simp [builtin, Builtin.len_, hts', hargs', gx, run_underlying ht]
    · simp only [As]
      exact ⟨s.size, h1, h2, by simp only [Mk]; omega, by rw [Ao (by simp only [Hk]; omega)]; rfl⟩
  have e1 := e0.trans e1
  rw [←e0, e1] at hg
  obtain ⟨m, c, hv, e2⟩ := Ce hg
  rw [e2] at hg
  obtain ⟨hm, e3⟩ := Ei hg
  refine ⟨_, e1.trans (e2.trans e3), fun φ a w hT g => ⟨goInt m, DH ho hb fun cs => ?_, Dm hm φ⟩⟩
  have g1 := Ad hx hT
  rw [hv] at g1
  obtain ⟨s, gx, hs, _⟩ := Cy g1
  simp [builtin, Builtin.len_, hts', hargs', gx, run_underlying ht, hs]
theorem Mm {e:TypeId} (ho:o.op = .call ct) (hb:ct.callee = .builtin .len) (hts:ct.argTypes.toList=ty::ts) (hargs:ct.args.toList=x::xs)
    (hx:AH N x=some x') (ht:P.underlying ty=some (.slice e)):Bf P ρ B N o (Lw x' cf t h n) t h n := by
  intro κ hg
  have e0:Lw x' cf t h n κ=E3 (ev x' t) (κ (.int .i64 0) h n) (fun p off len cap ex esz => DX len fun v => κ v h n) (fun o => Wt o (fun l0 l1 => br (Nat.ble (Nat.succ l1) 9223372036854775808) (κ (.oth (.iv .i64 l0 l1)) h n) (.fail "")) (PT o (fun i l0 l1 z => br (Nat.ble (Nat.succ l1) 9223372036854775808) (br (Nat.beq l0 l1) (κ (.int .i64 l0) h n) (κ (.oth (.iv .i64 l0 l1)) h n)) (.fail "")) (JC o (fun l m z => DX m fun v => κ v h n) (HG o (fun m c => DX m fun v => κ v h n) (.fail ""))))) := by simp only [Lw, AD]
  rw [e0] at hg
  have hargs':ct.args[0]? = some x := by rw [←Array.getElem?_toList, hargs]; rfl
  have hts':ct.argTypes[0]? = some ty := by rw [←Array.getElem?_toList, hts]; rfl
  rcases Fx hg with ⟨hv, e2⟩ | ⟨p, off, len, cap, ex, esz, hv, e2⟩ | ⟨oo, hv, e2⟩
  · refine ⟨_, e0.trans e2, fun φ a w hT g => ⟨goInt 0, DH ho hb fun cs => ?_, Dm (by decide) φ⟩⟩
    have g1 := Ad hx hT
    rw [hv] at g1
    have gx := Cd g1
    simp [builtin, Builtin.len_, hts', hargs', gx, Ci, run_underlying ht]
  · rw [e2] at hg
    obtain ⟨hm, e3⟩ := Ei hg
    refine ⟨_, e0.trans (e2.trans e3), fun φ a w hT g => ⟨goInt len, DH ho hb fun cs => ?_, Dm hm φ⟩⟩
    have g1 := Ad hx hT
    rw [hv] at g1
    obtain ⟨b, s, tot, oo, rcap, hφ, gx, _⟩ := CW g1
    simp [builtin, Builtin.len_, hts', hargs', gx, run_underlying ht]
  · rw [e2] at hg
    cases oo with
    | os l0 l1 =>
      have hg':R.good (br (Nat.ble (Nat.succ l1) 9223372036854775808) (κ (.oth (.iv .i64 l0 l1)) h n) (.fail "")) := hg
      obtain ⟨hb', e3⟩ := Ae hg'
      have hb':l1+1≤9223372036854775808 := Aa.1 hb'
      refine ⟨_, e0.trans (e2.trans e3), fun φ a w hT g => ?_⟩
      have g1 := Ad hx hT
      rw [hv] at g1
      simp only [As] at g1
      obtain ⟨p, len, cap, gx, h1, h2, h3⟩ := g1
      refine ⟨goInt len, DH ho hb fun cs => ?_, ?_⟩
      · simp [builtin, Builtin.len_, hts', hargs', gx, run_underlying ht]
      · simp only [As]
        exact ⟨len, h1, h2, by simp only [Mk]; omega, by rw [Ao (by simp only [Hk]; omega)]; rfl⟩
    | ro i l0 l1 z =>
      have hg':R.good (br (Nat.ble (Nat.succ l1) 9223372036854775808) (br (Nat.beq l0 l1) (κ (.int .i64 l0) h n) (κ (.oth (.iv .i64 l0 l1)) h n)) (.fail "")) := hg
      obtain ⟨hb', e3⟩ := Ae hg'
      have hb':l1+1≤9223372036854775808 := Aa.1 hb'
      have key:∃ v, br (Nat.beq l0 l1) (κ (.int .i64 l0) h n) (κ (.oth (.iv .i64 l0 l1)) h n)=κ v h n ∧ ∀ (φ:AT) (len:Nat), l0≤len->len≤l1->As ρ φ v (goInt len) := by
        cases hl:Nat.beq l0 l1 with
        | true =>
          have hl := Nat.eq_of_beq_eq_true hl
          refine ⟨_, by rw [Ac], fun φ len h1 h2 => ?_⟩
          obtain rfl:len=l0 := by omega
          exact Dm (show len<9223372036854775808 by omega) φ
        | false =>
          refine ⟨_, by rw [Aq], fun φ len h1 h2 => ?_⟩
          simp only [As]
          exact ⟨len, h1, h2, by simp only [Mk]; omega, by rw [Ao (by simp only [Hk]; omega)]; rfl⟩
      obtain ⟨v, e4, hv4⟩ := key
      refine ⟨_, e0.trans (e2.trans (e3.trans e4)), fun φ a w hT g => ?_⟩
      have g1 := Ad hx hT
      rw [hv] at g1
      simp only [As] at g1
      obtain ⟨b, q, len, cap, c, e', fr, gx, h1, h2, h3, _⟩ := g1
      refine ⟨goInt len, DH ho hb fun cs => ?_, hv4 φ len h1 h2⟩
      simp [builtin, Builtin.len_, hts', hargs', gx, run_underlying ht]
    | rx l m z =>
      have hg':R.good (DX m fun v => κ v h n) := hg
      obtain ⟨hm, e3⟩ := Ei hg'
      refine ⟨_, e0.trans (e2.trans e3), fun φ a w hT g => ⟨goInt m, DH ho hb fun cs => ?_, Dm hm φ⟩⟩
      have g1 := Ad hx hT
      rw [hv] at g1
      simp only [As] at g1
      obtain ⟨ad, cap, gx, _⟩ := g1
      simp [builtin, Builtin.len_, hts', hargs', gx, run_underlying ht]
    | rb m c =>
      have hg':R.good (DX m fun v => κ v h n) := hg
      obtain ⟨hm, e3⟩ := Ei hg'
      refine ⟨_, e0.trans (e2.trans e3), fun φ a w hT g => ⟨goInt m, DH ho hb fun cs => ?_, Dm hm φ⟩⟩
      have g1 := Ad hx hT
      rw [hv] at g1
      simp only [As, GK] at g1
      obtain ⟨ad, cap, gx, _⟩ := g1
      simp [builtin, Builtin.len_, hts', hargs', gx, run_underlying ht]
    | _ => exact hg.elim
theorem Mw {e:TypeId} (ho:o.op = .call ct) (hb:ct.callee = .builtin .cap) (hts:ct.argTypes.toList=ty::ts) (hargs:ct.args.toList=x::xs)
    (hx:AH N x=some x') (ht:P.underlying ty=some (.slice e)):Bf P ρ B N o (LC x' cf t h n) t h n := by
  intro κ hg
  have e1:LC x' cf t h n κ=DM (ev x' t) (κ (.int .i64 0) h n) (fun p off len cap ex esz => br ex (DX cap fun v => κ v h n) (.fail "")) := by simp only [LC, AD]
  rw [e1] at hg
  have hargs':ct.args[0]? = some x := by rw [←Array.getElem?_toList, hargs]; rfl
  have hts':ct.argTypes[0]? = some ty := by rw [←Array.getElem?_toList, hts]; rfl
  rcases Dl hg with ⟨hv, e2⟩ | ⟨p, off, len, cap, ex, esz, hv, e2⟩
  · refine ⟨_, e1.trans e2, fun φ a w hT g => ⟨goInt 0, DH ho hb fun cs => ?_, Dm (by decide) φ⟩⟩
    have g1 := Ad hx hT
    rw [hv] at g1
    have gx := Cd g1
    simp [builtin, Builtin.cap_, hts', hargs', gx, Ci, run_underlying ht]
  · rw [e2] at hg
    obtain ⟨hex, e3⟩ := Ae hg
    rw [e3] at hg
    obtain ⟨hm, e4⟩ := Ei hg
    refine ⟨_, e1.trans (e2.trans (e3.trans e4)), fun φ a w hT g => ⟨goInt cap, DH ho hb fun cs => ?_, Dm hm φ⟩⟩
    have g1 := Ad hx hT
    rw [hv] at g1
    obtain ⟨b, s, tot, oo, rcap, hφ, gx, _, _, c3, _⟩ := CW g1
    have hc := c3 hex
    subst hc
    simp [builtin, Builtin.cap_, hts', hargs', gx, run_underlying ht]
theorem Ml {k e:TypeId} (ho:o.op = .call ct) (hb:ct.callee = .builtin .len) (hts:ct.argTypes.toList=ty::ts) (hargs:ct.args.toList=x::xs)
    (hx:AH N x=some x') (ht:P.underlying ty=some (.map k e)):Bf P ρ B N o (Mv x' cf t h n) t h n := by
  intro κ hg
  have e1:Mv x' cf t h n κ=E2 (ev x' t) (κ (.int .i64 0) h n) (fun p => Oi p h fun es _ _ => DX es.length fun v => κ v h n) := by
    simp only [Mv, AD]
    congr 1; funext p; congr 1; funext es _ _; exact Vk es _
  rw [e1] at hg
  have hargs':ct.args[0]? = some x := by rw [←Array.getElem?_toList, hargs]; rfl
  have hts':ct.argTypes[0]? = some ty := by rw [←Array.getElem?_toList, hts]; rfl
  rcases Ec hg with ⟨hv, e2⟩ | ⟨p, hv, e2⟩
  · refine ⟨_, e1.trans e2, fun φ a w hT g => ⟨goInt 0, DH ho hb fun cs => ?_, Dm (by decide) φ⟩⟩
    have g1 := Ad hx hT
    rw [hv] at g1
    have gx := Cd g1
    simp [builtin, Builtin.len_, hts', hargs', gx, Ci, run_underlying ht]
  · rw [e2] at hg
    obtain ⟨es, bs, clk, hpm, e3⟩ := Fk hg
    rw [e3] at hg
    obtain ⟨hm, e4⟩ := Ei hg
    refine ⟨_, e1.trans (e2.trans (e3.trans e4)), fun φ a w hT g => ⟨goInt es.length, DH ho hb fun cs => ?_, Dm hm φ⟩⟩
    have g1 := Ad hx hT
    rw [hv] at g1
    obtain ⟨b, s, tot, hφ, gx⟩ := GG g1
    obtain ⟨ents, k1, k2, _⟩ := g.obj p _ b s tot hpm hφ
    have hl := Fw k2
    have hgo:(getObj b).run P w = .ok (.map ents clk) w := by simp [getObj, Sem.run, k1]
    simp [builtin, Builtin.len_, hts', hargs', gx, run_underlying ht, hgo]
    rw [←hl]; simp
end
end
end Go.Ev

namespace Go.Ev
set_option linter.unusedVariables false
section
variable {P:Program} {ρ:Env} {B N:Nat} {o:Oper} {cf:CF} {t:Regs} {h:Heap} {n:K4}
theorem Gam.frz {φ:AT} {w:World} (g:Gam ρ B h n φ w) {p:K4} {cs:Cs} {sup:Bool} {prev:Option K4} {b s tot:Nat} {c:Array Value} {e:TypeId} {fr fr':Nat×Nat}
    (hp:A8 p h=some (.c cs sup prev)) (hφ:φ p=some (b, s, tot)) (hw:w.heap[b]? = some (.cells c e fr)) (hf:WE fr' c.size) :
    Gam ρ B h n φ (Da w b (.cells c e fr'))∧Fr h h φ φ n n w (Da w b (.cells c e fr')) := by
  have hb := (g.blk p b s tot hφ).2
  refine ⟨⟨by rw [Ea]; exact g.base, g.dom, fun q b1 s1 t1 hx => by rw [Ea]; exact g.blk q b1 s1 t1 hx, fun q o1 b1 s1 t1 hq hx => ?_, g.sep, g.sup, fun k c e fr hk => ⟨(g.glob k c e fr hk).1, by rw [HD (by have := (g.glob k c e fr hk).1; have := (g.blk p b s tot hφ).1; omega)]; exact (g.glob k c e fr hk).2⟩⟩,
    ⟨AT.le_refl φ, fun _ _ h => .inl h, Nat.le_refl _, rfl, rfl, rfl, by rw [Ea]; exact Nat.le_refl _, fun k hk hn => HD fun e => ?_, fun _ _ _ _ h => .inl h, fun _ _ h => h⟩⟩
  · have k := g.obj q o1 b1 s1 t1 hq hx
    by_cases e:b=b1
    · subst e
      cases o1 with
      | c cs1 sup1 prev1 =>
        obtain ⟨c1, e1, fr1, h1, h2, h3, h4, h5⟩ := k
        rw [hw] at h1; cases h1
        exact ⟨c, e, fr', DI hb, h2, h3, h2 ▸ hf, h5⟩
      | m es bs clk => obtain ⟨ents, h1, _⟩ := k; rw [hw] at h1; cases h1
      | it p since seen c => obtain ⟨bm, sm, tm, _, _, h1⟩ := k; rw [hw] at h1; cases h1
      | it0 => obtain ⟨_, h1⟩ := k; rw [hw] at h1; cases h1
      | lp _ _ => obtain ⟨_, A, fn, tmps, D, _, h1, _⟩ := k; rw [hw] at h1; cases h1
    · exact Cp (HD e) k
  · subst e
    have := hn p s tot hφ; rw [hp] at this; cases this
theorem Ru {src dst e e':TypeId} {x:Operand} {x':Opd} (ho:o.op = .convert src dst x) (hx:AH N x=some x') (hs:P.underlying src=some (.slice e')) (hd:P.underlying dst=some (.slice e)) (hsd:(src == dst)=true) (he:P.underlying e=some (.int .u8)) :
    CX P ρ B N o (Mu x' cf t h n) t h n := by
  intro κ hg
  have e1:Mu x' cf t h n κ=DM (ev x' t) (.fail "") (fun p _ _ _ _ _ => Ht p h fun _ _ _ => κ (ev x' t) h n) := by simp only [Mu, AD]
  rw [e1] at hg
  rcases Dl hg with ⟨hv, e2⟩ | ⟨p, off, len, cap, ex, esz, hv, e2⟩
  · rw [e2] at hg; exact hg.elim
  · rw [e2] at hg
    obtain ⟨cs, sup, prev, hp, e3⟩ := Dd hg
    refine ⟨_, h, n, e1.trans (e2.trans e3), .value fun φ a w hT g => ?_⟩
    have g1 := Ad hx hT
    rw [hv] at g1
    obtain ⟨b, s, tot, q, cap', hφ, gx, _⟩ := CW g1
    obtain ⟨c, et, fr, k1, k2, k3, k4, k5⟩ := g.obj p _ b s tot hp hφ
    obtain ⟨g2, g3⟩ := g.frz hp hφ k1 (fr' := if fr.1 == fr.2 then (c.size, c.size+1) else (min fr.1 c.size, max fr.2 (c.size+1))) (by
      split
      · exact .inr (Nat.le_refl _)
      · rename_i hne
        rcases k4 with h' | h'
        · simp [h'] at hne
        · exact .inr (by show c.size≤min fr.1 c.size; omega))
    refine ⟨φ, a.eval x, _, ?_, g3, g2, by rw [hv]; exact g1⟩
    have hsh:w.shape? b=some (et, c.size) := by unfold World.shape?; rw [k1]
    have hfz := H6 (off := c.size) k1
    simp only [execOp, ho, gx, convert, Sem.run_bind, run_underlying hs, run_underlying hd, Result.andThen_ok, hsd, run_underlying he, markStringish]
    have hsr:(shape b).run P w = .ok (some (et, c.size)) w := by simp [shape, Sem.run, hsh]
    simp only [hsr, Result.andThen_ok, run_freeze, hfz, Sem.run_pure]
theorem Pd (off:Nat) (vs:List Value):∀ (k:Nat) (c:Array Value), off+k+vs.length≤c.size →
    ((vs.zipIdx k).foldl (fun cs (x:Value×Nat) => cs.setIfInBounds (off+x.2) x.1) c).toList=c.toList.take (off+k)++(vs++c.toList.drop (off+k+vs.length)) := by
  induction vs with
  | nil => intro k c _; simp
  | cons v vs ih =>
    intro k c hk
    simp only [List.length_cons] at hk
    rw [List.zipIdx_cons, List.foldl_cons, ih (k+1) _ (by simp; omega)]
    have hlt:off+k<c.toList.length := by simp; omega
    rw [Array.toList_setIfInBounds, List.set_eq_take_append_cons_drop, if_pos hlt]
    have hl:(c.toList.take (off+k)).length=off+k := by rw [List.length_take]; omega
    have h1:(c.toList.take (off+k)++v::c.toList.drop (off+k+1)).take (off+(k+1))=c.toList.take (off+k)++[v] := by
      rw [List.take_append, hl, List.take_of_length_le (by omega)]
      have:off+(k+1) - (off+k)=1 := by omega
      rw [this]; rfl
    have h2:(c.toList.take (off+k)++v::c.toList.drop (off+k+1)).drop (off+(k+1)+vs.length)=c.toList.drop (off+k+(v::vs).length) := by
      rw [List.drop_append, hl, List.drop_eq_nil_of_le (by omega)]
      have:off+(k+1)+vs.length - (off+k)=vs.length+1 := by omega
      rw [this, List.drop_succ_cons, List.drop_drop, List.nil_append]
      congr 1; simp only [List.length_cons]; omega
    rw [h1, h2]; simp
theorem Rt {xs ys:List V} {off:Nat} {κ:List V->R} (hg:(L9 xs off ys κ).good):off+ys.length≤xs.length∧L9 xs off ys κ=κ (xs.take off++(ys++xs.drop (off+ys.length))) := by
  obtain ⟨h1, e1⟩ := F8 (show R.good (D6 off xs _) from hg)
  have e1:L9 xs off ys κ=_ := e1
  rw [e1, CV, A9] at hg
  obtain ⟨h2, e2⟩ := Fm hg
  exact ⟨h2, by rw [e1, CV, A9, e2, DA, DA]; rfl⟩
theorem FK (hρ:Bo ρ) {place:Nat->Option (Nat×Nat)}:∀ {parts:List (Nat×Operand)} {ps:List Part} {z:List V} {κ:List V->R}, FP N place parts=some ps->(Dq ps t z κ).good →
    ∃ l, l.length=z.length∧Dq ps t z κ=κ l ∧ ∀ (φ:AT) (a:Act) (zc:Array Value), TR ρ N φ t a->By ρ φ z zc.toList->(∀ y∈zc.toList, y.oneCell'=true) →
      ∃ cells, Instr.fill place zc (parts.map fun x => (x.1, a.eval x.2))=some cells∧By ρ φ l cells.toList ∧ ∀ y∈cells.toList, y.oneCell'=true
  | [], ps, z, κ, hp, hg => by
    simp only [FP, Option.some.injEq] at hp; subst hp
    exact ⟨z, rfl, rfl, fun φ a zc _ h1 h2 => ⟨zc, rfl, h1, h2⟩⟩
  | (i, x)::parts, ps, z, κ, hp, hg => by
    simp only [FP] at hp
    split at hp
    · rename_i off size x' xs hpl hx hxs
      cases hp
      have e1:Dq (⟨off, size, x'⟩::xs) t z κ=Eb (ev x' t) fun l => Gk l fun m => br (Nat.beq m size) (L9 z off l fun z => Dq xs t z κ) (.fail "") := AD x' t _
      rw [e1] at hg
      obtain ⟨hc, e2⟩ := FJ hg
      rw [e2, CV] at hg
      obtain ⟨h3, e3⟩ := Ae hg
      have h3 := Nat.eq_of_beq_eq_true h3
      rw [e3] at hg
      obtain ⟨h4, e4⟩ := Rt hg
      rw [e4] at hg
      obtain ⟨l, hl, e5, H⟩ := FK hρ hxs hg
      have hlen:((z.take off)++((ev x' t).cl++z.drop (off+(ev x' t).cl.length))).length=z.length := by
        simp only [List.length_append, List.length_take, List.length_drop]; omega
      refine ⟨l, hl.trans hlen, e1.trans (e2.trans ((CV _ _).trans (e3.trans (e4.trans e5)))), fun φ a zc hT h1 h2 => ?_⟩
      obtain ⟨hr, ho⟩ := Hn hρ hc (Ad hx hT)
      have hrl := B5 hr
      have hzl := B5 h1
      have hsz:(a.eval x).cells.size=size := by rw [←h3, ←hrl]; simp
      have hle:off+0+(a.eval x).cells.toList.length≤zc.size := by rw [hrl]; simp at hzl; omega
      have hfold := Pd off (a.eval x).cells.toList 0 zc hle
      obtain ⟨cells, k1, k2, k3⟩ := H φ a (((a.eval x).cells.toList.zipIdx 0).foldl (fun cs (x:Value×Nat) => cs.setIfInBounds (off+x.2) x.1) zc) hT (by
        rw [hfold, Nat.add_zero, hrl]
        exact FI (Jb h1 off) (FI hr (J3 h1 _))) (fun y hy => by
        rw [hfold] at hy
        rcases List.mem_append.1 hy with hy | hy
        · exact h2 y (List.mem_of_mem_take hy)
        · rcases List.mem_append.1 hy with hy | hy
          · exact ho y hy
          · exact h2 y (List.mem_of_mem_drop hy))
      refine ⟨cells, ?_, k2, k3⟩
      rw [List.map_cons, Instr.fill, hpl]
      have hcond:((a.eval x).cells.size≠size || off+(a.eval x).cells.size > zc.size)=false := by
        simp at hle; simp [hsz]; omega
      simp only [hcond, Bool.false_eq_true, if_false]
      rw [←k1]
      congr 1
      rw [←Array.foldl_toList, Array.toList_zipIdx]
    · cases hp
theorem De {ty:TypeId} {z:List V} (hz:Dw P ty=some z):∃ zv it, P.info? ty=some it∧it.zero=some zv ∧ ∀ φ, By ρ φ z zv.cells.toList ∧ ∀ y∈zv.cells.toList, y.oneCell'=true := by
  unfold Dw at hz
  cases hi:P.info? ty with
  | none => rw [hi] at hz; cases hz
  | some it =>
    rw [hi] at hz
    cases hzv:it.zero with
    | none => rw [Option.bind_some, hzv] at hz; cases hz
    | some zv =>
      rw [Option.bind_some, hzv] at hz
      exact ⟨zv, it, rfl, hzv, fun φ => EY (show HQ zv.cells.toList=some z from hz) φ⟩
theorem FH {ty:TypeId} {parts:Array (Nat×Operand)} {place:Nat->Option (Nat×Nat)} {z:List V} {ps:List Part} (hρ:Bo ρ) (ho:o.op = .build ty parts) (hz:Dw P ty=some z) (hps:FP N place parts.toList=some ps)
    (hb:∀ it zv, P.info? ty=some it->it.zero=some zv->∀ l, P.built ty l=Instr.fill place zv.cells l):Bf P ρ B N o (QK z ps cf t h n) t h n := by
  intro κ hg
  obtain ⟨l, hl, e1, H⟩ := FK hρ hps (show R.good (Dq ps t z fun l => κ (.agg l) h n) from hg)
  refine ⟨_, e1, fun φ a w hT g => ?_⟩
  obtain ⟨zv, it, hi, hzv, hr⟩ := De (ρ := ρ) hz
  obtain ⟨cells, k1, k2, k3⟩ := H φ a zv.cells hT (hr φ).1 (hr φ).2
  refine ⟨.agg cells, ?_, by simp only [As]; exact ⟨_, rfl, k2, k3⟩⟩
  have hbuilt:P.built ty (parts.map fun (i, x) => (i, a.eval x)).toList=some cells := by
    rw [hb it zv hi hzv, Array.toList_map]; exact k1
  simp only [execOp, ho, Sem.run_bind, run_build w ty _ cells hbuilt, Result.andThen_ok, Sem.run_pure]
theorem DO {φ:AT} {z:List V} {zc:Array Value} (hr:By ρ φ z zc.toList) (ho:∀ y∈zc.toList, y.oneCell'=true) {k i:Nat} (hi:i<k) {v:V} (hv:z[i % z.length]? = some v) :
    ∃ x, ((Array.range k).map (zc[· % zc.size]!))[i]? = some x∧As ρ φ v x∧x.oneCell'=true := by
  have hl := B5 hr
  obtain ⟨x, hx, hrx⟩ := (Cr.1 hr).2 _ v hv
  refine ⟨x, ?_, hrx, ho x (List.mem_of_getElem? hx)⟩
  rw [Array.getElem?_map, Array.getElem?_range, if_pos hi]
  have hs:zc.size=z.length := by simpa using hl
  have hx':zc[i % z.length]? = some x := by simpa using hx
  simp [hs, getElem!_def, hx']
theorem Lx {z:List V}:∀ {m i:Nat}, i<m*z.length->(Eh z m)[i]? = z[i % z.length]? := by
  intro m
  induction m with
  | zero => intro i hi; simp at hi
  | succ m ih =>
    intro i hi
    simp only [Eh]
    by_cases hz:i<z.length
    · rw [List.getElem?_append_left hz, Nat.mod_eq_of_lt hz]
    · rw [List.getElem?_append_right (by omega), ih (by rw [Nat.succ_mul] at hi; omega)]
      congr 1
      rw [←Nat.mod_eq_sub_mod (by omega)]
theorem D1 {z:List V} {m:Nat}:(Eh z m).length=m*z.length := by
  induction m with
  | zero => simp [Eh]
  | succ m ih => simp only [Eh, List.length_append, ih, Nat.succ_mul]; omega
theorem GD {φ:AT} {p:K4} {b tot len cap esz:Nat} (h1:len≤cap) (h2:cap*esz≤tot):As ρ (EG φ p (b, 0, tot)) (.sl p 0 len cap true esz) (.slice (some ⟨b, 0, none⟩) len cap) := by
  simp only [As]
  exact ⟨b, 0, tot, 0, cap, Cj _ _ _, rfl, h1, Nat.le_refl _, fun _ => rfl, fun _ => ⟨rfl, by omega⟩⟩
theorem N9 {ty e:TypeId} {len s:Nat} {parts:Array (Nat×Operand)} {z:List V} {ps:List Part} {u8:Bool} (hρ:Bo ρ) (ho:o.op = .buildSlice ty len parts) (hu:P.underlying ty=some (.slice e)) (hs:Bj P e=some s) (hz:Dw P e=some z)
    (hsz:s=z.length) (h0:0<s) (hbig:len*s≤2 ^ 24) (hps:FP N (fun i => some (i*s, s)) parts.toList=some ps):CX P ρ B N o (Hj u8 len s (Eh z len) ps cf t h n) t h n := by
  intro κ hg
  obtain ⟨l, hl, e1, H⟩ := FK hρ hps (show R.good (Dq ps t (Eh z len) _) from hg)
  have e1:Hj u8 len s (Eh z len) ps cf t h n κ=_ := e1
  rw [e1] at hg
  rw [D1] at hl
  obtain ⟨zv, it, hi, hzv, hr⟩ := De (ρ := ρ) hz
  have hits:it.size=s := by unfold Bj at hs; rw [hi] at hs; simpa using hs
  -- the cells, whichever way they are kept
  have fin:∀ (cs:Cs) (n':K4), n'.toN=n.toN+1->cs.len=l.length->(∀ i, cs.at i=l[i]?)->Hb P ρ B N o t h n (.sl n 0 len len true s) (Af n h (some (.c cs false none))) n' := fun cs n' hn hcl hca => .value fun φ a w hT g => by
    have hzl := B5 (hr φ).1
    obtain ⟨cells, k1, k2, k3⟩ := H φ a ((Array.range (len*s)).map (zv.cells[· % zv.cells.size]!)) hT (Cr.2 ⟨by simp [D1, hsz], fun i v hv => by
        have hlt:i<len*z.length := by
          rcases Nat.lt_or_ge i (len*z.length) with h' | h'
          · exact h'
          · rw [List.getElem?_eq_none (by rw [D1]; exact h')] at hv; cases hv
        rw [Lx hlt] at hv
        obtain ⟨x, hx, hrx, _⟩ := DO (hr φ).1 (hr φ).2 (k := len*s) (by rw [hsz]; exact hlt) hv
        exact ⟨x, by rw [Array.getElem?_toList]; exact hx, hrx⟩⟩) (fun y hy => by
        obtain ⟨i, hi', rfl⟩ := List.getElem_of_mem hy
        have hlt:i<len*z.length := by simpa [hsz] using hi'
        have hzp:i % z.length<z.length := Nat.mod_lt _ (by omega)
        obtain ⟨x, hx, _, hox⟩ := DO (hr φ).1 (hr φ).2 (k := len*s) (i := i) (by rw [hsz]; exact hlt) (List.getElem?_eq_getElem hzp)
        have hx' := hx
        rw [←Array.getElem?_toList, List.getElem?_eq_getElem hi'] at hx'
        cases hx'; exact hox)
    have hcl2 := B5 k2
    have hc := Ee k2 k3
    obtain ⟨g1, g2⟩ := CM g hn (e := e) (fr := (0, 0)) (c := cells) (cs := cs) (by rw [hcl]; simp at hcl2; omega) (JE _) (fun i v hv => by rw [hca i] at hv; simpa using hc i v hv)
    refine ⟨_, .slice (some ⟨w.heap.size, 0, none⟩) len len, _, ?_, g2, g1, GD (Nat.le_refl _) (by simp at hcl2; rw [hcl2, hl, hsz]; exact Nat.le_refl _)⟩
    have hfill:Instr.fill (fun i => some (i*it.size, it.size)) ((Array.range (len*it.size)).map (zv.cells[· % zv.cells.size]!)) (parts.map fun (i, x) => (i, a.eval x)).toList=some cells := by
      rw [hits, Array.toList_map]; exact k1
    have hrun:(Instr.buildSlice ty len (parts.map fun (i, x) => (i, a.eval x))).run P w = .ok (.slice (some ⟨w.heap.size, 0, none⟩) len len) (w.alloc (.cells cells e)) := by
      by_cases h00:len*it.size=0
      · have hfill':Instr.fill (fun i => some (i*it.size, it.size)) #[] (parts.map fun (i, x) => (i, a.eval x)).toList=some cells := by
          have:(Array.range (len*it.size)).map (zv.cells[· % zv.cells.size]!) = #[] := Array.eq_empty_of_size_eq_zero (by simp [h00])
          rw [this] at hfill; exact hfill
        simp only [Instr.buildSlice, Sem.run_bind, run_underlying hu, Result.andThen_ok, AM hs]
        rw [←hits]
        simp only [h00]
        have hr0:∀ q:Array Value, (Array.range 0).map (fun x => q[x % q.size]!) = #[] := fun q => Array.eq_empty_of_size_eq_zero (by simp)
        simp [hr0]
        rw [Array.toList_map] at hfill'
        rw [show (List.map (fun x:Nat×Operand => (x.fst, a.eval x.snd)) parts.toList)=List.map (fun x => match x with | (i, x) => (i, a.eval x)) parts.toList from rfl, hfill']
        rfl
      · exact run_buildSlice w ty e len _ cells it zv hu hi hzv (by rw [hits]; omega) h00 hfill
    simp only [execOp, ho, Sem.run_bind, hrun, Result.andThen_ok, Sem.run_pure]
  cases u8 with
  | true =>
    have hg':R.good (Ct l (fun m c => Di h n (.c (.b m c) false none) fun h' n' => κ (.sl n 0 len len true s) h' n') (.fail "")) := hg
    obtain ⟨m, c, e2, hml, hma, _⟩ := I9 hg'
    rw [e2] at hg'
    obtain ⟨n', hn, e3⟩ := Bp hg'
    exact ⟨_, _, _, e1.trans (Eq.trans e2 e3), fin (.b m c) n' hn hml hma⟩
  | false =>
    obtain ⟨n', hn, e3⟩ := Bp (show R.good (Di h n (.c (.l l) false none) fun h' n' => κ (.sl n 0 len len true s) h' n') from hg)
    exact ⟨_, _, _, e1.trans e3, fin (.l l) n' hn rfl fun _ => rfl⟩
theorem MY {z:List V} (h:Lh z=true):z=[.int .u8 0] := by
  unfold Lh at h
  split at h
  · rfl
  · cases h
theorem Pk {ty e:TypeId} {l c:Operand} {l' c':Opd} {s eb:Nat} {z:List V} (ho:o.op = .makeSlice ty l c) (hl:AH N l=some l') (hc:AH N c=some c') (hu:P.underlying ty=some (.slice e)) (hs:Bj P e=some s) (hb:Fh P e=some eb) (hz:Dw P e=some z)
    (hsz:s=z.length) (h0:0<s) (hb0:0<eb):CX P ρ B N o (Gy eb (Lh z) z l' c' cf t h n) t h n := by
  intro κ hg
  have e1:Gy eb (Lh z) z l' c' cf t h n κ=IW (ev l' t) fun a => IW (ev c' t) fun b => br (Nat.ble a b) (br (Nat.ble (Nat.mul eb b) 281474976710656) (Ff (Lh z) z b fun y => Di h n (.c y false none) fun h' n' => κ (.sl n 0 a b true z.length) h' n') (.fail "")) (.fail "") := by
    simp only [Gy, AD, CV]
  rw [e1] at hg
  obtain ⟨k1, a, hlv, ha, e2⟩ := Dv hg
  rw [e2] at hg
  obtain ⟨k2, b, hcv, hbv, e3⟩ := Dv hg
  rw [e3] at hg
  obtain ⟨h4, e4⟩ := Ae hg
  rw [e4] at hg
  obtain ⟨h5, e5⟩ := Ae hg
  rw [e5] at hg
  have h4 := Aa.1 h4
  have h5:eb*b≤281474976710656 := Aa.1 h5
  obtain ⟨y, e6, hyl, hya⟩ := Hw (Lh z) z b (fun y => Di h n (.c y false none) fun h' n' => κ (.sl n 0 a b true z.length) h' n') MY
  rw [e6] at hg
  obtain ⟨n', hn, e7⟩ := Bp hg
  refine ⟨_, _, _, e1.trans (e2.trans (e3.trans (e4.trans (e5.trans (e6.trans e7))))), .value fun φ ac w hT g => ?_⟩
  have g1 := Ad hl hT
  rw [hlv] at g1
  have gl := Eg ha g1
  have g2 := Ad hc hT
  rw [hcv] at g2
  have gc := Eg hbv g2
  obtain ⟨zv, it, hi, hzv, hr⟩ := De (ρ := ρ) hz
  have hits:it.size=s := by unfold Bj at hs; rw [hi] at hs; simpa using hs
  have hitb:it.bytes=eb := by unfold Fh at hb; rw [hi] at hb; simpa using hb
  have hb63:b≤281474976710656 := Nat.le_trans (Nat.le_mul_of_pos_left b hb0) h5
  have hrun := run_make (P := P) w ty e it zv hu hi hzv k1 k2 (a:Int) (b:Int) (by omega) (by omega) (by rw [hitb, ←Int.natCast_mul]; exact Int.ofNat_le.2 h5) (by omega)
  obtain ⟨g3, g4⟩ := CM g hn (e := e) (fr := (0, 0)) (c := madeCells zv.cells (b*it.size)) (cs := y) (by rw [size_madeCells, hyl, hits, hsz]; exact Nat.le_refl _) (JE _) (fun i v hv => by
    have hlt := Cs.lt_of_at hv
    rw [hyl] at hlt
    rw [hya i hlt] at hv
    exact DO (hr φ).1 (hr φ).2 (k := b*it.size) (by rw [hits, hsz]; exact hlt) hv)
  refine ⟨_, .slice (some ⟨w.heap.size, 0, none⟩) a b, _, ?_, g4, g3, GD h4 (by rw [size_madeCells, hits, hsz]; exact Nat.le_refl _)⟩
  simp only [execOp, ho, gl, gc, Sem.run_bind, hrun, Result.andThen_ok, Sem.run_pure, Int.toNat_natCast]
end
end Go.Ev
