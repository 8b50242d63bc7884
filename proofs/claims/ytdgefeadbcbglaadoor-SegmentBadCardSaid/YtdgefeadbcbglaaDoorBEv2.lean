/- AN EVALUATOR OF THE MODEL OF Go, PROVED SOUND, PART 2: what it says of a call holds in every world, on every tape. Conditions: none of its own; each theorem bears its premises. -/
import Derived.Test.YtdgefeadbcbglaaDoorBEv1
import Derived.Great.BuildSlice
import Derived.Laws.BytesString
import Derived.Laws.MakeOwn
noncomputable section
set_option linter.unusedSimpArgs false
set_option linter.unusedVariables false
namespace Go.Ev
set_option linter.unusedVariables false
section
variable {P:Program} {ρ:Env} {φ:AO} {w:World}
theorem Cm {k:IntKind} {r:Nat} {x:Value} (h:Ap ρ φ (.int k r) x):r<Mk k∧x = .int k (dec k r) := by simpa only [Ap] using h
theorem EJ {b:Bool} {x:Value} (h:Ap ρ φ (.bool b) x):x = .bool b := by simpa only [Ap] using h
theorem Cx {n c:Nat} {x:Value} (h:Ap ρ φ (.str n c) x):∃ s:ByteArray, x = .string s∧s.size=n∧Ar s.data.toList=c := by simpa only [Ap] using h
theorem EC {l:List V} {x:Value} (h:Ap ρ φ (.agg l) x):∃ cs:Array Value, x = .agg cs∧BL ρ φ l cs.toList ∧ ∀ y∈cs.toList, y.oneCell'=true := by simpa only [Ap] using h
theorem Sx {l:List V} {x:Value} (h:Ap ρ φ (.tup l) x):∃ cs:Array Value, x = .tuple cs∧BL ρ φ l cs.toList := by simpa only [Ap] using h
theorem C5 {u:Nl} {x:Value} (h:Ap ρ φ (.nil u) x):x=Cd u := by simpa only [Ap] using h
theorem D4 {p:K4} {off:Nat} {x:Value} (h:Ap ρ φ (.ptr p off) x):∃ b s tot, φ p=some (b, s, tot)∧x = .pointer (some ⟨b, s+off, none⟩) := by simpa only [Ap] using h
theorem FJ {p:K4} {x:Value} (h:Ap ρ φ (.map p) x):∃ b s tot, φ p=some (b, s, tot)∧x = .map (some b) := by simpa only [Ap] using h
theorem Jq {f:Nat} {l:List V} {x:Value} (h:Ap ρ φ (.fn f l) x):∃ cs:Array Value, x = .func (.func f) #[] cs∧BL ρ φ l cs.toList := by simpa only [Ap] using h
theorem D0 {p:K4} {off len cap:Nat} {ex:Bool} {esz:Nat} {x:Value} (h:Ap ρ φ (.sl p off len cap ex esz) x) :
    ∃ b s tot o cap', φ p=some (b, s, tot)∧x = .slice (some ⟨b, o, none⟩) len cap'∧len≤cap∧cap≤cap'∧(ex=true->cap'=cap)∧(0<cap'->o=s+off∧o+cap'*esz≤tot) := by simpa only [Ap] using h
def X6 (k:Sc) (X Y:Value) (r:Bool):Prop :=
  match k with
  | .i => ∃ kd a b, X = .int kd a∧Y = .int kd b∧r=(a == b)
  | .s => ∃ s u, X = .string s∧Y = .string u∧r=(s.toList == u.toList)
  | .b => ∃ a b, X = .bool a∧Y = .bool b∧r=(a == b)
theorem HM {k:Sc} {x y:V} {κ:Bool->R} (h:(M7 k x y κ).good) :
    ∃ r, (∀ κ', M7 k x y κ'=κ' r) ∧ ∀ X Y, Ap ρ φ x X->Ap ρ φ y Y->X6 k X Y r := by
  cases k with
  | i =>
    obtain ⟨kd, a, rfl, e⟩ := CA (show R.good (Hh x _) from h)
    have h:R.good (Hh y _) := h
    obtain ⟨j, b, rfl, e'⟩ := CA h
    have h:R.good (br (AZ kd j) (BW (Nat.beq a b) κ) (.fail "")) := h
    obtain ⟨rfl, _⟩ := kb h
    have hk:AZ kd kd=true := AA.2 rfl
    refine ⟨Nat.beq a b, fun κ' => ?_, fun X Y hx hy => ?_⟩
    · show br (AZ kd kd) (BW (Nat.beq a b) κ') (.fail "")=_
      rw [hk, Ac, B3]
    · obtain ⟨ha, rfl⟩ := Cm hx
      obtain ⟨hb, rfl⟩ := Cm hy
      refine ⟨kd, _, _, rfl, rfl, ?_⟩
      rw [Bool.eq_iff_iff, beq_iff_eq]
      exact ⟨fun h => by rw [Nat.eq_of_beq_eq_true h], fun h => by have := Ky ha hb h; subst this; exact Nat.beq_refl _⟩
  | s =>
    obtain ⟨n, c, rfl, e⟩ := C8 (show R.good (Bc x _) from h)
    have h:R.good (Bc y _) := h
    obtain ⟨m, d, rfl, e'⟩ := C8 h
    refine ⟨Db n c m d, fun κ' => B3 _ _, fun X Y hx hy => ?_⟩
    obtain ⟨s, rfl, rfl, rfl⟩ := Cx hx
    obtain ⟨u, rfl, rfl, rfl⟩ := Cx hy
    exact ⟨s, u, rfl, rfl, LP s u⟩
  | b =>
    obtain ⟨b, rfl, e⟩ := Fy (show R.good (Qh x _) from h)
    have h:R.good (Qh y _) := h
    obtain ⟨c, rfl, e'⟩ := Fy h
    refine ⟨b == c, fun κ' => by cases b <;> cases c <;> rfl, fun X Y hx hy => ?_⟩
    exact ⟨b, c, EJ hx, EJ hy, rfl⟩
theorem Hg {k:Sc} {t:TypeId} (hk:Qg P t=some k) {X Y:Value} {r:Bool} (h:X6 k X Y r) (d:Nat):(Op.equalIn (d+1) t X Y).run P w = .ok r w := by
  unfold Qg at hk
  split at hk
  · cases hk
    rename_i kd hu
    obtain ⟨kd', a, b, rfl, rfl, rfl⟩ := h
    simp [Op.equalIn, run_underlying hu]
  · cases hk
    rename_i hu
    obtain ⟨s, u, rfl, rfl, rfl⟩ := h
    simp [Op.equalIn, run_underlying hu, beq_toListBytes]
  · cases hk
    rename_i hu
    obtain ⟨s, u, rfl, rfl, rfl⟩ := h
    simp [Op.equalIn, run_underlying hu]
  · cases hk
theorem Uk {k:Sc} {t:TypeId} (hk:Qg P t=some k):(isAgg t).run P w = .ok false w := by
  unfold Qg at hk
  split at hk
  · rename_i hu; simp [isAgg, run_underlying hu]
  · rename_i hu; simp [isAgg, run_underlying hu]
  · rename_i hu; simp [isAgg, run_underlying hu]
  · cases hk
theorem Hy {k:Sc} {t:TypeId} (hk:Qg P t=some k) {cs:Array Value} {off:Nat} {v:Value} (h:cs[off]? = some v):(part t cs off).run P w = .ok v w := by
  simp [part, Uk hk, h]
theorem N1:∀ {fs:List Field} {offs:List (Nat×Sc)}, He P fs=some offs->∀ {a b:List V} {κ:Bool->R}, (JF offs a b κ).good →
    ∃ r, (∀ κ', JF offs a b κ'=κ' r) ∧ ∀ (xs ys:Array Value) (d:Nat) (w:World), BL ρ φ a xs.toList->BL ρ φ b ys.toList->(Op.eqFields (d+1) xs ys fs).run P w = .ok r w
  | [], offs, ho, a, b, κ, h => by
    simp only [He, Option.some.injEq] at ho; subst ho
    exact ⟨true, fun _ => rfl, fun xs ys d w _ _ => rfl⟩
  | f::fs, offs, ho, a, b, κ, h => by
    simp only [He] at ho
    split at ho
    · rename_i hn
      split at ho
      · rename_i k r hk hr
        cases ho
        obtain ⟨u, hu, e1⟩ := Ff (show R.good (DN f.offset a _) from h)
        have h:R.good (DN f.offset a _) := h
        rw [e1] at h
        obtain ⟨v, hv, e2⟩ := Ff h
        rw [e2] at h
        obtain ⟨q, e3, hq⟩ := HM (ρ := ρ) (φ := φ) h
        rw [e3] at h
        have unf:∀ κ', JF ((f.offset, k)::r) a b κ'=br q (JF r a b κ') (κ' false) := fun κ' => by
          show DN f.offset a (fun u => DN f.offset b fun v => M7 k u v fun q => br q (JF r a b κ') (κ' false))=_
          have n1:∀ (l:List V) (i:Nat) (x:V) (κ:V->R), l[i]? = some x->DN i l κ=κ x := fun l i => by
            induction i generalizing l with
            | zero => intro x κ hx; cases l with
              | nil => simp at hx
              | cons y l => simp at hx; subst hx; rfl
            | succ i ih => intro x κ hx; cases l with
              | nil => simp at hx
              | cons y l => exact ih l x κ (by simpa using hx)
          rw [n1 _ _ _ _ hu, n1 _ _ _ _ hv, e3]
        have hrun:∀ (xs ys:Array Value) (d:Nat) (w:World), BL ρ φ a xs.toList->BL ρ φ b ys.toList →
            (Op.eqFields (d+1) xs ys (f::fs)).run P w=if q then (Op.eqFields (d+1) xs ys fs).run P w else .ok false w := fun xs ys d w hxs hys => by
          obtain ⟨X, hX, hrX⟩ := (Cl.1 hxs).2 _ _ hu
          obtain ⟨Y, hY, hrY⟩ := (Cl.1 hys).2 _ _ hv
          have := hq X Y hrX hrY
          simp only [Op.eqFields, hn, ne_eq, not_false_eq_true, if_true, Sem.run_bind, Hy hk (show xs[f.offset]? = some X by simpa using hX),
            Hy hk (show ys[f.offset]? = some Y by simpa using hY), Result.andThen_ok, Hg hk this]
          cases q <;> simp
        cases q with
        | true =>
          have h:(JF r a b κ).good := h
          obtain ⟨r', g1, g2⟩ := N1 hr h
          exact ⟨r', fun κ' => (unf κ').trans (g1 κ'), fun xs ys d w hxs hys => (hrun xs ys d w hxs hys).trans (g2 xs ys d w hxs hys)⟩
        | false => exact ⟨false, fun κ' => unf κ', fun xs ys d w hxs hys => hrun xs ys d w hxs hys⟩
      · cases ho
    · cases ho
theorem GH {u:Nl} {v:V} {κn κo:R} (h:(GZ u v κn κo).good) :
    (v = .nil u ∧ ∀ a b:R, GZ u v a b=a)∨((∀ a b:R, GZ u v a b=b) ∧ ∀ X, Ap ρ φ v X->match u with
      | .ptr => ∃ a, X = .pointer (some a) | .sl => ∃ a n c, X = .slice (some a) n c | .map => ∃ b, X = .map (some b) | .fn => ∃ f a c, X = .func f a c | .iface => False) := by
  cases v with
  | nil w' =>
    left
    have h:R.good (br (Nat.beq w'.ix u.ix) κn (.fail "")) := h
    obtain ⟨h1, _⟩ := Af h
    have:w'=u := by cases w' <;> cases u <;> first | rfl | exact absurd h1 (by decide)
    subst this
    exact ⟨rfl, fun a b => by cases w' <;> rfl⟩
  | ptr p o =>
    right
    cases u <;> first | exact h.elim | skip
    exact ⟨fun a b => rfl, fun X hX => by obtain ⟨_, _, _, _, rfl⟩ := D4 hX; exact ⟨_, rfl⟩⟩
  | sl p o l c e z =>
    right
    cases u <;> first | exact h.elim | skip
    exact ⟨fun a b => rfl, fun X hX => by obtain ⟨_, _, _, _, _, _, rfl, _⟩ := D0 hX; exact ⟨_, _, _, rfl⟩⟩
  | map p =>
    right
    cases u <;> first | exact h.elim | skip
    exact ⟨fun a b => rfl, fun X hX => by obtain ⟨_, _, _, _, rfl⟩ := FJ hX; exact ⟨_, rfl⟩⟩
  | fn f l =>
    right
    cases u <;> first | exact h.elim | skip
    exact ⟨fun a b => rfl, fun X hX => by obtain ⟨_, rfl, _⟩ := Jq hX; exact ⟨_, _, _, rfl⟩⟩
  | oth o =>
    right
    cases o with
    | rb n c =>
      cases u <;> first | exact h.elim | skip
      exact ⟨fun a b => rfl, fun X hX => by simp only [Ap, H6] at hX; obtain ⟨_, _, rfl, _⟩ := hX; exact ⟨_, _, _, rfl⟩⟩
    | rx l m z =>
      cases u <;> first | exact h.elim | skip
      exact ⟨fun a b => rfl, fun X hX => by simp only [Ap] at hX; obtain ⟨_, _, rfl, _⟩ := hX; exact ⟨_, _, _, rfl⟩⟩
    | _ => exact (by cases u <;> exact h.elim)
  | _ => exact h.elim
/-- Two references of one sort, held against each other. -/
def Abb (P:Program) (u:Nl) (t:TypeId):Prop :=
  match u with
  | .ptr => ∃ e s, P.underlying t=some (.pointer e)∧Bj P e=some (s+1)
  | .sl => ∃ e, P.underlying t=some (.slice e)
  | .map => ∃ k e, P.underlying t=some (.map k e)
  | .fn => ∃ a b c, P.underlying t=some (.func a b c)
  | .iface => False
theorem HE {u:Nl} {t:TypeId} (ht:Abb P u t) {x y:V} {κ:Bool->R} (h:(Kk u x y κ).good) :
    ∃ r, (∀ κ', Kk u x y κ'=κ' r) ∧ ∀ X Y d w, Ap ρ φ x X->Ap ρ φ y Y->(Op.equalIn (d+1) t X Y).run P w = .ok r w := by
  rcases GH (ρ := ρ) (φ := φ) (show R.good (GZ u x _ _) from h) with ⟨rfl, e1⟩ | ⟨e1, hx⟩
  · have h:R.good (GZ u (.nil u) (GZ u y (κ true) (κ false)) _) := h
    rw [e1] at h
    rcases GH (ρ := ρ) (φ := φ) h with ⟨rfl, e2⟩ | ⟨e2, hy⟩
    · refine ⟨true, fun κ' => by unfold Kk; rw [e1, e1], fun X Y d w hX hY => ?_⟩
      rw [C5 hX, C5 hY]
      cases u with
      | ptr => obtain ⟨e, s, hu, hs⟩ := ht; simp [Op.equalIn, run_underlying hu, Cd]
      | sl => obtain ⟨e, hu⟩ := ht; simp [Op.equalIn, run_underlying hu, Cd]
      | map => obtain ⟨k, e, hu⟩ := ht; simp [Op.equalIn, run_underlying hu, Cd]
      | fn => obtain ⟨a, b, c, hu⟩ := ht; simp [Op.equalIn, run_underlying hu, Cd]
      | iface => exact ht.elim
    · refine ⟨false, fun κ' => by unfold Kk; rw [e1, e2], fun X Y d w hX hY => ?_⟩
      rw [C5 hX]
      have hy := hy Y hY
      cases u with
      | ptr => obtain ⟨e, s, hu, hs⟩ := ht; obtain ⟨a, rfl⟩ := hy; simp [Op.equalIn, run_underlying hu, Cd]
      | sl => obtain ⟨e, hu⟩ := ht; obtain ⟨a, n, c, rfl⟩ := hy; simp [Op.equalIn, run_underlying hu, Cd]
      | map => obtain ⟨k, e, hu⟩ := ht; obtain ⟨a, rfl⟩ := hy; simp [Op.equalIn, run_underlying hu, Cd]
      | fn => obtain ⟨a, b, c, hu⟩ := ht; obtain ⟨f, n, c, rfl⟩ := hy; simp [Op.equalIn, run_underlying hu, Cd]
      | iface => exact ht.elim
  · have h:R.good (GZ u x _ (GZ u y (κ false) (KB x fun p o => KB y fun q o' => br (K4.beq p q) (BW (Nat.beq o o') κ) (.fail "")))) := h
    rw [e1] at h
    rcases GH (ρ := ρ) (φ := φ) h with ⟨rfl, e2⟩ | ⟨e2, hy⟩
    · refine ⟨false, fun κ' => by unfold Kk; rw [e1, e2], fun X Y d w hX hY => ?_⟩
      rw [C5 hY]
      have hx := hx X hX
      cases u with
      | ptr => obtain ⟨e, s, hu, hs⟩ := ht; obtain ⟨a, rfl⟩ := hx; simp [Op.equalIn, run_underlying hu, Cd]
      | sl => obtain ⟨e, hu⟩ := ht; obtain ⟨a, n, c, rfl⟩ := hx; simp [Op.equalIn, run_underlying hu, Cd]
      | map => obtain ⟨k, e, hu⟩ := ht; obtain ⟨a, rfl⟩ := hx; simp [Op.equalIn, run_underlying hu, Cd]
      | fn => obtain ⟨a, b, c, hu⟩ := ht; obtain ⟨f, n, c, rfl⟩ := hx; simp [Op.equalIn, run_underlying hu, Cd]
      | iface => exact ht.elim
    · rw [e2] at h
      obtain ⟨p, o, rfl, e3⟩ := DD h
      rw [e3] at h
      obtain ⟨q, o', rfl, e4⟩ := DD h
      rw [e4] at h
      obtain ⟨h5, e5⟩ := Af h
      have := K4.beq_iff.1 h5
      subst this
      refine ⟨Nat.beq o o', fun κ' => by unfold Kk; rw [e1, e2]; show br (K4.beq p p) _ _=_; rw [h5, Ac, B3], fun X Y d w hX hY => ?_⟩
      have hx := hx X hX
      obtain ⟨b, s, tot, hp, rfl⟩ := D4 hX
      obtain ⟨b', s', tot', hp', rfl⟩ := D4 hY
      rw [hp] at hp'; cases hp'
      cases u with
      | ptr =>
        obtain ⟨e, sz, hu, hs⟩ := ht
        simp only [Op.equalIn, Sem.run_bind, run_underlying hu, Result.andThen_ok, AL hs, ne_eq, Nat.add_eq_zero_iff, Nat.one_ne_zero, and_false, not_false_eq_true, if_true, sameAddr, beq_self_eq_true]
        simp only [Sem.run_pure]
        congr 1
        rw [Bool.eq_iff_iff, beq_iff_eq]
        constructor
        · intro h; simp at h; rw [h]; exact Nat.beq_refl _
        · intro h; rw [Nat.eq_of_beq_eq_true h]
      | sl => obtain ⟨a, n, c, h⟩ := hx; cases h
      | map => obtain ⟨a, h⟩ := hx; cases h
      | fn => obtain ⟨f, n, c, h⟩ := hx; cases h
      | iface => exact ht.elim
end
end Go.Ev

namespace Go.Ev
set_option linter.unusedVariables false
section
variable {P:Program} {ρ:Env} {φ:AO} {w:World}
theorem Px {t:TypeId} {fs:Array Field} (h:P.underlying t=some (.struct fs)):P.underlying t=some (.struct (P.fieldsOf t)) := by
  unfold Program.fieldsOf; rw [h]
theorem Ms {t:TypeId} {fs:Array Field} {offs:List (Nat×Sc)} (ht:P.underlying t=some (.struct fs)) (hs:P.stoodInHeld t=false) (ho:He P fs.toList=some offs)
    {x y:V} {κ:Bool->R} (h:(LX (.st offs) x y κ).good) :
    ∃ r, (∀ κ', LX (.st offs) x y κ'=κ' r) ∧ ∀ X Y d w, Ap ρ φ x X->Ap ρ φ y Y->(Op.equalIn (d+2) t X Y).run P w = .ok r w ∧ ∃ a b, X = .agg a∧Y = .agg b := by
  obtain ⟨a, rfl, e⟩ := CR (show R.good (asAgg x _) from h)
  obtain ⟨b, rfl, e'⟩ := CR (show R.good (asAgg y _) from h)
  obtain ⟨r, g1, g2⟩ := N1 (ρ := ρ) (φ := φ) ho (show R.good (JF offs a b κ) from h)
  refine ⟨r, fun κ' => g1 κ', fun X Y d w hX hY => ?_⟩
  obtain ⟨xs, rfl, hx, _⟩ := EC hX
  obtain ⟨ys, rfl, hy, _⟩ := EC hY
  refine ⟨?_, xs, ys, rfl, rfl⟩
  have hf:P.fieldsOf t=fs := by unfold Program.fieldsOf; rw [ht]
  rw [run_equalIn_struct w (d+1) t xs ys (Px ht) hs, hf]
  exact g2 xs ys d w hx hy
theorem JW {t:TypeId} {pl:Plan} (hp:KO P t=some pl) {x y:V} {κ:Bool->R} (h:(LX pl x y κ).good) :
    ∃ r, (∀ κ', LX pl x y κ'=κ' r) ∧ ∀ X Y w, Ap ρ φ x X->Ap ρ φ y Y->(Op.equal t X Y).run P w = .ok r w := by
  unfold KO at hp
  split at hp
  · cases hp
    rename_i hu
    obtain ⟨r, g1, g2⟩ := HM (ρ := ρ) (φ := φ) (show R.good (M7 .b x y κ) from h)
    exact ⟨r, fun κ' => g1 κ', fun X Y w hX hY => Hg (by unfold Qg; rw [hu]) (g2 X Y hX hY) 9999⟩
  · rename_i fs hu
    split at hp
    · cases hp
    · rename_i hs
      cases ho:He P fs.toList with
      | none => rw [ho] at hp; cases hp
      | some offs =>
        rw [ho] at hp; cases hp
        obtain ⟨r, g1, g2⟩ := Ms (ρ := ρ) (φ := φ) hu (by simpa using hs) ho h
        exact ⟨r, g1, fun X Y w hX hY => (g2 X Y 9998 w hX hY).1⟩
  · rename_i e hu
    split at hp
    · rename_i s hs
      cases hp
      obtain ⟨r, g1, g2⟩ := HE (P := P) (ρ := ρ) (φ := φ) (u := .ptr) (t := t) ⟨e, s, hu, hs⟩ (show R.good (Kk .ptr x y κ) from h)
      exact ⟨r, fun κ' => g1 κ', fun X Y w hX hY => g2 X Y 9999 w hX hY⟩
    · cases hp
  · rename_i e hu
    cases hp
    obtain ⟨r, g1, g2⟩ := HE (P := P) (ρ := ρ) (φ := φ) (u := .sl) (t := t) ⟨e, hu⟩ (show R.good (Kk .sl x y κ) from h)
    exact ⟨r, fun κ' => g1 κ', fun X Y w hX hY => g2 X Y 9999 w hX hY⟩
  · rename_i k e hu
    cases hp
    obtain ⟨r, g1, g2⟩ := HE (P := P) (ρ := ρ) (φ := φ) (u := .map) (t := t) ⟨k, e, hu⟩ (show R.good (Kk .map x y κ) from h)
    exact ⟨r, fun κ' => g1 κ', fun X Y w hX hY => g2 X Y 9999 w hX hY⟩
  · rename_i a b c hu
    cases hp
    obtain ⟨r, g1, g2⟩ := HE (P := P) (ρ := ρ) (φ := φ) (u := .fn) (t := t) ⟨a, b, c, hu⟩ (show R.good (Kk .fn x y κ) from h)
    exact ⟨r, fun κ' => g1 κ', fun X Y w hX hY => g2 X Y 9999 w hX hY⟩
  · cases hp
/-- Two keys held against each other: what the model's ways say. -/
def Xl (P:Program) (sc:Bool) (d:TypeDesc) (t:TypeId) (X Y:Value) (r:Bool):Prop :=
  Instr.sameNow d X Y=(if sc then some r else none)∧(∀ w, (Op.equal t X Y).run P w = .ok r w)∧(r=true->Instr.sameBits 10000 Y X=true)
theorem I7 {k:Sc} {X Y:Value} {n:Nat} (h:X6 k X Y true):Instr.sameBits n Y X=true := by
  cases k with
  | i =>
    obtain ⟨kd, a, b, rfl, rfl, hr⟩ := h
    have := eq_of_beq hr.symm
    simp [Instr.sameBits, this]
  | s =>
    obtain ⟨a, b, rfl, rfl, hr⟩ := h
    have := eq_of_beq hr.symm
    simp only [Instr.sameBits, beq_toListBytes, this]; exact beq_self_eq_true _
  | b =>
    obtain ⟨a, b, rfl, rfl, hr⟩ := h
    have := eq_of_beq hr.symm
    simp [Instr.sameBits, this]
theorem SG (ks:List Sc):∀ {a b:List V} {κ:Bool->R}, (PF ks a b κ).good →
    ∃ r, (∀ κ', PF ks a b κ'=κ' r)∧(∀ (pa pb:List V) (offs:List (Nat×Sc)), pa.length=pb.length->offs=ks.zipIdx.map (fun p => (pa.length+p.2, p.1))->∀ κ', JF offs (pa++a) (pb++b) κ'=κ' r) ∧
      (r=true->∀ xs ys:List Value, BL ρ φ a xs->BL ρ φ b ys->xs.length=ys.length ∧ ∀ n, (ys.zip xs).all (fun (x, y) => Instr.sameBits n x y)=true) := by
  induction ks with
  | nil =>
    intro a b κ h
    cases a with
    | cons u a => exact h.elim
    | nil =>
      cases b with
      | cons v b => exact h.elim
      | nil =>
        refine ⟨true, fun _ => rfl, fun pa pb offs _ ho κ' => by subst ho; rfl, fun _ xs ys hx hy => ?_⟩
        rw [Aw] at hx hy; subst hx hy; exact ⟨rfl, fun n => rfl⟩
  | cons k ks ih =>
    intro a b κ h
    cases a with
    | nil => exact h.elim
    | cons u a =>
      cases b with
      | nil => exact h.elim
      | cons v b =>
        have h:R.good (M7 k u v fun r => br r (PF ks a b κ) (κ false)) := h
        obtain ⟨q, e3, hq⟩ := HM (ρ := ρ) (φ := φ) h
        rw [e3] at h
        have unf:∀ κ', PF (k::ks) (u::a) (v::b) κ'=br q (PF ks a b κ') (κ' false) := fun κ' => e3 _
        have at1:∀ (pa pb:List V) (offs:List (Nat×Sc)), pa.length=pb.length->offs=(k::ks).zipIdx.map (fun p => (pa.length+p.2, p.1))->∀ κ', JF offs (pa++u::a) (pb++v::b) κ' =
            br q (JF (ks.zipIdx.map (fun p => ((pa++[u]).length+p.2, p.1))) ((pa++[u])++a) ((pb++[v])++b) κ') (κ' false) := fun pa pb offs hl ho κ' => by
          subst ho
          have n1:∀ (l m:List V) (x:V) (κ:V->R), DN l.length (l++x::m) κ=κ x := fun l => by
            induction l with
            | nil => intro m x κ; rfl
            | cons y l ih => intro m x κ; exact ih m x κ
          have hz:((k::ks).zipIdx.map (fun p => (pa.length+p.2, p.1)))=(pa.length, k)::ks.zipIdx.map (fun p => ((pa++[u]).length+p.2, p.1)) := by
            rw [List.zipIdx_cons, List.map_cons]
            simp only [Nat.add_zero, List.cons.injEq, true_and]
            rw [List.zipIdx_eq_map_add, List.map_map]
            apply List.map_congr_left
            intro p _
            simp; omega
          rw [hz]
          show DN pa.length (pa++u::a) (fun u => DN pa.length (pb++v::b) fun v => M7 k u v fun q => br q (JF _ (pa++_::a) (pb++_::b) κ') (κ' false))=_
          rw [n1, hl, n1, e3]
          simp
        cases q with
        | true =>
          obtain ⟨r, g1, g2, g3⟩ := ih (show R.good (PF ks a b κ) from h)
          refine ⟨r, fun κ' => (unf κ').trans (g1 κ'), fun pa pb offs hl ho κ' => ?_, fun hr xs ys hx hy => ?_⟩
          · rw [at1 pa pb offs hl ho κ']
            exact g2 (pa++[u]) (pb++[v]) _ (by simp [hl]) rfl κ'
          · obtain ⟨x, xs, rfl, hx, hxs⟩ := Aq.1 hx
            obtain ⟨y, ys, rfl, hy, hys⟩ := Aq.1 hy
            obtain ⟨h1, h2⟩ := g3 hr xs ys hxs hys
            refine ⟨by simp [h1], fun n => ?_⟩
            have h2 := h2 n
            simp only [List.zip_cons_cons, List.all_cons, I7 (hq x y hx hy), Bool.true_and]
            exact h2
        | false =>
          exact ⟨false, fun κ' => unf κ', fun pa pb offs hl ho κ' => at1 pa pb offs hl ho κ', fun hr => by cases hr⟩
theorem Qk {k:Sc} {t:TypeId} (hk:Qg P t=some k) {X Y:Value} {r:Bool} (h:X6 k X Y r):∃ d, P.underlying t=some d∧Instr.sameNow d X Y=some r ∧ ¬ ∃ fs, d = .struct fs := by
  unfold Qg at hk
  split at hk
  · cases hk
    rename_i kd hu
    obtain ⟨kd', a, b, rfl, rfl, rfl⟩ := h
    exact ⟨_, hu, by simp [Instr.sameNow], by simp⟩
  · cases hk
    rename_i hu
    obtain ⟨s, u, rfl, rfl, rfl⟩ := h
    exact ⟨_, hu, by simp [Instr.sameNow, beq_toListBytes], by simp⟩
  · cases hk
    rename_i hu
    obtain ⟨s, u, rfl, rfl, rfl⟩ := h
    exact ⟨_, hu, by simp [Instr.sameNow], by simp⟩
  · cases hk
theorem IZ {t:TypeId} {pl:Plan} (hp:I0 P t=some pl):∃ d sc, P.underlying t=some d ∧ ∀ {x y:V} {κ:Bool->R}, (LX pl x y κ).good →
    ∃ r, (∀ κ', LX pl x y κ'=κ' r) ∧ ∀ X Y, Ap ρ φ x X->Ap ρ φ y Y->Xl P sc d t X Y r := by
  unfold I0 at hp
  split at hp
  · rename_i fs hu
    split at hp
    · cases hp
    · rename_i hs
      split at hp
      · rename_i offs ho
        split at hp
        · rename_i hr
          cases hp
          refine ⟨_, false, hu, fun {x y κ} h => ?_⟩
          obtain ⟨a, rfl, e⟩ := CR (show R.good (asAgg x _) from h)
          obtain ⟨b, rfl, e'⟩ := CR (show R.good (asAgg y _) from h)
          obtain ⟨r, g1, g2, g3⟩ := SG (ρ := ρ) (φ := φ) (offs.map (·.2)) (show R.good (PF (offs.map (·.2)) a b κ) from h)
          refine ⟨r, fun κ' => g1 κ', fun X Y hX hY => ?_⟩
          obtain ⟨xs, rfl, hx, _⟩ := EC hX
          obtain ⟨ys, rfl, hy, _⟩ := EC hY
          have hoffs:offs=(offs.map (·.2)).zipIdx.map (fun p => (([]:List V).length+p.2, p.1)) := by
            apply List.ext_getElem?
            intro i
            rw [List.getElem?_map, List.getElem?_zipIdx, List.getElem?_map]
            cases hi:offs[i]? with
            | none => rfl
            | some p =>
              have h1:(offs.map (·.1))[i]? = some p.1 := by rw [List.getElem?_map, hi]; rfl
              rw [hr] at h1
              have hlt:i<offs.length := by
                rcases Nat.lt_or_ge i offs.length with h' | h'
                · exact h'
                · rw [List.getElem?_eq_none h'] at hi; cases hi
              rw [List.getElem?_range hlt] at h1
              obtain ⟨p1, p2⟩ := p
              simp at h1
              subst h1
              simp
          have hg:(LX (.st offs) (.agg a) (.agg b) (fun q => R.rv (.bool q) AN ⟨.d0, .d0, .d0, .d0⟩)).good := by
            show R.good (JF offs a b (fun q => R.rv (.bool q) AN ⟨.d0, .d0, .d0, .d0⟩))
            have := g2 [] [] offs rfl hoffs (fun q => R.rv (.bool q) AN ⟨.d0, .d0, .d0, .d0⟩)
            simp only [List.nil_append] at this
            rw [this]; trivial
          obtain ⟨r', k1, k2⟩ := Ms (ρ := ρ) (φ := φ) hu (by simpa using hs) ho hg
          have hrr:r'=r := by
            have e1 := k1 (fun q => R.rv (.bool q) AN ⟨.d0, .d0, .d0, .d0⟩)
            have e2:LX (.st offs) (.agg a) (.agg b) (fun q => R.rv (.bool q) AN ⟨.d0, .d0, .d0, .d0⟩)=_ := g2 [] [] offs rfl hoffs (fun q => R.rv (.bool q) AN ⟨.d0, .d0, .d0, .d0⟩)
            rw [e1] at e2
            simpa using e2
          subst hrr
          refine ⟨by simp [Instr.sameNow], fun w => (k2 _ _ 9998 w hX hY).1, fun hr' => ?_⟩
          obtain ⟨h1, h2⟩ := g3 hr' xs.toList ys.toList hx hy
          have h2 := h2 9999
          simp only [Instr.sameBits, Bool.and_eq_true, beq_iff_eq]
          exact ⟨by simpa using h1.symm, h2⟩
        · cases hp
      · cases hp
  · cases hk:Qg P t with
    | none => rw [hk] at hp; cases hp
    | some k =>
      rw [hk] at hp; cases hp
      cases hu:P.underlying t with
      | none => simp [Qg, hu] at hk
      | some d =>
        refine ⟨d, true, rfl, fun {x y κ} h => ?_⟩
        obtain ⟨r, g1, g2⟩ := HM (ρ := ρ) (φ := φ) (show R.good (M7 k x y κ) from h)
        refine ⟨r, fun κ' => g1 κ', fun X Y hX hY => ?_⟩
        obtain ⟨d', hd', hn, _⟩ := Qk hk (g2 X Y hX hY)
        rw [hu] at hd'; cases hd'
        exact ⟨hn, fun w => Hg hk (g2 X Y hX hY) 9999, fun hr => by subst hr; exact I7 (g2 X Y hX hY)⟩
/-- Where a key is first found. -/
def Z0 (pl:Plan) (k:V):List (V×V)->Option Nat->Prop
  | [], r => r=none
  | e::es, r => ∃ q:Bool, (∀ κ, LX pl k e.1 κ=κ q)∧if q then r=some 0 else ∃ r', Z0 pl k es r'∧r=r'.map (· + 1)
theorem LE {t:TypeId} {pl:Plan} (hp:I0 P t=some pl) {k:V} {κf:V->R} {κn:R}:∀ {es:List (V×V)}, (F0 pl k es κf κn).good →
    ∃ r, Z0 pl k es r∧match r with | none => F0 pl k es κf κn=κn | some i => ∃ e, es[i]? = some e∧F0 pl k es κf κn=κf e.2
  | [], h => ⟨none, rfl, rfl⟩
  | (a, b)::es, h => by
    obtain ⟨d, sc, _, hk⟩ := IZ (ρ := { v := fun _ => .nilFunc, ap := fun _ => none }) (φ := fun _ => none) hp
    have h:R.good (LX pl k a fun r => br r (κf b) (F0 pl k es κf κn)) := h
    obtain ⟨q, g1, _⟩ := hk h
    rw [g1] at h
    have unf:F0 pl k ((a, b)::es) κf κn=br q (κf b) (F0 pl k es κf κn) := g1 _
    cases q with
    | true => exact ⟨some 0, ⟨true, g1, rfl⟩, (a, b), rfl, unf⟩
    | false =>
      obtain ⟨r, h1, h2⟩ := LE hp (show R.good (F0 pl k es κf κn) from h)
      refine ⟨r.map (· + 1), ⟨false, g1, r, h1, rfl⟩, ?_⟩
      cases r with
      | none => exact unf.trans h2
      | some i => obtain ⟨e, he, h2⟩ := h2; exact ⟨e, by simpa using he, unf.trans h2⟩
theorem Mq {t:TypeId} {pl:Plan} (hp:I0 P t=some pl) {k v:V}:∀ {es:List (V×V)} {κ:List (V×V)->R}, (EP pl k v es κ).good →
    ∃ r, Z0 pl k es r∧EP pl k v es κ=κ (match r with | none => es++[(k, v)] | some i => es.set i (k, v))
  | [], κ, h => ⟨none, rfl, rfl⟩
  | (a, b)::es, κ, h => by
    obtain ⟨d, sc, _, hk⟩ := IZ (ρ := { v := fun _ => .nilFunc, ap := fun _ => none }) (φ := fun _ => none) hp
    have h:R.good (LX pl k a fun r => br r (κ ((k, v)::es)) (EP pl k v es fun l => κ ((a, b)::l))) := h
    obtain ⟨q, g1, _⟩ := hk h
    rw [g1] at h
    have unf:EP pl k v ((a, b)::es) κ=br q (κ ((k, v)::es)) (EP pl k v es fun l => κ ((a, b)::l)) := g1 _
    cases q with
    | true => exact ⟨some 0, ⟨true, g1, rfl⟩, unf⟩
    | false =>
      obtain ⟨r, h1, h2⟩ := Mq hp (show R.good (EP pl k v es fun l => κ ((a, b)::l)) from h)
      refine ⟨r.map (· + 1), ⟨false, g1, r, h1, rfl⟩, ?_⟩
      rw [unf]
      show EP pl k v es _=_
      rw [h2]
      cases r <;> rfl
theorem Na {t:TypeId} {pl:Plan} (hp:I0 P t=some pl) {k:V}:∀ {es:List (V×V)} {κ:List (V×V)->R}, (HW pl k es κ).good →
    ∃ r, Z0 pl k es r∧HW pl k es κ=κ (match r with | none => es | some i => es.eraseIdx i)
  | [], κ, h => ⟨none, rfl, rfl⟩
  | (a, b)::es, κ, h => by
    obtain ⟨d, sc, _, hk⟩ := IZ (ρ := { v := fun _ => .nilFunc, ap := fun _ => none }) (φ := fun _ => none) hp
    have h:R.good (LX pl k a fun r => br r (κ es) (HW pl k es fun l => κ ((a, b)::l))) := h
    obtain ⟨q, g1, _⟩ := hk h
    rw [g1] at h
    have unf:HW pl k ((a, b)::es) κ=br q (κ es) (HW pl k es fun l => κ ((a, b)::l)) := g1 _
    cases q with
    | true => exact ⟨some 0, ⟨true, g1, rfl⟩, unf⟩
    | false =>
      obtain ⟨r, h1, h2⟩ := Na hp (show R.good (HW pl k es fun l => κ ((a, b)::l)) from h)
      refine ⟨r.map (· + 1), ⟨false, g1, r, h1, rfl⟩, ?_⟩
      rw [unf]
      show HW pl k es _=_
      rw [h2]
      cases r <;> rfl
theorem Mi {pl:Plan} {k:V}:∀ {es:List (V×V)} {bs:List Nat} {κ:List Nat->R} {r:Option Nat}, (HV pl k es bs κ).good->Z0 pl k es r →
    HV pl k es bs κ=κ (match r with | none => bs | some i => bs.eraseIdx i)
  | [], bs, κ, r, _, hf => by have hf:r=none := hf; subst hf; rfl
  | (a, b)::es, [], κ, r, h, _ => h.elim
  | (a, b)::es, c::bs, κ, r, h, hf => by
    obtain ⟨q, g1, hf⟩ := hf
    have h:R.good (LX pl k a fun r => br r (κ bs) (HV pl k es bs fun l => κ (c::l))) := h
    rw [g1] at h
    have unf:HV pl k ((a, b)::es) (c::bs) κ=br q (κ bs) (HV pl k es bs fun l => κ (c::l)) := g1 _
    cases q with
    | true =>
      have hf:r=some 0 := by simpa using hf
      subst hf; exact unf
    | false =>
      simp only [Bool.false_eq_true, if_false] at hf
      obtain ⟨r', hf', rfl⟩ := hf
      rw [unf]
      show HV pl k es bs _=_
      rw [Mi (show R.good (HV pl k es bs fun l => κ (c::l)) from h) hf']
      cases r' <;> rfl
theorem MI:∀ (es:List (V×V)) (bs:List Nat), GK es bs=decide (es.length=bs.length)
  | [], [] => rfl
  | [], _::_ => rfl
  | _::_, [] => rfl
  | _::es, _::bs => by
    show GK es bs=_
    rw [MI es bs]; simp
theorem Q1 (c:Nat):∀ (bs:List Nat) (κ:List Nat->R), RU bs c κ=κ (bs++[c])
  | [], _ => rfl
  | b::bs, κ => by
    show RU bs c (fun l => κ (b::l))=_
    rw [Q1 c bs]; rfl
theorem UG (es:List (V×V)) (bs:List Nat) (c:Nat) (κ:List Nat->Nat->R):TL es bs c κ=κ (if es.length=bs.length then bs else bs++[c]) (if es.length=bs.length then c else c+1) := by
  unfold TL
  rw [MI, Q1, A7]
  by_cases h:es.length=bs.length <;> simp [h, br]
/-- The model finds what is found here. -/
theorem FS {t:TypeId} {pl:Plan} (hp:I0 P t=some pl) {k:V} {K:Value} (hK:Ap ρ φ k K):∀ {es:List (V×V)} {ents:List MapEntry} {r:Option Nat}, Z0 pl k es r->Hw ρ φ es ents →
    (Instr.findKey t K ents).run P w = .ok (r.bind fun i => (ents[i]?).map fun e => (i, e.val)) w ∧
    (∀ i, r=some i->∃ e, ents[i]? = some e∧Instr.sameBits 10000 e.key K=true) := by
  obtain ⟨d, sc, hu, hk⟩ := IZ (ρ := ρ) (φ := φ) hp
  have gd:∀ (x y:V) (q:Bool), (∀ κ, LX pl x y κ=κ q)->∀ X Y, Ap ρ φ x X->Ap ρ φ y Y->Xl P sc d t X Y q := fun x y q hq X Y hX hY => by
    obtain ⟨r, g1, g2⟩ := hk (x := x) (y := y) (κ := fun q => .rv (.bool q) AN ⟨.d0, .d0, .d0, .d0⟩) (by rw [hq]; trivial)
    have e1 := hq (fun q => .rv (.bool q) AN ⟨.d0, .d0, .d0, .d0⟩)
    rw [g1] at e1
    simp at e1
    subst e1
    exact g2 X Y hX hY
  have key:∀ (es:List (V×V)) (ents:List MapEntry) (r:Option Nat) (i:Nat), Z0 pl k es r->Hw ρ φ es ents →
      ((sc=true->Instr.findNow d K ents i=some (r.bind fun j => (ents[j]?).map fun e => (i+j, e.val))) ∧
       (sc=false->ents≠[]->Instr.findNow d K ents i=none) ∧
       (Instr.findAsking t K ents i).run P w = .ok (r.bind fun j => (ents[j]?).map fun e => (i+j, e.val)) w) ∧
      (∀ j, r=some j->∃ e, ents[j]? = some e∧Instr.sameBits 10000 e.key K=true) := by
    intro es
    induction es with
    | nil =>
      intro ents r i hf he
      have hf:r=none := hf
      have he:ents=[] := he
      subst hf he
      exact ⟨⟨fun _ => rfl, fun _ h => absurd rfl h, rfl⟩, fun j h => by cases h⟩
    | cons e es ih =>
      intro ents r i hf he
      obtain ⟨q, hq, hf⟩ := hf
      obtain ⟨y, ys, rfl, hy1, hy2, hys⟩ := he
      obtain ⟨n1, n2, n3⟩ := gd k e.1 q hq K y.key hK hy1
      cases q with
      | true =>
        have hf:r=some 0 := by simpa using hf
        subst hf
        refine ⟨⟨fun hs => ?_, fun hs _ => ?_, ?_⟩, fun j hj => ?_⟩
        · subst hs; simp at n1; simp [Instr.findNow, n1]
        · subst hs; simp at n1; simp [Instr.findNow, n1]
        · simp only [Instr.findAsking, Sem.run_bind, n2, Result.andThen_ok, if_true]; simp
        · cases hj; exact ⟨y, rfl, n3 rfl⟩
      | false =>
        simp only [Bool.false_eq_true, if_false] at hf
        obtain ⟨r', hf', rfl⟩ := hf
        obtain ⟨⟨k1, k2, k3⟩, k4⟩ := ih ys r' (i+1) hf' hys
        have hr:((r'.map (· + 1)).bind fun j => ((y::ys)[j]?).map fun e => (i+j, e.val))=r'.bind fun j => (ys[j]?).map fun e => (i+1+j, e.val) := by
          cases r' with
          | none => rfl
          | some j => simp [Nat.add_assoc, Nat.add_comm 1 j]
        refine ⟨⟨fun hs => ?_, fun hs _ => ?_, ?_⟩, fun j hj => ?_⟩
        · subst hs; simp at n1; rw [hr]; simp only [Instr.findNow, n1]; exact k1 rfl
        · subst hs; simp at n1; simp [Instr.findNow, n1]
        · rw [hr]
          simp only [Instr.findAsking, Sem.run_bind, n2, Result.andThen_ok, Bool.false_eq_true, if_false]
          exact k3
        · cases r' with
          | none => cases hj
          | some j' => simp at hj; subst hj; simpa using k4 j' rfl
  intro es ents r hf he
  obtain ⟨⟨k1, k2, k3⟩, k4⟩ := key es ents r 0 hf he
  simp only [Nat.zero_add] at k1 k3
  refine ⟨?_, fun i hi => ?_⟩
  · simp only [Instr.findKey, Sem.run_bind, run_underlying hu, Result.andThen_ok]
    cases sc with
    | true => rw [k1 rfl]; rfl
    | false =>
      cases hen:ents with
      | nil => rw [hen] at k3; simp only [Instr.findNow]; exact k3
      | cons e l => rw [←hen, k2 rfl (by rw [hen]; simp)]; exact k3
  · obtain ⟨e, h1, h2⟩ := k4 i hi
    exact ⟨e, h1, h2⟩
end
end Go.Ev

namespace Go.Ev
set_option linter.unusedVariables false
section
variable {P:Program} {ρ:Env} {B N:Nat} {o:Oper} {cf:CF} {t:Regs} {h:Heap} {n:K4}
theorem Lk {f:KV->R} {v:V} (e:∀ κ, f κ=κ v h n)
    (H:∀ φ a w, TR ρ N φ t a->Gam ρ B h n φ w->∃ x, (execOp a.eval o).run P w = .ok (.value x) w∧Ap ρ φ v x):B7 P ρ B N o f t h n :=
  fun κ _ => ⟨v, e κ, H⟩
theorem IU {y:Operand} {x:Opd} (ho:o.op = .move y∨o.op = .assign y) (hx:AB N y=some x):B7 P ρ B N o (WS x cf t h n) t h n :=
  Lk (v := ev x t) (fun κ => Av x t _) fun φ a w ht hg => ⟨a.eval y, by rcases ho with ho | ho <;> simp [execOp, ho], Ad hx ht⟩
theorem KH {c x y:Operand} {c' x' y':Opd} (ho:o.op = .pick c x y) (hc:AB N c=some c') (hx:AB N x=some x') (hy:AB N y=some y') :
    B7 P ρ B N o (In c' x' y' cf t h n) t h n := by
  intro κ hg
  have e:In c' x' y' cf t h n κ=Qh (ev c' t) fun q => br q (κ (ev x' t) h n) (κ (ev y' t) h n) := by simp only [In, Av]
  rw [e] at hg
  obtain ⟨b, hb, e'⟩ := Fy hg
  refine ⟨if b then ev x' t else ev y' t, e.trans (e'.trans (by cases b <;> rfl)), fun φ a w ht hg => ?_⟩
  have h1 := Ad hc ht
  rw [hb] at h1
  have h1 := EJ h1
  refine ⟨if b then a.eval x else a.eval y, by simp [execOp, ho, h1, asBool], ?_⟩
  cases b
  · exact Ad hy ht
  · exact Ad hx ht
theorem TG {op:BinOp} {x y:V} {κ:V->R} (h:(Ki op x y κ).good) :
    (∃ k a j b, x = .int k a∧y = .int j b∧Ki op x y κ=M6 op k a j b κ)∨(∃ n c m d, x = .str n c∧y = .str m d∧Ki op x y κ=Kg op n c m d κ)∨Ki op x y κ=KD op x y κ ∨ ∃ l0 l1 n c m d, x = .oth (.ss l0 l1 n c)∧y = .str m d∧Ki op x y κ=Sy op l0 l1 n c m d κ := by
  cases x with
  | int k a =>
    cases y with
    | int j b => exact .inl ⟨k, a, j, b, rfl, rfl, rfl⟩
    | oth o => exact .inr (.inr (.inl rfl))
    | _ => exact h.elim
  | str n c =>
    obtain ⟨m, d, rfl, e⟩ := C8 (show R.good (Bc y fun m d => Kg op n c m d κ) from h)
    exact .inr (.inl ⟨n, c, m, d, rfl, rfl, rfl⟩)
  | oth o =>
    have e0:Ki op (.oth o) y κ=CE op (.oth o) y κ := rfl
    rcases Jx (.oth o) (fun l0 l1 n c => Bc y fun m d => Sy op l0 l1 n c m d κ) (KD op (.oth o) y κ) with ⟨l0, l1, n, c, e, e1⟩ | e1
    · rw [e0] at h
      have e1:CE op (.oth o) y κ=_ := e1
      rw [e1] at h
      obtain ⟨m, d, rfl, e2⟩ := C8 h
      exact .inr (.inr (.inr ⟨l0, l1, n, c, m, d, e, rfl, e0.trans (e1.trans e2)⟩))
    · exact .inr (.inr (.inl (e0.trans e1)))
  | _ => exact h.elim
theorem J4 {op:BinOp} {ty yt:TypeId} {x y:Operand} {a:Act} {w:World} {r:Value} (ho:o.op = .binOp op ty x y yt)
    (he:eqGuard op ty x y (a.eval x) (a.eval y)=Pure.pure ()) (hr:(Go.binOp op ty (a.eval x) (a.eval y)).run P w = .ok r w):(execOp a.eval o).run P w = .ok (.value r) w := by
  simp [execOp, ho, he, hr]
theorem YS {f:V->R} {c:Bool} {u v:V}:∃ x, br c (f u) (f v)=f x := by
  cases c
  · exact ⟨v, rfl⟩
  · exact ⟨u, rfl⟩
theorem CG {v:V} {κ:IntKind->Nat->Nat->R} (hg:(JH v κ).good):∃ k lo hi, JH v κ=κ k lo hi ∧ ∀ (ρ:Env) (φ:AO) X, Ap ρ φ v X->∃ r, lo≤r∧r≤hi∧r<Mk k∧X = .int k (dec k r) := by
  cases v with
  | int k r => exact ⟨k, r, r, rfl, fun ρ φ X hx => by simp only [Ap] at hx; exact ⟨r, Nat.le_refl _, Nat.le_refl _, hx.1, hx.2⟩⟩
  | oth o => cases o with
    | iv k lo hi => exact ⟨k, lo, hi, rfl, fun ρ φ X hx => by simpa only [Ap] using hx⟩
    | rs m j =>
      obtain ⟨h1, e⟩ := Af (show R.good (br (Nat.ble 18446744073709551616 m) (br (Nat.ble (Nat.succ m) 36893488147419103232) (κ .i64 0 9223372036854775807) (.fail "")) (.fail "")) from hg)
      have hg:R.good (br (Nat.ble 18446744073709551616 m) (br (Nat.ble (Nat.succ m) 36893488147419103232) (κ .i64 0 9223372036854775807) (.fail "")) (.fail "")) := hg
      rw [e] at hg
      obtain ⟨h2, e2⟩ := Af hg
      refine ⟨.i64, 0, 9223372036854775807, e.trans e2, fun ρ φ X hx => ?_⟩
      simp only [Ap] at hx
      obtain ⟨z, rfl, z1, z2, z3, z4, _⟩ := hx
      have := z4 (Ab.1 h1) (Ab.1 h2)
      refine ⟨z.toNat, by omega, by omega, by simp only [Mk]; omega, ?_⟩
      rw [Aj (by simp only [Hk]; omega)]
      congr 1; omega
    | sy k i =>
      refine ⟨k, 0, Nat.sub (Mk k) 1, rfl, fun ρ φ X hx => ?_⟩
      simp only [Ap] at hx
      obtain ⟨_, r, h1, h2⟩ := hx
      exact ⟨r, Nat.zero_le _, show r≤Mk k - 1 by omega, h1, h2⟩
    | _ => exact hg.elim
  | _ => exact hg.elim
theorem EB {k:IntKind} {r s:Nat} (hr:r<Mk k) (hs:s<Mk k):(dec k r<dec k s ↔ AV (Hk k) (Mk k) r<AV (Hk k) (Mk k) s)∧(dec k r=dec k s ↔ AV (Hk k) (Mk k) r=AV (Hk k) (Mk k) s) := by
  have hH := H5 k
  have e:∀ r, r<Mk k->dec k r=(AV (Hk k) (Mk k) r:Int) - ((Mk k - Hk k:Nat):Int) := fun r hr => by
    unfold AV
    by_cases h:Hk k≤r
    · rw [Ab.2 h, Ac, Cy (by omega)]
      show _=((r - Hk k:Nat):Int) - _
      omega
    · rw [AH (by omega), Ai, Aj (by omega)]
      show _=((r+(Mk k - Hk k):Nat):Int) - _
      omega
  rw [e r hr, e s hs]
  constructor <;> omega
theorem Cr {H M lo hi r:Nat} (ho:CP H lo hi=true) (h1:lo≤r) (h2:r≤hi):AV H M lo≤AV H M r∧AV H M r≤AV H M hi := by
  unfold CP at ho
  unfold AV
  by_cases h:hi+1≤H
  · rw [AH (by omega), AH (by omega), AH (by omega)]
    simp only [Ai]
    exact ⟨Nat.add_le_add_right h1 _, Nat.add_le_add_right h2 _⟩
  · rw [AH (by omega), Ai] at ho
    have ho := Ab.1 ho
    rw [Ab.2 (by omega), Ab.2 (by omega), Ab.2 (by omega)]
    simp only [Ac]
    exact ⟨Nat.sub_le_sub_right h1 _, Nat.sub_le_sub_right h2 _⟩
theorem EU {ρ:Env} {φ:AO} (b:Bool):Ap ρ φ (.oth .bl) (.bool b) := by simp only [Ap]; exact ⟨b, rfl⟩
theorem Si (a b c d:Nat) (κ:V->R):∃ v, Xd a b c d κ=κ v ∧ ∀ p q, a≤p->p≤b->c≤q->q≤d->∀ (ρ:Env) (φ:AO), Ap ρ φ v (.bool (decide (p<q))) := by
  unfold Xd
  by_cases h1:b+1≤c
  · exact ⟨.bool true, by rw [Ab.2 h1, Ac], fun p q _ _ _ _ ρ φ => by rw [decide_eq_true (by omega)]; exact BS _ ρ φ⟩
  · rw [AH (by omega), Ai]
    by_cases h2:d≤a
    · exact ⟨.bool false, by rw [Ab.2 h2, Ac], fun p q _ _ _ _ ρ φ => by rw [decide_eq_false (by omega)]; exact BS _ ρ φ⟩
    · exact ⟨_, by rw [AH (by omega), Ai], fun p q _ _ _ _ ρ φ => EU _⟩
theorem S4 (a b c d:Nat) (κ:V->R):∃ v, WK a b c d κ=κ v ∧ ∀ p q, a≤p->p≤b->c≤q->q≤d->∀ (ρ:Env) (φ:AO), Ap ρ φ v (.bool (decide (q≤p))) := by
  unfold WK
  by_cases h1:b+1≤c
  · exact ⟨.bool false, by rw [Ab.2 h1, Ac], fun p q _ _ _ _ ρ φ => by rw [decide_eq_false (by omega)]; exact BS _ ρ φ⟩
  · rw [AH (by omega), Ai]
    by_cases h2:d≤a
    · exact ⟨.bool true, by rw [Ab.2 h2, Ac], fun p q _ _ _ _ ρ φ => by rw [decide_eq_true (by omega)]; exact BS _ ρ φ⟩
    · exact ⟨_, by rw [AH (by omega), Ai], fun p q _ _ _ _ ρ φ => EU _⟩
theorem MT {a b c d:Nat} (h:MS a b c d=true):a=b∧b=c∧c=d := by
  unfold MS at h
  cases h1:Nat.beq a b with
  | false => rw [h1] at h; cases h
  | true =>
    rw [h1, Ac] at h
    cases h2:Nat.beq b c with
    | false => rw [h2] at h; cases h
    | true => rw [h2, Ac] at h; exact ⟨Nat.eq_of_beq_eq_true h1, Nat.eq_of_beq_eq_true h2, Nat.eq_of_beq_eq_true h⟩
theorem WH (a b c d:Nat) (κ:V->R):∃ v, YY a b c d κ=κ v ∧ ∀ p q, a≤p->p≤b->c≤q->q≤d->∀ (ρ:Env) (φ:AO), Ap ρ φ v (.bool (decide (p=q))) := by
  unfold YY
  by_cases h1:b+1≤c
  · exact ⟨.bool false, by rw [Ab.2 h1, Ac], fun p q _ _ _ _ ρ φ => by rw [decide_eq_false (by omega)]; exact BS _ ρ φ⟩
  · rw [AH (by omega), Ai]
    by_cases h2:d+1≤a
    · exact ⟨.bool false, by rw [Ab.2 h2, Ac], fun p q _ _ _ _ ρ φ => by rw [decide_eq_false (by omega)]; exact BS _ ρ φ⟩
    · rw [AH (by omega), Ai]
      cases h3:MS a b c d with
      | true => obtain ⟨h4, h5, h6⟩ := MT h3; exact ⟨.bool true, by rw [Ac], fun p q _ _ _ _ ρ φ => by rw [decide_eq_true (by omega)]; exact BS _ ρ φ⟩
      | false => exact ⟨_, by rw [Ai], fun p q _ _ _ _ ρ φ => EU _⟩
theorem WN (a b c d:Nat) (κ:V->R):∃ v, YF a b c d κ=κ v ∧ ∀ p q, a≤p->p≤b->c≤q->q≤d->∀ (ρ:Env) (φ:AO), Ap ρ φ v (.bool (decide (p≠q))) := by
  unfold YF
  by_cases h1:b+1≤c
  · exact ⟨.bool true, by rw [Ab.2 h1, Ac], fun p q _ _ _ _ ρ φ => by rw [decide_eq_true (by omega)]; exact BS _ ρ φ⟩
  · rw [AH (by omega), Ai]
    by_cases h2:d+1≤a
    · exact ⟨.bool true, by rw [Ab.2 h2, Ac], fun p q _ _ _ _ ρ φ => by rw [decide_eq_true (by omega)]; exact BS _ ρ φ⟩
    · rw [AH (by omega), Ai]
      cases h3:MS a b c d with
      | true => obtain ⟨h4, h5, h6⟩ := MT h3; exact ⟨.bool false, by rw [Ac], fun p q _ _ _ _ ρ φ => by rw [decide_eq_false (by omega)]; exact BS _ ρ φ⟩
      | false => exact ⟨_, by rw [Ai], fun p q _ _ _ _ ρ φ => EU _⟩
theorem QS {op:BinOp} {κ:V->R} (hg:(I4 op κ).good):I4 op κ=κ (.oth .bl) ∧ ∀ k p q, E4 op (.int k p) (.int k q) (.oth .bl) := by
  cases op with
  | lss => exact ⟨rfl, fun k p q => ⟨.bool (decide (p<q)), fun P t w => by rw [binOp_lss, Sem.run_pure], fun ρ φ => EU _⟩⟩
  | gtr => exact ⟨rfl, fun k p q => ⟨.bool (decide (p > q)), fun P t w => by rw [binOp_gtr, Sem.run_pure], fun ρ φ => EU _⟩⟩
  | leq => exact ⟨rfl, fun k p q => ⟨.bool (decide (p≤q)), fun P t w => by rw [binOp_leq, Sem.run_pure], fun ρ φ => EU _⟩⟩
  | geq => exact ⟨rfl, fun k p q => ⟨.bool (decide (p ≥ q)), fun P t w => by rw [binOp_geq, Sem.run_pure], fun ρ φ => EU _⟩⟩
  | eql => exact ⟨rfl, fun k p q => ⟨.bool (p == q), fun P t w => by rw [binOp_eql, Sem.run_pure], fun ρ φ => EU _⟩⟩
  | neq => exact ⟨rfl, fun k p q => ⟨.bool (p != q), fun P t w => by rw [binOp_neq, Sem.run_pure], fun ρ φ => EU _⟩⟩
  | _ => exact hg.elim
theorem To {op:BinOp} {x y:V} {κ:V->R} (hg:(H9 op x y κ).good):∃ v, H9 op x y κ=κ v ∧ ∀ (ρ:Env) (φ:AO) X Y, Ap ρ φ x X->Ap ρ φ y Y →
    ∃ k p q, X = .int k p∧Y = .int k q∧E4 op X Y v := by
  unfold H9 at hg ⊢
  obtain ⟨k, a, b, e1, H1⟩ := CG hg
  rw [e1] at hg ⊢
  obtain ⟨j, c, d, e2, H2⟩ := CG hg
  rw [e2] at hg ⊢
  obtain ⟨hk, e3⟩ := Af hg
  rw [e3] at hg ⊢
  obtain rfl := AA.1 hk
  have any0:∀ {κ':V->R}, (I4 op κ').good->∃ v, I4 op κ'=κ' v ∧ ∀ (ρ:Env) (φ:AO) X Y, Ap ρ φ x X->Ap ρ φ y Y->∃ k p q, X = .int k p∧Y = .int k q∧E4 op X Y v := fun hg => by
    obtain ⟨e, H⟩ := QS hg
    refine ⟨_, e, fun ρ φ X Y hX hY => ?_⟩
    obtain ⟨r, r1, r2, r3, rfl⟩ := H1 ρ φ X hX
    obtain ⟨s, s1, s2, s3, rfl⟩ := H2 ρ φ Y hY
    exact ⟨k, _, _, rfl, rfl, H k _ _⟩
  have any:∀ {κ':V->R}, (U4 op a b c d κ').good->∃ v, U4 op a b c d κ'=κ' v ∧ ∀ (ρ:Env) (φ:AO) X Y, Ap ρ φ x X->Ap ρ φ y Y->∃ k p q, X = .int k p∧Y = .int k q∧E4 op X Y v := fun {κ'} hg => by
    unfold U4 at hg ⊢
    cases ha:br (Nat.ble (Nat.succ b) c) true (Nat.ble (Nat.succ d) a) with
    | false => rw [ha] at hg; exact any0 hg
    | true =>
      rw [ha] at hg
      have hap:b<c∨d<a := by
        cases h1:Nat.ble (Nat.succ b) c with
        | true => exact .inl (Ab.1 h1)
        | false =>
          rw [h1] at ha
          exact .inr (Ab.1 (show Nat.ble (Nat.succ d) a=true from ha))
      have ne:∀ (ρ:Env) (φ:AO) X Y, Ap ρ φ x X->Ap ρ φ y Y->∃ r s, X = .int k (dec k r)∧Y = .int k (dec k s)∧dec k r≠dec k s := fun ρ φ X Y hX hY => by
        obtain ⟨r, r1, r2, r3, rfl⟩ := H1 ρ φ X hX
        obtain ⟨s, s1, s2, s3, rfl⟩ := H2 ρ φ Y hY
        exact ⟨r, s, rfl, rfl, fun h => by have := Ky r3 s3 h; omega⟩
      by_cases he:op = .eql
      · subst he
        refine ⟨.bool false, rfl, fun ρ φ X Y hX hY => ?_⟩
        obtain ⟨r, s, rfl, rfl, h⟩ := ne ρ φ X Y hX hY
        refine ⟨k, _, _, rfl, rfl, .bool false, fun P t w => ?_, fun ρ φ => by simp only [Ap]⟩
        rw [binOp_eql, Sem.run_pure]
        congr 2
        exact beq_false_of_ne h
      · by_cases he2:op = .neq
        · subst he2
          refine ⟨.bool true, rfl, fun ρ φ X Y hX hY => ?_⟩
          obtain ⟨r, s, rfl, rfl, h⟩ := ne ρ φ X Y hX hY
          refine ⟨k, _, _, rfl, rfl, .bool true, fun P t w => ?_, fun ρ φ => by simp only [Ap]⟩
          rw [binOp_neq, Sem.run_pure]
          congr 2
          exact bne_iff_ne.2 h
        · have e:Xe op κ' (I4 op κ')=I4 op κ' := by cases op <;> first | rfl | exact absurd rfl he | exact absurd rfl he2
          have hg:(Xe op κ' (I4 op κ')).good := hg
          rw [e] at hg
          show ∃ v, Xe op κ' (I4 op κ')=_∧_
          rw [e]
          exact any0 hg
  cases o1:CP (Hk k) a b with
  | false => rw [o1] at hg; exact any hg
  | true =>
  rw [o1, Ac] at hg
  show ∃ v, br (CP (Hk k) c d) _ _=_∧_
  cases o2:CP (Hk k) c d with
  | false => rw [o2] at hg; exact any hg
  | true =>
  rw [o2, Ac] at hg
  show ∃ v, ZK op _ _ _ _ κ=_∧_
  have bd:∀ (ρ:Env) (φ:AO) X Y, Ap ρ φ x X->Ap ρ φ y Y->∃ r s, X = .int k (dec k r)∧Y = .int k (dec k s)∧r<Mk k∧s<Mk k ∧
      AV (Hk k) (Mk k) a≤AV (Hk k) (Mk k) r∧AV (Hk k) (Mk k) r≤AV (Hk k) (Mk k) b∧AV (Hk k) (Mk k) c≤AV (Hk k) (Mk k) s∧AV (Hk k) (Mk k) s≤AV (Hk k) (Mk k) d := fun ρ φ X Y hX hY => by
    obtain ⟨r, r1, r2, r3, rfl⟩ := H1 ρ φ X hX
    obtain ⟨s, s1, s2, s3, rfl⟩ := H2 ρ φ Y hY
    have := Cr (M := Mk k) o1 r1 r2
    have := Cr (M := Mk k) o2 s1 s2
    exact ⟨r, s, rfl, rfl, r3, s3, by omega, by omega, by omega, by omega⟩
  cases op with
  | lss =>
    obtain ⟨v, e, H⟩ := Si (AV (Hk k) (Mk k) a) (AV (Hk k) (Mk k) b) (AV (Hk k) (Mk k) c) (AV (Hk k) (Mk k) d) κ
    refine ⟨v, e, fun ρ φ X Y hX hY => ?_⟩
    obtain ⟨r, s, rfl, rfl, hr, hs, k1, k2, k3, k4⟩ := bd ρ φ X Y hX hY
    refine ⟨k, _, _, rfl, rfl, .bool (decide (AV (Hk k) (Mk k) r<AV (Hk k) (Mk k) s)), fun P t w => ?_, fun ρ φ => H _ _ k1 k2 k3 k4 ρ φ⟩
    rw [binOp_lss, Sem.run_pure, decide_eq_decide.2 (EB hr hs).1]
  | gtr =>
    obtain ⟨v, e, H⟩ := Si (AV (Hk k) (Mk k) c) (AV (Hk k) (Mk k) d) (AV (Hk k) (Mk k) a) (AV (Hk k) (Mk k) b) κ
    refine ⟨v, e, fun ρ φ X Y hX hY => ?_⟩
    obtain ⟨r, s, rfl, rfl, hr, hs, k1, k2, k3, k4⟩ := bd ρ φ X Y hX hY
    refine ⟨k, _, _, rfl, rfl, .bool (decide (AV (Hk k) (Mk k) s<AV (Hk k) (Mk k) r)), fun P t w => ?_, fun ρ φ => H _ _ k3 k4 k1 k2 ρ φ⟩
    rw [binOp_gtr, Sem.run_pure]
    congr 2
    exact decide_eq_decide.2 (EB hs hr).1
  | leq =>
    obtain ⟨v, e, H⟩ := S4 (AV (Hk k) (Mk k) c) (AV (Hk k) (Mk k) d) (AV (Hk k) (Mk k) a) (AV (Hk k) (Mk k) b) κ
    refine ⟨v, e, fun ρ φ X Y hX hY => ?_⟩
    obtain ⟨r, s, rfl, rfl, hr, hs, k1, k2, k3, k4⟩ := bd ρ φ X Y hX hY
    refine ⟨k, _, _, rfl, rfl, .bool (decide (AV (Hk k) (Mk k) r≤AV (Hk k) (Mk k) s)), fun P t w => ?_, fun ρ φ => H _ _ k3 k4 k1 k2 ρ φ⟩
    rw [binOp_leq, Sem.run_pure]
    congr 2
    exact decide_eq_decide.2 (by have := (EB hs hr).1; omega)
  | geq =>
    obtain ⟨v, e, H⟩ := S4 (AV (Hk k) (Mk k) a) (AV (Hk k) (Mk k) b) (AV (Hk k) (Mk k) c) (AV (Hk k) (Mk k) d) κ
    refine ⟨v, e, fun ρ φ X Y hX hY => ?_⟩
    obtain ⟨r, s, rfl, rfl, hr, hs, k1, k2, k3, k4⟩ := bd ρ φ X Y hX hY
    refine ⟨k, _, _, rfl, rfl, .bool (decide (AV (Hk k) (Mk k) s≤AV (Hk k) (Mk k) r)), fun P t w => ?_, fun ρ φ => H _ _ k1 k2 k3 k4 ρ φ⟩
    rw [binOp_geq, Sem.run_pure]
    congr 2
    exact decide_eq_decide.2 (by have := (EB hr hs).1; omega)
  | eql =>
    obtain ⟨v, e, H⟩ := WH (AV (Hk k) (Mk k) a) (AV (Hk k) (Mk k) b) (AV (Hk k) (Mk k) c) (AV (Hk k) (Mk k) d) κ
    refine ⟨v, e, fun ρ φ X Y hX hY => ?_⟩
    obtain ⟨r, s, rfl, rfl, hr, hs, k1, k2, k3, k4⟩ := bd ρ φ X Y hX hY
    refine ⟨k, _, _, rfl, rfl, .bool (decide (AV (Hk k) (Mk k) r=AV (Hk k) (Mk k) s)), fun P t w => ?_, fun ρ φ => H _ _ k1 k2 k3 k4 ρ φ⟩
    rw [binOp_eql, Sem.run_pure]
    congr 2
    rw [Bool.eq_iff_iff, beq_iff_eq, decide_eq_true_iff]
    exact (EB hr hs).2
  | neq =>
    obtain ⟨v, e, H⟩ := WN (AV (Hk k) (Mk k) a) (AV (Hk k) (Mk k) b) (AV (Hk k) (Mk k) c) (AV (Hk k) (Mk k) d) κ
    refine ⟨v, e, fun ρ φ X Y hX hY => ?_⟩
    obtain ⟨r, s, rfl, rfl, hr, hs, k1, k2, k3, k4⟩ := bd ρ φ X Y hX hY
    refine ⟨k, _, _, rfl, rfl, .bool (decide (AV (Hk k) (Mk k) r≠AV (Hk k) (Mk k) s)), fun P t w => ?_, fun ρ φ => H _ _ k1 k2 k3 k4 ρ φ⟩
    rw [binOp_neq, Sem.run_pure]
    congr 2
    rw [Bool.eq_iff_iff, bne_iff_ne, decide_eq_true_iff]
    exact not_congr (EB hr hs).2
  | _ => exact hg.elim
theorem Yd {k:IntKind} {r s:Nat} (hr:r<Mk k) (hs:s<Mk k) (h:r+s<Hk k):E4 .add (.int k (dec k r)) (.int k (dec k s)) (.int k (r+s)) := by
  have e0:M6 .add k r k s (fun v => R.rv v AN ⟨.d0, .d0, .d0, .d0⟩)=R.rv (.int k (r+s)) AN ⟨.d0, .d0, .d0, .d0⟩ := by
    show br (AZ k k) (Aa (Nat.mod (Nat.add r s) (Mk k)) fun r => R.rv (.int k r) AN ⟨.d0, .d0, .d0, .d0⟩) (.fail "")=_
    rw [AA.2 rfl, Ac, A7]
    show R.rv (.int k ((r+s) % Mk k)) _ _=_
    rw [Nat.mod_eq_of_lt (Nat.lt_of_lt_of_le h (H5 k))]
  obtain ⟨v, e, H⟩ := Gv .add k r k s (fun v => R.rv v AN ⟨.d0, .d0, .d0, .d0⟩) hr hs (by rw [e0]; trivial)
  rw [e0] at e
  cases e
  exact H
theorem add_mod {k:IntKind} {r s:Nat} (hr:r<Mk k) (hs:s<Mk k):E4 .add (.int k (dec k r)) (.int k (dec k s)) (.int k ((r+s) % Mk k)) := by
  have e0:M6 .add k r k s (fun v => R.rv v AN ⟨.d0, .d0, .d0, .d0⟩)=R.rv (.int k ((r+s) % Mk k)) AN ⟨.d0, .d0, .d0, .d0⟩ := by
    show br (AZ k k) (Aa (Nat.mod (Nat.add r s) (Mk k)) fun r => R.rv (.int k r) AN ⟨.d0, .d0, .d0, .d0⟩) (.fail "")=_
    rw [AA.2 rfl, Ac, A7]
    rfl
  obtain ⟨v, e, H⟩ := Gv .add k r k s (fun v => R.rv v AN ⟨.d0, .d0, .d0, .d0⟩) hr hs (by rw [e0]; trivial)
  rw [e0] at e
  cases e
  exact H
theorem YB {k:IntKind} {r s:Nat} (hr:r<Mk k) (hs:s<Mk k) (h:s≤r):E4 .sub (.int k (dec k r)) (.int k (dec k s)) (.int k (r - s)) := by
  have e0:M6 .sub k r k s (fun v => R.rv v AN ⟨.d0, .d0, .d0, .d0⟩)=R.rv (.int k (r - s)) AN ⟨.d0, .d0, .d0, .d0⟩ := by
    show br (AZ k k) (Aa (Nat.mod (Nat.add r (Nat.sub (Mk k) s)) (Mk k)) fun r => R.rv (.int k r) AN ⟨.d0, .d0, .d0, .d0⟩) (.fail "")=_
    rw [AA.2 rfl, Ac, A7]
    show R.rv (.int k ((r+(Mk k - s)) % Mk k)) _ _=_
    rw [show r+(Mk k - s)=r - s+Mk k by omega, Nat.add_mod_right, Nat.mod_eq_of_lt (by omega)]
  obtain ⟨v, e, H⟩ := Gv .sub k r k s (fun v => R.rv v AN ⟨.d0, .d0, .d0, .d0⟩) hr hs (by rw [e0]; trivial)
  rw [e0] at e
  cases e
  exact H
theorem E4.iv {op:BinOp} {x y:Value} {k:IntKind} {r lo hi:Nat} (h:E4 op x y (.int k r)) (h1:lo≤r) (h2:r≤hi):E4 op x y (.oth (.iv k lo hi)) := by
  obtain ⟨z, hz, hr⟩ := h
  refine ⟨z, hz, fun ρ φ => ?_⟩
  have := hr ρ φ
  simp only [Ap] at this ⊢
  exact ⟨r, h1, h2, this.1, this.2⟩
theorem Uq {r b:Nat} (h1:r<Hk .i64) (h2:b<Hk .i64) (h3:1≤b):E4 .rem (.int .i64 (dec .i64 r)) (.int .i64 (dec .i64 b)) (.int .i64 (r % b)) := by
  have hd:r % b<Hk .i64 := Nat.lt_of_le_of_lt (Nat.mod_le r b) h1
  have hp:OA .i64 r .i64 b (br (Nat.ble 1 b) (Aa (Nat.mod r b) fun r => R.rv (.int .i64 r) AN ⟨.d0, .d0, .d0, .d0⟩) (.fail ""))=R.rv (.int .i64 (r % b)) AN ⟨.d0, .d0, .d0, .d0⟩ := by
    unfold OA
    rw [AA.2 rfl, Ac, Ab.2 (show r+1≤Hk .i64 from h1), Ac, Ab.2 (show b+1≤Hk .i64 from h2), Ac, Ab.2 h3, Ac, A7]
    rfl
  have hp:M6 .rem .i64 r .i64 b (fun v => R.rv v AN ⟨.d0, .d0, .d0, .d0⟩)=R.rv (.int .i64 (r % b)) AN ⟨.d0, .d0, .d0, .d0⟩ := by
    show br (Nat.ble (Nat.succ r) (Hk .i64)) (OA .i64 r .i64 b (br (Nat.ble 1 b) (Aa (Nat.mod r b) fun r => R.rv (.int .i64 r) AN ⟨.d0, .d0, .d0, .d0⟩) (.fail ""))) (N3 .i64 r .i64 b fun v => R.rv v AN ⟨.d0, .d0, .d0, .d0⟩)=_
    rw [Ab.2 (show r+1≤Hk .i64 from h1), Ac]; exact hp
  obtain ⟨v, e, H⟩ := Gv .rem .i64 r .i64 b (fun v => R.rv v AN ⟨.d0, .d0, .d0, .d0⟩) (Nat.lt_of_lt_of_le h1 (H5 .i64)) (Nat.lt_of_lt_of_le h2 (H5 .i64)) (by rw [hp]; trivial)
  rw [hp] at e
  cases e
  exact H
theorem WO {p:Int} {b:Nat} (p1 : -9223372036854775808≤p) (p2:p<9223372036854775808) (h1:1≤b) (h2:b<Hk .i64):E4 .rem (.int .i64 p) (.int .i64 (dec .i64 b)) (.oth (.iv .i64 0 18446744073709551615)) := by
  have hz:(p.tmod b).natAbs<9223372036854775808 := by
    rw [Int.natAbs_tmod]
    have h2:b<9223372036854775808 := h2
    have := Nat.mod_lt p.natAbs (show (b:Int).natAbs > 0 by omega)
    omega
  refine ⟨.int .i64 (p.tmod b), fun P t w => ?_, fun ρ φ => ?_⟩
  · rw [Aj h2, binOp_rem]
    simp only [Op.intDiv]
    rw [if_neg (by omega)]
    simp only [Sem.run_pure]
  · simp only [Ap]
    generalize p.tmod b=z at hz
    by_cases h0:0≤z
    · refine ⟨z.toNat, Nat.zero_le _, by omega, by simp only [Mk]; omega, ?_⟩
      rw [Aj (by simp only [Hk]; omega)]; congr 1; omega
    · refine ⟨(z+18446744073709551616).toNat, Nat.zero_le _, by omega, by simp only [Mk]; omega, ?_⟩
      rw [Cy (by simp only [Hk]; omega)]; congr 1; simp only [Mk]; omega
theorem QI {x y:V} {κ:V->R} (hg:(RB x y κ).good):∃ v, RB x y κ=κ v ∧ ∀ (ρ:Env) (φ:AO) X Y, Ap ρ φ x X->Ap ρ φ y Y →
    ∃ k p q, X = .int k p∧Y = .int k q∧E4 .rem X Y v := by
  unfold RB at hg ⊢
  obtain ⟨k, a, b, e1, H1⟩ := CG hg
  rw [e1] at hg ⊢
  obtain ⟨j, d, rfl, e2⟩ := CA hg
  rw [e2] at hg ⊢
  obtain ⟨hk, e3⟩ := Af hg
  rw [e3] at hg ⊢
  obtain rfl := AA.1 hk
  obtain ⟨hj, e4⟩ := Af hg
  rw [e4] at hg ⊢
  obtain rfl := AA.1 hj
  obtain ⟨h1, e5⟩ := Af hg
  rw [e5] at hg ⊢
  obtain ⟨h2, e6⟩ := Af hg
  rw [e6] at hg ⊢
  have h1 := Ab.1 h1
  have h2:d+1≤9223372036854775808 := Ab.1 h2
  have hd:d<Hk .i64 := by simp only [Hk]; omega
  have hY:∀ (ρ:Env) (φ:AO) Y, Ap ρ φ (.int .i64 d) Y->Y = .int .i64 (dec .i64 d) := fun ρ φ Y h => by
    have h:d<Mk .i64∧Y = .int .i64 (dec .i64 d) := by simpa only [Ap] using h
    exact h.2
  cases hb:Nat.ble (Nat.succ b) 9223372036854775808 with
  | true =>
    have hb:b+1≤9223372036854775808 := Ab.1 hb
    refine ⟨.oth (.iv .i64 0 (d - 1)), by rw [Ac, A7]; rfl, fun ρ φ X Y hX hY' => ?_⟩
    obtain ⟨r, r1, r2, r3, rfl⟩ := H1 ρ φ X hX
    obtain rfl := hY ρ φ Y hY'
    have hr:r<Hk .i64 := by simp only [Hk]; omega
    exact ⟨.i64, _, _, rfl, rfl, (Uq hr hd h1).iv (Nat.zero_le _) (by have := Nat.mod_lt r (show d > 0 by omega); omega)⟩
  | false =>
    refine ⟨_, rfl, fun ρ φ X Y hX hY' => ?_⟩
    obtain ⟨r, r1, r2, r3, rfl⟩ := H1 ρ φ X hX
    obtain rfl := hY ρ φ Y hY'
    have hw : -9223372036854775808≤dec .i64 r∧dec .i64 r<9223372036854775808 := by
      have r3:r<18446744073709551616 := r3
      by_cases h:r<Hk .i64
      · rw [Aj h]; have h:r<9223372036854775808 := h; omega
      · rw [Cy (by omega)]; have h:¬ r<9223372036854775808 := h; simp only [Mk]; omega
    exact ⟨.i64, _, _, rfl, rfl, WO hw.1 hw.2 h1 hd⟩
theorem Mj {op:BinOp} {x y:V} {κ:V->R} (hg:(Gs op x y κ).good):∃ v, Gs op x y κ=κ v ∧ ∀ (ρ:Env) (φ:AO) X Y, Ap ρ φ x X->Ap ρ φ y Y →
    ∃ k p q, X = .int k p∧Y = .int k q∧E4 op X Y v := by
  by_cases h1:op = .add
  · subst h1
    have hg:(RA x y κ).good := hg
    show ∃ v, RA x y κ=κ v∧_
    unfold RA at hg ⊢
    obtain ⟨k, a, b, e1, H1⟩ := CG hg
    rw [e1] at hg ⊢
    obtain ⟨j, c, d, e2, H2⟩ := CG hg
    rw [e2] at hg ⊢
    obtain ⟨hk, e3⟩ := Af hg
    rw [e3] at hg ⊢
    obtain rfl := AA.1 hk
    rw [A7, A7] at hg ⊢
    cases hh:Nat.ble (Nat.succ (Nat.add b d)) (Hk k) with
    | true =>
      have hh:b+d+1≤Hk k := Ab.1 hh
      refine ⟨_, rfl, fun ρ φ X Y hX hY => ?_⟩
      obtain ⟨r, r1, r2, r3, rfl⟩ := H1 ρ φ X hX
      obtain ⟨s, s1, s2, s3, rfl⟩ := H2 ρ φ Y hY
      exact ⟨k, _, _, rfl, rfl, (Yd r3 s3 (by omega)).iv (show a+c≤r+s by omega) (show r+s≤b+d by omega)⟩
    | false =>
      refine ⟨.oth (.iv k 0 (Mk k - 1)), by rw [Ai, A7]; rfl, fun ρ φ X Y hX hY => ?_⟩
      obtain ⟨r, r1, r2, r3, rfl⟩ := H1 ρ φ X hX
      obtain ⟨s, s1, s2, s3, rfl⟩ := H2 ρ φ Y hY
      exact ⟨k, _, _, rfl, rfl, (add_mod r3 s3).iv (Nat.zero_le _) (by have := Nat.mod_lt (r+s) (E2 k); omega)⟩
  · by_cases h2:op = .sub
    · subst h2
      have hg:(RG x y κ).good := hg
      show ∃ v, RG x y κ=κ v∧_
      unfold RG at hg ⊢
      obtain ⟨k, a, b, e1, H1⟩ := CG hg
      rw [e1] at hg ⊢
      obtain ⟨j, c, d, e2, H2⟩ := CG hg
      rw [e2] at hg ⊢
      obtain ⟨hk, e3⟩ := Af hg
      rw [e3] at hg ⊢
      obtain rfl := AA.1 hk
      obtain ⟨q1, e4⟩ := Af hg
      rw [e4] at hg ⊢
      obtain ⟨q2, e5⟩ := Af hg
      rw [e5, A7, A7]
      have q1:d≤a := Ab.1 q1
      refine ⟨_, rfl, fun ρ φ X Y hX hY => ?_⟩
      obtain ⟨r, r1, r2, r3, rfl⟩ := H1 ρ φ X hX
      obtain ⟨s, s1, s2, s3, rfl⟩ := H2 ρ φ Y hY
      exact ⟨k, _, _, rfl, rfl, (YB r3 s3 (by omega)).iv (show a - d≤r - s by omega) (show r - s≤b - c by omega)⟩
    · by_cases h3:op = .rem
      · subst h3; exact QI hg
      have e:Gs op x y κ=H9 op x y κ := by cases op <;> first | rfl | exact absurd rfl h1 | exact absurd rfl h2 | exact absurd rfl h3
      rw [e] at hg ⊢
      exact To hg
/-- The greater of two. -/
theorem Qa {a b c d:Nat} {yes no:R} (hg:(W9 a b c d yes no).good):(W9 a b c d yes no=yes∧b<c)∨(W9 a b c d yes no=no∧d≤a) := by
  unfold W9 at hg ⊢
  cases h:Nat.ble (Nat.succ b) c with
  | true => exact .inl ⟨rfl, Ab.1 h⟩
  | false =>
    rw [h] at hg
    obtain ⟨h2, e⟩ := Af (show R.good (br (Nat.ble d a) no (.fail "")) from hg)
    exact .inr ⟨e, Ab.1 h2⟩
theorem W1 {x y:V} {κ:V->R} (hg:(Zd x y κ).good):∃ u, Zd x y κ=κ u ∧ ∀ (ρ:Env) (φ:AO) X Y, Ap ρ φ x X->Ap ρ φ y Y →
    ∃ k p q, X = .int k p∧Y = .int k q∧Ap ρ φ u (.int k (if q > p then q else p)) := by
  unfold Zd at hg ⊢
  obtain ⟨k, a, b, e1, H1⟩ := CG hg
  rw [e1] at hg ⊢
  obtain ⟨j, c, d, e2, H2⟩ := CG hg
  rw [e2] at hg ⊢
  obtain ⟨hk, e3⟩ := Af hg
  rw [e3] at hg ⊢
  obtain rfl := AA.1 hk
  obtain ⟨o1, e4⟩ := Af hg
  rw [e4] at hg ⊢
  obtain ⟨o2, e5⟩ := Af hg
  rw [e5] at hg ⊢
  rcases Qa hg with ⟨e, h⟩ | ⟨e, h⟩
  · refine ⟨y, e, fun ρ φ X Y hX hY => ?_⟩
    obtain ⟨r, r1, r2, r3, rfl⟩ := H1 ρ φ X hX
    obtain ⟨s, s1, s2, s3, rfl⟩ := H2 ρ φ Y hY
    have k1 := Cr (M := Mk k) o1 r1 r2
    have k2 := Cr (M := Mk k) o2 s1 s2
    have := (EB r3 s3).1
    exact ⟨k, _, _, rfl, rfl, by rw [if_pos (by omega)]; exact hY⟩
  · refine ⟨x, e, fun ρ φ X Y hX hY => ?_⟩
    obtain ⟨r, r1, r2, r3, rfl⟩ := H1 ρ φ X hX
    obtain ⟨s, s1, s2, s3, rfl⟩ := H2 ρ φ Y hY
    have k1 := Cr (M := Mk k) o1 r1 r2
    have k2 := Cr (M := Mk k) o2 s1 s2
    have := (EB r3 s3).1
    exact ⟨k, _, _, rfl, rfl, by rw [if_neg (by omega)]; exact hX⟩
theorem Ul {x y:V} {κ:V->R} (hg:(Za x y κ).good):∃ u, Za x y κ=κ u ∧ ∀ (ρ:Env) (φ:AO) X Y, Ap ρ φ x X->Ap ρ φ y Y →
    ∃ k p q, X = .int k p∧Y = .int k q∧Ap ρ φ u (.int k (if q<p then q else p)) := by
  unfold Za at hg ⊢
  obtain ⟨k, a, b, e1, H1⟩ := CG hg
  rw [e1] at hg ⊢
  obtain ⟨j, c, d, e2, H2⟩ := CG hg
  rw [e2] at hg ⊢
  obtain ⟨hk, e3⟩ := Af hg
  rw [e3] at hg ⊢
  obtain rfl := AA.1 hk
  obtain ⟨o1, e4⟩ := Af hg
  rw [e4] at hg ⊢
  obtain ⟨o2, e5⟩ := Af hg
  rw [e5] at hg ⊢
  rcases Qa hg with ⟨e, h⟩ | ⟨e, h⟩
  · refine ⟨y, e, fun ρ φ X Y hX hY => ?_⟩
    obtain ⟨r, r1, r2, r3, rfl⟩ := H1 ρ φ X hX
    obtain ⟨s, s1, s2, s3, rfl⟩ := H2 ρ φ Y hY
    have k1 := Cr (M := Mk k) o1 r1 r2
    have k2 := Cr (M := Mk k) o2 s1 s2
    have := (EB s3 r3).1
    exact ⟨k, _, _, rfl, rfl, by rw [if_pos (by omega)]; exact hY⟩
  · refine ⟨x, e, fun ρ φ X Y hX hY => ?_⟩
    obtain ⟨r, r1, r2, r3, rfl⟩ := H1 ρ φ X hX
    obtain ⟨s, s1, s2, s3, rfl⟩ := H2 ρ φ Y hY
    have k1 := Cr (M := Mk k) o1 r1 r2
    have k2 := Cr (M := Mk k) o2 s1 s2
    have := (EB s3 r3).1
    exact ⟨k, _, _, rfl, rfl, by rw [if_neg (by omega)]; exact hX⟩
theorem UE {m j b:Nat} {κ:V->R} (hg:(Xr m j b κ).good) (hb1:1≤b) (hb2:b+1≤9223372036854775808):∃ v, Xr m j b κ=κ v ∧ ∀ (ρ:Env) (φ:AO) X Y, Ap ρ φ (.oth (.rs m j)) X->Ap ρ φ (.int .i64 b) Y →
    ∃ k p q, X = .int k p∧Y = .int k q∧E4 .rem X Y v := by
  unfold Xr at hg ⊢
  obtain ⟨hm, e1⟩ := Af hg
  rw [e1] at hg ⊢
  rw [A7] at hg ⊢
  obtain ⟨hd, e2⟩ := Af hg
  rw [e2] at hg ⊢
  obtain ⟨h1, e3⟩ := Af hg
  rw [e3, A7]
  have hm:m=73786976294838206464+b := Nat.eq_of_beq_eq_true hm
  have hd:j % 18446744073709551616=j / 18446744073709551616 := Nat.eq_of_beq_eq_true hd
  have h1:1≤j % 18446744073709551616 := Ab.1 h1
  refine ⟨_, rfl, fun ρ φ X Y hX hY => ?_⟩
  simp only [Ap] at hX
  obtain ⟨z, rfl, z1, z2, z3, _, z5⟩ := hX
  have hY:(b<Mk .i64∧Y = .int .i64 (dec .i64 b)) := by simpa only [Ap] using hY
  obtain ⟨_, rfl⟩ := hY
  have hz := z5 (by omega)
  have e6:m % 18446744073709551616=b := by omega
  have z3:z.natAbs % b=j % 18446744073709551616 := by
    rcases z3 with ⟨h, _⟩ | ⟨_, h, h'⟩
    · omega
    · rw [e6] at h h'; omega
  rw [show dec .i64 b=(b:Int) from Aj (by simp only [Hk]; omega)]
  refine ⟨.i64, _, _, rfl, rfl, .int .i64 (z.tmod b), fun P t w => by
    rw [binOp_rem]
    simp only [Op.intDiv]
    rw [if_neg (by omega)]
    simp only [Sem.run_pure], fun ρ φ => ?_⟩
  have h0 := Int.natAbs_tmod z b
  rw [Int.natAbs_natCast, z3] at h0
  have hjb:j % 18446744073709551616<b := by rw [←z3]; exact Nat.mod_lt _ (by omega)
  have hneg:z.tmod b≤0 := by
    have h4:0≤(-z).tmod b := Int.tmod_nonneg _ (by omega)
    rw [Int.neg_tmod] at h4
    omega
  generalize z.tmod b=y at h0 hneg
  simp only [Ap]
  have hs:Nat.sub 18446744073709551616 (j % 18446744073709551616)=18446744073709551616 - j % 18446744073709551616 := rfl
  refine ⟨by show 18446744073709551616 - j % 18446744073709551616<Mk .i64; simp only [Mk]; omega, ?_⟩
  show Value.int .i64 y = .int .i64 (dec .i64 (18446744073709551616 - j % 18446744073709551616))
  rw [Cy (by simp only [Hk]; omega)]
  congr 1; simp only [Mk]; omega
theorem Lq {op:BinOp} {x y:V} {κ:V->R} (hg:(Rh op x y κ (Gs op x y κ)).good):∃ v, Rh op x y κ (Gs op x y κ)=κ v ∧ ∀ (ρ:Env) (φ:AO) X Y, Ap ρ φ x X->Ap ρ φ y Y →
    ∃ k p q, X = .int k p∧Y = .int k q∧E4 op X Y v := by
  by_cases hop:op = .rem
  · subst hop
    rcases Tu x (fun m j => Hh y fun k b => br (AZ k .i64) (br (Nat.ble 1 b) (br (Nat.ble (Nat.succ b) 9223372036854775808) (br (Nat.beq m (Nat.add 18446744073709551616 b)) (κ (.int .i64 j)) (br (Nat.beq m b) (br (Nat.beq j 0) (κ (.int .i64 0)) (κ (.oth (.iv .i64 1 18446744073709551615)))) (Xr m j b κ))) (.fail "")) (.fail "")) (.fail "")) (Gs .rem x y κ) with ⟨m, j, rfl, e0⟩ | e0
    · have e0:Rh .rem (.oth (.rs m j)) y κ (Gs .rem (.oth (.rs m j)) y κ)=_ := e0
      rw [e0] at hg ⊢
      obtain ⟨k, b, rfl, e1⟩ := CA hg
      rw [e1] at hg ⊢
      obtain ⟨hk, e2⟩ := Af hg
      rw [e2] at hg ⊢
      obtain rfl := AA.1 hk
      obtain ⟨hb1, e3⟩ := Af hg
      rw [e3] at hg ⊢
      obtain ⟨hb2, e4⟩ := Af hg
      rw [e4] at hg ⊢
      cases hm:Nat.beq m (Nat.add 18446744073709551616 b) with
      | false =>
        rw [hm] at hg
        have hg:(br (Nat.beq m b) (br (Nat.beq j 0) (κ (.int .i64 0)) (κ (.oth (.iv .i64 1 18446744073709551615)))) (Xr m j b κ)).good := hg
        cases hmb:Nat.beq m b with
        | false =>
          rw [hmb] at hg
          obtain ⟨v, e5, H⟩ := UE (show R.good (Xr m j b κ) from hg) (Ab.1 hb1) (Ab.1 hb2)
          exact ⟨v, e5, H⟩
        | true =>
        have e5:br true (br (Nat.beq j 0) (κ (.int .i64 0)) (κ (.oth (.iv .i64 1 18446744073709551615)))) (Xr m j b κ)=br (Nat.beq j 0) (κ (.int .i64 0)) (κ (.oth (.iv .i64 1 18446744073709551615))) := rfl
        have hb1 := Ab.1 hb1
        have hb2:b+1≤9223372036854775808 := Ab.1 hb2
        have hmb:m=b := Nat.eq_of_beq_eq_true hmb
        have key:∀ (ρ:Env) (φ:AO) X Y, Ap ρ φ (.oth (.rs m j)) X->Ap ρ φ (.int .i64 b) Y->∃ z:Int, X = .int .i64 z∧Y = .int .i64 (b:Int) ∧ -9223372036854775808≤z∧z<9223372036854775808∧z.natAbs % b=j := fun ρ φ X Y hX hY => by
          simp only [Ap] at hX
          obtain ⟨z, rfl, z1, z2, z3, _⟩ := hX
          have hY:(b<Mk .i64∧Y = .int .i64 (dec .i64 b)) := by simpa only [Ap] using hY
          obtain ⟨_, rfl⟩ := hY
          refine ⟨z, rfl, by rw [Aj (by simp only [Hk]; omega)], z1, z2, ?_⟩
          rcases z3 with ⟨_, z3⟩ | ⟨z3, _⟩
          · rw [hmb, Nat.mod_eq_of_lt (show b<18446744073709551616 by omega)] at z3; exact z3
          · omega
        cases hj:Nat.beq j 0 with
        | true =>
          obtain rfl := Nat.eq_of_beq_eq_true hj
          refine ⟨_, e5, fun ρ φ X Y hX hY => ?_⟩
          obtain ⟨z, rfl, rfl, z1, z2, z3⟩ := key ρ φ X Y hX hY
          refine ⟨.i64, _, _, rfl, rfl, .int .i64 (z.tmod b), fun P t w => by
            rw [binOp_rem]
            simp only [Op.intDiv]
            rw [if_neg (by omega)]
            simp only [Sem.run_pure], fun ρ φ => ?_⟩
          have h0:z.tmod b=0 := by
            have := Int.natAbs_tmod z b
            rw [Int.natAbs_natCast, z3] at this
            omega
          rw [h0]
          simp only [Ap]
          exact ⟨by simp only [Mk]; omega, rfl⟩
        | false =>
          rw [hj] at e5
          refine ⟨_, e5, fun ρ φ X Y hX hY => ?_⟩
          obtain ⟨z, rfl, rfl, z1, z2, z3⟩ := key ρ φ X Y hX hY
          refine ⟨.i64, _, _, rfl, rfl, .int .i64 (z.tmod b), fun P t w => by
            rw [binOp_rem]
            simp only [Op.intDiv]
            rw [if_neg (by omega)]
            simp only [Sem.run_pure], fun ρ φ => ?_⟩
          have hj0:j≠0 := fun h => by subst h; cases hj
          have h0 := Int.natAbs_tmod z b
          rw [Int.natAbs_natCast, z3] at h0
          have hjb:j<b := by rw [←z3]; exact Nat.mod_lt _ (by omega)
          generalize z.tmod b=y at h0
          simp only [Ap]
          by_cases hy:0≤y
          · refine ⟨y.toNat, by omega, by omega, by simp only [Mk]; omega, ?_⟩
            rw [Aj (by simp only [Hk]; omega)]; congr 1; omega
          · refine ⟨(y+18446744073709551616).toNat, by omega, by omega, by simp only [Mk]; omega, ?_⟩
            rw [Cy (by simp only [Hk]; omega)]; congr 1; simp only [Mk]; omega
      | true =>
      rw [hm] at hg
      refine ⟨_, rfl, fun ρ φ X Y hX hY => ?_⟩
      have hb1 := Ab.1 hb1
      have hb2:b+1≤9223372036854775808 := Ab.1 hb2
      have hm:m=18446744073709551616+b := Nat.eq_of_beq_eq_true hm
      simp only [Ap] at hX
      obtain ⟨z, rfl, z1, z2, z3, z4, _⟩ := hX
      have hY:(b<Mk .i64∧Y = .int .i64 (dec .i64 b)) := by simpa only [Ap] using hY
      obtain ⟨_, rfl⟩ := hY
      have hz := z4 (by omega) (by omega)
      have z3:z.natAbs % (m % 18446744073709551616)=j := by
        rcases z3 with ⟨_, z3⟩ | ⟨z3, _⟩
        · exact z3
        · omega
      have e6:m % 18446744073709551616=b := by omega
      rw [e6] at z3
      obtain ⟨r, rfl⟩:∃ r:Nat, z=r := ⟨z.toNat, by omega⟩
      have hr:r<Hk .i64 := by simp only [Hk]; omega
      have h := Uq (b := b) hr (by simp only [Hk]; omega) hb1
      rw [Aj hr] at h
      have e7:r % b=j := by rw [←z3, Int.natAbs_natCast]
      rw [e7] at h
      exact ⟨.i64, _, _, rfl, rfl, h⟩
    · have e0:Rh .rem x y κ (Gs .rem x y κ)=Gs .rem x y κ := e0
      rw [e0] at hg ⊢
      exact Mj hg
  · have e0:Rh op x y κ (Gs op x y κ)=Gs op x y κ := by cases op <;> first | rfl | exact absurd rfl hop
    rw [e0] at hg ⊢
    exact Mj hg
theorem MN (v:V) (κ:IntKind->Nat->R) (e:R):(∃ k i, v = .oth (.sy k i)∧syK v κ e=κ k i)∨syK v κ e=e := by
  cases v with
  | oth o =>
    rcases Qn o κ e with ⟨k, i, rfl, h⟩ | h
    · exact .inl ⟨k, i, rfl, h⟩
    · exact .inr h
  | _ => exact .inr rfl
theorem J2 (x y:V) (a e:R):(∃ k i, x = .oth (.sy k i)∧y = .oth (.sy k i)∧KF x y a e=a)∨KF x y a e=e := by
  unfold KF
  rcases MN x (fun k i => syK y (fun j i' => br (AZ k j) (br (Nat.beq i i') a e) e) e) e with ⟨k, i, rfl, h⟩ | h
  · rw [h]
    rcases MN y (fun j i' => br (AZ k j) (br (Nat.beq i i') a e) e) e with ⟨j, i', rfl, h'⟩ | h'
    · rw [h']
      cases hk:AZ k j with
      | false => exact .inr rfl
      | true =>
        cases hi:Nat.beq i i' with
        | false => exact .inr rfl
        | true =>
          obtain rfl := AA.1 hk
          obtain rfl := Nat.eq_of_beq_eq_true hi
          exact .inl ⟨k, i, rfl, rfl, rfl⟩
    · rw [h']; exact .inr rfl
  · rw [h]; exact .inr rfl
theorem UK {op:BinOp} {x y:V} {κ:V->R} (hg:(KD op x y κ).good):∃ v, KD op x y κ=κ v ∧ ∀ (ρ:Env) (φ:AO) X Y, Ap ρ φ x X->Ap ρ φ y Y →
    ∃ k p q, X = .int k p∧Y = .int k q∧E4 op X Y v := by
  unfold KD at hg ⊢
  by_cases h1:op = .eql
  · subst h1
    rcases J2 x y (κ (.bool true)) (Rh .eql x y κ (Gs .eql x y κ)) with ⟨k, i, rfl, rfl, e⟩ | e
    · refine ⟨_, e, fun ρ φ X Y hX hY => ?_⟩
      simp only [Ap] at hX hY
      obtain ⟨h1, r, hr, h2⟩ := hX
      obtain rfl:Y=X := hY.1.trans h1.symm
      subst h2
      exact ⟨k, _, _, rfl, rfl, .bool true, fun P t w => by rw [binOp_eql, Sem.run_pure, beq_self_eq_true], fun ρ φ => BS _ ρ φ⟩
    · have e:syX .eql x y κ (Rh .eql x y κ (Gs .eql x y κ))=Rh .eql x y κ (Gs .eql x y κ) := e
      rw [e] at hg ⊢
      exact Lq hg
  by_cases h2:op = .neq
  · subst h2
    rcases J2 x y (κ (.bool false)) (Rh .neq x y κ (Gs .neq x y κ)) with ⟨k, i, rfl, rfl, e⟩ | e
    · refine ⟨_, e, fun ρ φ X Y hX hY => ?_⟩
      simp only [Ap] at hX hY
      obtain ⟨h1, r, hr, h2⟩ := hX
      obtain rfl:Y=X := hY.1.trans h1.symm
      subst h2
      exact ⟨k, _, _, rfl, rfl, .bool false, fun P t w => by rw [binOp_neq, Sem.run_pure, bne_self_eq_false], fun ρ φ => BS _ ρ φ⟩
    · have e:syX .neq x y κ (Rh .neq x y κ (Gs .neq x y κ))=Rh .neq x y κ (Gs .neq x y κ) := e
      rw [e] at hg ⊢
      exact Lq hg
  have e:syX op x y κ (Rh op x y κ (Gs op x y κ))=Rh op x y κ (Gs op x y κ) := by cases op <;> first | rfl | exact absurd rfl h1 | exact absurd rfl h2
  rw [e] at hg ⊢
  exact Lq hg
theorem CW {op:BinOp} {ty yt:TypeId} {x y:Operand} {x' y':Opd} (ho:o.op = .binOp op ty x y yt) (hx:AB N x=some x') (hy:AB N y=some y') :
    B7 P ρ B N o (LO op x' y' cf t h n) t h n := by
  intro κ hg
  have e:LO op x' y' cf t h n κ=Ki op (ev x' t) (ev y' t) fun r => κ r h n := by simp only [LO, Av]
  rw [e] at hg
  have key:∀ φ a, TR ρ N φ t a->∃ X Y, a.eval x=X∧a.eval y=Y∧Ap ρ φ (ev x' t) X∧Ap ρ φ (ev y' t) Y := fun φ a ht => ⟨_, _, rfl, rfl, Ad hx ht, Ad hy ht⟩
  rcases TG hg with ⟨k, a, j, b, hxv, hyv, e'⟩ | ⟨n', c, m, d, hxv, hyv, e'⟩ | e' | ⟨l0, l1, n', c, m, d, hxv, hyv, e'⟩
  · by_cases hab:a<Mk k∧b<Mk j
    · rw [e'] at hg
      obtain ⟨v, e2, r, hr, hv⟩ := Gv op k a j b _ hab.1 hab.2 hg
      refine ⟨v, e.trans (e'.trans e2), fun φ ac w ht hg => ⟨r, ?_, hv ρ φ⟩⟩
      obtain ⟨X, Y, hX, hY, rX, rY⟩ := key φ ac ht
      rw [hxv] at rX; rw [hyv] at rY
      obtain ⟨_, rfl⟩ := Cm rX
      obtain ⟨_, rfl⟩ := Cm rY
      refine J4 ho ?_ ?_
      · rw [hX, hY, eqGuard_at_int]
      · rw [hX, hY]; exact hr P ty w
    · -- no world has such a residue
      rw [e'] at hg
      have hv:∃ v, M6 op k a j b (fun r => κ r h n)=κ v h n := by
        have gk:∀ (f:V->R) (c:Nat->V) (m:Nat), Aa m (fun r => f (c r))=f (c m) := fun f c m => A7 _ _
        cases op <;> (simp only [M6, WM, OC, WE, SW, LY, Sb, N3, VZ, Zz, UO, Pi, Un, SK, ieq, ine, ilt, igt, ile, ige, OA, A7, B3] at hg ⊢)
        all_goals
          repeat' first
            | exact ⟨_, rfl⟩
            | (obtain ⟨_, ee⟩ := Af hg; rw [ee] at hg ⊢)
            | exact YS (f := fun v => κ v h n)
            | (cases hbr:Nat.ble (Nat.succ a) (Hk k) <;> rw [hbr] at hg <;> simp only [hbr, Ac, Ai] at hg ⊢)
      obtain ⟨v, hv⟩ := hv
      refine ⟨v, e.trans (e'.trans hv), fun φ ac w ht hg => ?_⟩
      obtain ⟨X, Y, hX, hY, rX, rY⟩ := key φ ac ht
      rw [hxv] at rX; rw [hyv] at rY
      exact absurd ⟨(Cm rX).1, (Cm rY).1⟩ hab
  · by_cases hw:∃ s u:ByteArray, n'=s.size∧c=Ar s.data.toList∧m=u.size∧d=Ar u.data.toList
    · obtain ⟨s, u, rfl, rfl, rfl, rfl⟩ := hw
      rw [e'] at hg
      obtain ⟨v, e2, r, hr, hv⟩ := T8 op s u _ hg
      refine ⟨v, e.trans (e'.trans e2), fun φ ac w ht hg => ⟨r, ?_, hv ρ φ⟩⟩
      obtain ⟨X, Y, hX, hY, rX, rY⟩ := key φ ac ht
      rw [hxv] at rX; rw [hyv] at rY
      obtain ⟨s', rfl, h1, h2⟩ := Cx rX
      obtain ⟨u', rfl, h3, h4⟩ := Cx rY
      have es:s'=s := by
        have := LD (a := s'.data.toList) (b := s.data.toList) (by rw [BU, BU, h1]) h2
        cases s'; cases s; simp at this; rw [this]
      have eu:u'=u := by
        have := LD (a := u'.data.toList) (b := u.data.toList) (by rw [BU, BU, h3]) h4
        cases u'; cases u; simp at this; rw [this]
      subst es eu
      refine J4 ho ?_ ?_
      · rw [hX, hY, eqGuard_at_string]
      · rw [hX, hY]; exact hr P ty w
    · rw [e'] at hg
      have hv:∃ v, Kg op n' c m d (fun r => κ r h n)=κ v h n := by
        cases op <;> first
          | exact hg.elim
          | (simp only [Kg, Yw, Z5, sne, slt, sge, A7, B3] at hg ⊢)
        · obtain ⟨_, ee⟩ := Af hg; rw [ee]; exact ⟨_, rfl⟩
        · exact ⟨_, rfl⟩
        · cases Db n' c m d <;> exact ⟨_, rfl⟩
        · exact ⟨_, rfl⟩
        · cases QG n' c m d <;> exact ⟨_, rfl⟩
      obtain ⟨v, hv⟩ := hv
      refine ⟨v, e.trans (e'.trans hv), fun φ ac w ht hg => ?_⟩
      obtain ⟨X, Y, hX, hY, rX, rY⟩ := key φ ac ht
      rw [hxv] at rX; rw [hyv] at rY
      obtain ⟨s', rfl, h1, h2⟩ := Cx rX
      obtain ⟨u', rfl, h3, h4⟩ := Cx rY
      exact absurd ⟨s', u', h1.symm, h2.symm, h3.symm, h4.symm⟩ hw
  · rw [e'] at hg
    obtain ⟨v, e2, H⟩ := UK hg
    refine ⟨v, e.trans (e'.trans e2), fun φ ac w ht hg => ?_⟩
    obtain ⟨X, Y, hX, hY, rX, rY⟩ := key φ ac ht
    obtain ⟨k, p, q, rfl, rfl, r, hr, hv⟩ := H ρ φ X Y rX rY
    refine ⟨r, J4 ho ?_ ?_, hv ρ φ⟩
    · rw [hX, hY, eqGuard_at_int]
    · rw [hX, hY]; exact hr P ty w
  · rw [e'] at hg
    unfold Sy at hg e'
    obtain ⟨hne, e2⟩ := Af hg
    rw [e2] at hg
    have ne:∀ φ ac, TR ρ N φ t ac->∃ s u:ByteArray, ac.eval x = .string s∧ac.eval y = .string u∧(s.toList == u.toList)=false := fun φ ac ht => by
      obtain ⟨X, Y, hX, hY, rX, rY⟩ := key φ ac ht
      rw [hxv] at rX; rw [hyv] at rY
      simp only [Ap] at rX
      obtain ⟨s, rfl, k1, k2, k3⟩ := rX
      obtain ⟨u, rfl, k4, k5⟩ := Cx rY
      refine ⟨s, u, hX, hY, ?_⟩
      rw [Bool.eq_false_iff]
      intro hc
      have hc := eq_of_beq hc
      have hsu:s=u := by
        rw [ByteArray.toList_eq, ByteArray.toList_eq] at hc
        cases s; cases u; simp at hc; rw [hc]
      subst hsu
      rw [k4] at k1 k2 k3
      rw [k5] at k3
      rw [Ab.2 k1, Ab.2 k2] at hne
      simp only [Ac] at hne
      cases h1:Nat.beq m n' with
      | false => rw [h1] at hne; cases hne
      | true =>
        rw [h1, Ac] at hne
        exact k3 ⟨Nat.eq_of_beq_eq_true h1, Nat.eq_of_beq_eq_true hne⟩
    cases op with
    | eql =>
      refine ⟨.bool false, e.trans (e'.trans e2), fun φ ac w ht hg => ⟨.bool false, ?_, BS _ ρ φ⟩⟩
      obtain ⟨s, u, hX, hY, hn⟩ := ne φ ac ht
      refine J4 ho (by rw [hX, hY, eqGuard_at_string]) ?_
      rw [hX, hY, show (Go.binOp .eql ty (.string s) (.string u)).run P w = .ok (.bool (s.toList == u.toList)) w from rfl, hn]
    | neq =>
      refine ⟨.bool true, e.trans (e'.trans e2), fun φ ac w ht hg => ⟨.bool true, ?_, BS _ ρ φ⟩⟩
      obtain ⟨s, u, hX, hY, hn⟩ := ne φ ac ht
      refine J4 ho (by rw [hX, hY, eqGuard_at_string]) ?_
      rw [hX, hY, show (Go.binOp .neq ty (.string s) (.string u)).run P w = .ok (.bool !(s.toList == u.toList)) w from rfl, hn]; rfl
    | _ => exact hg.elim
end
end Go.Ev

namespace Go.Ev
set_option linter.unusedVariables false
section
variable {P:Program} {ρ:Env} {B N:Nat} {o:Oper} {cf:CF} {t:Regs} {h:Heap} {n:K4}
theorem IV {ty:TypeId} {x y:Operand} {X Y:Value} {op:BinOp} (hg:P.eqGuardType P.depth ty=false) (hX:X ≠ .nilIface) (w:World):(eqGuard op ty x y X Y).run P w = .ok () w := by
  unfold eqGuard
  cases op <;> simp <;> (split <;> first | (exact absurd rfl hX) | simp [hg] | simp)
theorem M5 {ty:TypeId} {X Y:Value} {w:World} {r:Bool} (hr:(Op.equal ty X Y).run P w = .ok r w) (hX:(∃ b, X = .bool b)∨(∃ a, X = .agg a)∨(∃ a, X = .pointer a)∨(∃ a b c, X = .slice a b c)∨(∃ a, X = .map a)∨(∃ a b c, X = .func a b c)∨X = .nilFunc) :
    (Go.binOp .eql ty X Y).run P w = .ok (.bool r) w∧(Go.binOp .neq ty X Y).run P w = .ok (.bool !r) w := by
  rcases hX with ⟨b, rfl⟩ | ⟨a, rfl⟩ | ⟨a, rfl⟩ | ⟨a, b, c, rfl⟩ | ⟨a, rfl⟩ | ⟨a, b, c, rfl⟩ | rfl <;> (constructor <;> (unfold Go.binOp; simp [hr]))
theorem Th {pl:Plan} {ty:TypeId} (hp:KO P ty=some pl) {x y:V} {κ:Bool->R} (hg:(LX pl x y κ).good) {φ:AO} {X:Value} (hX:Ap ρ φ x X) :
    (∃ b, X = .bool b)∨(∃ a, X = .agg a)∨(∃ a, X = .pointer a)∨(∃ a b c, X = .slice a b c)∨(∃ a, X = .map a)∨(∃ a b c, X = .func a b c)∨X = .nilFunc := by
  have ref:∀ u, u ≠ .iface->(Kk u x y κ).good->(∃ b, X = .bool b)∨(∃ a, X = .agg a)∨(∃ a, X = .pointer a)∨(∃ a b c, X = .slice a b c)∨(∃ a, X = .map a)∨(∃ a b c, X = .func a b c)∨X = .nilFunc := fun u hu hg => by
    rcases GH (ρ := ρ) (φ := φ) (show R.good (GZ u x _ _) from hg) with ⟨rfl, _⟩ | ⟨_, hx⟩
    · rw [C5 hX]
      cases u <;> simp [Cd] at hu ⊢
    · have := hx X hX
      cases u with
      | ptr => obtain ⟨a, rfl⟩ := this; exact .inr (.inr (.inl ⟨_, rfl⟩))
      | sl => obtain ⟨a, b, c, rfl⟩ := this; exact .inr (.inr (.inr (.inl ⟨_, _, _, rfl⟩)))
      | map => obtain ⟨a, rfl⟩ := this; exact .inr (.inr (.inr (.inr (.inl ⟨_, rfl⟩))))
      | fn => obtain ⟨a, b, c, rfl⟩ := this; exact .inr (.inr (.inr (.inr (.inr (.inl ⟨_, _, _, rfl⟩)))))
      | iface => exact absurd rfl hu
  unfold KO at hp
  split at hp
  · cases hp
    obtain ⟨b, rfl, _⟩ := Fy (show R.good (Qh x _) from hg)
    exact .inl ⟨b, EJ hX⟩
  · split at hp
    · cases hp
    · cases ho:He P _ with
      | none => rw [ho] at hp; cases hp
      | some offs =>
        rw [ho] at hp; cases hp
        obtain ⟨a, rfl, _⟩ := CR (show R.good (asAgg x _) from hg)
        obtain ⟨xs, rfl, _⟩ := EC hX
        exact .inr (.inl ⟨_, rfl⟩)
  · split at hp
    · cases hp; exact ref .ptr (by simp) hg
    · cases hp
  · cases hp; exact ref .sl (by simp) hg
  · cases hp; exact ref .map (by simp) hg
  · cases hp; exact ref .fn (by simp) hg
  · cases hp
theorem IN {neg:Bool} {pl:Plan} {ty yt:TypeId} {x y:Operand} {x' y':Opd} (ho:o.op = .binOp (if neg then .neq else .eql) ty x y yt) (hx:AB N x=some x') (hy:AB N y=some y')
    (hp:KO P ty=some pl) (hgd:P.eqGuardType P.depth ty=false):B7 P ρ B N o (Tb neg pl x' y' cf t h n) t h n := by
  intro κ hg
  have e:Tb neg pl x' y' cf t h n κ=LX pl (ev x' t) (ev y' t) fun r => br neg (br r (κ (.bool false) h n) (κ (.bool true) h n)) (κ (.bool r) h n) := by simp only [Tb, Av]
  rw [e] at hg
  obtain ⟨r, g1, _⟩ := JW (ρ := ρ) (φ := fun _ => none) hp hg
  refine ⟨.bool (if neg then !r else r), e.trans ((g1 _).trans (by cases neg <;> cases r <;> rfl)), fun φ a w ht hG => ⟨.bool (if neg then !r else r), ?_, BS _ ρ φ⟩⟩
  obtain ⟨r', g2, g3⟩ := JW (ρ := ρ) (φ := φ) hp hg
  have hrr:r'=r := by
    have e1 := g1 (fun q => R.rv (.bool q) AN ⟨.d0, .d0, .d0, .d0⟩)
    rw [g2] at e1
    simpa using e1
  subst hrr
  have hX := Ad hx ht
  have hY := Ad hy ht
  have hsh := Th hp hg hX
  have hrun := M5 (g3 _ _ w hX hY) hsh
  have hne:a.eval x ≠ .nilIface := by
    rcases hsh with ⟨b, e⟩ | ⟨b, e⟩ | ⟨b, e⟩ | ⟨b, c, d, e⟩ | ⟨b, e⟩ | ⟨b, c, d, e⟩ | e <;> rw [e] <;> simp
  cases neg
  · simp only [Bool.false_eq_true, if_false] at ho ⊢
    simp only [execOp, ho, Sem.run_bind, IV hgd hne, Result.andThen_ok, hrun.1, Sem.run_pure]
  · simp only [if_true] at ho ⊢
    simp only [execOp, ho, Sem.run_bind, IV hgd hne, Result.andThen_ok, hrun.2, Sem.run_pure]
theorem MZ {ty:TypeId} {x:Operand} {x':Opd} (ho:o.op = .unOp .not ty x) (hx:AB N x=some x'):B7 P ρ B N o (Nx x' cf t h n) t h n := by
  intro κ hg
  have e:Nx x' cf t h n κ=Qh (ev x' t) fun q => br q (κ (.bool false) h n) (κ (.bool true) h n) := by simp only [Nx, Av]
  rw [e] at hg
  obtain ⟨b, hb, e'⟩ := Fy hg
  refine ⟨.bool !b, e.trans (e'.trans (by cases b <;> rfl)), fun φ a w ht hg => ⟨.bool !b, ?_, BS _ ρ φ⟩⟩
  have h1 := Ad hx ht
  rw [hb] at h1
  simp [execOp, ho, EJ h1, Op.unary]
theorem MO {ty:TypeId} {x:Operand} {x':Opd} (ho:o.op = .unOp .neg ty x) (hx:AB N x=some x'):B7 P ρ B N o (MV x' cf t h n) t h n := by
  intro κ hg
  have e:MV x' cf t h n κ=Hh (ev x' t) fun k r => OC k 0 k r fun v => κ v h n := by simp only [MV, Av]
  rw [e] at hg
  obtain ⟨k, r, hb, e'⟩ := CA hg
  have hk:AZ k k=true := AA.2 rfl
  have e2:(OC k 0 k r fun v => κ v h n)=κ (.int k ((0+(Mk k - r)) % Mk k)) h n := by
    unfold OC; rw [hk, Ac, A7]; rfl
  refine ⟨.int k ((0+(Mk k - r)) % Mk k), e.trans (e'.trans e2), fun φ a w ht hg => ⟨.int k (dec k ((0+(Mk k - r)) % Mk k)), ?_, EO k _ (Nat.mod_lt _ (E2 k)) ρ φ⟩⟩
  have h1 := Ad hx ht
  rw [hb] at h1
  obtain ⟨hr, h1⟩ := Cm h1
  have h0:(0:Int)=dec k 0 := by rw [Aj (by cases k <;> simp [Hk])]; rfl
  simp only [execOp, ho, h1, Op.unary, Op.intArith, Sem.run_bind, Sem.run_pure, Result.andThen_ok]
  rw [h0, OM k 0 r hr]
theorem MB {ty:TypeId} {x:Operand} {x':Opd} (ho:o.op = .unOp .xor ty x) (hx:AB N x=some x'):B7 P ρ B N o (ME x' cf t h n) t h n := by
  intro κ hg
  have e:ME x' cf t h n κ=Hh (ev x' t) fun k r => κ (.int k (Nat.xor (Nat.sub (Mk k) 1) r)) h n := by simp only [ME, Av, A7]
  rw [e] at hg
  obtain ⟨k, r, hb, e'⟩ := CA hg
  by_cases hr:r<Mk k
  · have hl:Nat.xor (Mk k - 1) r<Mk k := Ub k _ _ (by have := E2 k; omega) hr
    refine ⟨_, e.trans e', fun φ a w ht hg => ⟨.int k (dec k (Nat.xor (Mk k - 1) r)), ?_, EO k _ hl ρ φ⟩⟩
    have h1 := Ad hx ht
    rw [hb] at h1
    obtain ⟨_, h1⟩ := Cm h1
    have hm:(if k.signed then -1 else k.max:Int)=dec k (Mk k - 1) := by
      cases k <;> simp [IntKind.signed, IntKind.max, IntKind.bits, dec, Mk, Hk]
    simp only [execOp, ho, h1, Op.unary, Op.intBits, hm, BitVec.toNat_xor, bv _ _ hr, bv k (Mk k - 1) (by have := E2 k; omega), Sem.run_bind, Sem.run_pure, Result.andThen_ok]
    rw [Fv k ((Mk k - 1) ^^^ r) hl]; rfl
  · refine ⟨_, e.trans e', fun φ a w ht hg => ?_⟩
    have h1 := Ad hx ht
    rw [hb] at h1
    exact absurd (Cm h1).1 hr
theorem Yc (j k:IntKind) (r:Nat) (hr:r<Mk j) :
    k.wrap (dec j r)=dec k (if r<Hk j then r % Mk k else if Mk k≤Mk j then r % Mk k else Mk k - (Mk j - r)) := by
  apply GT
  by_cases h1:r<Hk j
  · rw [Aj h1, if_pos h1, ←Int.natCast_emod]
  · rw [Cy h1, if_neg h1]
    cases j <;> cases k <;> simp only [Mk, Hk] at * <;> (try simp) <;> omega
theorem MC {src dst:TypeId} {j k:IntKind} {x:Operand} {x':Opd} (ho:o.op = .convert src dst x) (hx:AB N x=some x') (hs:P.underlying src=some (.int j)) (hd:P.underlying dst=some (.int k)) :
    B7 P ρ B N o (Nv k x' cf t h n) t h n := by
  intro κ hg
  have e:Nv k x' cf t h n κ=Hh (ev x' t) fun j r => br (Nat.ble (Nat.succ r) (Hk j)) (κ (.int k (Nat.mod r (Mk k))) h n) (br (Nat.ble (Mk k) (Mk j)) (κ (.int k (Nat.mod r (Mk k))) h n) (κ (.int k (Nat.sub (Mk k) (Nat.sub (Mk j) r))) h n)) := by
    simp only [Nv, Av, A7]
  rw [e] at hg
  obtain ⟨i, r, hb, e'⟩ := CA hg
  have e2:br (Nat.ble (Nat.succ r) (Hk i)) (κ (.int k (Nat.mod r (Mk k))) h n) (br (Nat.ble (Mk k) (Mk i)) (κ (.int k (Nat.mod r (Mk k))) h n) (κ (.int k (Nat.sub (Mk k) (Nat.sub (Mk i) r))) h n)) =
      κ (.int k (if r<Hk i then r % Mk k else if Mk k≤Mk i then r % Mk k else Mk k - (Mk i - r))) h n := by
    by_cases h1:r<Hk i
    · rw [Ab.2 h1, Ac, if_pos h1]; rfl
    · rw [AH (by omega), Ai, if_neg h1]
      by_cases h2:Mk k≤Mk i
      · rw [Ab.2 h2, Ac, if_pos h2]; rfl
      · rw [AH (by omega), Ai, if_neg h2]; rfl
  refine ⟨_, e.trans (e'.trans e2), fun φ a w ht hg => ?_⟩
  have h1 := Ad hx ht
  rw [hb] at h1
  obtain ⟨hr, h1⟩ := Cm h1
  refine ⟨_, ?_, EO k _ ?_ ρ φ⟩
  · simp only [execOp, ho, h1, convert, Sem.run_bind, run_underlying hs, run_underlying hd, Result.andThen_ok, Conv.intToInt, Sem.run_pure]
    rw [Yc i k r hr]
  · have := E2 k
    split
    · exact Nat.mod_lt _ this
    · split
      · exact Nat.mod_lt _ this
      · omega
theorem NJ {src dst:TypeId} {x:Operand} {x':Opd} (ho:o.op = .convert src dst x) (hx:AB N x=some x') (hs:P.underlying src=some .string) (hd:P.underlying dst=some .string) :
    B7 P ρ B N o (Mn x' cf t h n) t h n := by
  intro κ hg
  have e:Mn x' cf t h n κ=Bc (ev x' t) fun _ _ => κ (ev x' t) h n := by simp only [Mn, Av]
  rw [e] at hg
  obtain ⟨m, c, hb, e'⟩ := C8 hg
  refine ⟨_, e.trans e', fun φ a w ht hg => ⟨a.eval x, ?_, Ad hx ht⟩⟩
  have h1 := Ad hx ht
  rw [hb] at h1
  obtain ⟨s, h1, _⟩ := Cx h1
  simp [execOp, ho, h1, convert, run_underlying hs, run_underlying hd]
theorem Lu {f:Nat} {caps:Array Operand} {l:List Opd} (ho:o.op = .makeFunc (.func f) #[] caps) (hl:BJ N caps.toList=some l):B7 P ρ B N o (Rg f l cf t h n) t h n :=
  Lk (v := .fn f (l.map (ev · t))) (fun κ => by simp only [Rg, FY]) fun φ a w ht hg => ⟨.func (.func f) #[] (caps.map a.eval), by simp [execOp, ho, Instr.makeFunc], by
    simp only [Ap]; exact ⟨_, rfl, by simpa using Fd hl ht⟩⟩
theorem Ni {i:Nat} {x:Operand} {x':Opd} (ho:o.op = .extract x i) (hx:AB N x=some x'):B7 P ρ B N o (Mw i x' cf t h n) t h n := by
  intro κ hg
  have e:Mw i x' cf t h n κ=KM (ev x' t) fun l => DN i l fun v => κ v h n := by simp only [Mw, Av]
  rw [e] at hg
  obtain ⟨l, hb, e'⟩ := LI hg
  rw [e'] at hg
  obtain ⟨v, hv, e2⟩ := Ff hg
  refine ⟨v, e.trans (e'.trans e2), fun φ a w ht hg => ?_⟩
  have h1 := Ad hx ht
  rw [hb] at h1
  obtain ⟨cs, h1, hl⟩ := Sx h1
  obtain ⟨X, hX, hr⟩ := (Cl.1 hl).2 i v hv
  exact ⟨X, by simp [execOp, ho, h1, Instr.extract, show cs[i]? = some X by simpa using hX], hr⟩
theorem Dv {v:V} {κ:Nat->R} (h:(Jj v κ).good):∃ k r, v = .int k r∧r<Hk k∧Jj v κ=κ r := by
  obtain ⟨k, r, rfl, e⟩ := CA (show R.good (Hh v _) from h)
  have h:R.good (br (Nat.ble (Nat.succ r) (Hk k)) (κ r) (.fail "")) := h
  obtain ⟨h1, e1⟩ := Af h
  exact ⟨k, r, rfl, Bs h1, e1⟩
theorem Eh {φ:AO} {k:IntKind} {r:Nat} (hr:r<Hk k) {X:Value} (h:Ap ρ φ (.int k r) X):X = .int k (r:Int) := by rw [(Cm h).2, Aj hr]
theorem N4 {s:TypeId} {f:Nat} {fs:Array Field} {fd:Field} {x:Operand} {x':Opd} (ho:o.op = .fieldAddr s x f) (hx:AB N x=some x') (hs:P.underlying s=some (.struct fs)) (hf:fs[f]? = some fd) {sz:Nat} (hsz:Bj P fd.type=some (sz+1)) :
    B7 P ρ B N o (N8 fd.offset x' cf t h n) t h n := by
  intro κ hg
  have e:N8 fd.offset x' cf t h n κ=Md (ev x' t) (fun p o => κ (.ptr p (Nat.add o fd.offset)) h n) (fun o => Tx o (fun i j m => br (Nat.ble (Nat.succ fd.offset) m) (κ (.oth (.ap i (Nat.add j fd.offset) (Nat.sub m fd.offset))) h n) (.fail "")) (Ld o (fun l => br (Nat.ble (Nat.succ fd.offset) l.length) (κ (.oth (.rp (l.drop fd.offset))) h n) (.fail "")) (.fail ""))) := by simp only [N8, Av, A7]
  rw [e] at hg
  rcases Ih hg with ⟨p, off, hb, e'⟩ | ⟨oo, hb, e'⟩
  rotate_left
  · rw [e'] at hg
    cases oo with
    | ap i j m =>
      have hg':R.good (br (Nat.ble (Nat.succ fd.offset) m) (κ (.oth (.ap i (Nat.add j fd.offset) (Nat.sub m fd.offset))) h n) (.fail "")) := hg
      obtain ⟨h1, e1⟩ := Af hg'
      have h1 := Bs h1
      refine ⟨_, e.trans (e'.trans e1), fun φ a w ht hg => ?_⟩
      have h2 := Ad hx ht
      rw [hb] at h2
      simp only [Ap] at h2
      obtain ⟨b, q, c, e2, fr, h2, c1, c2⟩ := h2
      refine ⟨.pointer (some ⟨b, q+fd.offset, none⟩), ?_, ?_⟩
      · have hfp:(fieldPlace ⟨b, q, none⟩ fd).run P w = .ok ⟨b, q+fd.offset, none⟩ w := by
          unfold fieldPlace
          simp [Ca, AL hsz]
        simp [execOp, ho, h2, Instr.fieldAt, run_underlying hs, hf, Instr.sureAddr, hfp]
      · simp only [Ap]
        refine ⟨b, q+fd.offset, c, e2, fr, rfl, c1, fun j' hj => ?_⟩
        have hj:j'<m - fd.offset := hj
        obtain ⟨y, y1, y2⟩ := c2 (fd.offset+j') (by omega)
        refine ⟨y, by rw [Nat.add_assoc]; exact y1, ?_⟩
        have e5:Nat.add j fd.offset+j'=j+(fd.offset+j') := Nat.add_assoc ..
        rw [e5]; exact y2
    | rp l =>
      have hg':R.good (br (Nat.ble (Nat.succ fd.offset) l.length) (κ (.oth (.rp (l.drop fd.offset))) h n) (.fail "")) := hg
      obtain ⟨h1, e1⟩ := Af hg'
      have h1 := Bs h1
      refine ⟨_, e.trans (e'.trans e1), fun φ a w ht hg => ?_⟩
      have h2 := Ad hx ht
      rw [hb] at h2
      simp only [Ap] at h2
      obtain ⟨b, q, c, e2, fr, h2, c1, c2⟩ := h2
      refine ⟨.pointer (some ⟨b, q+fd.offset, none⟩), ?_, ?_⟩
      · have hfp:(fieldPlace ⟨b, q, none⟩ fd).run P w = .ok ⟨b, q+fd.offset, none⟩ w := by
          unfold fieldPlace
          simp [Ca, AL hsz]
        simp [execOp, ho, h2, Instr.fieldAt, run_underlying hs, hf, Instr.sureAddr, hfp]
      · simp only [Ap]
        refine ⟨b, q+fd.offset, c, e2, fr, rfl, c1, fun j v hv => ?_⟩
        rw [List.getElem?_drop] at hv
        obtain ⟨y, y1, y2⟩ := c2 (fd.offset+j) v hv
        exact ⟨y, by rw [Nat.add_assoc]; exact y1, y2⟩
    | _ => exact hg.elim
  refine ⟨_, e.trans e', fun φ a w ht hg => ?_⟩
  have h1 := Ad hx ht
  rw [hb] at h1
  obtain ⟨b, sh, tot, hp, h1⟩ := D4 h1
  refine ⟨.pointer (some ⟨b, sh+(off+fd.offset), none⟩), ?_, by simp only [Ap]; exact ⟨b, sh, tot, hp, rfl⟩⟩
  have hfp:(fieldPlace ⟨b, sh+off, none⟩ fd).run P w = .ok ⟨b, sh+(off+fd.offset), none⟩ w := by
    unfold fieldPlace
    simp [Ca, Nat.add_assoc, AL hsz]
  simp [execOp, ho, h1, Instr.fieldAt, run_underlying hs, hf, Instr.sureAddr, hfp]
theorem Mv {s:TypeId} {f:Nat} {fs:Array Field} {fd:Field} {ag:Bool} {sz:Nat} {x:Operand} {x':Opd} (ho:o.op = .field s x f) (hx:AB N x=some x') (hs:P.underlying s=some (.struct fs)) (hf:fs[f]? = some fd)
    (ha:Ln P fd.type=some ag) (hsz:Bj P fd.type=some sz):B7 P ρ B N o (MR fd.offset sz ag x' cf t h n) t h n := by
  intro κ hg
  have e:MR fd.offset sz ag x' cf t h n κ=asAgg (ev x' t) fun l => br ag (DA fd.offset l fun r => D7 sz r fun r => κ (.agg r) h n) (DN fd.offset l fun v => κ v h n) := by simp only [MR, Av]
  rw [e] at hg
  obtain ⟨l, hb, e'⟩ := CR hg
  rw [e'] at hg
  cases ag with
  | true =>
    have hg:R.good (DA fd.offset l fun r => D7 sz r fun r => κ (.agg r) h n) := hg
    obtain ⟨_, e2⟩ := Fn hg
    rw [e2] at hg
    obtain ⟨h3, e3⟩ := Fs hg
    refine ⟨.agg ((l.drop fd.offset).take sz), e.trans (e'.trans (e2.trans e3)), fun φ a w ht hg => ?_⟩
    have h1 := Ad hx ht
    rw [hb] at h1
    obtain ⟨cs, h1, hl, h2⟩ := EC h1
    refine ⟨.agg (cs.extract fd.offset (fd.offset+sz)), by simp [execOp, ho, h1, Instr.field, run_underlying hs, hf, Go.asAgg, part, Cj ha, AL hsz], ?_⟩
    simp only [Ap]
    have hx:(cs.extract fd.offset (fd.offset+sz)).toList=(cs.toList.drop fd.offset).take sz := by simp
    exact ⟨_, rfl, by rw [hx]; exact Jl (Jz hl _) _, fun y hy => h2 y (by rw [hx] at hy; exact List.mem_of_mem_drop (List.mem_of_mem_take hy))⟩
  | false =>
    have hg:R.good (DN fd.offset l fun v => κ v h n) := hg
    obtain ⟨v, hv, e2⟩ := Ff hg
    refine ⟨v, e.trans (e'.trans e2), fun φ a w ht hg => ?_⟩
    have h1 := Ad hx ht
    rw [hb] at h1
    obtain ⟨cs, h1, hl, h2⟩ := EC h1
    obtain ⟨X, hX, hr⟩ := (Cl.1 hl).2 _ v hv
    exact ⟨X, by simp [execOp, ho, h1, Instr.field, run_underlying hs, hf, Go.asAgg, part, Cj ha, show cs[fd.offset]? = some X by simpa using hX], hr⟩
theorem MU {ty e:TypeId} {esz:Nat} {x i:Operand} {x' i':Opd} (ho:o.op = .indexAddr ty x i) (hx:AB N x=some x') (hi:AB N i=some i') (ht:P.underlying ty=some (.slice e)) (he:Bj P e=some esz) :
    B7 P ρ B N o (NE esz x' i' cf t h n) t h n := by
  intro κ hg
  have e1:NE esz x' i' cf t h n κ=Jj (ev i' t) fun a => Ec (ev x' t) (.fail "") (fun p off len cap ex esz' => br (Nat.beq esz' esz) (br (Nat.ble (Nat.succ a) len) (κ (.ptr p (Nat.add off (Nat.mul a esz))) h n) (.fail "")) (.fail ""))
      (fun o => Qi o (fun i lo hi z => br (Nat.beq z esz) (br (Nat.ble (Nat.succ a) lo) (κ (.oth (.ap i (Nat.mul a esz) esz)) h n) (.fail "")) (.fail "")) (Kn o (fun l m z => br (Nat.beq z esz) (br (Nat.ble (Nat.succ a) m) (κ (.oth (.rp (l.drop (Nat.mul a esz)))) h n) (.fail "")) (.fail "")) (HY o (fun m c => br (Nat.beq esz 1) (br (Nat.ble (Nat.succ a) m) (κ (.oth (.rp [.i .u8 (Ev.lo (sh c a) 1)])) h n) (.fail "")) (.fail "")) (.fail "")))) := by
    simp only [NE, Av, A7]
  rw [e1] at hg
  obtain ⟨k, r, hiv, hr, e2⟩ := Dv hg
  rw [e2] at hg
  rcases G1 hg with ⟨_, e3⟩ | ⟨p, off, len, cap, ex, esz', hxv, e3⟩ | ⟨oo, hxv, e3⟩
  · rw [e3] at hg; exact hg.elim
  rotate_left
  · rw [e3] at hg
    cases oo with
    | ro i0 l0 l1 z =>
      have hg':R.good (br (Nat.beq z esz) (br (Nat.ble (Nat.succ r) l0) (κ (.oth (.ap i0 (Nat.mul r esz) esz)) h n) (.fail "")) (.fail "")) := hg
      obtain ⟨h4, e4⟩ := Af hg'
      rw [e4] at hg'
      obtain ⟨h5, e5⟩ := Af hg'
      have h4 := Nat.eq_of_beq_eq_true h4
      have h5 := Bs h5
      subst h4
      refine ⟨_, e1.trans (e2.trans (e3.trans (e4.trans e5))), fun φ a w hT hg => ?_⟩
      have g1 := Ad hx hT
      have g2 := Ad hi hT
      rw [hxv] at g1; rw [hiv] at g2
      simp only [Ap] at g1
      obtain ⟨b, q, len, cap, c, e', fr, g1, c1, c2, c3, c4, c5⟩ := g1
      have g2 := Eh hr g2
      refine ⟨.pointer (some ⟨b, q+r*z, none⟩), ?_, ?_⟩
      · simp only [execOp, ho, g1, g2, Instr.indexAt, Go.asIntOf, Sem.run_bind, Sem.run_pure, Result.andThen_ok, run_underlying ht]
        have hc:(0:Int)≤(r:Int)∧(r:Int)<(len:Int) := by omega
        simp [hc, AL he, Ca]
      · simp only [Ap]
        refine ⟨b, q+r*z, c, e', fr, rfl, c4, fun j hj => ?_⟩
        have h6:r*z+j<len*z := Nat.lt_of_lt_of_le (Nat.add_lt_add_left hj _) (by rw [←Nat.succ_mul]; exact Nat.mul_le_mul_right _ (by omega))
        obtain ⟨y, y1, y2⟩ := c5 (r*z+j) h6
        exact ⟨y, by rw [Nat.add_assoc]; exact y1, y2⟩
    | rx l m z =>
      have hg':R.good (br (Nat.beq z esz) (br (Nat.ble (Nat.succ r) m) (κ (.oth (.rp (l.drop (Nat.mul r esz)))) h n) (.fail "")) (.fail "")) := hg
      obtain ⟨h4, e4⟩ := Af hg'
      rw [e4] at hg'
      obtain ⟨h5, e5⟩ := Af hg'
      have h4 := Nat.eq_of_beq_eq_true h4
      have h5 := Bs h5
      subst h4
      refine ⟨_, e1.trans (e2.trans (e3.trans (e4.trans e5))), fun φ a w hT hg => ?_⟩
      have g1 := Ad hx hT
      have g2 := Ad hi hT
      rw [hxv] at g1; rw [hiv] at g2
      simp only [Ap] at g1
      obtain ⟨ad, cap, g1, c1, c3, c4⟩ := g1
      obtain ⟨b, q, c, e', fr, rfl, c2, c4⟩ := c4 (by omega)
      have g2 := Eh hr g2
      refine ⟨.pointer (some ⟨b, q+r*z, none⟩), ?_, ?_⟩
      · simp only [execOp, ho, g1, g2, Instr.indexAt, Go.asIntOf, Sem.run_bind, Sem.run_pure, Result.andThen_ok, run_underlying ht]
        have hc:(0:Int)≤(r:Int)∧(r:Int)<(m:Int) := by omega
        simp [hc, AL he, Ca]
      · simp only [Ap]
        refine ⟨b, q+r*z, c, e', fr, rfl, c2, fun j v hv => ?_⟩
        rw [List.getElem?_drop] at hv
        obtain ⟨y, y1, y2⟩ := c4 (r*z+j) v hv
        exact ⟨y, by rw [Nat.add_assoc]; exact y1, y2⟩
    | rb m d =>
      have hg':R.good (br (Nat.beq esz 1) (br (Nat.ble (Nat.succ r) m) (κ (.oth (.rp [.i .u8 (Ev.lo (sh d r) 1)])) h n) (.fail "")) (.fail "")) := hg
      obtain ⟨h4, e4⟩ := Af hg'
      rw [e4] at hg'
      obtain ⟨h5, e5⟩ := Af hg'
      have h4 := Nat.eq_of_beq_eq_true h4
      have h5 := Bs h5
      subst h4
      refine ⟨_, e1.trans (e2.trans (e3.trans (e4.trans e5))), fun φ a w hT hg => ?_⟩
      have g1 := Ad hx hT
      have g2 := Ad hi hT
      rw [hxv] at g1; rw [hiv] at g2
      simp only [Ap, H6] at g1
      obtain ⟨ad, cap, g1, c1, c3, c4⟩ := g1
      obtain ⟨b, q, c, e', fr, rfl, c2, c4⟩ := c4 (by omega)
      have g2 := Eh hr g2
      refine ⟨.pointer (some ⟨b, q+r, none⟩), ?_, ?_⟩
      · simp only [execOp, ho, g1, g2, Instr.indexAt, Go.asIntOf, Sem.run_bind, Sem.run_pure, Result.andThen_ok, run_underlying ht]
        have hc:(0:Int)≤(r:Int)∧(r:Int)<(m:Int) := by omega
        simp [hc, AL he, Ca]
      · simp only [Ap]
        refine ⟨b, q+r, c, e', fr, rfl, c2, fun j v hv => ?_⟩
        cases j with
        | succ j => simp at hv
        | zero =>
          have hv:some (RV.i .u8 (Ev.lo (sh d r) 1))=some v := hv
          cases hv
          have hlt:d / 256 ^ r % 256<256 := Nat.mod_lt _ (by decide)
          refine ⟨_, c4 r h5, ?_⟩
          rw [Vg]
          exact ⟨hlt, by rw [Aj (by simp only [Hk]; exact hlt)]⟩
    | _ => exact hg.elim
  rw [e3] at hg
  obtain ⟨h4, e4⟩ := Af hg
  rw [e4] at hg
  obtain ⟨h5, e5⟩ := Af hg
  have h4 := Nat.eq_of_beq_eq_true h4
  have h5 := Bs h5
  subst h4
  refine ⟨_, e1.trans (e2.trans (e3.trans (e4.trans e5))), fun φ a w hT hg => ?_⟩
  have g1 := Ad hx hT
  have g2 := Ad hi hT
  rw [hxv] at g1; rw [hiv] at g2
  obtain ⟨b, s, tot, q, cap', hp, g1, c1, c2, c3, c4⟩ := D0 g1
  have g2 := Eh hr g2
  obtain ⟨c5, c6⟩ := c4 (by omega)
  refine ⟨.pointer (some ⟨b, s+(off+r*esz'), none⟩), ?_, by simp only [Ap]; exact ⟨b, s, tot, hp, rfl⟩⟩
  simp only [execOp, ho, g1, g2, Instr.indexAt, Go.asIntOf, Sem.run_bind, Sem.run_pure, Result.andThen_ok, run_underlying ht]
  have hc:(0:Int)≤(r:Int)∧(r:Int)<(len:Int) := by omega
  simp [hc, AL he, Ca, c5, Nat.add_assoc]
theorem MG {ty e:TypeId} {m esz:Nat} {x i:Operand} {x' i':Opd} (ho:o.op = .indexAddr ty x i) (hx:AB N x=some x') (hi:AB N i=some i') (ht:P.underlying ty=some (.array m e)) (he:Bj P e=some esz) :
    B7 P ρ B N o (NL m esz x' i' cf t h n) t h n := by
  intro κ hg
  have e1:NL m esz x' i' cf t h n κ=Jj (ev i' t) fun a => KB (ev x' t) fun p off => br (Nat.ble (Nat.succ a) m) (κ (.ptr p (Nat.add off (Nat.mul a esz))) h n) (.fail "") := by
    simp only [NL, Av, A7]
  rw [e1] at hg
  obtain ⟨k, r, hiv, hr, e2⟩ := Dv hg
  rw [e2] at hg
  obtain ⟨p, off, hxv, e3⟩ := DD hg
  rw [e3] at hg
  obtain ⟨h5, e5⟩ := Af hg
  have h5 := Bs h5
  refine ⟨_, e1.trans (e2.trans (e3.trans e5)), fun φ a w hT hg => ?_⟩
  have g1 := Ad hx hT
  have g2 := Ad hi hT
  rw [hxv] at g1; rw [hiv] at g2
  obtain ⟨b, s, tot, hp, g1⟩ := D4 g1
  have g2 := Eh hr g2
  refine ⟨.pointer (some ⟨b, s+(off+r*esz), none⟩), ?_, by simp only [Ap]; exact ⟨b, s, tot, hp, rfl⟩⟩
  simp only [execOp, ho, g1, g2, Instr.indexAt, Go.asIntOf, Instr.sureAddr, Sem.run_bind, Sem.run_pure, Result.andThen_ok, run_underlying ht]
  have hc:(0:Int)≤(r:Int)∧(r:Int)<(m:Int) := by omega
  simp [hc, AL he, Ca, Nat.add_assoc]
theorem NN {ty:TypeId} {x i:Operand} {x' i':Opd} (ho:o.op = .index ty x i) (hx:AB N x=some x') (hi:AB N i=some i') (ht:P.underlying ty=some .string) :
    B7 P ρ B N o (N9 x' i' cf t h n) t h n := by
  intro κ hg
  have e1:N9 x' i' cf t h n κ=Jj (ev i' t) fun a => Bc (ev x' t) fun m c => br (Nat.ble (Nat.succ a) m) (κ (.int .u8 (lo (sh c a) 1)) h n) (.fail "") := by
    simp only [N9, Av, A7]
  rw [e1] at hg
  obtain ⟨k, r, hiv, hr, e2⟩ := Dv hg
  rw [e2] at hg
  obtain ⟨m, c, hxv, e3⟩ := C8 hg
  rw [e3] at hg
  obtain ⟨h5, e5⟩ := Af hg
  have h5 := Bs h5
  refine ⟨_, e1.trans (e2.trans (e3.trans e5)), fun φ a w hT hg => ?_⟩
  have g1 := Ad hx hT
  have g2 := Ad hi hT
  rw [hxv] at g1; rw [hiv] at g2
  obtain ⟨s, gx, hs, hc⟩ := Cx g1
  have g2 := Eh hr g2
  clear g1
  subst hs hc
  have hr':r<s.data.toList.length := by rw [BU]; exact h5
  have hb:lo (sh (Ar s.data.toList) r) 1=s.data.toList[r].toNat := by rw [Vg]; exact IF _ _ hr'
  have hlt := s.data.toList[r].toNat_lt
  refine ⟨.int .u8 (s.data.toList[r].toNat:Nat), ?_, ?_⟩
  · simp only [execOp, ho, gx, g2, Instr.index, Go.asIntOf, Sem.run_bind, Sem.run_pure, Result.andThen_ok, run_underlying ht]
    have h0:(0:Int)≤(r:Int) := by omega
    have A9:s[(r:Int).toNat]? = some s.data.toList[r] := by
      rw [Int.toNat_natCast, getElem?_pos s r h5]; rfl
    simp only [h0, if_true, A9, Sem.run_pure, Result.andThen_ok]
  · rw [hb]
    simp only [Ap]
    refine ⟨by simp [Mk]; exact hlt, ?_⟩
    rw [Aj (by simp [Hk]; exact hlt)]
theorem Mp {ty e:TypeId} {m esz:Nat} {ag:Bool} {x i:Operand} {x' i':Opd} (ho:o.op = .index ty x i) (hx:AB N x=some x') (hi:AB N i=some i') (ht:P.underlying ty=some (.array m e))
    (ha:Ln P e=some ag) (he:Bj P e=some esz):B7 P ρ B N o (Np m esz ag x' i' cf t h n) t h n := by
  intro κ hg
  have e1:Np m esz ag x' i' cf t h n κ=Jj (ev i' t) fun a => asAgg (ev x' t) fun l => br (Nat.ble (Nat.succ a) m) (br ag (DA (Nat.mul a esz) l fun r => D7 esz r fun r => κ (.agg r) h n) (DN (Nat.mul a esz) l fun v => κ v h n)) (.fail "") := by
    simp only [Np, Av, A7]
  rw [e1] at hg
  obtain ⟨k, r, hiv, hr, e2⟩ := Dv hg
  rw [e2] at hg
  obtain ⟨l, hxv, e3⟩ := CR hg
  rw [e3] at hg
  obtain ⟨h5, e5⟩ := Af hg
  rw [e5] at hg
  have h5 := Bs h5
  have key:∀ (v:V) (part:∀ (φ:AO) (cs:Array Value) (w:World), BL ρ φ l cs.toList->(∀ y∈cs.toList, y.oneCell'=true)->∃ X, (Go.part e cs (r*esz)).run P w = .ok X w∧Ap ρ φ v X), Uf P ρ B N o t h n v := fun v part =>
    fun φ a w hT hg => by
      have g1 := Ad hx hT
      have g2 := Ad hi hT
      rw [hxv] at g1; rw [hiv] at g2
      obtain ⟨cs, g1, hl, h2⟩ := EC g1
      have g2 := Eh hr g2
      obtain ⟨X, hX, hrX⟩ := part φ cs w hl h2
      refine ⟨X, ?_, hrX⟩
      simp only [execOp, ho, g1, g2, Instr.index, Go.asIntOf, Sem.run_bind, Sem.run_pure, Result.andThen_ok, run_underlying ht]
      have hc:(0:Int)≤(r:Int)∧(r:Int)<(m:Int) := by omega
      simp [hc, AL he, hX]
  cases ag with
  | true =>
    have hg:R.good (DA (r*esz) l fun r => D7 esz r fun r => κ (.agg r) h n) := hg
    obtain ⟨_, e6⟩ := Fn hg
    rw [e6] at hg
    obtain ⟨h7, e7⟩ := Fs hg
    refine ⟨.agg ((l.drop (r*esz)).take esz), e1.trans (e2.trans (e3.trans (e5.trans (e6.trans e7)))), key _ fun φ cs w hl h2 => ?_⟩
    refine ⟨.agg (cs.extract (r*esz) (r*esz+esz)), by simp [part, Cj ha, AL he], ?_⟩
    simp only [Ap]
    have hx:(cs.extract (r*esz) (r*esz+esz)).toList=(cs.toList.drop (r*esz)).take esz := by simp
    exact ⟨_, rfl, by rw [hx]; exact Jl (Jz hl _) _, fun y hy => h2 y (by rw [hx] at hy; exact List.mem_of_mem_drop (List.mem_of_mem_take hy))⟩
  | false =>
    have hg:R.good (DN (r*esz) l fun v => κ v h n) := hg
    obtain ⟨v, hv, e6⟩ := Ff hg
    refine ⟨v, e1.trans (e2.trans (e3.trans (e5.trans e6))), key v fun φ cs w hl h2 => ?_⟩
    obtain ⟨X, hX, hrX⟩ := (Cl.1 hl).2 _ v hv
    exact ⟨X, by simp [part, Cj ha, show cs[r*esz]? = some X by simpa using hX], hrX⟩
theorem Ke {x:Operand} {x':Opd} (ho:o.op = .nilCheck x) (hx:AB N x=some x'):B7 P ρ B N o (D2 x' cf t h n) t h n := by
  intro κ hg
  cases hv:ev x' t with
  | ptr p off =>
    refine ⟨_, (by simp only [D2, Av]; rw [hv]:D2 x' cf t h n κ=κ (.ptr p off) h n), fun φ a w hT hg => ?_⟩
    have g1 := Ad hx hT
    rw [hv] at g1
    obtain ⟨b, s, tot, hp, e⟩ := D4 g1
    exact ⟨a.eval x, by simp [execOp, ho, e], g1⟩
  | fn f l =>
    refine ⟨_, (by simp only [D2, Av]; rw [hv]:D2 x' cf t h n κ=κ (.fn f l) h n), fun φ a w hT hg => ?_⟩
    have g1 := Ad hx hT
    rw [hv] at g1
    obtain ⟨cs, e, hl⟩ := Jq g1
    exact ⟨a.eval x, by simp [execOp, ho, e], g1⟩
  | oth oo =>
    cases oo with
    | rp l =>
      refine ⟨_, (by simp only [D2, Av]; rw [hv]; rfl:D2 x' cf t h n κ=κ (.oth (.rp l)) h n), fun φ a w hT hg => ?_⟩
      have g1 := Ad hx hT
      rw [hv] at g1
      have g1' := g1
      simp only [Ap] at g1'
      obtain ⟨b, q, c, e', fr, e, _⟩ := g1'
      exact ⟨a.eval x, by simp [execOp, ho, e], g1⟩
    | _ =>
      have e:D2 x' cf t h n κ = .fail "" := by simp only [D2, Av]; rw [hv]; rfl
      rw [e] at hg; exact hg.elim
  | _ =>
    have e:D2 x' cf t h n κ = .fail "" := by simp only [D2, Av]; rw [hv]
    rw [e] at hg; exact hg.elim
theorem Ps {k:IntKind} {x y:Int} (w:World):(Builtin.max2 (.int k x) (.int k y)).run P w = .ok (.int k (if y > x then y else x)) w := rfl
theorem Vv {k:IntKind} {x y:Int} (w:World):(Builtin.min2 (.int k x) (.int k y)).run P w = .ok (.int k (if y<x then y else x)) w := rfl
theorem Nq {c:Call} {x y:Operand} {x' y':Opd} (ho:o.op = .call c) (hc:c.callee = .builtin .min) (ha:c.args.toList=[x, y]) (hx:AB N x=some x') (hy:AB N y=some y') :
    B7 P ρ B N o (Nt x' y' cf t h n) t h n := by
  intro κ hg
  have e1:Nt x' y' cf t h n κ=Za (ev x' t) (ev y' t) fun v => κ v h n := by simp only [Nt, Av]
  rw [e1] at hg
  obtain ⟨u, e2, H⟩ := Ul hg
  refine ⟨u, e1.trans e2, fun φ ac w hT hg => ?_⟩
  have g1 := Ad hx hT
  have g2 := Ad hy hT
  obtain ⟨k, p, q, q1, q2, hr⟩ := H ρ φ _ _ g1 g2
  have hargs:c.args = #[x, y] := by rw [←ha]
  refine ⟨_, ?_, hr⟩
  simp only [execOp, ho, resolve, hc, hargs, invoke, builtin, Builtin.min_, Sem.run_bind, Sem.run_pure, Result.andThen_ok]
  simp only [List.map_toArray, List.map_cons, List.map_nil, List.foldlM_cons, List.foldlM_nil, q1, q2, Sem.run_bind, Vv, Result.andThen_ok, Sem.run_pure]
theorem MW {c:Call} {x y:Operand} {x' y':Opd} (ho:o.op = .call c) (hc:c.callee = .builtin .max) (ha:c.args.toList=[x, y]) (hx:AB N x=some x') (hy:AB N y=some y') :
    B7 P ρ B N o (Nh x' y' cf t h n) t h n := by
  intro κ hg
  have e1:Nh x' y' cf t h n κ=Zd (ev x' t) (ev y' t) fun v => κ v h n := by simp only [Nh, Av]
  rw [e1] at hg
  obtain ⟨u, e2, H⟩ := W1 hg
  refine ⟨u, e1.trans e2, fun φ ac w hT hg => ?_⟩
  have g1 := Ad hx hT
  have g2 := Ad hy hT
  obtain ⟨k, p, q, q1, q2, hr⟩ := H ρ φ _ _ g1 g2
  have hargs:c.args = #[x, y] := by rw [←ha]
  refine ⟨_, ?_, hr⟩
  simp only [execOp, ho, resolve, hc, hargs, invoke, builtin, Builtin.max_, Sem.run_bind, Sem.run_pure, Result.andThen_ok]
  simp only [List.map_toArray, List.map_cons, List.map_nil, List.foldlM_cons, List.foldlM_nil, q1, q2, Sem.run_bind, Ps, Result.andThen_ok, Sem.run_pure]
theorem Im {l:List Operand} {x:Opd} {xs:List Opd} (h:BJ N l=some (x::xs)):∃ x0 l0, l=x0::l0∧AB N x0=some x∧BJ N l0=some xs := by
  cases l with
  | nil => simp [BJ] at h
  | cons a l =>
    simp only [BJ] at h
    split at h
    · rename_i y ys h1 h2
      cases h
      exact ⟨a, l, rfl, h1, h2⟩
    · cases h
theorem Hx {l:List Operand} {x y z:Opd} (h:BJ N l=some [x, y, z]):∃ x0 y0 z0, l=[x0, y0, z0]∧AB N x0=some x∧AB N y0=some y∧AB N z0=some z := by
  obtain ⟨x0, l0, rfl, hx, h⟩ := Im h
  obtain ⟨y0, l1, rfl, hy, h⟩ := Im h
  obtain ⟨z0, l2, rfl, hz, h⟩ := Im h
  cases l2 with
  | nil => exact ⟨x0, y0, z0, rfl, hx, hy, hz⟩
  | cons a l =>
    simp only [BJ] at h
    split at h <;> cases h
theorem Lt {c:Call} {x y z:Operand} {x' y' z':Opd} (ho:o.op = .call c) (hc:c.callee = .builtin .max) (ha:c.args.toList=[x, y, z]) (hx:AB N x=some x') (hy:AB N y=some y') (hz:AB N z=some z') :
    B7 P ρ B N o (Jm x' y' z' cf t h n) t h n := by
  intro κ hg
  have e1:Jm x' y' z' cf t h n κ=Hh (ev x' t) fun k a => Hh (ev y' t) fun j b => Hh (ev z' t) fun i c => br (AZ k j) (br (AZ k i) (br (DO k a b) (br (DO k b c) (κ (ev z' t) h n) (κ (ev y' t) h n)) (br (DO k a c) (κ (ev z' t) h n) (κ (ev x' t) h n))) (.fail "")) (.fail "") := by simp only [Jm, Av]
  rw [e1] at hg
  obtain ⟨k, a, hxv, e2⟩ := CA hg
  rw [e2] at hg
  obtain ⟨j, b, hyv, e3⟩ := CA hg
  rw [e3] at hg
  obtain ⟨i, d, hzv, e4⟩ := CA hg
  rw [e4] at hg
  obtain ⟨rfl, e5⟩ := kb hg
  rw [e5] at hg
  obtain ⟨rfl, e6⟩ := kb hg
  refine ⟨if DO k a b then (if DO k b d then ev z' t else ev y' t) else (if DO k a d then ev z' t else ev x' t), e1.trans (e2.trans (e3.trans (e4.trans (e5.trans (e6.trans (by cases DO k a b <;> cases DO k b d <;> cases DO k a d <;> rfl)))))), fun φ ac w hT hg => ?_⟩
  have g1 := Ad hx hT
  have g2 := Ad hy hT
  have g3 := Ad hz hT
  have g1' := g1; have g2' := g2; have g3' := g3
  rw [hxv] at g1'; rw [hyv] at g2'; rw [hzv] at g3'
  obtain ⟨ha1, q1⟩ := Cm g1'
  obtain ⟨hb1, q2⟩ := Cm g2'
  obtain ⟨hd1, q3⟩ := Cm g3'
  have hargs:c.args = #[x, y, z] := by rw [←ha]
  refine ⟨if DO k a b then (if DO k b d then ac.eval z else ac.eval y) else (if DO k a d then ac.eval z else ac.eval x), ?_, by cases DO k a b <;> cases DO k b d <;> cases DO k a d <;> assumption⟩
  simp only [execOp, ho, resolve, hc, hargs, invoke, builtin, Builtin.max_, Sem.run_bind, Sem.run_pure, Result.andThen_ok]
  simp only [List.map_toArray, List.map_cons, List.map_nil, List.foldlM_cons, List.foldlM_nil, q1, q2, q3, Sem.run_bind, Ps, Result.andThen_ok, Sem.run_pure]
  rw [F7 ha1 hb1, F7 hb1 hd1, F7 ha1 hd1]
  by_cases h1:dec k a<dec k b <;> by_cases h2:dec k b<dec k d <;> by_cases h3:dec k a<dec k d <;> simp [h1, h2, h3]
end
end Go.Ev

namespace Go.Ev
set_option linter.unusedVariables false
section
variable {P:Program} {ρ:Env} {B N:Nat} {o:Oper} {cf:CF} {t:Regs} {h:Heap} {n:K4}
def Pj (v:Option Value) (r d:Nat):Prop := (v=none∧r=d) ∨ ∃ k, v=some (.int k (r:Int))
theorem BV {oo:Option Operand} {x:Option Opd} (hx:GC N oo=some x) {d:Nat} {κ:Nat->R} (hg:(BX x t d κ).good) :
    ∃ r, BX x t d κ=κ r ∧ ∀ φ a, TR ρ N φ t a->Pj (oo.map a.eval) r d := by
  cases oo with
  | none =>
    simp only [GC, Option.some.injEq] at hx; subst hx
    exact ⟨d, rfl, fun φ a _ => .inl ⟨rfl, rfl⟩⟩
  | some y =>
    simp only [GC] at hx
    cases hy:AB N y with
    | none => rw [hy] at hx; cases hx
    | some y' =>
      rw [hy] at hx; cases hx
      have e:BX (some y') t d κ=Jj (ev y' t) κ := Av y' t _
      rw [e] at hg
      obtain ⟨k, r, hv, hr, e'⟩ := Dv hg
      refine ⟨r, e.trans e', fun φ a ht => .inr ⟨k, ?_⟩⟩
      have := Ad hy ht
      rw [hv] at this
      rw [Option.map_some, Eh hr this]
theorem Di {sl:Bool} {len cap:Nat} {lo hi:Option Value} {l m:Nat} (hl:Pj lo l 0) (hh:Pj hi m len) (h1:l≤m) (h2:m≤cap) (w:World) :
    (Instr.sliceBounds sl len cap lo hi none).run P w = .ok (l, m, cap) w := by
  have hb:∀ (k:IntKind) (r y:Nat) (c:BoundsCode), r≤y->(Instr.sliceBound (.int k (r:Int)) y c).run P w = .ok r w := fun k r y c hr => by
    simp only [Instr.sliceBound, Go.asIntOf, Sem.run_bind, Sem.run_pure, Result.andThen_ok]
    have hc:(0:Int)≤(r:Int)∧(r:Int)≤(y:Int) := by omega
    simp [hc]
  rcases hl with ⟨rfl, rfl⟩ | ⟨k, rfl⟩ <;> rcases hh with ⟨rfl, rfl⟩ | ⟨j, rfl⟩ <;> simp [Instr.sliceBounds, hb _ _ _ _ h1, hb _ _ _ _ h2]
theorem Nc {ty:TypeId} {x:Operand} {lo hi:Option Operand} {x':Opd} {lo' hi':Option Opd} (ho:o.op = .slice ty x lo hi none) (hx:AB N x=some x') (hlo:GC N lo=some lo') (hhi:GC N hi=some hi')
    (ht:P.underlying ty=some .string):B7 P ρ B N o (Jc x' lo' hi' cf t h n) t h n := by
  intro κ hg
  have e0:Jc x' lo' hi' cf t h n κ=WZ (ev x' t) (fun l0 l1 _ _ => br (br (Ey hi') true (Nat.beq l0 l1)) (BX hi' t l0 fun b => BX lo' t 0 fun a => br (Nat.ble a b) (br (Nat.ble b l0) (κ (.oth (.ss (Nat.sub b a) (Nat.sub b a) (Nat.succ (Nat.sub b a)) 0)) h n) (.fail "")) (.fail "")) (.fail "")) (Bc (ev x' t) fun m c => BX hi' t m fun b => BX lo' t 0 fun a => br (Nat.ble a b) (br (Nat.ble b m) (κ (.str (Nat.sub b a) (Ev.lo (sh c a) (Nat.sub b a))) h n) (.fail "")) (.fail "")) := by
    simp only [Jc, Av, A7]
  rw [e0] at hg
  rcases Jx (ev x' t) (fun l0 l1 _ _ => br (br (Ey hi') true (Nat.beq l0 l1)) (BX hi' t l0 fun b => BX lo' t 0 fun a => br (Nat.ble a b) (br (Nat.ble b l0) (κ (.oth (.ss (Nat.sub b a) (Nat.sub b a) (Nat.succ (Nat.sub b a)) 0)) h n) (.fail "")) (.fail "")) (.fail "")) (Bc (ev x' t) fun m c => BX hi' t m fun b => BX lo' t 0 fun a => br (Nat.ble a b) (br (Nat.ble b m) (κ (.str (Nat.sub b a) (Ev.lo (sh c a) (Nat.sub b a))) h n) (.fail "")) (.fail "")) with ⟨l0, l1, _, _, hxv, e1⟩ | e1
  · rw [e1] at hg
    obtain ⟨hex, e2⟩ := Af hg
    rw [e2] at hg
    obtain ⟨b, e3, hb⟩ := BV (ρ := ρ) hhi hg
    rw [e3] at hg
    obtain ⟨a, e4, ha⟩ := BV (ρ := ρ) hlo hg
    rw [e4] at hg
    obtain ⟨h6, e6⟩ := Af hg
    rw [e6] at hg
    obtain ⟨h7, e7⟩ := Af hg
    have h6 := Ab.1 h6; have h7 := Ab.1 h7
    refine ⟨_, e0.trans (e1.trans (e2.trans (e3.trans (e4.trans (e6.trans e7))))), fun φ ac w hT hg => ?_⟩
    have g1 := Ad hx hT
    rw [hxv] at g1
    simp only [Ap] at g1
    obtain ⟨s, gx, c1, c2, _⟩ := g1
    have hb':Pj (hi.map ac.eval) b s.size := by
      rcases hb φ ac hT with ⟨h1, h2⟩ | h1
      · left
        refine ⟨h1, ?_⟩
        have hn:Ey hi'=false := by
          cases hi with
          | some y => cases h1
          | none => simp only [GC, Option.some.injEq] at hhi; subst hhi; rfl
        rw [hn, Ai] at hex
        have := Nat.eq_of_beq_eq_true hex
        omega
      · exact .inr h1
    refine ⟨.string (s.extract a b), ?_, ?_⟩
    · simp only [execOp, ho, gx, Instr.sliceAt, Instr.slice, Sem.run_bind, run_underlying ht, Result.andThen_ok, Option.map_none]
      simp [Di (ha φ ac hT) hb' h6 (by omega:b≤s.size)]
    · simp only [Ap]
      have hsz:(s.extract a b).size=b - a := by rw [ByteArray.size_extract]; omega
      exact ⟨_, rfl, by show b - a≤_; omega, by show _≤b - a; omega, fun h => by have h1:(s.extract a b).size=(b - a)+1 := h.1; omega⟩
  have e1 := e0.trans e1
  rw [←e0, e1] at hg
  obtain ⟨m, c, hxv, e2⟩ := C8 hg
  rw [e2] at hg
  obtain ⟨b, e3, hb⟩ := BV (ρ := ρ) hhi hg
  rw [e3] at hg
  obtain ⟨a, e4, ha⟩ := BV (ρ := ρ) hlo hg
  rw [e4] at hg
  obtain ⟨h5, e5⟩ := Af hg
  rw [e5] at hg
  obtain ⟨h6, e6⟩ := Af hg
  have h5 := Ab.1 h5; have h6 := Ab.1 h6
  refine ⟨_, e1.trans (e2.trans (e3.trans (e4.trans (e5.trans e6)))), fun φ ac w hT hg => ?_⟩
  have g1 := Ad hx hT
  rw [hxv] at g1
  obtain ⟨s, gx, hs, hc⟩ := Cx g1
  clear g1
  subst hs hc
  refine ⟨.string (s.extract a b), ?_, ?_⟩
  · simp only [execOp, ho, gx, Instr.sliceAt, Instr.slice, Sem.run_bind, run_underlying ht, Result.andThen_ok, Option.map_none]
    simp [Di (ha φ ac hT) (hb φ ac hT) h5 h6]
  · have := Sf (s.extract a b) ρ φ
    have e:(s.extract a b).data.toList=(s.data.toList.drop a).take (b - a) := by
      rw [ByteArray.data_extract]; simp
    rw [e, ←J5, ←IG] at this
    have hsz:(s.extract a b).size=b - a := by rw [ByteArray.size_extract]; omega
    rw [hsz] at this
    rw [Dx, Ed]; exact this
theorem NF {ty e:TypeId} {esz:Nat} {x:Operand} {lo hi:Option Operand} {x':Opd} {lo' hi':Option Opd} (ho:o.op = .slice ty x lo hi none) (hx:AB N x=some x') (hlo:GC N lo=some lo') (hhi:GC N hi=some hi')
    (ht:P.underlying ty=some (.slice e)) (he:Bj P e=some esz):B7 P ρ B N o (Iy esz x' lo' hi' cf t h n) t h n := by
  intro κ hg
  have e0:Iy esz x' lo' hi' cf t h n κ=osK (ev x' t) (fun l0 l1 => br (br (Ey hi') true (Nat.beq l0 l1)) (BX hi' t l0 fun b => BX lo' t 0 fun a => br (Nat.ble a b) (br (Nat.ble b l0) (κ (.oth (.os (Nat.sub b a) (Nat.sub b a))) h n) (.fail "")) (.fail "")) (.fail "")) (Ec (ev x' t) (BX hi' t 0 fun b => BX lo' t 0 fun a => br (Nat.beq b 0) (br (Nat.beq a 0) (κ (.nil .sl) h n) (.fail "")) (.fail ""))
      (fun p off len cap ex esz' => BX hi' t len fun b => BX lo' t 0 fun a => br (Nat.beq esz' esz) (br (Nat.ble a b) (br (Nat.ble b cap) (κ (.sl p (Nat.add off (Nat.mul a esz)) (Nat.sub b a) (Nat.sub cap a) ex esz) h n) (.fail "")) (.fail "")) (.fail "")) (fun o => Kn o (fun l m z => BX hi' t m fun b => BX lo' t 0 fun a => br (Nat.beq z esz) (br (Nat.ble a b) (br (Nat.ble b m) (κ (.oth (.rx ((l.drop (Nat.mul a esz)).take (Nat.mul (Nat.sub b a) esz)) (Nat.sub b a) esz)) h n) (.fail "")) (.fail "")) (.fail "")) (HY o (fun m c => BX hi' t m fun b => BX lo' t 0 fun a => br (Nat.beq esz 1) (br (Nat.ble a b) (br (Nat.ble b m) (κ (.oth (.rb (Nat.sub b a) (Ev.lo (sh c a) (Nat.sub b a)))) h n) (.fail "")) (.fail "")) (.fail "")) (.fail "")))) := by
    simp only [Iy, Av, A7]
  rw [e0] at hg
  rcases Tp (ev x' t) (fun l0 l1 => br (br (Ey hi') true (Nat.beq l0 l1)) (BX hi' t l0 fun b => BX lo' t 0 fun a => br (Nat.ble a b) (br (Nat.ble b l0) (κ (.oth (.os (Nat.sub b a) (Nat.sub b a))) h n) (.fail "")) (.fail "")) (.fail "")) (Ec (ev x' t) (BX hi' t 0 fun b => BX lo' t 0 fun a => br (Nat.beq b 0) (br (Nat.beq a 0) (κ (.nil .sl) h n) (.fail "")) (.fail ""))
      (fun p off len cap ex esz' => BX hi' t len fun b => BX lo' t 0 fun a => br (Nat.beq esz' esz) (br (Nat.ble a b) (br (Nat.ble b cap) (κ (.sl p (Nat.add off (Nat.mul a esz)) (Nat.sub b a) (Nat.sub cap a) ex esz) h n) (.fail "")) (.fail "")) (.fail "")) (fun o => Kn o (fun l m z => BX hi' t m fun b => BX lo' t 0 fun a => br (Nat.beq z esz) (br (Nat.ble a b) (br (Nat.ble b m) (κ (.oth (.rx ((l.drop (Nat.mul a esz)).take (Nat.mul (Nat.sub b a) esz)) (Nat.sub b a) esz)) h n) (.fail "")) (.fail "")) (.fail "")) (HY o (fun m c => BX hi' t m fun b => BX lo' t 0 fun a => br (Nat.beq esz 1) (br (Nat.ble a b) (br (Nat.ble b m) (κ (.oth (.rb (Nat.sub b a) (Ev.lo (sh c a) (Nat.sub b a)))) h n) (.fail "")) (.fail "")) (.fail "")) (.fail "")))) with ⟨l0, l1, hxv, e1⟩ | e1
  · rw [e1] at hg
    obtain ⟨hex, e2⟩ := Af hg
    rw [e2] at hg
    obtain ⟨b, e3, hb⟩ := BV (ρ := ρ) hhi hg
    rw [e3] at hg
    obtain ⟨a, e4, ha⟩ := BV (ρ := ρ) hlo hg
    rw [e4] at hg
    obtain ⟨h6, e6⟩ := Af hg
    rw [e6] at hg
    obtain ⟨h7, e7⟩ := Af hg
    have h6 := Ab.1 h6; have h7 := Ab.1 h7
    refine ⟨_, e0.trans (e1.trans (e2.trans (e3.trans (e4.trans (e6.trans e7))))), fun φ ac w hT hg => ?_⟩
    have g1 := Ad hx hT
    rw [hxv] at g1
    simp only [Ap] at g1
    obtain ⟨p, len, cap, gx, c1, c2, c3⟩ := g1
    have hb':Pj (hi.map ac.eval) b len := by
      rcases hb φ ac hT with ⟨h1, h2⟩ | h1
      · left
        refine ⟨h1, ?_⟩
        have hn:Ey hi'=false := by
          cases hi with
          | some y => cases h1
          | none => simp only [GC, Option.some.injEq] at hhi; subst hhi; rfl
        rw [hn, Ai] at hex
        have := Nat.eq_of_beq_eq_true hex
        omega
      · exact .inr h1
    refine ⟨.slice (if cap=a then p else p.map (·.add (a*esz))) (b - a) (cap - a), ?_, ?_⟩
    · simp only [execOp, ho, gx, Instr.sliceAt, Instr.slice, Sem.run_bind, run_underlying ht, Result.andThen_ok, Option.map_none]
      simp [Di (ha φ ac hT) hb' h6 (by omega:b≤cap), AL he]
    · simp only [Ap]
      exact ⟨_, _, _, rfl, Nat.le_refl _, Nat.le_refl _, by show b - a≤cap - a; omega⟩
  have e1 := e0.trans e1
  rw [←e0, e1] at hg
  rcases G1 hg with ⟨hxv, e2⟩ | ⟨p, off, len, cap, ex, esz', hxv, e2⟩ | ⟨oo, hxv, e2⟩
  · rw [e2] at hg
    obtain ⟨b, e3, hb⟩ := BV (ρ := ρ) hhi hg
    rw [e3] at hg
    obtain ⟨a, e4, ha⟩ := BV (ρ := ρ) hlo hg
    rw [e4] at hg
    obtain ⟨h5, e5⟩ := Af hg
    rw [e5] at hg
    obtain ⟨h6, e6⟩ := Af hg
    have h5 := Nat.eq_of_beq_eq_true h5; have h6 := Nat.eq_of_beq_eq_true h6
    subst h5 h6
    refine ⟨_, e1.trans (e2.trans (e3.trans (e4.trans (e5.trans e6)))), fun φ ac w hT hg => ?_⟩
    have g1 := Ad hx hT
    rw [hxv] at g1
    have gx := C5 g1
    refine ⟨.slice none 0 0, ?_, by simp only [Ap, Cd]⟩
    simp only [execOp, ho, gx, Cd, Instr.sliceAt, Instr.slice, Sem.run_bind, run_underlying ht, Result.andThen_ok, Option.map_none]
    simp [Di (ha φ ac hT) (hb φ ac hT) (Nat.le_refl 0) (Nat.le_refl 0), AL he]
  · rw [e2] at hg
    obtain ⟨b, e3, hb⟩ := BV (ρ := ρ) hhi hg
    rw [e3] at hg
    obtain ⟨a, e4, ha⟩ := BV (ρ := ρ) hlo hg
    rw [e4] at hg
    obtain ⟨h5, e5⟩ := Af hg
    rw [e5] at hg
    obtain ⟨h6, e6⟩ := Af hg
    rw [e6] at hg
    obtain ⟨h7, e7⟩ := Af hg
    have h5 := Nat.eq_of_beq_eq_true h5; have h6 := Ab.1 h6; have h7 := Ab.1 h7
    subst h5
    refine ⟨_, e1.trans (e2.trans (e3.trans (e4.trans (e5.trans (e6.trans e7))))), fun φ ac w hT hg => ?_⟩
    have g1 := Ad hx hT
    rw [hxv] at g1
    obtain ⟨bk, s, tot, q, cap', hp, gx, c1, c2, c3, c4⟩ := D0 g1
    refine ⟨.slice (if cap'=a then some ⟨bk, q, none⟩ else some ⟨bk, q+a*esz', none⟩) (b - a) (cap' - a), ?_, ?_⟩
    · simp only [execOp, ho, gx, Instr.sliceAt, Instr.slice, Sem.run_bind, run_underlying ht, Result.andThen_ok, Option.map_none]
      simp [Di (ha φ ac hT) (hb φ ac hT) h6 (Nat.le_trans h7 c2), AL he, Ca]
    · simp only [Ap]
      by_cases hca:cap'=a
      · rw [if_pos hca]
        refine ⟨bk, s, tot, q, cap' - a, hp, rfl, by show b - a≤cap - a; omega, by show cap - a≤cap' - a; omega, fun hex => by have := c3 hex; show cap' - a=cap - a; omega, fun h0 => by omega⟩
      · rw [if_neg hca]
        refine ⟨bk, s, tot, q+a*esz', cap' - a, hp, rfl, by show b - a≤cap - a; omega, by show cap - a≤cap' - a; omega, fun hex => by have := c3 hex; show cap' - a=cap - a; omega, fun h0 => ?_⟩
        obtain ⟨c5, c6⟩ := c4 (by omega)
        refine ⟨by show q+a*esz'=s+(off+a*esz'); omega, ?_⟩
        have hmul:a*esz'+(cap' - a)*esz'=cap'*esz' := by rw [←Nat.add_mul]; congr 1; omega
        omega
  · rw [e2] at hg
    cases oo with
    | rx l m z =>
      have hg':R.good (BX hi' t m fun b => BX lo' t 0 fun a => br (Nat.beq z esz) (br (Nat.ble a b) (br (Nat.ble b m) (κ (.oth (.rx ((l.drop (Nat.mul a esz)).take (Nat.mul (Nat.sub b a) esz)) (Nat.sub b a) esz)) h n) (.fail "")) (.fail "")) (.fail "")) := hg
      obtain ⟨b, e3, hb⟩ := BV (ρ := ρ) hhi hg'
      rw [e3] at hg'
      obtain ⟨a, e4, ha⟩ := BV (ρ := ρ) hlo hg'
      rw [e4] at hg'
      obtain ⟨h5, e5⟩ := Af hg'
      rw [e5] at hg'
      obtain ⟨h6, e6⟩ := Af hg'
      rw [e6] at hg'
      obtain ⟨h7, e7⟩ := Af hg'
      have h5 := Nat.eq_of_beq_eq_true h5
      have h6 := Ab.1 h6; have h7 := Ab.1 h7
      subst h5
      refine ⟨_, e1.trans (e2.trans (e3.trans (e4.trans (e5.trans (e6.trans e7))))), fun φ ac w hT hg => ?_⟩
      have g1 := Ad hx hT
      rw [hxv] at g1
      simp only [Ap] at g1
      obtain ⟨ad, cap, gx, c1, c3, c4⟩ := g1
      have hlen:((l.drop (a*z)).take ((b - a)*z)).length=(b - a)*z := by
        rw [List.length_take, List.length_drop, c3]
        refine Nat.min_eq_left ?_
        rw [Nat.sub_mul]
        have := Nat.mul_le_mul_right z h7
        omega
      refine ⟨.slice (some (if cap=a then ad else ad.add (a*z))) (b - a) (cap - a), ?_, ?_⟩
      · simp only [execOp, ho, gx, Instr.sliceAt, Instr.slice, Sem.run_bind, run_underlying ht, Result.andThen_ok, Option.map_none]
        simp [Di (ha φ ac hT) (hb φ ac hT) h6 (Nat.le_trans h7 c1), AL he]
        split <;> rfl
      · simp only [Ap]
        refine ⟨_, cap - a, rfl, by show b - a≤cap - a; omega, hlen, fun h0 => ?_⟩
        have h0:0<b - a := h0
        obtain ⟨bk, q, c, e', fr, rfl, c2, c4⟩ := c4 (by omega)
        refine ⟨bk, q+a*z, c, e', fr, by rw [if_neg (by omega)]; exact Ca .., c2, fun j v hv => ?_⟩
        have hv:((l.drop (a*z)).take ((b - a)*z))[j]? = some v := hv
        rw [List.getElem?_take] at hv
        split at hv
        · rw [List.getElem?_drop] at hv
          obtain ⟨y, y1, y2⟩ := c4 (a*z+j) v hv
          exact ⟨y, by rw [Nat.add_assoc]; exact y1, y2⟩
        · cases hv
    | rb m d =>
      have hg':R.good (BX hi' t m fun b => BX lo' t 0 fun a => br (Nat.beq esz 1) (br (Nat.ble a b) (br (Nat.ble b m) (κ (.oth (.rb (Nat.sub b a) (Ev.lo (sh d a) (Nat.sub b a)))) h n) (.fail "")) (.fail "")) (.fail "")) := hg
      obtain ⟨b, e3, hb⟩ := BV (ρ := ρ) hhi hg'
      rw [e3] at hg'
      obtain ⟨a, e4, ha⟩ := BV (ρ := ρ) hlo hg'
      rw [e4] at hg'
      obtain ⟨h5, e5⟩ := Af hg'
      rw [e5] at hg'
      obtain ⟨h6, e6⟩ := Af hg'
      rw [e6] at hg'
      obtain ⟨h7, e7⟩ := Af hg'
      have h5 := Nat.eq_of_beq_eq_true h5
      have h6 := Ab.1 h6; have h7 := Ab.1 h7
      subst h5
      refine ⟨_, e1.trans (e2.trans (e3.trans (e4.trans (e5.trans (e6.trans e7))))), fun φ ac w hT hg => ?_⟩
      have g1 := Ad hx hT
      rw [hxv] at g1
      simp only [Ap, H6] at g1
      obtain ⟨ad, cap, gx, c1, c3, c4⟩ := g1
      refine ⟨.slice (some (if cap=a then ad else ad.add (a*1))) (b - a) (cap - a), ?_, ?_⟩
      · simp only [execOp, ho, gx, Instr.sliceAt, Instr.slice, Sem.run_bind, run_underlying ht, Result.andThen_ok, Option.map_none]
        simp [Di (ha φ ac hT) (hb φ ac hT) h6 (Nat.le_trans h7 c1), AL he]
        split <;> rfl
      · simp only [Ap, H6]
        have hlo2:Ev.lo (sh d a) (Nat.sub b a)=d / 256 ^ a % 256 ^ (b - a) := by rw [Dx, Ed]; rfl
        rw [hlo2]
        refine ⟨_, cap - a, rfl, by show b - a≤cap - a; omega, Nat.mod_lt _ (Nat.pow_pos (by decide)), fun h0 => ?_⟩
        have h0:0<b - a := h0
        obtain ⟨bk, q, c, e', fr, rfl, c2, c4⟩ := c4 (by omega)
        refine ⟨bk, q+a*1, c, e', fr, by rw [if_neg (by omega)]; exact Ca .., c2, fun j hj => ?_⟩
        have hj:j<b - a := hj
        rw [Nat.mul_one, Nat.add_assoc, c4 (a+j) (by omega), FU _ _ _ hj, Nat.div_div_eq_div_mul, ←Nat.pow_add]
    | _ => exact hg.elim
theorem Bh {ob:Ob} {κ:Heap->K4->R} (hg:(D9 h n ob κ).good):∃ n':K4, n'.toN=n.toN+1∧D9 h n ob κ=κ (Ae n h (some ob)) n' := by
  have e:D9 h n ob κ=n.nx fun n' => κ (Ae n h (some ob)) n' := AT _ _ _ _
  rw [e] at hg
  rcases K4.nx_eq n (fun n' => κ (Ae n h (some ob)) n') with ⟨w, h'⟩ | ⟨q, h1, h2⟩
  · rw [h'] at hg; exact hg.elim
  · exact ⟨q, h1, e.trans h2⟩
theorem Gam.at_n {φ:AO} {w:World} (g:Gam ρ B h n φ w):φ n=none := by
  cases hx:φ n with
  | none => rfl
  | some x => have := g.dom n x hx; omega
/-- A new object for cells that are Eb. -/
theorem CN {φ:AO} {w:World} {n':K4} (g:Gam ρ B h n φ w) (hn:n'.toN=n.toN+1) {cs:Cs} {c:Array Value} {e:TypeId} {fr:Nat×Nat} (hl:cs.len≤c.size) (hf:Yr fr c.size)
    (hc:F5 ρ φ cs fun i => c[i]?) :
    Gam ρ B (Ae n h (some (.c cs false none))) n' (EK φ n (w.heap.size, 0, c.size)) (w.alloc (.cells c e fr)) ∧
    Fr h (Ae n h (some (.c cs false none))) φ (EK φ n (w.heap.size, 0, c.size)) n n' w (w.alloc (.cells c e fr)) := by
  refine ⟨g.alloc g.at_n (by omega) (by omega) (.c cs false none) rfl _ c.size fun φ' hle w' hw' => ?_, Fr.alloc g.at_n (by omega) (Nat.le_refl _) (by omega) _ _ _⟩
  exact ⟨c, e, fr, hw', rfl, by omega, hf, GA hle (fun i v hv => by rw [Nat.zero_add]; exact hc i v hv)⟩
theorem Kl (k:Nat):Yr (0, 0) k := .inl rfl
theorem Ew {φ:AO} {l:List V} {xs:List Value} (h:BL ρ φ l xs) (h1:∀ y∈xs, y.oneCell'=true):F5 ρ φ (.l l) fun i => xs[i]? := fun i v hv => by
  obtain ⟨x, hx, hr⟩ := (Cl.1 h).2 i v hv
  exact ⟨x, hx, hr, h1 x (List.mem_of_getElem? hx)⟩
theorem De {φ:AO} {p:K4} {b tot:Nat}:Ap ρ (EK φ p (b, 0, tot)) (.ptr p 0) (.pointer (some ⟨b, 0, none⟩)) := by
  simp only [Ap]; exact ⟨b, 0, tot, C6 _ _ _, rfl⟩
theorem Fm {e:TypeId} {c:Array Value} (w:World):(newRow e c).run P w = .ok ⟨w.heap.size, 0, none⟩ (w.alloc (.cells c e)) := rfl
theorem Tc {e:TypeId} {z:List V} (ho:o.op = .alloc e) (hz:DB P e=some z):CU P ρ B N o (Pg (.l z) cf t h n) t h n := by
  intro κ hg
  obtain ⟨n', hn, e1⟩ := Bh (show R.good (D9 h n (.c (.l z) false none) fun h' n' => κ (.ptr n 0) h' n') from hg)
  refine ⟨_, _, _, e1, .value fun φ a w hT g => ?_⟩
  unfold DB at hz
  cases hi:(P.info? e).bind (·.zero) with
  | none => rw [hi] at hz; cases hz
  | some zv =>
    rw [hi] at hz
    obtain ⟨hl, h1⟩ := Fc (ρ := ρ) (show I5 zv.cells.toList=some z from hz) φ
    have hc := Ew hl h1
    obtain ⟨g1, g2⟩ := CN g hn (e := e) (fr := (0, 0)) (c := zv.cells) (by have := AX hl; simp only [Cs.len]; simp at this; omega) (Kl _) (cs := .l z) (fun i v hv => by simpa using hc i v hv)
    refine ⟨_, .pointer (some ⟨w.heap.size, 0, none⟩), _, ?_, g2, g1, De⟩
    simp [execOp, ho, Instr.alloc, DC hi, newVar, Fm]
theorem Tn {e:TypeId} {x:Operand} {x':Opd} (hρ:Bq ρ) (ho:o.op = .box e x) (hx:AB N x=some x'):CU P ρ B N o (IR x' cf t h n) t h n := by
  intro κ hg
  have e1:IR x' cf t h n κ=Es (ev x' t) fun l => D9 h n (.c (.l l) false none) fun h' n' => κ (.ptr n 0) h' n' := by simp only [IR, Av]
  rw [e1] at hg
  obtain ⟨hc, e2⟩ := FN hg
  rw [e2] at hg
  obtain ⟨n', hn, e3⟩ := Bh hg
  refine ⟨_, _, _, e1.trans (e2.trans e3), .value fun φ a w hT g => ?_⟩
  obtain ⟨hl, h1⟩ := HF hρ hc (Ad hx hT)
  have hcs := Ew hl h1
  obtain ⟨g1, g2⟩ := CN g hn (e := e) (fr := (0, 0)) (c := (a.eval x).cells) (by have := AX hl; simp only [Cs.len]; simp at this; omega) (Kl _) (cs := .l (ev x' t).cl) (fun i v hv => by simpa using hcs i v hv)
  refine ⟨_, .pointer (some ⟨w.heap.size, 0, none⟩), _, ?_, g2, g1, De⟩
  simp [execOp, ho, Instr.box, newVar, Fm]
theorem Pf {ty:TypeId} (ho:o.op = .makeMap ty none):CU P ρ B N o (J8 cf t h n) t h n := by
  intro κ hg
  obtain ⟨n', hn, e1⟩ := Bh (show R.good (D9 h n (.m [] [] 0) fun h' n' => κ (.map n) h' n') from hg)
  refine ⟨_, _, _, e1, .value fun φ a w hT g => ?_⟩
  refine ⟨_, .map (some w.heap.size), w.alloc (.map #[] 0), by simp [execOp, ho, Instr.makeMap, run_newObj], Fr.alloc g.at_n (by omega) (Nat.le_refl _) (by omega) _ _ 0, ?_, ?_⟩
  · exact g.alloc g.at_n (by omega) (by omega) (.m [] [] 0) rfl _ 0 fun φ' hle w' hw' => ⟨#[], hw', rfl, rfl⟩
  · simp only [Ap]; exact ⟨w.heap.size, 0, 0, C6 _ _ _, rfl⟩
theorem Tf {src dst e:TypeId} {x:Operand} {x':Opd} (ho:o.op = .convert src dst x) (hx:AB N x=some x') (hs:P.underlying src=some .string) (hd:P.underlying dst=some (.slice e)) (he:P.underlying e=some (.int .u8)) :
    CU P ρ B N o (Iz x' cf t h n) t h n := by
  intro κ hg
  have e1:Iz x' cf t h n κ=Bc (ev x' t) fun m c => D9 h n (.c (.b m c) false none) fun h' n' => κ (.sl n 0 m m false 1) h' n' := by simp only [Iz, Av]
  rw [e1] at hg
  obtain ⟨m, c, hxv, e2⟩ := C8 hg
  rw [e2] at hg
  obtain ⟨n', hn, e3⟩ := Bh hg
  refine ⟨_, _, _, e1.trans (e2.trans e3), .value fun φ a w hT g => ?_⟩
  have g1 := Ad hx hT
  rw [hxv] at g1
  obtain ⟨s, gx, hsz, hc⟩ := Cx g1
  clear g1
  subst hsz hc
  -- the capacity is drawn
  obtain ⟨cap, w1, hcap, hrun, hw1⟩:∃ cap w1, s.size≤cap∧(choose (.appendCap s.size 0 e)).run P w = .ok cap w1∧w1=w.drew := by
    refine ⟨_, _, ?_, by rw [run_choose]; simp only [Question.forced, Bool.false_eq_true, if_false]; rfl, rfl⟩
    simp only [Question.cut]; omega
  subst hw1
  let cells:Array Value := s.data.map (fun b => Value.int .u8 b.toNat)++Array.replicate (cap - s.size) (.int .u8 0)
  have hsize:cells.size=cap := by simp [cells]; omega
  have hcs:F5 ρ φ (.b s.size (Ar s.data.toList)) fun i => cells[i]? := fun i v hv => by
    have hi:i<s.size := Cs.lt_of_at hv
    rw [Cs.b_pos hi] at hv
    have hi':i<s.data.toList.length := by rw [BU]; exact hi
    rw [IF _ _ hi'] at hv
    cases hv
    have hlt := s.data.toList[i].toNat_lt
    refine ⟨.int .u8 (s.data.toList[i].toNat:Nat), ?_, ?_, rfl⟩
    · have hi2:i<s.data.size := hi
      show (s.data.map (fun b => Value.int .u8 b.toNat)++Array.replicate (cap - s.size) (.int .u8 0))[i]? = _
      rw [Array.getElem?_append_left (by simpa using hi2), Array.getElem?_map, Array.getElem?_eq_getElem hi2]
      simp
    · simp only [Ap]
      exact ⟨by simp [Mk]; exact hlt, by rw [Aj (by simp [Hk]; exact hlt)]⟩
  obtain ⟨g2, g3⟩ := CN (g.drew) hn (e := e) (fr := (cap, cap+1)) (c := cells) (by simp only [Cs.len]; omega) (.inr (by rw [hsize]; exact Nat.le_refl _)) hcs
  refine ⟨_, .slice (some ⟨w.heap.size, 0, none⟩) s.size cap, _, ?_, Fr.trans Fr.drew g3, g2, ?_⟩
  · simp only [execOp, ho, gx, convert, Sem.run_bind, run_underlying hs, run_underlying hd, run_underlying he, Result.andThen_ok, Conv.stringToBytes, hrun]
    have hrow:(newRow e (Array.map (fun b => Value.int IntKind.u8 ↑b.toNat) s.data++Array.replicate (cap - s.size) (Value.int IntKind.u8 0))).run P w.drew = .ok ⟨w.heap.size, 0, none⟩ (w.drew.alloc (.cells cells e)) := rfl
    simp only [hrow, Result.andThen_ok]
    have hsh:(w.drew.alloc (.cells cells e)).shape? w.heap.size=some (e, cap) := by
      have:(w.drew.alloc (.cells cells e)).heap[w.heap.size]? = some (.cells cells e) := by show (w.heap.push _)[w.heap.size]? = _; simp
      unfold World.shape?; rw [this]; simp [hsize]
    have hfz:(w.drew.alloc (.cells cells e)).freeze { block := w.heap.size, off := cap } 1=w.drew.alloc (.cells cells e (cap, cap+1)) := by
      exact (Hn (show (w.drew.alloc (.cells cells e)).heap[w.heap.size]? = some (.cells cells e (0, 0)) from Jf (w := w.drew))).trans (LN (w := w.drew))
    simp only [markStringish, Sem.run_bind, run_shape, hsh, Result.andThen_ok, run_freeze, hfz, Sem.run_pure]
  · simp only [Ap]
    refine ⟨w.heap.size, 0, cells.size, 0, cap, C6 _ _ _, rfl, Nat.le_refl _, hcap, (fun h => by cases h), (fun _ => ⟨rfl, by rw [hsize]; omega⟩)⟩
end
end Go.Ev

namespace Go.Ev
set_option linter.unusedVariables false
section
variable {P:Program} {ρ:Env} {B N:Nat} {o:Oper} {cf:CF} {t:Regs} {h:Heap} {n:K4}
theorem Dc {p:K4} {κ:Cs->Bool->Option K4->R} (hg:(Hs p h κ).good):∃ cs sup prev, A9 p h=some (.c cs sup prev)∧Hs p h κ=κ cs sup prev := by
  have e:Hs p h κ=@Option.rec Ob (fun _ => R) (.fail "") (fun o => @Ob.rec (fun _ => R) κ (C4 "") (Fh "") (.fail "") (Ax "") o) (A9 p h) := Cg _ _ _
  rw [e] at hg
  cases hx:A9 p h with
  | none => rw [hx] at hg; exact hg.elim
  | some ob =>
    rw [hx] at hg e
    cases ob with
    | c cs sup prev => exact ⟨cs, sup, prev, rfl, e⟩
    | m _ _ _ => exact hg.elim
    | it _ _ _ _ => exact hg.elim
    | it0 => exact hg.elim
    | lp _ _ => exact hg.elim
theorem EH {p:K4} {κ:List (V×V)->List Nat->Nat->R} (hg:(MK p h κ).good):∃ es bs c, A9 p h=some (.m es bs c)∧MK p h κ=κ es bs c := by
  have e:MK p h κ=@Option.rec Ob (fun _ => R) (.fail "") (fun o => @Ob.rec (fun _ => R) (C4 "") κ (Fh "") (.fail "") (Ax "") o) (A9 p h) := Cg _ _ _
  rw [e] at hg
  cases hx:A9 p h with
  | none => rw [hx] at hg; exact hg.elim
  | some ob =>
    rw [hx] at hg e
    cases ob with
    | c cs sup prev => exact hg.elim
    | m es bs c => exact ⟨es, bs, c, rfl, e⟩
    | it _ _ _ _ => exact hg.elim
    | it0 => exact hg.elim
    | lp _ _ => exact hg.elim
theorem Xb {ρ:Env} {φ:AO} {z:Int} (z1 : -9223372036854775808≤z) (z2:z<9223372036854775808):Ap ρ φ (.oth (.iv .i64 0 18446744073709551615)) (.int .i64 z) := by
  simp only [Ap]
  by_cases h0:0≤z
  · refine ⟨z.toNat, Nat.zero_le _, by omega, by simp only [Mk]; omega, ?_⟩
    rw [Aj (by simp only [Hk]; omega)]; congr 1; omega
  · refine ⟨(z+18446744073709551616).toNat, Nat.zero_le _, by omega, by simp only [Mk]; omega, ?_⟩
    rw [Cy (by simp only [Hk]; omega)]; congr 1; simp only [Mk]; omega
theorem Vw {ρ:Env} {i j:Nat} {κ:V->R} (hg:(apC i j κ).good) (h3:¬ i≤36893488147419103231) (h5:i≤73786976294838206463):∃ v, apC i j κ=κ v ∧ ∀ (φ:AO) y, Mc ρ i j y->Ap ρ φ v y := by
  have key:∀ y, Mc ρ i j y->∃ r, r<Mk .i64∧y = .int .i64 (dec .i64 r)∧(36893488147419103232<i->j=ZP i->(dec .i64 r).tmod (IP i:Nat)+(IP i:Nat)=(SA i:Nat)) := fun y hy => by
    rcases hy with ⟨h, _⟩ | ⟨_, h, _⟩ | ⟨_, h, _⟩ | ⟨_, _, h⟩ | ⟨h, _⟩
    · omega
    · omega
    · omega
    · exact h
    · omega
  have any:∀ (φ:AO) y, Mc ρ i j y->Ap ρ φ (.oth (.iv .i64 0 18446744073709551615)) y := fun φ y hy => by
    obtain ⟨r, hr, rfl, _⟩ := key y hy
    simp only [Ap]; exact ⟨r, Nat.zero_le _, by simp only [Mk] at hr; omega, hr, rfl⟩
  unfold apC at hg ⊢
  cases h1:Nat.ble i 36893488147419103232 with
  | true => exact ⟨_, rfl, any⟩
  | false =>
    have h1':¬ i≤36893488147419103232 := fun h => by rw [Ab.2 h] at h1; cases h1
    rw [h1, Ai] at hg
    rw [Ai]
    cases h2:Nat.beq j (ZP i) with
    | false => exact ⟨_, rfl, any⟩
    | true =>
      rw [h2] at hg
      have h2:j=ZP i := Nat.eq_of_beq_eq_true h2
      have hm:IP i<65536 := Nat.mod_lt _ (by decide)
      have ht:SA i<65536 := Nat.mod_lt _ (by decide)
      rw [Ac, A7, A7] at hg ⊢
      -- the remainder, as an integer
      have val:∀ y, Mc ρ i j y->∃ z:Int, y = .int .i64 z ∧ -9223372036854775808≤z∧z<9223372036854775808∧z.tmod (IP i:Nat)+(IP i:Nat)=(SA i:Nat) := fun y hy => by
        obtain ⟨r, hr, rfl, hz⟩ := key y hy
        have hz := hz (by omega) h2
        refine ⟨_, rfl, ?_, ?_, hz⟩
        · have hr:r<18446744073709551616 := hr
          by_cases hh:r<9223372036854775808
          · rw [Aj (by simp only [Hk]; omega)]; omega
          · rw [Cy (by simp only [Hk]; omega)]; simp only [Mk]; omega
        · have hr:r<18446744073709551616 := hr
          by_cases hh:r<9223372036854775808
          · rw [Aj (by simp only [Hk]; omega)]; omega
          · rw [Cy (by simp only [Hk]; omega)]; simp only [Mk]; omega
      have abs:∀ z:Int, (z.tmod (IP i:Nat)).natAbs=z.natAbs % IP i := fun z => by rw [Int.natAbs_tmod, Int.natAbs_natCast]
      cases h3:Nat.ble (Nat.succ (IP i)) (SA i) with
      | true =>
        have h3:IP i+1≤SA i := Ab.1 h3
        refine ⟨.oth (.rs (18446744073709551616+IP i) (SA i - IP i)), by rw [Ac, A7]; rfl, fun φ y hy => ?_⟩
        obtain ⟨z, rfl, z1, z2, z3⟩ := val y hy
        have ha := abs z
        have hz:0≤z := by
          by_cases hz:0≤z
          · exact hz
          · have h4:0≤(-z).tmod (IP i:Nat) := Int.tmod_nonneg _ (by omega)
            rw [Int.neg_tmod] at h4
            omega
        simp only [Ap]
        refine ⟨z, rfl, z1, z2, .inl ⟨by omega, ?_⟩, fun _ _ => hz, fun h => by omega⟩
        rw [show (18446744073709551616+IP i) % 18446744073709551616=IP i by omega, ←ha]; omega
      | false =>
        have h3':¬ IP i+1≤SA i := fun h => by rw [Ab.2 h] at h3; cases h3
        rw [h3, Ai] at hg
        rw [Ai]
        cases h4:Nat.beq (SA i) (IP i) with
        | true =>
          have h4':SA i=IP i := Nat.eq_of_beq_eq_true h4
          rw [h4, Ac] at hg
          obtain ⟨h6, e⟩ := Af hg
          refine ⟨.oth (.rs (IP i) 0), by rw [Ac]; exact e, fun φ y hy => ?_⟩
          obtain ⟨z, rfl, z1, z2, z3⟩ := val y hy
          have ha := abs z
          simp only [Ap]
          refine ⟨z, rfl, z1, z2, .inl ⟨by omega, ?_⟩, fun h => by omega, fun h => by omega⟩
          rw [Nat.mod_eq_of_lt (show IP i<18446744073709551616 by omega), ←ha]; omega
        | false =>
          have h4':SA i≠IP i := fun h => by rw [h, Nat.beq_refl] at h4; cases h4
          refine ⟨.oth (.rs (73786976294838206464+IP i) ((IP i - SA i)*18446744073709551616+(IP i - SA i))), by rw [Ai, A7]; rfl, fun φ y hy => ?_⟩
          obtain ⟨z, rfl, z1, z2, z3⟩ := val y hy
          have ha := abs z
          have hz:z<0 := by
            by_cases hz:0≤z
            · have h4:0≤z.tmod (IP i:Nat) := Int.tmod_nonneg _ hz
              omega
            · omega
          simp only [Ap]
          have e7:(73786976294838206464+IP i) % 18446744073709551616=IP i := by omega
          refine ⟨z, rfl, z1, z2, .inr ⟨by omega, ?_, ?_⟩, fun _ h => by omega, fun _ => hz⟩
          · rw [e7, ←ha]; omega
          · rw [e7, ←ha]; omega
theorem VR {ρ:Env} {i j:Nat} {κ:V->R} (hg:(Zp i j κ).good) (h5:¬ i≤73786976294838206463):∃ v, Zp i j κ=κ v ∧ ∀ (φ:AO) y, Mc ρ i j y->Ap ρ φ v y := by
  have key:∀ y, Mc ρ i j y->∃ z:Int, y = .int .i64 z ∧ -9223372036854775808≤z∧z<9223372036854775808∧(j<tdN i->z.natAbs % Yg i=tdD i j) := fun y hy => by
    rcases hy with ⟨h, _⟩ | ⟨_, h, _⟩ | ⟨_, h, _⟩ | ⟨_, h, _⟩ | ⟨_, z, rfl, z1, z2, z3⟩
    · omega
    · omega
    · omega
    · omega
    · exact ⟨z, rfl, z1, z2, z3⟩
  unfold Zp at hg ⊢
  cases h1:Nat.ble (Nat.succ j) (tdN i) with
  | false =>
    refine ⟨_, by rw [Ai], fun φ y hy => ?_⟩
    obtain ⟨z, rfl, z1, z2, _⟩ := key y hy
    exact Xb z1 z2
  | true =>
    rw [h1, Ac, A7] at hg
    obtain ⟨hm, e⟩ := Af hg
    have hm := Ab.1 hm
    refine ⟨.oth (.rs (Yg i) (tdD i j)), by rw [Ac, A7, e, A7], fun φ y hy => ?_⟩
    obtain ⟨z, rfl, z1, z2, z3⟩ := key y hy
    have z3 := z3 (Ab.1 h1)
    simp only [Ap]
    exact ⟨z, rfl, z1, z2, .inl ⟨by omega, by rw [Nat.mod_eq_of_lt (show Yg i<18446744073709551616 by omega)]; exact z3⟩, fun h => by omega, fun h => by omega⟩
theorem PE {ty:TypeId} {x:Operand} {x':Opd} (ho:o.op = .load ty x) (hx:AB N x=some x') (ha:Ln P ty=some false):B7 P ρ B N o (TI x' cf t h n) t h n := by
  intro κ hg
  have e1:TI x' cf t h n κ=Md (ev x' t) (fun p off => Hs p h fun cs _ _ => F8 cs off fun v => κ v h n) (fun o => Tx o (fun i j m => br (Nat.ble 1 m) (XB i j fun v => κ v h n) (.fail "")) (Ld o (fun l => UC l fun v => κ v h n) (.fail ""))) := by simp only [TI, Av]
  rw [e1] at hg
  rcases Ih hg with ⟨p, off, hxv, e2⟩ | ⟨oo, hxv, e2⟩
  rotate_left
  · rw [e2] at hg
    cases oo with
    | ap i j m =>
      have hg':R.good (br (Nat.ble 1 m) (XB i j fun v => κ v h n) (.fail "")) := hg
      obtain ⟨h1, e3⟩ := Af hg'
      have h1 := Ab.1 h1
      have key:∃ v, XB i j (fun v => κ v h n)=κ v h n ∧ ∀ (φ:AO) y, Mc ρ i j y->Ap ρ φ v y := by
        unfold XB
        cases hi:Nat.beq i 0 with
        | true =>
          have hi := Nat.eq_of_beq_eq_true hi
          refine ⟨_, by rw [Ac], fun φ y hy => ?_⟩
          rcases hy with ⟨_, b, rfl⟩ | ⟨h, _⟩ | ⟨h, _⟩ | ⟨h, _⟩ | ⟨h, _⟩
          · exact EU b
          · omega
          · omega
          · omega
          · omega
        | false =>
          have hi0:i≠0 := fun h => by subst h; cases hi
          rw [Ai]
          cases h2f:Nat.ble i 18446744073709551615 with
          | true =>
            have h2 := Ab.1 h2f
            refine ⟨.oth (.sy .i64 (i+j)), by first | (rw [Ac, A7]; rfl) | (rw [A7]; rfl) | rw [A7], fun φ y hy => ?_⟩
            rcases hy with ⟨h, _⟩ | ⟨_, _, h2, r, h3, h4⟩ | ⟨h, _⟩ | ⟨h, _⟩ | ⟨h, _⟩
            · exact absurd h hi0
            · simp only [Ap]; exact ⟨h2, r, h3, h4⟩
            · omega
            · omega
            · omega
          | false =>
            have h2:¬ i≤18446744073709551615 := fun h => by rw [Ab.2 h] at h2f; cases h2f
            rw [Ai]
            cases h3f:Nat.ble i 36893488147419103231 with
            | true =>
              have h3 := Ab.1 h3f
              rw [Ac]
              cases h4:Nat.ble (Nat.succ j) (Nat.div (Nat.sub i 18446744073709551616) 4294967296) with
              | true =>
                have h4 := Ab.1 h4
                rw [Ac]
                refine ⟨.bool (RY i j), by cases RY i j <;> rfl, fun φ y hy => ?_⟩
                rcases hy with ⟨h, _⟩ | ⟨_, h, _⟩ | ⟨_, _, b, rfl, hb⟩ | ⟨h, _⟩ | ⟨h, _⟩
                · omega
                · omega
                · rw [hb h4]; simp only [Ap]
                · omega
                · omega
              | false =>
                rw [Ai]
                refine ⟨_, rfl, fun φ y hy => ?_⟩
                rcases hy with ⟨h, _⟩ | ⟨_, h, _⟩ | ⟨_, _, b, rfl, hb⟩ | ⟨h, _⟩ | ⟨h, _⟩
                · omega
                · omega
                · exact EU b
                · omega
                · omega
            | false =>
              have h3:¬ i≤36893488147419103231 := fun h => by rw [Ab.2 h] at h3f; cases h3f
              rw [Ai]
              cases h5f:Nat.ble i 73786976294838206463 with
              | true =>
                have h5 := Ab.1 h5f
                rw [Ac]
                have hg2:R.good (apC i j fun v => κ v h n) := by
                  have hg3 := hg'
                  rw [e3] at hg3
                  unfold XB at hg3
                  rw [show Nat.beq i 0=false from hi, Ai, h2f, Ai, h3f, Ai, h5f, Ac] at hg3
                  exact hg3
                exact Vw hg2 h3 h5
              | false =>
                have h5:¬ i≤73786976294838206463 := fun h => by rw [Ab.2 h] at h5f; cases h5f
                rw [Ai]
                have hg2:R.good (Zp i j fun v => κ v h n) := by
                  have hg3 := hg'
                  rw [e3] at hg3
                  unfold XB at hg3
                  rw [show Nat.beq i 0=false from hi, Ai, h2f, Ai, h3f, Ai, h5f, Ai] at hg3
                  exact hg3
                exact VR hg2 h5
      obtain ⟨v, e4, hv⟩ := key
      refine ⟨v, e1.trans (e2.trans (e3.trans e4)), fun φ a w hT g => ?_⟩
      have g1 := Ad hx hT
      rw [hxv] at g1
      simp only [Ap] at g1
      obtain ⟨b, q, c, e, fr, gx, c1, c2⟩ := g1
      obtain ⟨y, y1, y2⟩ := c2 0 (by omega)
      refine ⟨y, ?_, hv φ y y2⟩
      have hc := (g.glob b c e fr c1).2
      simp [execOp, ho, gx, Instr.loadAt, Instr.sureAddr, loadVar, Cj ha, GG hc (show c[q]? = some y from y1)]
    | rp l =>
      cases l with
      | nil => exact hg.elim
      | cons v l =>
      refine ⟨v.v, e1.trans e2, fun φ a w hT g => ?_⟩
      have g1 := Ad hx hT
      rw [hxv] at g1
      simp only [Ap] at g1
      obtain ⟨b, q, c, e, fr, gx, c1, c2⟩ := g1
      obtain ⟨y, y1, y2⟩ := c2 0 v rfl
      refine ⟨y, ?_, P2 y2⟩
      have hc := (g.glob b c e fr c1).2
      simp [execOp, ho, gx, Instr.loadAt, Instr.sureAddr, loadVar, Cj ha, GG hc (show c[q]? = some y from y1)]
    | _ => exact hg.elim
  rw [e2] at hg
  obtain ⟨cs, sup, prev, hp, e3⟩ := Dc hg
  rw [e3] at hg
  obtain ⟨v, hv, e4⟩ := HD hg
  refine ⟨v, e1.trans (e2.trans (e3.trans e4)), fun φ a w hT g => ?_⟩
  have g1 := Ad hx hT
  rw [hxv] at g1
  obtain ⟨b, s, tot, hφ, gx⟩ := D4 g1
  obtain ⟨c, e, fr, k1, k2, k3, k4, k5⟩ := g.obj p _ b s tot hp hφ
  obtain ⟨X, hX, hr, _⟩ := k5 off v hv
  refine ⟨X, ?_, hr⟩
  simp [execOp, ho, gx, Instr.loadAt, Instr.sureAddr, loadVar, Cj ha, GG k1 hX]
theorem Nj {ty:TypeId} {m:Nat} {x:Operand} {x':Opd} (ho:o.op = .load ty x) (hx:AB N x=some x') (ha:Ln P ty=some true) (hm:Bj P ty=some m):B7 P ρ B N o (N7 m x' cf t h n) t h n := by
  intro κ hg
  have e1:N7 m x' cf t h n κ=Md (ev x' t) (fun p off => Hs p h fun cs _ _ => AW cs off m fun y => Ea y fun l => κ (.agg l) h n) (fun o => Ld o (fun l => br (Nat.ble m l.length) (κ (.agg ((l.take m).map RV.v)) h n) (.fail "")) (.fail "")) := by simp only [N7, Av]
  rw [e1] at hg
  rcases Ih hg with ⟨p, off, hxv, e2⟩ | ⟨oo, hxv, e2⟩
  rotate_left
  · rw [e2] at hg
    cases oo with
    | rp l =>
      have hg':R.good (br (Nat.ble m l.length) (κ (.agg ((l.take m).map RV.v)) h n) (.fail "")) := hg
      obtain ⟨h1, e3⟩ := Af hg'
      have h1 := Ab.1 h1
      refine ⟨.agg ((l.take m).map RV.v), e1.trans (e2.trans e3), fun φ a w hT g => ?_⟩
      have g1 := Ad hx hT
      rw [hxv] at g1
      simp only [Ap] at g1
      obtain ⟨b, q, c, e, fr, gx, c1, c2⟩ := g1
      have c3:RD ρ (l.take m) c q := fun j v hv => by
        rw [List.getElem?_take] at hv
        split at hv
        · exact c2 j v hv
        · cases hv
      obtain ⟨vs, q1, q2, q3, q4⟩ := Ls (φ := φ) c3
      have hlm:vs.length=m := by rw [q1, List.length_take]; omega
      have hrun := Dw (P := P) (w := w) (off := q) vs (g.glob b c e fr c1).2 q2
      rw [hlm] at hrun
      refine ⟨.agg vs.toArray, ?_, ?_⟩
      · simp [execOp, ho, gx, Instr.loadAt, Instr.sureAddr, loadVar, Cj ha, AL hm, hrun]
      · simp only [Ap]
        exact ⟨_, rfl, q4, q3⟩
    | _ => exact hg.elim
  rw [e2] at hg
  obtain ⟨cs, sup, prev, hp, e3⟩ := Dc hg
  rw [e3] at hg
  obtain ⟨hle, y, hyl, hya, e4⟩ := CL hg
  obtain ⟨l, e5, hll, hla⟩ := Gy y fun l => κ (.agg l) h n
  refine ⟨.agg l, e1.trans (e2.trans (e3.trans (e4.trans e5))), fun φ a w hT g => ?_⟩
  have g1 := Ad hx hT
  rw [hxv] at g1
  obtain ⟨b, s, tot, hφ, gx⟩ := D4 g1
  obtain ⟨c, e, fr, k1, k2, k3, k4, k5⟩ := g.obj p _ b s tot hp hφ
  obtain ⟨vs, q1, q2, q3, q4⟩ := IB (Hm k5 hyl hya)
  have hrun := Dw (P := P) (off := s+off) vs k1 (fun j v hj => by have := q2 j v hj; rwa [←Nat.add_assoc] at this)
  rw [q1, hyl] at hrun
  refine ⟨.agg vs.toArray, ?_, ?_⟩
  · simp [execOp, ho, gx, Instr.loadAt, Instr.sureAddr, loadVar, Cj ha, AL hm, hrun]
  · simp only [Ap]
    exact ⟨_, rfl, q4 l (by rw [hll]) hla, q3⟩
theorem FK {p:K4} {off:Nat} {y:Cs} {κ:Heap->R} (hg:(E1 h p off y κ).good):∃ cs prev z, A9 p h=some (.c cs false prev)∧Sh cs off y z ∧
    E1 h p off y κ=κ (Ae p (Ee prev h) (some (.c z false none))) := by
  obtain ⟨cs, sup, prev, hp, e1⟩ := Dc (show R.good (Hs p h _) from hg)
  have e1:E1 h p off y κ=_ := e1
  rw [e1] at hg
  obtain ⟨h2, e2⟩ := Gj hg
  subst h2
  rw [e2] at hg
  obtain ⟨z, hz, e3⟩ := SO hg
  refine ⟨cs, prev, z, hp, hz, e1.trans (e2.trans (e3.trans ?_))⟩
  rw [EM, AT]
theorem FR {φ:AO} {w:World} (g:Gam ρ B h n φ w) {p:K4} {off:Nat} {cs y z:Cs} {prev:Option K4} {b s tot:Nat} (hp:A9 p h=some (.c cs false prev)) (hφ:φ p=some (b, s, tot)) (hz:Sh cs off y z)
    {vs:List Value} (hl:vs.length=y.len) (hv:∀ i v, y.at i=some v->∃ x, vs[i]? = some x∧Ap ρ φ v x) (h1:∀ x∈vs, x.oneCell'=true) :
    ∃ w', (storeCells ⟨b, s+off, none⟩ vs).run P w = .ok () w'∧Gam ρ B (Ae p (Ee prev h) (some (.c z false none))) n φ w'∧Fr h (Ae p (Ee prev h) (some (.c z false none))) φ φ n n w w' := by
  obtain ⟨c, e, fr, k1, k2, k3, k4, k5⟩ := g.obj p _ b s tot hp hφ
  obtain ⟨z1, z2, z3, z4, z5⟩ := hz
  obtain ⟨c', q1, q2, q3, q4⟩ := Hi (P := P) vs w b (s+off) 0 c e fr k1 (by omega) (by rw [k2]; exact k4) h1
  have hb := (g.blk p b s tot hφ).2
  refine ⟨_, q4, g.write (o := .c cs false prev) (o' := .c z false none) hp hφ rfl rfl ⟨c', e, fr, DU hb, by rw [q1, k2], by rw [z2]; exact k3, k4, fun i v hi => ?_⟩, Fr.write (o := .c cs false prev) hp hφ⟩
  by_cases ha:i<off
  · rw [z3 i ha] at hi
    obtain ⟨x, hx, hr⟩ := k5 i v hi
    exact ⟨x, by show c'[s+i]? = some x; rw [q2 (s+i) (by omega)]; exact hx, hr⟩
  · by_cases hb':i<off+y.len
    · obtain ⟨j, rfl⟩:∃ j, i=off+j := ⟨i - off, by omega⟩
      rw [z4 j (by omega)] at hi
      obtain ⟨x, hx, hr⟩ := hv j v hi
      refine ⟨x, ?_, hr, h1 x (List.mem_of_getElem? hx)⟩
      show c'[s+(off+j)]? = some x
      rw [←q3 j x hx]; congr 1; omega
    · rw [z5 i (by omega)] at hi
      obtain ⟨x, hx, hr⟩ := k5 i v hi
      exact ⟨x, by show c'[s+i]? = some x; rw [q2 (s+i) (by omega)]; exact hx, hr⟩
theorem UA {ty:TypeId} {m:Nat} {x y:Operand} {x' y':Opd} (hρ:Bq ρ) (ho:o.op = .store ty x y) (hx:AB N x=some x') (hy:AB N y=some y') (hm:Bj P ty=some m) :
    CU P ρ B N o (Tk m x' y' cf t h n) t h n := by
  intro κ hg
  have e1:Tk m x' y' cf t h n κ=KB (ev x' t) fun p off => Es (ev y' t) fun l => GL l fun k => br (Nat.beq k m) (E1 h p off (.l l) fun h' => κ B4 h' n) (.fail "") := by simp only [Tk, Av]
  rw [e1] at hg
  obtain ⟨p, off, hxv, e2⟩ := DD hg
  rw [e2] at hg
  obtain ⟨hc, e3⟩ := FN hg
  rw [e3, D5] at hg
  obtain ⟨h4, e4⟩ := Af hg
  have h4 := Nat.eq_of_beq_eq_true h4
  rw [e4] at hg
  obtain ⟨cs, prev, z, hp, hz, e5⟩ := FK hg
  refine ⟨B4, _, n, e1.trans (e2.trans (e3.trans ((D5 _ _).trans (e4.trans e5)))), .skip fun φ a w hT g => ?_⟩
  have g1 := Ad hx hT
  rw [hxv] at g1
  obtain ⟨b, s, tot, hφ, gx⟩ := D4 g1
  obtain ⟨hl, h1⟩ := HF hρ hc (Ad hy hT)
  have hlen := AX hl
  obtain ⟨w', q1, q2, q3⟩ := FR (P := P) g hp hφ hz (vs := (a.eval y).cells.toList) (by rw [hlen]; rfl) (fun i v hi => (Cl.1 hl).2 i v hi) h1
  refine ⟨φ, w', ?_, q3, q2⟩
  have hsz:(a.eval y).cells.size=m := by rw [←h4, ←hlen]; simp
  simp [execOp, ho, gx, Instr.storeAt, Instr.sureAddr, storeVar, AL hm, hsz, q1]
theorem NM {ty e:TypeId} {m esz:Nat} {x:Operand} {lo hi:Option Operand} {x':Opd} {lo' hi':Option Opd} (ho:o.op = .slice ty x lo hi none) (hx:AB N x=some x') (hlo:GC N lo=some lo') (hhi:GC N hi=some hi')
    (ht:P.underlying ty=some (.array m e)) (he:Bj P e=some esz):B7 P ρ B N o (J0 m esz x' lo' hi' cf t h n) t h n := by
  intro κ hg
  have e1:J0 m esz x' lo' hi' cf t h n κ=KB (ev x' t) fun p off => Hs p h fun cs _ _ => br (Nat.ble (Nat.add off (Nat.mul m esz)) cs.len) (BX hi' t m fun b => BX lo' t 0 fun a => br (Nat.ble a b) (br (Nat.ble b m) (κ (.sl p (Nat.add off (Nat.mul a esz)) (Nat.sub b a) (Nat.sub m a) true esz) h n) (.fail "")) (.fail "")) (.fail "") := by
    simp only [J0, Av, A7, Ru]
  rw [e1] at hg
  obtain ⟨p, off, hxv, e2⟩ := DD hg
  rw [e2] at hg
  obtain ⟨cs, sup, prev, hp, e3⟩ := Dc hg
  rw [e3] at hg
  obtain ⟨h4, e4⟩ := Af hg
  have h4 := Ab.1 h4
  simp only [Nat.add_eq, Nat.mul_eq] at h4
  rw [e4] at hg
  obtain ⟨b, e5, hb⟩ := BV (ρ := ρ) hhi hg
  rw [e5] at hg
  obtain ⟨a, e6, ha⟩ := BV (ρ := ρ) hlo hg
  rw [e6] at hg
  obtain ⟨h7, e7⟩ := Af hg
  rw [e7] at hg
  obtain ⟨h8, e8⟩ := Af hg
  have h7 := Ab.1 h7; have h8 := Ab.1 h8
  refine ⟨_, e1.trans (e2.trans (e3.trans (e4.trans (e5.trans (e6.trans (e7.trans e8)))))), fun φ ac w hT g => ?_⟩
  have g1 := Ad hx hT
  rw [hxv] at g1
  obtain ⟨bk, s, tot, hφ, gx⟩ := D4 g1
  obtain ⟨c, e', fr, k1, k2, k3, k4, k5⟩ := g.obj p _ bk s tot hp hφ
  refine ⟨.slice (if m=a then some ⟨bk, s+off, none⟩ else some ⟨bk, s+off+a*esz, none⟩) (b - a) (m - a), ?_, ?_⟩
  · have hsw:(if m=a then some (⟨bk, s+off, none⟩:Addr) else some ⟨bk, s+off+a*esz, none⟩)=some (if m=a then ⟨bk, s+off, none⟩ else ⟨bk, s+off+a*esz, none⟩) := by split <;> rfl
    rw [hsw]
    simp only [execOp, ho, gx, Instr.sliceAt, Instr.sureAddr, Sem.run_bind, run_underlying ht, Result.andThen_ok, Option.map_none, Sem.run_pure]
    simp [Di (ha φ ac hT) (hb φ ac hT) h7 h8, AL he, Ca]
  · simp only [Ap]
    have hmul:m - a=0∨a*esz+(m - a)*esz=m*esz := by
      rcases Nat.lt_or_ge a m with h' | h'
      · right; rw [←Nat.add_mul]; congr 1; omega
      · left; omega
    by_cases hca:m=a
    · rw [if_pos hca]
      refine ⟨bk, s, tot, s+off, m - a, hφ, rfl, by show b - a≤m - a; omega, Nat.le_refl _, fun _ => rfl, fun h0 => by omega⟩
    · rw [if_neg hca]
      refine ⟨bk, s, tot, s+off+a*esz, m - a, hφ, rfl, by show b - a≤m - a; omega, Nat.le_refl _, fun _ => rfl, fun h0 => ⟨by show s+off+a*esz=s+(off+a*esz); omega, ?_⟩⟩
      rcases hmul with h' | h'
      · omega
      · omega
theorem Ij {xs:List V} {κ:Nat->Nat->R} {why:String} (hg:(Cu xs κ (.fail why)).good):∃ m c, Cu xs κ (.fail why)=κ m c∧(Cs.b m c).len=xs.length∧(∀ i, (Cs.b m c).at i=xs[i]?)∧c<256 ^ m := by
  rcases KT xs κ (.fail why) with e | e
  · rw [e] at hg; exact hg.elim
  · exact e
/-- Bytes, read one by one into a string. -/
theorem IA {φ:AO} {m c:Nat} {vs:List Value} (hl:vs.length=m) (hv:∀ i v, (Cs.b m c).at i=some v->∃ x, vs[i]? = some x∧Ap ρ φ v x) :
    ∃ bs:List UInt8, vs=bs.map (fun b => Value.int .u8 b.toNat)∧bs.length=m∧Ar bs=c % 256 ^ m := by
  induction m generalizing c vs with
  | zero =>
    have:vs=[] := List.eq_nil_of_length_eq_zero hl
    subst this
    exact ⟨[], rfl, rfl, by simp [Ar, Nat.mod_one]⟩
  | succ m ih =>
    cases vs with
    | nil => simp at hl
    | cons v vs =>
      obtain ⟨x, hx, hr⟩ := hv 0 _ (Cs.b_pos (by omega))
      simp at hx; subst hx
      obtain ⟨hlt, rfl⟩ := Cm hr
      obtain ⟨bs, rfl, hbl, hbe⟩ := ih (c := c / 256) (vs := vs) (by simpa using hl) (fun i u hu => by
        have hi := Cs.lt_of_at hu
        simp only [Cs.len] at hi
        rw [Cs.b_pos hi] at hu
        have := hv (i+1) u (by rw [Cs.b_pos (by omega), Nat.pow_succ, Nat.mul_comm, ←Nat.div_div_eq_div_mul]; exact hu)
        simpa using this)
      have hc:c / 256 ^ 0 % 256=c % 256 := by simp
      rw [hc] at hlt ⊢
      refine ⟨UInt8.ofNat (c % 256)::bs, ?_, by simp [hbl], ?_⟩
      · have:(UInt8.ofNat (c % 256)).toNat=c % 256 := by simp
        simp only [List.map_cons, List.cons.injEq, and_true, this]
        rw [Aj (by simp [Hk]; omega)]
      · have:(UInt8.ofNat (c % 256)).toNat=c % 256 := by simp
        simp only [Ar, this, hbe]
        rw [Nat.pow_succ, Nat.mul_comm (256 ^ m) 256, Nat.mod_mul]
theorem run_bytesToString {a:Addr} {len cap:Nat} {w:World} (bs:List UInt8) (hl:bs.length=len) (h:(loadCells a len).run P w = .ok (bs.map (fun b => Value.int .u8 b.toNat)).toArray w) :
    (Conv.bytesToString (.slice (some a) len cap)).run P w = .ok (.string ⟨bs.toArray⟩) w := by
  have h' := Go.run_bytesToString w a len cap (bs.map fun b => (b.toNat:Int)) (by rw [List.map_map]; exact h)
  rw [h']
  have key:∀ (bs:List UInt8) (s:ByteArray), (bs.map fun b => (b.toNat:Int)).foldl (fun r n => r.push (UInt8.ofNat n.toNat)) s=⟨s.data++bs.toArray⟩ := by
    intro bs
    induction bs with
    | nil => intro s; simp
    | cons b bs ih =>
      intro s
      rw [List.map_cons, List.foldl_cons, ih]
      simp [ByteArray.push]
  rw [key]; simp
theorem MX {src dst e:TypeId} {x:Operand} {x':Opd} (ho:o.op = .convert src dst x) (hx:AB N x=some x') (hs:P.underlying src=some (.slice e)) (hd:P.underlying dst=some .string) (he:P.underlying e=some (.int .u8)) :
    B7 P ρ B N o (Kb x' cf t h n) t h n := by
  intro κ hg
  have e1:Kb x' cf t h n κ=Ec (ev x' t) (κ (.str 0 0) h n) (fun p off len cap ex esz => br (Nat.beq esz 1) (Hs p h fun cs _ _ => AW cs off len fun y => Ea y fun l => Cu l (fun m c => κ (.str m c) h n) (.fail "")) (.fail "")) (fun o => HY o (fun m c => κ (.str m c) h n) (.fail "")) := by
    simp only [Kb, Av]
  rw [e1] at hg
  rcases G1 hg with ⟨hxv, e2⟩ | ⟨p, off, len, cap, ex, esz, hxv, e2⟩ | ⟨oo, hxv, e2⟩
  · refine ⟨_, e1.trans e2, fun φ a w hT g => ?_⟩
    have g1 := Ad hx hT
    rw [hxv] at g1
    have gx := C5 g1
    refine ⟨.string .empty, ?_, Sf .empty ρ φ⟩
    simp [execOp, ho, gx, Cd, convert, run_underlying hs, run_underlying hd, run_underlying he, Conv.bytesToString]
  · rw [e2] at hg
    obtain ⟨h3, e3⟩ := Af hg
    have h3 := Nat.eq_of_beq_eq_true h3
    subst h3
    rw [e3] at hg
    obtain ⟨cs, sup, prev, hp, e4⟩ := Dc hg
    rw [e4] at hg
    obtain ⟨hle, y, hyl, hya, e5⟩ := CL hg
    rw [e5] at hg
    obtain ⟨l, e6, hll, hla⟩ := Gy y fun l => Cu l (fun m c => κ (.str m c) h n) (.fail "")
    rw [e6] at hg
    obtain ⟨m, c, e7, hml, hma, hcan⟩ := Ij hg
    · refine ⟨_, e1.trans (e2.trans (e3.trans (e4.trans (e5.trans (e6.trans e7))))), fun φ a w hT g => ?_⟩
      have g1 := Ad hx hT
      rw [hxv] at g1
      obtain ⟨b, s, tot, q, cap', hφ, gx, c1, c2, c3, c4⟩ := D0 g1
      obtain ⟨cc, e', fr, k1, k2, k3, k4, k5⟩ := g.obj p _ b s tot hp hφ
      obtain ⟨vs, q1, q2, q3, q4⟩ := IB (Hm k5 hyl hya)
      have hm:m=len := by simp only [Cs.len] at hml; rw [hml, hll, hyl]
      subst hm
      obtain ⟨bs, hbs, hbl, hbe⟩ := IA (ρ := ρ) (φ := φ) (m := m) (c := c) (vs := vs) (by rw [q1, hyl]) (fun i v hv => by
        rw [hma i, hla i] at hv
        exact (Cl.1 (q4 l hll hla)).2 i v (by rw [hla i]; exact hv))
      rw [Nat.mod_eq_of_lt hcan] at hbe
      refine ⟨.string ⟨bs.toArray⟩, ?_, ?_⟩
      · have hload:(loadCells ⟨b, q, none⟩ m).run P w = .ok (bs.map (fun b => Value.int .u8 b.toNat)).toArray w := by
          rcases Nat.eq_zero_or_pos m with h0 | h0
          · subst h0
            have:bs=[] := List.eq_nil_of_length_eq_zero hbl
            subst this; rfl
          · obtain ⟨c5, c6⟩ := c4 (by omega)
            have hrun := Dw (P := P) (off := s+off) vs k1 (fun j v hj => by have := q2 j v hj; rwa [←Nat.add_assoc] at this)
            rw [q1, hyl, hbs] at hrun
            rw [c5]; exact hrun
        simp only [execOp, ho, gx, convert, Sem.run_bind, run_underlying hs, run_underlying hd, run_underlying he, Result.andThen_ok, run_bytesToString bs hbl hload, Sem.run_pure]
      · simp only [Ap]
        exact ⟨⟨bs.toArray⟩, rfl, by simp [ByteArray.size, hbl], by simpa using hbe⟩
  · rw [e2] at hg
    cases oo with
    | rb m d =>
      refine ⟨.str m d, e1.trans e2, fun φ a w hT g => ?_⟩
      have g1 := Ad hx hT
      rw [hxv] at g1
      simp only [Ap, H6] at g1
      obtain ⟨ad, cap, gx, c1, c3, c4⟩ := g1
      obtain ⟨vs, q1, q2⟩:∃ vs:List Value, vs.length=m ∧ ∀ j, j<m->vs[j]? = some (.int .u8 ((d / 256 ^ j % 256:Nat):Int)) :=
        ⟨(List.range m).map fun j => .int .u8 ((d / 256 ^ j % 256:Nat):Int), by simp, fun j hj => by simp [List.getElem?_range hj]⟩
      obtain ⟨bs, hbs, hbl, hbe⟩ := IA (ρ := ρ) (φ := φ) (m := m) (c := d) (vs := vs) q1 (fun i v hv => by
        have hi:i<m := Cs.lt_of_at hv
        have hv:(if i<m then some (V.int .u8 (d / 256 ^ i % 256)) else none)=some v := hv
        rw [if_pos hi] at hv
        cases hv
        have hlt:d / 256 ^ i % 256<256 := Nat.mod_lt _ (by decide)
        exact ⟨_, q2 i hi, by simp only [Ap]; exact ⟨hlt, by rw [Aj (by simp only [Hk]; exact hlt)]⟩⟩)
      rw [Nat.mod_eq_of_lt c3] at hbe
      refine ⟨.string ⟨bs.toArray⟩, ?_, ?_⟩
      · have hload:(loadCells ad m).run P w = .ok (bs.map (fun b => Value.int .u8 b.toNat)).toArray w := by
          rcases Nat.eq_zero_or_pos m with h0 | h0
          · subst h0
            have:bs=[] := List.eq_nil_of_length_eq_zero hbl
            subst this; rfl
          obtain ⟨b, q, cc, e', fr, rfl, c2, c4⟩ := c4 h0
          have hrun := Dw (P := P) (w := w) (off := q) vs (g.glob b cc e' fr c2).2 (fun j v hj => by
            have hj':j<m := by rw [←q1]; exact (List.getElem?_eq_some_iff.1 hj).1
            rw [q2 j hj'] at hj
            rw [c4 j hj']; exact hj)
          rw [q1, hbs] at hrun
          exact hrun
        simp only [execOp, ho, gx, convert, Sem.run_bind, run_underlying hs, run_underlying hd, run_underlying he, Result.andThen_ok, run_bytesToString bs hbl hload, Sem.run_pure]
      · simp only [Ap]
        exact ⟨⟨bs.toArray⟩, rfl, by simp [ByteArray.size, hbl], by simpa using hbe⟩
    | _ => exact hg.elim
end
end Go.Ev

namespace Go.Ev
set_option linter.unusedVariables false
section
variable {P:Program} {ρ:Env} {B N:Nat} {o:Oper} {cf:CF} {t:Regs} {h:Heap} {n:K4}
theorem FG {φ:AO} {es:List (V×V)}:∀ {l:List MapEntry}, Hw ρ φ es l->l.length=es.length := by
  induction es with
  | nil => intro l h; have h:l=[] := h; subst h; rfl
  | cons e es ih => rintro l ⟨y, ys, rfl, _, _, h⟩; simp [ih h]
theorem KL {φ:AO} {es:List (V×V)}:∀ {l:List MapEntry} {i:Nat} {e:V×V}, Hw ρ φ es l->es[i]? = some e->∃ m, l[i]? = some m∧Ap ρ φ e.1 m.key∧Ap ρ φ e.2 m.val := by
  induction es with
  | nil => intro l i e h he; simp at he
  | cons x es ih =>
    rintro l i e ⟨y, ys, rfl, h1, h2, h⟩ he
    cases i with
    | zero => simp at he; subst he; exact ⟨y, rfl, h1, h2⟩
    | succ i => simpa using ih h (by simpa using he)
theorem Vm {φ:AO} {es:List (V×V)}:∀ {l:List MapEntry} {i:Nat} {e:V×V} {m:MapEntry}, Hw ρ φ es l->Ap ρ φ e.1 m.key->Ap ρ φ e.2 m.val->Hw ρ φ (es.set i e) (l.set i m) := by
  induction es with
  | nil => intro l i e m h _ _; have h:l=[] := h; subst h; rfl
  | cons x es ih =>
    rintro l i e m ⟨y, ys, rfl, h1, h2, h⟩ k1 k2
    cases i with
    | zero => exact ⟨m, ys, rfl, k1, k2, h⟩
    | succ i => exact ⟨y, ys.set i m, rfl, h1, h2, ih h k1 k2⟩
theorem Te {φ:AO} {es:List (V×V)}:∀ {l:List MapEntry} {e:V×V} {m:MapEntry}, Hw ρ φ es l->Ap ρ φ e.1 m.key->Ap ρ φ e.2 m.val->Hw ρ φ (es++[e]) (l++[m]) := by
  induction es with
  | nil => intro l e m h k1 k2; have h:l=[] := h; subst h; exact ⟨m, [], rfl, k1, k2, rfl⟩
  | cons x es ih => rintro l e m ⟨y, ys, rfl, h1, h2, h⟩ k1 k2; exact ⟨y, ys++[m], rfl, h1, h2, ih h k1 k2⟩
theorem Rc {φ:AO} {es:List (V×V)}:∀ {l:List MapEntry} {i:Nat}, Hw ρ φ es l->Hw ρ φ (es.eraseIdx i) (l.eraseIdx i) := by
  induction es with
  | nil => intro l i h; have h:l=[] := h; subst h; rfl
  | cons x es ih =>
    rintro l i ⟨y, ys, rfl, h1, h2, h⟩
    cases i with
    | zero => exact h
    | succ i => exact ⟨y, ys.eraseIdx i, rfl, h1, h2, ih h⟩
def XI (pl:Plan) (x:V):Prop :=
  match pl with
  | .sc .i => ∃ k m, x = .int k m
  | .sc .s => ∃ m c, x = .str m c
  | .sc .b => ∃ q, x = .bool q
  | .ks l => ∃ a, x = .agg a∧a.length=l.length
  | _ => False
theorem Qr (ks:List Sc):∀ {a:List V} {κ:R}, (PV ks a κ).good->a.length=ks.length∧PV ks a κ=κ := by
  induction ks with
  | nil => intro a κ h; cases a with
    | nil => exact ⟨rfl, rfl⟩
    | cons => exact h.elim
  | cons k ks ih => intro a κ h; cases a with
    | nil => exact h.elim
    | cons u a => have := ih (a := a) (κ := κ) h; exact ⟨by simp [this.1], this.2⟩
theorem JG {pl:Plan} {v:V} {κ:R} (h:(Lf pl v κ).good):XI pl v∧Lf pl v κ=κ := by
  cases pl with
  | sc k =>
    cases k with
    | i => obtain ⟨k, m, rfl, e⟩ := CA (show R.good (Hh v fun _ _ => κ) from h); exact ⟨⟨k, m, rfl⟩, rfl⟩
    | s => obtain ⟨k, m, rfl, e⟩ := C8 (show R.good (Bc v fun _ _ => κ) from h); exact ⟨⟨k, m, rfl⟩, rfl⟩
    | b => obtain ⟨q, rfl, e⟩ := Fy (show R.good (Qh v fun _ => κ) from h); exact ⟨⟨q, rfl⟩, rfl⟩
  | st fs => exact h.elim
  | ks l =>
    obtain ⟨a, rfl, e⟩ := CR (show R.good (asAgg v fun a => PV l a κ) from h)
    obtain ⟨h1, h2⟩ := Qr l (show R.good (PV l a κ) from h)
    exact ⟨⟨a, rfl, h1⟩, h2⟩
  | rf w => exact h.elim
theorem E6 {kt:TypeId} {pl:Plan} (hp:I0 P kt=some pl) {b:Bool} {d:Nat} {K:Value} (hK:(∃ k n, K = .int k n)∨(∃ s, K = .string s)∨(∃ q, K = .bool q) ∨ ∃ cs:Array Value, K = .agg cs ∧ ∀ l, pl = .ks l->cs.size=l.length) (w:World)
    (hsh:(∃ fs, P.underlying kt=some (.struct fs))->∃ cs, K = .agg cs):(Instr.checkKey b (d+2) kt K).run P w = .ok () w := by
  have leaf:∀ (e:Nat) (t:TypeId) (X:Value) (k:Sc), Qg P t=some k->(Instr.checkKey b (e+1) t X).run P w = .ok () w := fun e t X k hk => by
    unfold Qg at hk
    split at hk
    · rename_i hu; cases X <;> simp [Instr.checkKey, run_underlying hu]
    · rename_i hu; cases X <;> simp [Instr.checkKey, run_underlying hu]
    · rename_i hu; cases X <;> simp [Instr.checkKey, run_underlying hu]
    · cases hk
  unfold I0 at hp
  split at hp
  · rename_i fs hu
    split at hp
    · cases hp
    · split at hp
      · rename_i offs hoffs
        split at hp
        · rename_i hr
          cases hp
          obtain ⟨cs, rfl⟩ := hsh ⟨fs, hu⟩
          have hcs:cs.size=offs.length := by
            rcases hK with ⟨_, _, h⟩ | ⟨_, h⟩ | ⟨_, h⟩ | ⟨cs', h, hl⟩
            · cases h
            · cases h
            · cases h
            · cases h; simpa using hl _ rfl
          rw [Instr.checkKey]
          simp only [Sem.run_bind, run_underlying hu, Result.andThen_ok]
          rw [←Array.forIn_toList]
          have key:∀ (fs:List Field) (offs':List (Nat×Sc)), He P fs=some offs'->(∀ p∈offs', p.1<cs.size)->(forIn (m := Sem) fs PUnit.unit (fun f r => if f.name ≠ "_" then do
                Instr.checkKey b (d+1) f.type (←part f.type cs f.offset)
                pure (ForInStep.yield PUnit.unit) else pure (ForInStep.yield PUnit.unit))).run P w = .ok PUnit.unit w := by
            intro fs
            induction fs with
            | nil => intro offs' _ _; simp
            | cons f fs ih =>
              intro offs' ho hlt
              simp only [He] at ho
              split at ho
              · rename_i hn
                split at ho
                · rename_i k r hk hr
                  cases ho
                  have hof:f.offset<cs.size := hlt _ (List.mem_cons_self ..)
                  have hpart := Hy (w := w) hk (Array.getElem?_eq_getElem hof)
                  simp only [List.forIn_cons, hn, ne_eq, not_false_eq_true, if_true, Sem.run_bind, hpart, Result.andThen_ok, leaf d _ _ _ hk, Sem.run_pure]
                  exact ih _ hr fun p hp => hlt p (List.mem_cons_of_mem _ hp)
                · cases ho
              · cases ho
          have := key fs.toList offs hoffs (fun p hp => by
            obtain ⟨i, hi, rfl⟩ := List.getElem_of_mem hp
            have h1:(offs.map (·.1))[i]? = some offs[i].1 := by rw [List.getElem?_map, List.getElem?_eq_getElem hi]; rfl
            rw [hr, List.getElem?_range hi] at h1
            simp at h1
            omega)
          simp only [ne_eq, ite_not] at this ⊢
          rw [this]; rfl
        · cases hp
      · cases hp
  · cases hk:Qg P kt with
    | none => rw [hk] at hp; cases hp
    | some k => exact leaf (d+1) kt K k hk
/-- A key that was looked for is such a one. -/
theorem Gw {kt:TypeId} {pl:Plan} (hp:I0 P kt=some pl) {x:V} {φ:AO} {K:Value} (hK:Ap ρ φ x K) (hs:XI pl x) :
    ((∃ k n, K = .int k n)∨(∃ s, K = .string s)∨(∃ q, K = .bool q) ∨ ∃ cs:Array Value, K = .agg cs ∧ ∀ l, pl = .ks l->cs.size=l.length) ∧
    ((∃ fs, P.underlying kt=some (.struct fs))->∃ cs, K = .agg cs) := by
  unfold I0 at hp
  split at hp
  · rename_i fs hu
    split at hp
    · cases hp
    · split at hp
      · split at hp
        · cases hp
          obtain ⟨l, rfl, hl⟩ := hs
          obtain ⟨cs, rfl, hcs, _⟩ := EC hK
          have := AX hcs
          exact ⟨.inr (.inr (.inr ⟨cs, rfl, fun l' h => by cases h; simp at this hl ⊢; omega⟩)), fun _ => ⟨cs, rfl⟩⟩
        · cases hp
      · cases hp
  · rename_i hns
    cases hk:Qg P kt with
    | none => rw [hk] at hp; cases hp
    | some k =>
      rw [hk] at hp; cases hp
      refine ⟨?_, fun ⟨fs, hu⟩ => absurd hu (by intro hu; exact hns fs hu)⟩
      cases k with
      | i => obtain ⟨kd, m, rfl⟩ := hs; exact .inl ⟨_, _, (Cm hK).2⟩
      | s => obtain ⟨m, c, rfl⟩ := hs; obtain ⟨s, rfl, _⟩ := Cx hK; exact .inr (.inl ⟨s, rfl⟩)
      | b => obtain ⟨q, rfl⟩ := hs; exact .inr (.inr (.inl ⟨q, EJ hK⟩))
theorem PW {ty kt e:TypeId} {pl:Plan} {z:V} {zv:Value} {ok:Bool} {m k:Operand} {m' k':Opd} (ho:o.op = .lookup ty m k ok) (hm:AB N m=some m') (hk:AB N k=some k')
    (ht:P.underlying ty=some (.map kt e)) (hp:I0 P kt=some pl) (hzv:(P.info? e).bind (·.zero)=some zv) (hz:Jk zv=some z):B7 P ρ B N o (T6 pl z ok m' k' cf t h n) t h n := by
  intro κ hg
  have e1:T6 pl z ok m' k' cf t h n κ=Lf pl (ev k' t) (E3 (ev m' t) (br ok (κ (.tup [z, .bool false]) h n) (κ z h n)) (fun p => MK p h fun es _ _ => F0 pl (ev k' t) es (fun r => br ok (κ (.tup [r, .bool true]) h n) (κ r h n)) (br ok (κ (.tup [z, .bool false]) h n) (κ z h n)))) := by
    simp only [T6, Av]
  rw [e1] at hg
  obtain ⟨hko, e2⟩ := JG hg
  rw [e2] at hg
  have zr:∀ φ, Ap ρ φ z zv := fun φ => L3 hz φ
  -- what is told, of a value and whether it was there
  have tell:∀ (v:V) (q:Bool), br ok (κ (.tup [v, .bool q]) h n) (κ v h n)=κ (if ok then .tup [v, .bool q] else v) h n := fun v q => by cases ok <;> rfl
  have told:∀ (φ:AO) (v:V) (q:Bool) (X:Value), Ap ρ φ v X->Ap ρ φ (if ok then .tup [v, .bool q] else v) (if ok then .tuple #[X, .bool q] else X) := fun φ v q X hX => by
    cases ok with
    | true => simp only [if_true, Ap, BL]; exact ⟨_, rfl, _, _, rfl, hX, _, _, rfl, rfl, rfl⟩
    | false => exact hX
  rcases DL hg with ⟨hmv, e3⟩ | ⟨p, hmv, e3⟩
  · refine ⟨if ok then .tup [z, .bool false] else z, e1.trans (e2.trans (e3.trans (tell z false))), fun φ a w hT g => ⟨if ok then .tuple #[zv, .bool false] else zv, ?_, told φ z false zv (zr φ)⟩⟩
    have g1 := Ad hm hT
    rw [hmv] at g1
    have gx := C5 g1
    have g2 := Ad hk hT
    obtain ⟨s1, s2⟩ := Gw hp g2 hko
    have hck := E6 (P := P) (b := true) (d := 9998) hp s1 w s2
    have hfk := FS (P := P) (w := w) hp g2 (es := []) (ents := []) (r := none) rfl rfl
    simp only [execOp, ho, gx, Cd, Instr.lookup, Sem.run_bind, run_underlying ht, Result.andThen_ok, Sem.run_pure]
    simp [hck, hfk.1, DC hzv]
  · rw [e3] at hg
    obtain ⟨es, bs, clk, hpm, e4⟩ := EH hg
    rw [e4] at hg
    obtain ⟨r, hf, hr⟩ := LE hp hg
    have key:∀ φ a w, TR ρ N φ t a->Gam ρ B h n φ w->∃ ents clk b, a.eval m = .map (some b)∧w.heap[b]? = some (.map ents clk)∧Hw ρ φ es ents.toList ∧
        (Instr.checkKey ents.isEmpty 10000 kt (a.eval k)).run P w = .ok () w∧(Instr.findKey kt (a.eval k) ents.toList).run P w = .ok (r.bind fun i => (ents.toList[i]?).map fun e => (i, e.val)) w := fun φ a w hT g => by
      have g1 := Ad hm hT
      rw [hmv] at g1
      obtain ⟨b, s, tot, hφ, gx⟩ := FJ g1
      obtain ⟨ents, k1, k2, _⟩ := g.obj p _ b s tot hpm hφ
      have g2 := Ad hk hT
      obtain ⟨s1, s2⟩ := Gw hp g2 hko
      exact ⟨ents, clk, b, gx, k1, k2, E6 (d := 9998) hp s1 w s2, (FS hp g2 hf k2).1⟩
    cases r with
    | none =>
      refine ⟨if ok then .tup [z, .bool false] else z, e1.trans (e2.trans (e3.trans (e4.trans (Eq.trans hr (tell z false))))), fun φ a w hT g => ⟨if ok then .tuple #[zv, .bool false] else zv, ?_, told φ z false zv (zr φ)⟩⟩
      obtain ⟨ents, clk, b, gx, k1, k2, hck, hfk⟩ := key φ a w hT g
      have hgo:(getObj b).run P w = .ok (.map ents clk) w := by simp [getObj, Sem.run, k1]
      simp only [execOp, ho, gx, Instr.lookup, Sem.run_bind, run_underlying ht, Result.andThen_ok, Sem.run_pure, hgo, hck, hfk]
      simp [DC hzv]
    | some i =>
      obtain ⟨ee, hee, hr⟩ := hr
      refine ⟨if ok then .tup [ee.2, .bool true] else ee.2, e1.trans (e2.trans (e3.trans (e4.trans (Eq.trans hr (tell ee.2 true))))), fun φ a w hT g => ?_⟩
      obtain ⟨ents, clk, b, gx, k1, k2, hck, hfk⟩ := key φ a w hT g
      obtain ⟨mm, hmm, _, hval⟩ := KL k2 hee
      refine ⟨if ok then .tuple #[mm.val, .bool true] else mm.val, ?_, told φ ee.2 true mm.val hval⟩
      have hgo:(getObj b).run P w = .ok (.map ents clk) w := by simp [getObj, Sem.run, k1]
      have hmm':ents[i]? = some mm := by simpa using hmm
      simp only [execOp, ho, gx, Instr.lookup, Sem.run_bind, run_underlying ht, Result.andThen_ok, Sem.run_pure, hgo, hck, hfk]
      simp [hmm']
theorem IJ {α β:Type} (f:α->β):∀ (l:List α) (i:Nat), (l.eraseIdx i).map f=(l.map f).eraseIdx i
  | [], _ => rfl
  | _::_, 0 => rfl
  | x::l, i+1 => by simp [IJ f l i]
theorem Lb {b:Nat} {O O':Obj} {w:World} (h1:w.heap[b]? = some O) (h2:∀ c e f, O ≠ .cells c e f):(setObj b O').run P w = .ok () (D8 w b O') := by
  simp only [setObj, Sem.run, h1]
  cases O with
  | cells c e f => exact absurd rfl (h2 c e f)
  | _ => rfl
theorem JB {φ:AO} {w:World} (g:Gam ρ B h n φ w) {p:K4} {es es':List (V×V)} {bs bs':List Nat} {clk0:Nat} {b s tot:Nat} {ents:Array MapEntry} {clk:Nat} (hp:A9 p h=some (.m es bs clk0)) (hφ:φ p=some (b, s, tot)) (hok:Hw ρ φ es' ents.toList) (hbs:ents.toList.map (·.born)=bs') :
    Gam ρ B (Ae p h (some (.m es' bs' clk))) n φ (D8 w b (.map ents clk))∧Fr h (Ae p h (some (.m es' bs' clk))) φ φ n n w (D8 w b (.map ents clk)) := by
  have hb := (g.blk p b s tot hφ).2
  exact ⟨g.write (o := .m es bs clk0) (o' := .m es' bs' clk) hp hφ rfl rfl ⟨ents, DU hb, hok, hbs⟩, Fr.write (o := .m es bs clk0) hp hφ⟩
theorem Qd {ty kt e:TypeId} {pl:Plan} {m k v:Operand} {m' k' v':Opd} (ho:o.op = .mapUpdate ty m k v∨o.op = .insert ty m k v) (hm:AB N m=some m') (hk:AB N k=some k') (hv:AB N v=some v')
    (ht:P.underlying ty=some (.map kt e)) (hp:I0 P kt=some pl):CU P ρ B N o (SZ pl m' k' v' cf t h n) t h n := by
  intro κ hg
  have e1:SZ pl m' k' v' cf t h n κ=Lf pl (ev k' t) (E3 (ev m' t) (.fail "") (fun p => MK p h fun es bs c => EP pl (ev k' t) (ev v' t) es fun es => κ B4 (Ae p h (some (.m es (if es.length=bs.length then bs else bs++[c]) (if es.length=bs.length then c else c+1)))) n)) := by
    simp only [SZ, Av, AT, UG]
  rw [e1] at hg
  obtain ⟨hko, e2⟩ := JG hg
  rw [e2] at hg
  rcases DL hg with ⟨hmv, e3⟩ | ⟨p, hmv, e3⟩
  · rw [e3] at hg; exact hg.elim
  rw [e3] at hg
  obtain ⟨es, bs, clk, hpm, e4⟩ := EH hg
  rw [e4] at hg
  obtain ⟨r, hf, e5⟩ := Mq hp hg
  refine ⟨B4, _, n, e1.trans (e2.trans (e3.trans (e4.trans e5))), .skip fun φ a w hT g => ?_⟩
  have g1 := Ad hm hT
  rw [hmv] at g1
  obtain ⟨b, s, tot, hφ, gx⟩ := FJ g1
  obtain ⟨ents, k1, k2, k3⟩ := g.obj p _ b s tot hpm hφ
  have hlen:es.length=bs.length := by rw [←FG k2, ←k3, List.length_map]
  have g2 := Ad hk hT
  have g3 := Ad hv hT
  obtain ⟨s1, s2⟩ := Gw hp g2 hko
  have hck := E6 (P := P) (b := false) (d := 9998) hp s1 w s2
  obtain ⟨hfk, hsb⟩ := FS (P := P) (w := w) hp g2 hf k2
  have hgo:(getObj b).run P w = .ok (.map ents clk) w := by simp [getObj, Sem.run, k1]
  have hso:∀ O', (setObj b O').run P w = .ok () (D8 w b O') := fun O' => Lb k1 (by simp)
  have fin:∀ (es':List (V×V)) (ents':Array MapEntry) (bs':List Nat) (clk':Nat), Hw ρ φ es' ents'.toList->ents'.toList.map (·.born)=bs' →
      (Instr.mapUpdate ty (.map (some b)) (a.eval k) (a.eval v)).run P w = .ok () (D8 w b (.map ents' clk')) →
      ∃ φ' w', (execOp a.eval o).run P w = .ok .skip w'∧Fr h (Ae p h (some (.m es' bs' clk'))) φ φ' n n w w' ∧
        Gam ρ B (Ae p h (some (.m es' bs' clk'))) n φ' w' := fun es' ents' bs' clk' hok hbs hrun => by
    obtain ⟨q1, q2⟩ := JB (clk := clk') g hpm hφ hok hbs
    refine ⟨φ, _, ?_, q2, q1⟩
    rcases ho with ho | ho <;> simp [execOp, ho, gx, hrun]
  cases r with
  | none =>
    show ∃ φ' w', _∧Fr h (Ae p h (some (.m (es++[(ev k' t, ev v' t)]) (if (es++[(ev k' t, ev v' t)]).length=bs.length then bs else bs++[clk]) (if (es++[(ev k' t, ev v' t)]).length=bs.length then clk else clk+1)))) φ φ' n n w w'∧_
    have hne:(es++[(ev k' t, ev v' t)]).length≠bs.length := by simp; omega
    rw [if_neg hne, if_neg hne]
    refine fin _ (ents.push { key := a.eval k, val := a.eval v, born := clk }) _ (clk+1) ?_ ?_ ?_
    · rw [Array.toList_push]; exact Te k2 g2 g3
    · rw [Array.toList_push, List.map_append, k3]; rfl
    · simp only [Instr.mapUpdate, Sem.run_bind, run_underlying ht, Result.andThen_ok, hgo, hck, hfk]
      simp [hso]
  | some i =>
    obtain ⟨mm, hmm, hsame⟩ := hsb i rfl
    show ∃ φ' w', _∧Fr h (Ae p h (some (.m (es.set i (ev k' t, ev v' t)) (if (es.set i (ev k' t, ev v' t)).length=bs.length then bs else bs++[clk]) (if (es.set i (ev k' t, ev v' t)).length=bs.length then clk else clk+1)))) φ φ' n n w w'∧_
    have heq:(es.set i (ev k' t, ev v' t)).length=bs.length := by rw [List.length_set]; exact hlen
    rw [if_pos heq, if_pos heq]
    have hset:(ents.modify i fun e => { e with key := a.eval k, val := a.eval v }).toList=ents.toList.set i { mm with key := a.eval k, val := a.eval v } := by
      have hi:i<ents.toList.length := by
        rcases Nat.lt_or_ge i ents.toList.length with h' | h'
        · exact h'
        · rw [List.getElem?_eq_none h'] at hmm; cases hmm
      apply List.ext_getElem?
      intro j
      rw [Array.getElem?_toList, Array.getElem?_modify, List.getElem?_set]
      by_cases hj:i=j
      · subst hj
        have:ents[i]? = some mm := by simpa using hmm
        simp [this]; simpa using hi
      · simp [hj]
    refine fin _ (ents.modify i fun e => { e with key := a.eval k, val := a.eval v }) _ clk ?_ ?_ ?_
    · rw [hset]; exact Vm k2 g2 g3
    · rw [hset, ←k3, List.map_set]
      have hmb:(ents.toList.map (·.born))[i]? = some mm.born := by rw [List.getElem?_map, hmm]; rfl
      apply List.ext_getElem?
      intro j
      rw [List.getElem?_set]
      by_cases hj:i=j
      · subst hj
        rw [if_pos rfl, hmb]
        have hi:i<(ents.toList.map (·.born)).length := (List.getElem?_eq_some_iff.1 hmb).1
        rw [if_pos hi]
      · rw [if_neg hj]
    · have hmm':ents[i]? = some mm := by simpa using hmm
      simp only [Instr.mapUpdate, Sem.run_bind, run_underlying ht, Result.andThen_ok, hgo, hck, hfk]
      simp [hmm', Instr.keyThatStays, hsame, hso]
theorem T4 {ct:Call} {ty kt e:TypeId} {pl:Plan} {m k:Operand} {m' k':Opd} {ts:List TypeId} (ho:o.op = .call ct) (hb:ct.callee = .builtin .delete) (hts:ct.argTypes.toList=ty::ts) (hargs:ct.args.toList=[m, k])
    (hm:AB N m=some m') (hk:AB N k=some k') (ht:P.underlying ty=some (.map kt e)) (hp:I0 P kt=some pl):CU P ρ B N o (Nb pl m' k' cf t h n) t h n := by
  intro κ hg
  have e1:Nb pl m' k' cf t h n κ=Lf pl (ev k' t) (E3 (ev m' t) (κ (.tup []) h n) (fun p => MK p h fun es bs c => HW pl (ev k' t) es fun es' => HV pl (ev k' t) es bs fun bs => κ (.tup []) (Ae p h (some (.m es' bs c))) n)) := by
    simp only [Nb, Av, AT]
  rw [e1] at hg
  obtain ⟨hko, e2⟩ := JG hg
  rw [e2] at hg
  have hargs':ct.args = #[m, k] := by rw [←hargs]
  have hts':ct.argTypes[0]? = some ty := by rw [←Array.getElem?_toList, hts]; rfl
  have htup:∀ φ, Ap ρ φ (.tup []) (.tuple #[]) := fun φ => by simp only [Ap]; exact ⟨#[], rfl, by simp only [BL]⟩
  rcases DL hg with ⟨hmv, e3⟩ | ⟨p, hmv, e3⟩
  · refine ⟨_, h, n, e1.trans (e2.trans e3), .pure fun φ a w hT g => ⟨.tuple #[], ?_, htup φ⟩⟩
    have g1 := Ad hm hT
    rw [hmv] at g1
    have gx := C5 g1
    have g2 := Ad hk hT
    obtain ⟨s1, s2⟩ := Gw hp g2 hko
    have hck := E6 (P := P) (b := true) (d := 9998) hp s1 w s2
    simp only [execOp, ho, resolve, hb, hargs', invoke, builtin, Sem.run_bind, Sem.run_pure, Result.andThen_ok]
    simp [Builtin.delete_, hts', gx, Cd, run_underlying ht, hck]
  · rw [e3] at hg
    obtain ⟨es, bs, clk, hpm, e4⟩ := EH hg
    rw [e4] at hg
    obtain ⟨r, hf, e5⟩ := Na hp hg
    rw [e5] at hg
    have e6 := Mi hg hf
    refine ⟨_, _, n, e1.trans (e2.trans (e3.trans (e4.trans (e5.trans e6)))), .value fun φ a w hT g => ?_⟩
    have g1 := Ad hm hT
    rw [hmv] at g1
    obtain ⟨b, s, tot, hφ, gx⟩ := FJ g1
    obtain ⟨ents, k1, k2, k3⟩ := g.obj p _ b s tot hpm hφ
    have g2 := Ad hk hT
    obtain ⟨s1, s2⟩ := Gw hp g2 hko
    have hck := E6 (P := P) (b := ents.isEmpty) (d := 9998) hp s1 w s2
    obtain ⟨hfk, hsb⟩ := FS (P := P) (w := w) hp g2 hf k2
    have hgo:(getObj b).run P w = .ok (.map ents clk) w := by simp [getObj, Sem.run, k1]
    have hso:∀ O', (setObj b O').run P w = .ok () (D8 w b O') := fun O' => Lb k1 (by simp)
    cases r with
    | none =>
      obtain ⟨q1, q2⟩ := JB (clk := clk) (ents := ents) g hpm hφ k2 k3
      refine ⟨φ, .tuple #[], _, ?_, q2, q1, htup φ⟩
      simp only [execOp, ho, resolve, hb, hargs', invoke, builtin, Sem.run_bind, Sem.run_pure, Result.andThen_ok]
      simp [Builtin.delete_, hts', gx, run_underlying ht, hgo, hck, hfk, hso]
    | some i =>
      obtain ⟨mm, hmm, _⟩ := hsb i rfl
      have hmm':ents[i]? = some mm := by simpa using hmm
      have hi:i<ents.size := by
        rcases Nat.lt_or_ge i ents.size with h' | h'
        · exact h'
        · rw [Array.getElem?_eq_none h'] at hmm'; cases hmm'
      have hel:(ents.eraseIdxIfInBounds i).toList=ents.toList.eraseIdx i := by
        unfold Array.eraseIdxIfInBounds; rw [dif_pos hi]; simp
      obtain ⟨q1, q2⟩ := JB (clk := clk) (ents := ents.eraseIdxIfInBounds i) g hpm hφ (es' := es.eraseIdx i) (bs' := bs.eraseIdx i) (by rw [hel]; exact Rc k2) (by rw [hel, ←k3, IJ])
      refine ⟨φ, .tuple #[], _, ?_, q2, q1, htup φ⟩
      simp only [execOp, ho, resolve, hb, hargs', invoke, builtin, Sem.run_bind, Sem.run_pure, Result.andThen_ok]
      simp [Builtin.delete_, hts', gx, run_underlying ht, hgo, hck, hfk, hmm', hso]
theorem Ej {m:Nat} {κ:V->R} (hg:(DM m κ).good):m<Hk .i64∧DM m κ=κ (.int .i64 m) := by
  obtain ⟨h1, e1⟩ := Af (show R.good (br (Nat.ble (Nat.succ m) 9223372036854775808) (κ (.int .i64 m)) (.fail "")) from hg)
  exact ⟨Bs h1, e1⟩
theorem Dl {m:Nat} (hm:m<Hk .i64) (φ:AO):Ap ρ φ (.int .i64 m) (goInt m) := by
  simp only [Ap, goInt]
  exact ⟨Nat.lt_of_lt_of_le hm (H5 _), by rw [Aj hm]⟩
theorem WR (es:List (V×V)) (κ:Nat->R):UP es κ=κ es.length := by
  induction es generalizing κ with
  | nil => rfl
  | cons x xs ih => exact (ih fun n => Aa (Nat.succ n) κ).trans (A7 _ _)
theorem DW {ct:Call} {b:Builtin} (ho:o.op = .call ct) (hb:ct.callee = .builtin b) {a:Act} {w w':World} {v:Value}
    (hr:∀ cs, (builtin b ct.argTypes o.type cs (ct.args.map a.eval)).run P w = .ok (.value v) w'):(execOp a.eval o).run P w = .ok (.value v) w' := by
  simp [execOp, ho, resolve, hb, invoke, hr]
section
variable {ct:Call} {ty:TypeId} {x:Operand} {x':Opd} {ts:List TypeId} {xs:List Operand}
theorem MA (ho:o.op = .call ct) (hb:ct.callee = .builtin .len) (hts:ct.argTypes.toList=ty::ts) (hargs:ct.args.toList=x::xs)
    (hx:AB N x=some x') (ht:P.underlying ty=some .string):B7 P ρ B N o (N0 x' cf t h n) t h n := by
  intro κ hg
  have e0:N0 x' cf t h n κ=WZ (ev x' t) (fun l0 l1 _ _ => br (Nat.ble (Nat.succ l1) 9223372036854775808) (κ (.oth (.iv .i64 l0 l1)) h n) (.fail "")) (Bc (ev x' t) fun m _ => DM m fun v => κ v h n) := by simp only [N0, Av]
  rw [e0] at hg
  have hargs':ct.args[0]? = some x := by rw [←Array.getElem?_toList, hargs]; rfl
  have hts':ct.argTypes[0]? = some ty := by rw [←Array.getElem?_toList, hts]; rfl
  rcases Jx (ev x' t) (fun l0 l1 _ _ => br (Nat.ble (Nat.succ l1) 9223372036854775808) (κ (.oth (.iv .i64 l0 l1)) h n) (.fail "")) (Bc (ev x' t) fun m _ => DM m fun v => κ v h n) with ⟨l0, l1, _, _, hv, e1⟩ | e1
  · rw [e1] at hg
    obtain ⟨hb', e2⟩ := Af hg
    have hb':l1+1≤9223372036854775808 := Ab.1 hb'
    refine ⟨_, e0.trans (e1.trans e2), fun φ a w hT g => ?_⟩
    have g1 := Ad hx hT
    rw [hv] at g1
    simp only [Ap] at g1
    obtain ⟨s, gx, h1, h2, _⟩ := g1
    refine ⟨goInt s.size, DW ho hb fun cs => ?_, ?_⟩
    · simp [builtin, Builtin.len_, hts', hargs', gx, run_underlying ht]
    · simp only [Ap]
      exact ⟨s.size, h1, h2, by simp only [Mk]; omega, by rw [Aj (by simp only [Hk]; omega)]; rfl⟩
  have e1 := e0.trans e1
  rw [←e0, e1] at hg
  obtain ⟨m, c, hv, e2⟩ := C8 hg
  rw [e2] at hg
  obtain ⟨hm, e3⟩ := Ej hg
  refine ⟨_, e1.trans (e2.trans e3), fun φ a w hT g => ⟨goInt m, DW ho hb fun cs => ?_, Dl hm φ⟩⟩
  have g1 := Ad hx hT
  rw [hv] at g1
  obtain ⟨s, gx, hs, _⟩ := Cx g1
  simp [builtin, Builtin.len_, hts', hargs', gx, run_underlying ht, hs]
theorem Nf {e:TypeId} (ho:o.op = .call ct) (hb:ct.callee = .builtin .len) (hts:ct.argTypes.toList=ty::ts) (hargs:ct.args.toList=x::xs)
    (hx:AB N x=some x') (ht:P.underlying ty=some (.slice e)):B7 P ρ B N o (Nm x' cf t h n) t h n := by
  intro κ hg
  have e0:Nm x' cf t h n κ=Ec (ev x' t) (κ (.int .i64 0) h n) (fun p off len cap ex esz => DM len fun v => κ v h n) (fun o => Yf o (fun l0 l1 => br (Nat.ble (Nat.succ l1) 9223372036854775808) (κ (.oth (.iv .i64 l0 l1)) h n) (.fail "")) (Qi o (fun i l0 l1 z => br (Nat.ble (Nat.succ l1) 9223372036854775808) (br (Nat.beq l0 l1) (κ (.int .i64 l0) h n) (κ (.oth (.iv .i64 l0 l1)) h n)) (.fail "")) (Kn o (fun l m z => DM m fun v => κ v h n) (HY o (fun m c => DM m fun v => κ v h n) (.fail ""))))) := by simp only [Nm, Av]
  rw [e0] at hg
  have hargs':ct.args[0]? = some x := by rw [←Array.getElem?_toList, hargs]; rfl
  have hts':ct.argTypes[0]? = some ty := by rw [←Array.getElem?_toList, hts]; rfl
  rcases G1 hg with ⟨hv, e2⟩ | ⟨p, off, len, cap, ex, esz, hv, e2⟩ | ⟨oo, hv, e2⟩
  · refine ⟨_, e0.trans e2, fun φ a w hT g => ⟨goInt 0, DW ho hb fun cs => ?_, Dl (by decide) φ⟩⟩
    have g1 := Ad hx hT
    rw [hv] at g1
    have gx := C5 g1
    simp [builtin, Builtin.len_, hts', hargs', gx, Cd, run_underlying ht]
  · rw [e2] at hg
    obtain ⟨hm, e3⟩ := Ej hg
    refine ⟨_, e0.trans (e2.trans e3), fun φ a w hT g => ⟨goInt len, DW ho hb fun cs => ?_, Dl hm φ⟩⟩
    have g1 := Ad hx hT
    rw [hv] at g1
    obtain ⟨b, s, tot, oo, rcap, hφ, gx, _⟩ := D0 g1
    simp [builtin, Builtin.len_, hts', hargs', gx, run_underlying ht]
  · rw [e2] at hg
    cases oo with
    | os l0 l1 =>
      have hg':R.good (br (Nat.ble (Nat.succ l1) 9223372036854775808) (κ (.oth (.iv .i64 l0 l1)) h n) (.fail "")) := hg
      obtain ⟨hb', e3⟩ := Af hg'
      have hb':l1+1≤9223372036854775808 := Ab.1 hb'
      refine ⟨_, e0.trans (e2.trans e3), fun φ a w hT g => ?_⟩
      have g1 := Ad hx hT
      rw [hv] at g1
      simp only [Ap] at g1
      obtain ⟨p, len, cap, gx, h1, h2, h3⟩ := g1
      refine ⟨goInt len, DW ho hb fun cs => ?_, ?_⟩
      · simp [builtin, Builtin.len_, hts', hargs', gx, run_underlying ht]
      · simp only [Ap]
        exact ⟨len, h1, h2, by simp only [Mk]; omega, by rw [Aj (by simp only [Hk]; omega)]; rfl⟩
    | ro i l0 l1 z =>
      have hg':R.good (br (Nat.ble (Nat.succ l1) 9223372036854775808) (br (Nat.beq l0 l1) (κ (.int .i64 l0) h n) (κ (.oth (.iv .i64 l0 l1)) h n)) (.fail "")) := hg
      obtain ⟨hb', e3⟩ := Af hg'
      have hb':l1+1≤9223372036854775808 := Ab.1 hb'
      have key:∃ v, br (Nat.beq l0 l1) (κ (.int .i64 l0) h n) (κ (.oth (.iv .i64 l0 l1)) h n)=κ v h n ∧ ∀ (φ:AO) (len:Nat), l0≤len->len≤l1->Ap ρ φ v (goInt len) := by
        cases hl:Nat.beq l0 l1 with
        | true =>
          have hl := Nat.eq_of_beq_eq_true hl
          refine ⟨_, by rw [Ac], fun φ len h1 h2 => ?_⟩
          obtain rfl:len=l0 := by omega
          exact Dl (show len<9223372036854775808 by omega) φ
        | false =>
          refine ⟨_, by rw [Ai], fun φ len h1 h2 => ?_⟩
          simp only [Ap]
          exact ⟨len, h1, h2, by simp only [Mk]; omega, by rw [Aj (by simp only [Hk]; omega)]; rfl⟩
      obtain ⟨v, e4, hv4⟩ := key
      refine ⟨_, e0.trans (e2.trans (e3.trans e4)), fun φ a w hT g => ?_⟩
      have g1 := Ad hx hT
      rw [hv] at g1
      simp only [Ap] at g1
      obtain ⟨b, q, len, cap, c, e', fr, gx, h1, h2, h3, _⟩ := g1
      refine ⟨goInt len, DW ho hb fun cs => ?_, hv4 φ len h1 h2⟩
      simp [builtin, Builtin.len_, hts', hargs', gx, run_underlying ht]
    | rx l m z =>
      have hg':R.good (DM m fun v => κ v h n) := hg
      obtain ⟨hm, e3⟩ := Ej hg'
      refine ⟨_, e0.trans (e2.trans e3), fun φ a w hT g => ⟨goInt m, DW ho hb fun cs => ?_, Dl hm φ⟩⟩
      have g1 := Ad hx hT
      rw [hv] at g1
      simp only [Ap] at g1
      obtain ⟨ad, cap, gx, _⟩ := g1
      simp [builtin, Builtin.len_, hts', hargs', gx, run_underlying ht]
    | rb m c =>
      have hg':R.good (DM m fun v => κ v h n) := hg
      obtain ⟨hm, e3⟩ := Ej hg'
      refine ⟨_, e0.trans (e2.trans e3), fun φ a w hT g => ⟨goInt m, DW ho hb fun cs => ?_, Dl hm φ⟩⟩
      have g1 := Ad hx hT
      rw [hv] at g1
      simp only [Ap, H6] at g1
      obtain ⟨ad, cap, gx, _⟩ := g1
      simp [builtin, Builtin.len_, hts', hargs', gx, run_underlying ht]
    | _ => exact hg.elim
theorem MD {e:TypeId} (ho:o.op = .call ct) (hb:ct.callee = .builtin .cap) (hts:ct.argTypes.toList=ty::ts) (hargs:ct.args.toList=x::xs)
    (hx:AB N x=some x') (ht:P.underlying ty=some (.slice e)):B7 P ρ B N o (Nw x' cf t h n) t h n := by
  intro κ hg
  have e1:Nw x' cf t h n κ=Ei (ev x' t) (κ (.int .i64 0) h n) (fun p off len cap ex esz => br ex (DM cap fun v => κ v h n) (.fail "")) := by simp only [Nw, Av]
  rw [e1] at hg
  have hargs':ct.args[0]? = some x := by rw [←Array.getElem?_toList, hargs]; rfl
  have hts':ct.argTypes[0]? = some ty := by rw [←Array.getElem?_toList, hts]; rfl
  rcases DS hg with ⟨hv, e2⟩ | ⟨p, off, len, cap, ex, esz, hv, e2⟩
  · refine ⟨_, e1.trans e2, fun φ a w hT g => ⟨goInt 0, DW ho hb fun cs => ?_, Dl (by decide) φ⟩⟩
    have g1 := Ad hx hT
    rw [hv] at g1
    have gx := C5 g1
    simp [builtin, Builtin.cap_, hts', hargs', gx, Cd, run_underlying ht]
  · rw [e2] at hg
    obtain ⟨hex, e3⟩ := Af hg
    rw [e3] at hg
    obtain ⟨hm, e4⟩ := Ej hg
    refine ⟨_, e1.trans (e2.trans (e3.trans e4)), fun φ a w hT g => ⟨goInt cap, DW ho hb fun cs => ?_, Dl hm φ⟩⟩
    have g1 := Ad hx hT
    rw [hv] at g1
    obtain ⟨b, s, tot, oo, rcap, hφ, gx, _, _, c3, _⟩ := D0 g1
    have hc := c3 hex
    subst hc
    simp [builtin, Builtin.cap_, hts', hargs', gx, run_underlying ht]
theorem Nz {k e:TypeId} (ho:o.op = .call ct) (hb:ct.callee = .builtin .len) (hts:ct.argTypes.toList=ty::ts) (hargs:ct.args.toList=x::xs)
    (hx:AB N x=some x') (ht:P.underlying ty=some (.map k e)):B7 P ρ B N o (MJ x' cf t h n) t h n := by
  intro κ hg
  have e1:MJ x' cf t h n κ=E3 (ev x' t) (κ (.int .i64 0) h n) (fun p => MK p h fun es _ _ => DM es.length fun v => κ v h n) := by
    simp only [MJ, Av]
    congr 1; funext p; congr 1; funext es _ _; exact WR es _
  rw [e1] at hg
  have hargs':ct.args[0]? = some x := by rw [←Array.getElem?_toList, hargs]; rfl
  have hts':ct.argTypes[0]? = some ty := by rw [←Array.getElem?_toList, hts]; rfl
  rcases DL hg with ⟨hv, e2⟩ | ⟨p, hv, e2⟩
  · refine ⟨_, e1.trans e2, fun φ a w hT g => ⟨goInt 0, DW ho hb fun cs => ?_, Dl (by decide) φ⟩⟩
    have g1 := Ad hx hT
    rw [hv] at g1
    have gx := C5 g1
    simp [builtin, Builtin.len_, hts', hargs', gx, Cd, run_underlying ht]
  · rw [e2] at hg
    obtain ⟨es, bs, clk, hpm, e3⟩ := EH hg
    rw [e3] at hg
    obtain ⟨hm, e4⟩ := Ej hg
    refine ⟨_, e1.trans (e2.trans (e3.trans e4)), fun φ a w hT g => ⟨goInt es.length, DW ho hb fun cs => ?_, Dl hm φ⟩⟩
    have g1 := Ad hx hT
    rw [hv] at g1
    obtain ⟨b, s, tot, hφ, gx⟩ := FJ g1
    obtain ⟨ents, k1, k2, _⟩ := g.obj p _ b s tot hpm hφ
    have hl := FG k2
    have hgo:(getObj b).run P w = .ok (.map ents clk) w := by simp [getObj, Sem.run, k1]
    simp [builtin, Builtin.len_, hts', hargs', gx, run_underlying ht, hgo]
    rw [←hl]; simp
end
end
end Go.Ev

namespace Go.Ev
set_option linter.unusedVariables false
section
variable {P:Program} {ρ:Env} {B N:Nat} {o:Oper} {cf:CF} {t:Regs} {h:Heap} {n:K4}
theorem Gam.frz {φ:AO} {w:World} (g:Gam ρ B h n φ w) {p:K4} {cs:Cs} {sup:Bool} {prev:Option K4} {b s tot:Nat} {c:Array Value} {e:TypeId} {fr fr':Nat×Nat}
    (hp:A9 p h=some (.c cs sup prev)) (hφ:φ p=some (b, s, tot)) (hw:w.heap[b]? = some (.cells c e fr)) (hf:Yr fr' c.size) :
    Gam ρ B h n φ (D8 w b (.cells c e fr'))∧Fr h h φ φ n n w (D8 w b (.cells c e fr')) := by
  have hb := (g.blk p b s tot hφ).2
  refine ⟨⟨by rw [En]; exact g.base, g.dom, fun q b1 s1 t1 hx => by rw [En]; exact g.blk q b1 s1 t1 hx, fun q o1 b1 s1 t1 hq hx => ?_, g.sep, g.sup, fun k c e fr hk => ⟨(g.glob k c e fr hk).1, by rw [HP (by have := (g.glob k c e fr hk).1; have := (g.blk p b s tot hφ).1; omega)]; exact (g.glob k c e fr hk).2⟩⟩,
    ⟨AO.le_refl φ, fun _ _ h => .inl h, Nat.le_refl _, rfl, rfl, rfl, by rw [En]; exact Nat.le_refl _, fun k hk hn => HP fun e => ?_, fun _ _ _ _ h => .inl h, fun _ _ h => h⟩⟩
  · have k := g.obj q o1 b1 s1 t1 hq hx
    by_cases e:b=b1
    · subst e
      cases o1 with
      | c cs1 sup1 prev1 =>
        obtain ⟨c1, e1, fr1, h1, h2, h3, h4, h5⟩ := k
        rw [hw] at h1; cases h1
        exact ⟨c, e, fr', DU hb, h2, h3, h2 ▸ hf, h5⟩
      | m es bs clk => obtain ⟨ents, h1, _⟩ := k; rw [hw] at h1; cases h1
      | it p since seen c => obtain ⟨bm, sm, tm, _, _, h1⟩ := k; rw [hw] at h1; cases h1
      | it0 => obtain ⟨_, h1⟩ := k; rw [hw] at h1; cases h1
      | lp _ _ => obtain ⟨_, A, fn, tmps, D, _, h1, _⟩ := k; rw [hw] at h1; cases h1
    · exact Ck (HP e) k
  · subst e
    have := hn p s tot hφ; rw [hp] at this; cases this
theorem SD {src dst e e':TypeId} {x:Operand} {x':Opd} (ho:o.op = .convert src dst x) (hx:AB N x=some x') (hs:P.underlying src=some (.slice e')) (hd:P.underlying dst=some (.slice e)) (hsd:(src == dst)=true) (he:P.underlying e=some (.int .u8)) :
    CU P ρ B N o (NB x' cf t h n) t h n := by
  intro κ hg
  have e1:NB x' cf t h n κ=Ei (ev x' t) (.fail "") (fun p _ _ _ _ _ => Hs p h fun _ _ _ => κ (ev x' t) h n) := by simp only [NB, Av]
  rw [e1] at hg
  rcases DS hg with ⟨hv, e2⟩ | ⟨p, off, len, cap, ex, esz, hv, e2⟩
  · rw [e2] at hg; exact hg.elim
  · rw [e2] at hg
    obtain ⟨cs, sup, prev, hp, e3⟩ := Dc hg
    refine ⟨_, h, n, e1.trans (e2.trans e3), .value fun φ a w hT g => ?_⟩
    have g1 := Ad hx hT
    rw [hv] at g1
    obtain ⟨b, s, tot, q, cap', hφ, gx, _⟩ := D0 g1
    obtain ⟨c, et, fr, k1, k2, k3, k4, k5⟩ := g.obj p _ b s tot hp hφ
    obtain ⟨g2, g3⟩ := g.frz hp hφ k1 (fr' := if fr.1 == fr.2 then (c.size, c.size+1) else (min fr.1 c.size, max fr.2 (c.size+1))) (by
      split
      · exact .inr (Nat.le_refl _)
      · rename_i hne
        rcases k4 with h' | h'
        · simp [h'] at hne
        · exact .inr (by show c.size≤min fr.1 c.size; omega))
    refine ⟨φ, a.eval x, _, ?_, g3, g2, by rw [hv]; exact g1⟩
    have hsh:w.shape? b=some (et, c.size) := by unfold World.shape?; rw [k1]
    have hfz := Hn (off := c.size) k1
    simp only [execOp, ho, gx, convert, Sem.run_bind, run_underlying hs, run_underlying hd, Result.andThen_ok, hsd, run_underlying he, markStringish]
    have hsr:(shape b).run P w = .ok (some (et, c.size)) w := by simp [shape, Sem.run, hsh]
    simp only [hsr, Result.andThen_ok, run_freeze, hfz, Sem.run_pure]
theorem R2 (off:Nat) (vs:List Value):∀ (k:Nat) (c:Array Value), off+k+vs.length≤c.size →
    ((vs.zipIdx k).foldl (fun cs (x:Value×Nat) => cs.setIfInBounds (off+x.2) x.1) c).toList=c.toList.take (off+k)++(vs++c.toList.drop (off+k+vs.length)) := by
  induction vs with
  | nil => intro k c _; simp
  | cons v vs ih =>
    intro k c hk
    simp only [List.length_cons] at hk
    rw [List.zipIdx_cons, List.foldl_cons, ih (k+1) _ (by simp; omega)]
    have hlt:off+k<c.toList.length := by simp; omega
    rw [Array.toList_setIfInBounds, List.set_eq_take_append_cons_drop, if_pos hlt]
    have hl:(c.toList.take (off+k)).length=off+k := by rw [List.length_take]; omega
    have h1:(c.toList.take (off+k)++v::c.toList.drop (off+k+1)).take (off+(k+1))=c.toList.take (off+k)++[v] := by
      rw [List.take_append, hl, List.take_of_length_le (by omega)]
      have:off+(k+1) - (off+k)=1 := by omega
      rw [this]; rfl
    have h2:(c.toList.take (off+k)++v::c.toList.drop (off+k+1)).drop (off+(k+1)+vs.length)=c.toList.drop (off+k+(v::vs).length) := by
      rw [List.drop_append, hl, List.drop_eq_nil_of_le (by omega)]
      have:off+(k+1)+vs.length - (off+k)=vs.length+1 := by omega
      rw [this, List.drop_succ_cons, List.drop_drop, List.nil_append]
      congr 1; simp only [List.length_cons]; omega
    rw [h1, h2]; simp
theorem SH {xs ys:List V} {off:Nat} {κ:List V->R} (hg:(M3 xs off ys κ).good):off+ys.length≤xs.length∧M3 xs off ys κ=κ (xs.take off++(ys++xs.drop (off+ys.length))) := by
  obtain ⟨h1, e1⟩ := Fs (show R.good (D7 off xs _) from hg)
  have e1:M3 xs off ys κ=_ := e1
  rw [e1, D5, A7] at hg
  obtain ⟨h2, e2⟩ := Fn hg
  exact ⟨h2, by rw [e1, D5, A7, e2, DG, DG]; rfl⟩
theorem G5 (hρ:Bq ρ) {place:Nat->Option (Nat×Nat)}:∀ {parts:List (Nat×Operand)} {ps:List Part} {z:List V} {κ:List V->R}, Gd N place parts=some ps->(Dq ps t z κ).good →
    ∃ l, l.length=z.length∧Dq ps t z κ=κ l ∧ ∀ (φ:AO) (a:Act) (zc:Array Value), TR ρ N φ t a->BL ρ φ z zc.toList->(∀ y∈zc.toList, y.oneCell'=true) →
      ∃ cells, Instr.fill place zc (parts.map fun x => (x.1, a.eval x.2))=some cells∧BL ρ φ l cells.toList ∧ ∀ y∈cells.toList, y.oneCell'=true
  | [], ps, z, κ, hp, hg => by
    simp only [Gd, Option.some.injEq] at hp; subst hp
    exact ⟨z, rfl, rfl, fun φ a zc _ h1 h2 => ⟨zc, rfl, h1, h2⟩⟩
  | (i, x)::parts, ps, z, κ, hp, hg => by
    simp only [Gd] at hp
    split at hp
    · rename_i off size x' xs hpl hx hxs
      cases hp
      have e1:Dq (⟨off, size, x'⟩::xs) t z κ=Es (ev x' t) fun l => GL l fun m => br (Nat.beq m size) (M3 z off l fun z => Dq xs t z κ) (.fail "") := Av x' t _
      rw [e1] at hg
      obtain ⟨hc, e2⟩ := FN hg
      rw [e2, D5] at hg
      obtain ⟨h3, e3⟩ := Af hg
      have h3 := Nat.eq_of_beq_eq_true h3
      rw [e3] at hg
      obtain ⟨h4, e4⟩ := SH hg
      rw [e4] at hg
      obtain ⟨l, hl, e5, H⟩ := G5 hρ hxs hg
      have hlen:((z.take off)++((ev x' t).cl++z.drop (off+(ev x' t).cl.length))).length=z.length := by
        simp only [List.length_append, List.length_take, List.length_drop]; omega
      refine ⟨l, hl.trans hlen, e1.trans (e2.trans ((D5 _ _).trans (e3.trans (e4.trans e5)))), fun φ a zc hT h1 h2 => ?_⟩
      obtain ⟨hr, ho⟩ := HF hρ hc (Ad hx hT)
      have hrl := AX hr
      have hzl := AX h1
      have hsz:(a.eval x).cells.size=size := by rw [←h3, ←hrl]; simp
      have hle:off+0+(a.eval x).cells.toList.length≤zc.size := by rw [hrl]; simp at hzl; omega
      have hfold := R2 off (a.eval x).cells.toList 0 zc hle
      obtain ⟨cells, k1, k2, k3⟩ := H φ a (((a.eval x).cells.toList.zipIdx 0).foldl (fun cs (x:Value×Nat) => cs.setIfInBounds (off+x.2) x.1) zc) hT (by
        rw [hfold, Nat.add_zero, hrl]
        exact FO (Jl h1 off) (FO hr (Jz h1 _))) (fun y hy => by
        rw [hfold] at hy
        rcases List.mem_append.1 hy with hy | hy
        · exact h2 y (List.mem_of_mem_take hy)
        · rcases List.mem_append.1 hy with hy | hy
          · exact ho y hy
          · exact h2 y (List.mem_of_mem_drop hy))
      refine ⟨cells, ?_, k2, k3⟩
      rw [List.map_cons, Instr.fill, hpl]
      have hcond:((a.eval x).cells.size≠size || off+(a.eval x).cells.size > zc.size)=false := by
        simp at hle; simp [hsz]; omega
      simp only [hcond, Bool.false_eq_true, if_false]
      rw [←k1]
      congr 1
      rw [←Array.foldl_toList, Array.toList_zipIdx]
    · cases hp
theorem Da {ty:TypeId} {z:List V} (hz:DB P ty=some z):∃ zv it, P.info? ty=some it∧it.zero=some zv ∧ ∀ φ, BL ρ φ z zv.cells.toList ∧ ∀ y∈zv.cells.toList, y.oneCell'=true := by
  unfold DB at hz
  cases hi:P.info? ty with
  | none => rw [hi] at hz; cases hz
  | some it =>
    rw [hi] at hz
    cases hzv:it.zero with
    | none => rw [Option.bind_some, hzv] at hz; cases hz
    | some zv =>
      rw [Option.bind_some, hzv] at hz
      exact ⟨zv, it, rfl, hzv, fun φ => Fc (show I5 zv.cells.toList=some z from hz) φ⟩
theorem G6 {ty:TypeId} {parts:Array (Nat×Operand)} {place:Nat->Option (Nat×Nat)} {z:List V} {ps:List Part} (hρ:Bq ρ) (ho:o.op = .build ty parts) (hz:DB P ty=some z) (hps:Gd N place parts.toList=some ps)
    (hb:∀ it zv, P.info? ty=some it->it.zero=some zv->∀ l, P.built ty l=Instr.fill place zv.cells l):B7 P ρ B N o (Rs z ps cf t h n) t h n := by
  intro κ hg
  obtain ⟨l, hl, e1, H⟩ := G5 hρ hps (show R.good (Dq ps t z fun l => κ (.agg l) h n) from hg)
  refine ⟨_, e1, fun φ a w hT g => ?_⟩
  obtain ⟨zv, it, hi, hzv, hr⟩ := Da (ρ := ρ) hz
  obtain ⟨cells, k1, k2, k3⟩ := H φ a zv.cells hT (hr φ).1 (hr φ).2
  refine ⟨.agg cells, ?_, by simp only [Ap]; exact ⟨_, rfl, k2, k3⟩⟩
  have hbuilt:P.built ty (parts.map fun (i, x) => (i, a.eval x)).toList=some cells := by
    rw [hb it zv hi hzv, Array.toList_map]; exact k1
  simp only [execOp, ho, Sem.run_bind, run_build w ty _ cells hbuilt, Result.andThen_ok, Sem.run_pure]
theorem E8 {φ:AO} {z:List V} {zc:Array Value} (hr:BL ρ φ z zc.toList) (ho:∀ y∈zc.toList, y.oneCell'=true) {k i:Nat} (hi:i<k) {v:V} (hv:z[i % z.length]? = some v) :
    ∃ x, ((Array.range k).map (zc[· % zc.size]!))[i]? = some x∧Ap ρ φ v x∧x.oneCell'=true := by
  have hl := AX hr
  obtain ⟨x, hx, hrx⟩ := (Cl.1 hr).2 _ v hv
  refine ⟨x, ?_, hrx, ho x (List.mem_of_getElem? hx)⟩
  rw [Array.getElem?_map, Array.getElem?_range, if_pos hi]
  have hs:zc.size=z.length := by simpa using hl
  have hx':zc[i % z.length]? = some x := by simpa using hx
  simp [hs, getElem!_def, hx']
theorem NK {z:List V}:∀ {m i:Nat}, i<m*z.length->(Ef z m)[i]? = z[i % z.length]? := by
  intro m
  induction m with
  | zero => intro i hi; simp at hi
  | succ m ih =>
    intro i hi
    simp only [Ef]
    by_cases hz:i<z.length
    · rw [List.getElem?_append_left hz, Nat.mod_eq_of_lt hz]
    · rw [List.getElem?_append_right (by omega), ih (by rw [Nat.succ_mul] at hi; omega)]
      congr 1
      rw [←Nat.mod_eq_sub_mod (by omega)]
theorem CV {z:List V} {m:Nat}:(Ef z m).length=m*z.length := by
  induction m with
  | zero => simp [Ef]
  | succ m ih => simp only [Ef, List.length_append, ih, Nat.succ_mul]; omega
theorem GI {φ:AO} {p:K4} {b tot len cap esz:Nat} (h1:len≤cap) (h2:cap*esz≤tot):Ap ρ (EK φ p (b, 0, tot)) (.sl p 0 len cap true esz) (.slice (some ⟨b, 0, none⟩) len cap) := by
  simp only [Ap]
  exact ⟨b, 0, tot, 0, cap, C6 _ _ _, rfl, h1, Nat.le_refl _, fun _ => rfl, fun _ => ⟨rfl, by omega⟩⟩
theorem O7 {ty e:TypeId} {len s:Nat} {parts:Array (Nat×Operand)} {z:List V} {ps:List Part} {u8:Bool} (hρ:Bq ρ) (ho:o.op = .buildSlice ty len parts) (hu:P.underlying ty=some (.slice e)) (hs:Bj P e=some s) (hz:DB P e=some z)
    (hsz:s=z.length) (h0:0<s) (hbig:len*s≤2 ^ 24) (hps:Gd N (fun i => some (i*s, s)) parts.toList=some ps):CU P ρ B N o (Hd u8 len s (Ef z len) ps cf t h n) t h n := by
  intro κ hg
  obtain ⟨l, hl, e1, H⟩ := G5 hρ hps (show R.good (Dq ps t (Ef z len) _) from hg)
  have e1:Hd u8 len s (Ef z len) ps cf t h n κ=_ := e1
  rw [e1] at hg
  rw [CV] at hl
  obtain ⟨zv, it, hi, hzv, hr⟩ := Da (ρ := ρ) hz
  have hits:it.size=s := by unfold Bj at hs; rw [hi] at hs; simpa using hs
  -- the cells, whichever way they are kept
  have fin:∀ (cs:Cs) (n':K4), n'.toN=n.toN+1->cs.len=l.length->(∀ i, cs.at i=l[i]?)->Ht P ρ B N o t h n (.sl n 0 len len true s) (Ae n h (some (.c cs false none))) n' := fun cs n' hn hcl hca => .value fun φ a w hT g => by
    have hzl := AX (hr φ).1
    obtain ⟨cells, k1, k2, k3⟩ := H φ a ((Array.range (len*s)).map (zv.cells[· % zv.cells.size]!)) hT (Cl.2 ⟨by simp [CV, hsz], fun i v hv => by
        have hlt:i<len*z.length := by
          rcases Nat.lt_or_ge i (len*z.length) with h' | h'
          · exact h'
          · rw [List.getElem?_eq_none (by rw [CV]; exact h')] at hv; cases hv
        rw [NK hlt] at hv
        obtain ⟨x, hx, hrx, _⟩ := E8 (hr φ).1 (hr φ).2 (k := len*s) (by rw [hsz]; exact hlt) hv
        exact ⟨x, by rw [Array.getElem?_toList]; exact hx, hrx⟩⟩) (fun y hy => by
        obtain ⟨i, hi', rfl⟩ := List.getElem_of_mem hy
        have hlt:i<len*z.length := by simpa [hsz] using hi'
        have hzp:i % z.length<z.length := Nat.mod_lt _ (by omega)
        obtain ⟨x, hx, _, hox⟩ := E8 (hr φ).1 (hr φ).2 (k := len*s) (i := i) (by rw [hsz]; exact hlt) (List.getElem?_eq_getElem hzp)
        have hx' := hx
        rw [←Array.getElem?_toList, List.getElem?_eq_getElem hi'] at hx'
        cases hx'; exact hox)
    have hcl2 := AX k2
    have hc := Ew k2 k3
    obtain ⟨g1, g2⟩ := CN g hn (e := e) (fr := (0, 0)) (c := cells) (cs := cs) (by rw [hcl]; simp at hcl2; omega) (Kl _) (fun i v hv => by rw [hca i] at hv; simpa using hc i v hv)
    refine ⟨_, .slice (some ⟨w.heap.size, 0, none⟩) len len, _, ?_, g2, g1, GI (Nat.le_refl _) (by simp at hcl2; rw [hcl2, hl, hsz]; exact Nat.le_refl _)⟩
    have hfill:Instr.fill (fun i => some (i*it.size, it.size)) ((Array.range (len*it.size)).map (zv.cells[· % zv.cells.size]!)) (parts.map fun (i, x) => (i, a.eval x)).toList=some cells := by
      rw [hits, Array.toList_map]; exact k1
    have hrun:(Instr.buildSlice ty len (parts.map fun (i, x) => (i, a.eval x))).run P w = .ok (.slice (some ⟨w.heap.size, 0, none⟩) len len) (w.alloc (.cells cells e)) := by
      by_cases h00:len*it.size=0
      · have hfill':Instr.fill (fun i => some (i*it.size, it.size)) #[] (parts.map fun (i, x) => (i, a.eval x)).toList=some cells := by
          have:(Array.range (len*it.size)).map (zv.cells[· % zv.cells.size]!) = #[] := Array.eq_empty_of_size_eq_zero (by simp [h00])
          rw [this] at hfill; exact hfill
        simp only [Instr.buildSlice, Sem.run_bind, run_underlying hu, Result.andThen_ok, AL hs]
        rw [←hits]
        simp only [h00]
        have hr0:∀ q:Array Value, (Array.range 0).map (fun x => q[x % q.size]!) = #[] := fun q => Array.eq_empty_of_size_eq_zero (by simp)
        simp [hr0]
        rw [Array.toList_map] at hfill'
        rw [show (List.map (fun x:Nat×Operand => (x.fst, a.eval x.snd)) parts.toList)=List.map (fun x => match x with | (i, x) => (i, a.eval x)) parts.toList from rfl, hfill']
        rfl
      · exact run_buildSlice w ty e len _ cells it zv hu hi hzv (by rw [hits]; omega) h00 hfill
    simp only [execOp, ho, Sem.run_bind, hrun, Result.andThen_ok, Sem.run_pure]
  cases u8 with
  | true =>
    have hg':R.good (Cu l (fun m c => D9 h n (.c (.b m c) false none) fun h' n' => κ (.sl n 0 len len true s) h' n') (.fail "")) := hg
    obtain ⟨m, c, e2, hml, hma, _⟩ := Ij hg'
    rw [e2] at hg'
    obtain ⟨n', hn, e3⟩ := Bh hg'
    exact ⟨_, _, _, e1.trans (Eq.trans e2 e3), fin (.b m c) n' hn hml hma⟩
  | false =>
    obtain ⟨n', hn, e3⟩ := Bh (show R.good (D9 h n (.c (.l l) false none) fun h' n' => κ (.sl n 0 len len true s) h' n') from hg)
    exact ⟨_, _, _, e1.trans e3, fin (.l l) n' hn rfl fun _ => rfl⟩
theorem Ox {z:List V} (h:Mb z=true):z=[.int .u8 0] := by
  unfold Mb at h
  split at h
  · rfl
  · cases h
theorem R3 {ty e:TypeId} {l c:Operand} {l' c':Opd} {s eb:Nat} {z:List V} (ho:o.op = .makeSlice ty l c) (hl:AB N l=some l') (hc:AB N c=some c') (hu:P.underlying ty=some (.slice e)) (hs:Bj P e=some s) (hb:Fo P e=some eb) (hz:DB P e=some z)
    (hsz:s=z.length) (h0:0<s) (hb0:0<eb):CU P ρ B N o (GQ eb (Mb z) z l' c' cf t h n) t h n := by
  intro κ hg
  have e1:GQ eb (Mb z) z l' c' cf t h n κ=Jj (ev l' t) fun a => Jj (ev c' t) fun b => br (Nat.ble a b) (br (Nat.ble (Nat.mul eb b) 281474976710656) (Fw (Mb z) z b fun y => D9 h n (.c y false none) fun h' n' => κ (.sl n 0 a b true z.length) h' n') (.fail "")) (.fail "") := by
    simp only [GQ, Av, D5]
  rw [e1] at hg
  obtain ⟨k1, a, hlv, ha, e2⟩ := Dv hg
  rw [e2] at hg
  obtain ⟨k2, b, hcv, hbv, e3⟩ := Dv hg
  rw [e3] at hg
  obtain ⟨h4, e4⟩ := Af hg
  rw [e4] at hg
  obtain ⟨h5, e5⟩ := Af hg
  rw [e5] at hg
  have h4 := Ab.1 h4
  have h5:eb*b≤281474976710656 := Ab.1 h5
  obtain ⟨y, e6, hyl, hya⟩ := HG (Mb z) z b (fun y => D9 h n (.c y false none) fun h' n' => κ (.sl n 0 a b true z.length) h' n') Ox
  rw [e6] at hg
  obtain ⟨n', hn, e7⟩ := Bh hg
  refine ⟨_, _, _, e1.trans (e2.trans (e3.trans (e4.trans (e5.trans (e6.trans e7))))), .value fun φ ac w hT g => ?_⟩
  have g1 := Ad hl hT
  rw [hlv] at g1
  have gl := Eh ha g1
  have g2 := Ad hc hT
  rw [hcv] at g2
  have gc := Eh hbv g2
  obtain ⟨zv, it, hi, hzv, hr⟩ := Da (ρ := ρ) hz
  have hits:it.size=s := by unfold Bj at hs; rw [hi] at hs; simpa using hs
  have hitb:it.bytes=eb := by unfold Fo at hb; rw [hi] at hb; simpa using hb
  have hb63:b≤281474976710656 := Nat.le_trans (Nat.le_mul_of_pos_left b hb0) h5
  have hrun := run_make (P := P) w ty e it zv hu hi hzv k1 k2 (a:Int) (b:Int) (by omega) (by omega) (by rw [hitb, ←Int.natCast_mul]; exact Int.ofNat_le.2 h5) (by omega)
  obtain ⟨g3, g4⟩ := CN g hn (e := e) (fr := (0, 0)) (c := madeCells zv.cells (b*it.size)) (cs := y) (by rw [size_madeCells, hyl, hits, hsz]; exact Nat.le_refl _) (Kl _) (fun i v hv => by
    have hlt := Cs.lt_of_at hv
    rw [hyl] at hlt
    rw [hya i hlt] at hv
    exact E8 (hr φ).1 (hr φ).2 (k := b*it.size) (by rw [hits, hsz]; exact hlt) hv)
  refine ⟨_, .slice (some ⟨w.heap.size, 0, none⟩) a b, _, ?_, g4, g3, GI h4 (by rw [size_madeCells, hits, hsz]; exact Nat.le_refl _)⟩
  simp only [execOp, ho, gl, gc, Sem.run_bind, hrun, Result.andThen_ok, Sem.run_pure, Int.toNat_natCast]
end
end Go.Ev
