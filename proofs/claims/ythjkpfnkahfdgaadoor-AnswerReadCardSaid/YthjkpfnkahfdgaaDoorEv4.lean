/- AN EVALUATOR OF THE MODEL OF Go, PROVED SOUND, PART 4: what it says of a call holds in every world, on every tape. Conditions: none of its own; each theorem bears its premises. -/
import Derived.Test.YthjkpfnkahfdgaaDoorEv3
import Derived.ChangeSame
import Derived.Deep.Slices
import Derived.Maps.RangeRun
import Derived.RangeFuncIn
import Derived.RangeFuncRecord
import Derived.Shelf.Strconv.Itoa1
import Derived.Shelf.Strings.Search2
import Derived.TacticsIn
import GoSem.ClaimGoes
noncomputable section
set_option linter.unusedSimpArgs false
set_option linter.unusedVariables false
namespace Go.Ev
set_option linter.unusedVariables false
/-- The place of a register that is kept. -/
structure SL where
  a : O8
  b : O4
def S.get (s : SL) (t : S) : V := SQ.sel s.b (S.sel s.a t)
def S.put (s : SL) (t : S) (v : V) : S := S.setS s.a t (SQ.setS s.b (S.sel s.a t) v)
theorem S.get_put_same (s : SL) (t : S) (v : V) : S.get s (S.put s t v) = v := by
  simp only [S.get, S.put, S.sel_setS_same, SQ.sel_setS_same]
theorem S.get_put_ne {s s' : SL} (t : S) (v : V) (h : s ≠ s') : S.get s' (S.put s t v) = S.get s' t := by
  obtain ⟨a, b⟩ := s
  obtain ⟨a', b'⟩ := s'
  simp only [S.get, S.put]
  by_cases ha : a = a'
  · subst ha
    rw [S.sel_setS_same]
    by_cases hb : b = b'
    · subst hb; exact absurd rfl h
    · rw [SQ.sel_setS_ne _ _ hb]
  · rw [S.sel_setS_ne _ _ ha]
abbrev vgA (b : O4) (κ : V → R) (x : SQ) : R := @SQ.rec (fun _ => R) (fun d0 d1 d2 d3 => @O4.rec (fun _ => R) (κ d0) (κ d1) (κ d2) (κ d3) b) x
abbrev getA (p : SL) (t : S) (κ : V → R) : R := @SL.rec (fun _ => R) (fun a b => @S.rec (fun _ => R) (fun c0 c1 c2 c3 c4 c5 c6 c7 => @O8.rec (fun _ => R) (vgA b κ c0) (vgA b κ c1) (vgA b κ c2) (vgA b κ c3) (vgA b κ c4) (vgA b κ c5) (vgA b κ c6) (vgA b κ c7) a) t) p
abbrev vsA (b : O4) (v : V) (x : SQ) (k : SQ → R) : R := @SQ.rec (fun _ => R) (fun d0 d1 d2 d3 => @O4.rec (fun _ => R) (k (.mk v d1 d2 d3)) (k (.mk d0 v d2 d3)) (k (.mk d0 d1 v d3)) (k (.mk d0 d1 d2 v)) b) x
abbrev putA (p : SL) (t : S) (v : V) (k : S → R) : R := @SL.rec (fun _ => R) (fun a b => @S.rec (fun _ => R) (fun c0 c1 c2 c3 c4 c5 c6 c7 => @O8.rec (fun _ => R) (vsA b v c0 fun x => k (.mk x c1 c2 c3 c4 c5 c6 c7)) (vsA b v c1 fun x => k (.mk c0 x c2 c3 c4 c5 c6 c7)) (vsA b v c2 fun x => k (.mk c0 c1 x c3 c4 c5 c6 c7)) (vsA b v c3 fun x => k (.mk c0 c1 c2 x c4 c5 c6 c7)) (vsA b v c4 fun x => k (.mk c0 c1 c2 c3 x c5 c6 c7)) (vsA b v c5 fun x => k (.mk c0 c1 c2 c3 c4 x c6 c7)) (vsA b v c6 fun x => k (.mk c0 c1 c2 c3 c4 c5 x c7)) (vsA b v c7 fun x => k (.mk c0 c1 c2 c3 c4 c5 c6 x)) a) t) p
theorem vgA_eq (b : O4) (κ : V → R) (x : SQ) : vgA b κ x = κ (SQ.sel b x) := by cases x; cases b <;> rfl
theorem getA_eq (p : SL) (t : S) (κ : V → R) : getA p t κ = κ (S.get p t) := by
  obtain ⟨a, b⟩ := p
  cases t
  cases a <;> exact vgA_eq _ _ _
theorem vsA_eq (b : O4) (v : V) (x : SQ) (k : SQ → R) : vsA b v x k = k (SQ.setS b x v) := by cases x; cases b <;> rfl
theorem putA_eq (p : SL) (t : S) (v : V) (k : S → R) : putA p t v k = k (S.put p t v) := by
  obtain ⟨a, b⟩ := p
  have e1 : putA ⟨a, b⟩ t v k = vsA b v (S.sel a t) fun x => k (S.setS a t x) := by cases t; cases a <;> rfl
  rw [e1, vsA_eq]; rfl
/-- The registers that are kept, and where. -/
abbrev SM := List (K2 × SL)
abbrev findSK (p : K2) (sm : SM) (κ : SL → R) (e : R) : R :=
  @List.rec (K2 × SL) (fun _ => R) e (fun x _ ih => @Prod.rec K2 SL (fun _ => R) (fun q s => cho (K2.beq q p) (κ s) ih) x) sm
def findS (p : K2) : SM → Option SL
  | [] => none
  | x :: l => br (K2.beq x.1 p) (some x.2) (findS p l)
theorem findSK_eq (p : K2) (sm : SM) (κ : SL → R) (e : R) : findSK p sm κ e = match findS p sm with | some s => κ s | none => e := by
  induction sm with
  | nil => rfl
  | cons x l ih =>
    obtain ⟨q, s⟩ := x
    have e1 : findSK p ((q, s) :: l) κ e = cho (K2.beq q p) (κ s) (findSK p l κ e) := rfl
    rw [e1, ih]
    simp only [findS]
    cases K2.beq q p <;> rfl
def O8.beq (a b : O8) : Bool := Nat.beq (@O8.rec (fun _ => Nat) 0 1 2 3 4 5 6 7 a) (@O8.rec (fun _ => Nat) 0 1 2 3 4 5 6 7 b)
def O4.beq (a b : O4) : Bool := Nat.beq (@O4.rec (fun _ => Nat) 0 1 2 3 a) (@O4.rec (fun _ => Nat) 0 1 2 3 b)
theorem O8.beq_self (a : O8) : a.beq a = true := by cases a <;> rfl
theorem O4.beq_self (a : O4) : a.beq a = true := by cases a <;> rfl
def SL.beq (s s' : SL) : Bool := and (s.a.beq s'.a) (s.b.beq s'.b)
/-- No two registers at one place. -/
def okSM : SM → Bool
  | [] => true
  | x :: l => (l.all fun y => !SL.beq x.2 y.2) && okSM l
theorem findS_mem {p : K2} {s : SL} : ∀ {sm : SM}, findS p sm = some s → (p, s) ∈ sm
  | [], h => by cases h
  | x :: l, h => by
    simp only [findS] at h
    cases hb : K2.beq x.1 p with
    | true =>
      rw [hb] at h
      have h : some x.2 = some s := h
      cases h
      rw [← K2.beq_iff.1 hb]
      exact List.mem_cons_self ..
    | false => rw [hb] at h; exact List.mem_cons_of_mem _ (findS_mem h)
theorem okSM_inj : ∀ {sm : SM}, okSM sm = true → ∀ {p q : K2} {s : SL}, findS p sm = some s → findS q sm = some s → p = q
  | [], _, p, q, s, h, _ => by cases h
  | x :: l, hok, p, q, s, hp, hq => by
    simp only [okSM, Bool.and_eq_true] at hok
    have no : ∀ r, (r, x.2) ∉ l := fun r hr => by
      have := List.all_eq_true.1 hok.1 _ hr
      simp [SL.beq, O8.beq_self, O4.beq_self] at this
    simp only [findS] at hp hq
    cases hbp : K2.beq x.1 p with
    | true =>
      rw [hbp] at hp
      have hp : some x.2 = some s := hp
      cases hp
      cases hbq : K2.beq x.1 q with
      | true => rw [← K2.beq_iff.1 hbp, ← K2.beq_iff.1 hbq]
      | false => rw [hbq] at hq; exact absurd (findS_mem hq) (no _)
    | false =>
      rw [hbp] at hp
      cases hbq : K2.beq x.1 q with
      | true =>
        rw [hbq] at hq
        have hq : some x.2 = some s := hq
        cases hq
        exact absurd (findS_mem hp) (no _)
      | false => rw [hbq] at hq; exact okSM_inj hok.2 hp hq
abbrev Ren := List (K2 × V)
abbrev renK (p : K2) (env : Ren) (κ : V → R) (e : R) : R :=
  @List.rec (K2 × V) (fun _ => R) e (fun x _ ih => @Prod.rec K2 V (fun _ => R) (fun q v => cho (K2.beq q p) (κ v) ih) x) env
abbrev tellE (sm : SM) (env : Ren) (t : S) : Tell := fun o κ => @Opd.rec (fun _ => R) (fun p => renK p env κ (findSK p sm (fun s => getA s t κ) (.fail "a register that is not kept"))) (fun v => κ v) o
abbrev store2 (sm : SM) (d : Option K2) (t : S) (v : V) (κ : S → R) : R :=
  @Option.rec K2 (fun _ => R) (κ t) (fun p => findSK p sm (fun s => putA s t v κ) (κ t)) d
abbrev envAdd (d : Option K2) (v : V) (env : Ren) : Ren := @Option.rec K2 (fun _ => Ren) env (fun p => (p, v) :: env) d
def vguard (w : Bool) (v : V) (yes no : R) : R :=
  @V.rec (fun _ => R) (fun _ => Unit) (fun _ _ => no) (fun b => br (Bool.rec (Bool.rec true false b) b w) yes no) (fun _ _ => no) (fun _ _ _ _ _ _ => no) (fun _ _ => no) (fun _ _ => no) (fun _ => no) (fun _ => no) (fun _ _ _ => no) (fun _ _ => no) (fun o => .fail "guard") () (fun _ _ _ _ => ()) v
/-- A guarded operation and what comes behind it. -/
def gd (w : Bool) (v : V) (F : KV → R) (κ : KV) (h : Heap) (n : K4) : R := vguard w v (F κ) (κ undV h n)
def gdV (w : Bool) (v : V) (F : (V → R) → R) (κ : V → R) : R := vguard w v (F κ) (κ undV)
def gd0 (w : Bool) (v : V) (F : R → R) (κ : R) : R := vguard w v (F κ) κ
abbrev guard2 (g : Option (K2 × Bool)) (ε : Tell) (F : KV → R) (κ : KV) (h : Heap) (n : K4) : R :=
  @Option.rec (K2 × Bool) (fun _ => R) (F κ) (fun p => @Prod.rec K2 Bool (fun _ => R) (fun r w => ε (.t r) fun v => gd w v F κ h n) p) g
abbrev guardV (g : Option (K2 × Bool)) (ε : Tell) (F : (V → R) → R) (κ : V → R) : R :=
  @Option.rec (K2 × Bool) (fun _ => R) (F κ) (fun p => @Prod.rec K2 Bool (fun _ => R) (fun r w => ε (.t r) fun v => gdV w v F κ) p) g
abbrev guard0 (g : Option (K2 × Bool)) (ε : Tell) (F : R → R) (κ : R) : R :=
  @Option.rec (K2 × Bool) (fun _ => R) (F κ) (fun p => @Prod.rec K2 Bool (fun _ => R) (fun r w => ε (.t r) fun v => gd0 w v F κ) p) g
abbrev ops2K (sm : SM) (cf : CF2) (l : List AOp) : Ren → S → Heap → K4 → (Ren → S → Heap → K4 → R) → R :=
  @List.rec AOp (fun _ => Ren → S → Heap → K4 → (Ren → S → Heap → K4 → R) → R) (fun env t h n κ => κ env t h n)
    (fun o _ ih env t h n κ => @AOp.rec (fun _ => R) (fun d g k => guard2 g (tellE sm env t) (evk2 k cf (tellE sm env t) h n) (fun v h n => store2 sm d t v fun t => ih (envAdd d v env) t h n κ) h n) o) l
def atV (r : R) (κ : V → R) : R := @R.rec (fun _ => R) (fF4 "item") (fun v h n => κ v) (fun w => .fail w) (fF4 "orders") r
abbrev item2K (sm : SM) (cf : CF2) (b : K4) (i : Item) (env : Ren) (t : S) (h0 h1 : Heap) (n : K4) (κ : Ren → S → Heap → Heap → K4 → R) : R :=
  @Item.rec (fun _ => R)
    (fun _ o => @AOp.rec (fun _ => R) (fun d g k => guardV g (tellE sm env t) (atV (evk2 k cf (tellE sm env t) h0 n rv0)) (fun v => store2 sm d t v fun t => κ (envAdd d v env) t h0 h1 n)) o)
    (fun _ o => @AOp.rec (fun _ => R) (fun d g k => guard2 g (tellE sm env t) (atK (evk2 k cf (tellE sm env t) h1 n R.rv)) (fun v h n => store2 sm d t v fun t => κ (envAdd d v env) t h h n) h1 n) o)
    (fun _ j o => @AOp.rec (fun _ => R) (fun d g k => guard2 g (tellE sm env t) (fun κ => b.at j fun r => hgetR r h1 fun x => freeK x (atK (evk2 k cf (tellE sm env t) h1 r R.rv) κ)) (fun v h _ => store2 sm d t v fun t => κ (envAdd d v env) t h0 h n) h1 n) o)
    (fun _ o => @AOp.rec (fun _ => R) (fun d g k => guard0 g (tellE sm env t) (fun e => someK d fun p => atV (evk2 k cf (tellE sm env t) h0 n rv0) fun v => tellE sm env t (.t p) fun x => sameV x v e) (κ env t h0 h1 n)) o)
    (fun j => b.at j fun r => hgetR r h0 fun x => freeK x (κ env t h0 h1 n))
    (fun _ j o => @AOp.rec (fun _ => R) (fun d g k => guardV g (tellE sm env t) (fun κ => b.at j fun r => hgetR r h1 fun x => obS x fun ob => hputR r hempty (some ob) fun hx => atV (evk2 k cf (tellE sm env t) hx n rv0) κ) (fun v => store2 sm d t v fun t => κ (envAdd d v env) t h0 h1 n)) o) i
abbrev items2K (sm : SM) (cf : CF2) (b : K4) (l : List Item) : Ren → S → Heap → Heap → K4 → (Ren → S → Heap → Heap → K4 → R) → R :=
  @List.rec Item (fun _ => Ren → S → Heap → Heap → K4 → (Ren → S → Heap → Heap → K4 → R) → R) (fun env t h0 h1 n κ => κ env t h0 h1 n)
    (fun i _ ih env t h0 h1 n κ => item2K sm cf b i env t h0 h1 n fun env t h0 h1 n => ih env t h0 h1 n κ) l
def keepB (sm : SM) (p : K2) : Bool := @Option.rec SL (fun _ => Bool) false (fun _ => true) (findS p sm)
def known (sm : SM) (dom : List K2) (p : K2) : Bool := memS p dom || keepB sm p
def okOp (sm : SM) (dom : List K2) (o : AOp) : Bool := o.slots.all (known sm dom)
def domAdd (d : Option K2) (dom : List K2) : List K2 := match d with | none => dom | some p => p :: dom
def okOps (sm : SM) : List AOp → List K2 → Bool
  | [], _ => true
  | o :: l, dom => okOp sm dom o && okOps sm l (domAdd o.dst dom)
def domOps : List AOp → List K2 → List K2
  | [], dom => dom
  | o :: l, dom => domOps l (domAdd o.dst dom)
def Item.op : Item → Option AOp
  | .rd _ o => some o
  | .ef _ o => some o
  | .al _ _ o => some o
  | .rn _ _ o => some o
  | _ => none
def okItem (sm : SM) (dom : List K2) : Item → Bool
  | .rd _ o => okOp sm dom o
  | .ef _ o => okOp sm dom o
  | .al _ _ o => okOp sm dom o
  | .rn _ _ o => okOp sm dom o
  | .ck _ o => okOp sm dom o && match o.dst with | some p => known sm dom p | none => true
  | .no _ => true
def domItem (i : Item) (dom : List K2) : List K2 := match i.op with | some o => domAdd o.dst dom | none => dom
def okItems (sm : SM) : List Item → List K2 → Bool
  | [], _ => true
  | i :: l, dom => okItem sm dom i && okItems sm l (domItem i dom)
def domItems : List Item → List K2 → List K2
  | [], dom => dom
  | i :: l, dom => domItems l (domItem i dom)
section
variable {P : Program} {ρ : Env} {B N : Nat} {cf : CF} {cf2 : CF2} {sm : SM}
def findR (p : K2) : Ren → Option V
  | [] => none
  | x :: l => br (K2.beq x.1 p) (some x.2) (findR p l)
theorem findR_same {p : K2} {v : V} {env : Ren} : findR p ((p, v) :: env) = some v := by
  simp only [findR, K2.beq_iff.2 rfl]; rfl
theorem findR_ne {p q : K2} {v : V} {env : Ren} (h : p ≠ q) : findR q ((p, v) :: env) = findR q env := by
  have : K2.beq p q = false := by
    cases hb : K2.beq p q with
    | false => rfl
    | true => exact absurd (K2.beq_iff.1 hb) h
  simp only [findR, this]; rfl
theorem renK_eq (p : K2) (env : Ren) (κ : V → R) (e : R) : renK p env κ e = match findR p env with | some v => κ v | none => e := by
  induction env with
  | nil => rfl
  | cons x l ih =>
    obtain ⟨q, v⟩ := x
    have e1 : renK p ((q, v) :: l) κ e = cho (K2.beq q p) (κ v) (renK p l κ e) := rfl
    rw [e1, ih]
    by_cases h : q = p
    · subst h; rw [findR_same, K2.beq_iff.2 rfl]
    · rw [findR_ne h]
      have : K2.beq q p = false := by
        cases hb : K2.beq q p with
        | false => rfl
        | true => exact absurd (K2.beq_iff.1 hb) h
      rw [this]
/-- The full registers t, those kept t', and what the region has told. -/
structure RI (sm : SM) (dom : List K2) (env : Ren) (t : Regs) (t' : S) : Prop where
  inj : ∀ {p q s}, findS p sm = some s → findS q sm = some s → p = q
  told : ∀ p v, findR p env = some v → rget p t = v
  dom : ∀ p, p ∈ dom → ∃ v, findR p env = some v
  keep : ∀ p s, findS p sm = some s → S.get s t' = rget p t
theorem keepB_some {p : K2} (h : keepB sm p = true) : ∃ s, findS p sm = some s := by
  unfold keepB at h
  cases hf : findS p sm with
  | none => rw [hf] at h; cases h
  | some s => exact ⟨s, rfl⟩
theorem RI.tell {dom : List K2} {env : Ren} {t : Regs} {t' : S} (r : RI sm dom env t t') {p : K2} (h : known sm dom p = true) (κ : V → R) : tellE sm env t' (.t p) κ = κ (rget p t) := by
  have e1 : tellE sm env t' (.t p) κ = renK p env κ (findSK p sm (fun s => getA s t' κ) (.fail "a register that is not kept")) := rfl
  rw [e1, renK_eq, findSK_eq]
  cases hf : findR p env with
  | some v => rw [r.told p v hf]
  | none =>
    have hk : keepB sm p = true := by
      unfold known at h
      rw [Bool.or_eq_true] at h
      rcases h with h | h
      · obtain ⟨v, hv⟩ := r.dom p (memS_iff.1 h); rw [hf] at hv; cases hv
      · exact h
    obtain ⟨s, hs⟩ := keepB_some hk
    rw [hs]
    show getA s t' κ = _
    rw [getA_eq, r.keep p s hs]
theorem RI.tells {dom : List K2} {env : Ren} {t : Regs} {t' : S} (r : RI sm dom env t t') {o : AOp} (h : okOp sm dom o = true) : (∀ x ∈ o.k.opds, ∀ κ, tellE sm env t' x κ = κ (ev x t)) ∧ (∀ p w, o.g = some (p, w) → ∀ κ, tellE sm env t' (.t p) κ = κ (rget p t)) := by
  have h := List.all_eq_true.1 h
  refine ⟨fun x hx κ => ?_, fun p w hg κ => r.tell (h p ?_) κ⟩
  · cases x with
    | c v => rfl
    | t p => exact r.tell (h p (List.mem_append_left _ (List.mem_filterMap.2 ⟨.t p, hx, rfl⟩))) κ
  · refine List.mem_append_right _ ?_
    rw [hg]; simp
theorem RI.start (hi : ∀ {p q s}, findS p sm = some s → findS q sm = some s → p = q) {t : Regs} {t' : S} (h : ∀ p s, findS p sm = some s → S.get s t' = rget p t) : RI sm [] [] t t' :=
  ⟨hi, fun p v h => (by simp [findR] at h), fun p h => (by simp at h), h⟩
theorem RI.put {dom : List K2} {env : Ren} {t : Regs} {t' : S} (r : RI sm dom env t t') (d : Option K2) (v : V) (κ : S → R) :
    ∃ t1', store2 sm d t' v κ = κ t1' ∧ RI sm (domAdd d dom) (envAdd d v env) (putS d t v) t1' := by
  cases d with
  | none => exact ⟨t', rfl, r⟩
  | some p =>
    have e1 : store2 sm (some p) t' v κ = findSK p sm (fun s => putA s t' v κ) (κ t') := rfl
    have e2 : envAdd (some p) v env = (p, v) :: env := rfl
    have told : ∀ q u, findR q ((p, v) :: env) = some u → rget q (putS (some p) t v) = u := fun q u hq => by
      by_cases e : p = q
      · subst e; rw [findR_same] at hq; cases hq; exact rget_rputS_same _ _ _
      · rw [findR_ne e] at hq
        rw [show rget q (putS (some p) t v) = rget q t from rget_rputS_ne _ _ e]; exact r.told q u hq
    have dm : ∀ q, q ∈ domAdd (some p) dom → ∃ u, findR q ((p, v) :: env) = some u := fun q hq => by
      by_cases e : p = q
      · subst e; exact ⟨v, findR_same⟩
      · rw [findR_ne e]
        rcases List.mem_cons.1 hq with h | h
        · exact absurd h.symm e
        · exact r.dom q h
    rw [e1, findSK_eq]
    cases hk : findS p sm with
    | some s =>
      refine ⟨S.put s t' v, putA_eq _ _ _ _, ?_⟩
      rw [e2]
      refine ⟨r.inj, told, dm, fun q s' hq => ?_⟩
      show S.get s' (S.put s t' v) = rget q (rputS p t v)
      by_cases e : p = q
      · subst e
        rw [hk] at hq; cases hq
        rw [rget_rputS_same, S.get_put_same]
      · have hs : s ≠ s' := fun hs => e (r.inj (hs ▸ hk) hq)
        rw [rget_rputS_ne _ _ e, S.get_put_ne _ _ hs]; exact r.keep q s' hq
    | none =>
      refine ⟨t', rfl, ?_⟩
      rw [e2]
      refine ⟨r.inj, told, dm, fun q s' hq => ?_⟩
      have e : p ≠ q := fun e => by subst e; rw [hk] at hq; cases hq
      show S.get s' t' = rget q (rputS p t v)
      rw [rget_rputS_ne _ _ e]; exact r.keep q s' hq
theorem vguard_eq {p : K2} {w : Bool} {t : Regs} {yes no : R} : vguard w (rget p t) yes no = guardK (some (p, w)) t yes no := (rgetK_eq p t _).symm
theorem guard2_eq {g : Option (K2 × Bool)} {ε : Tell} {t : Regs} {F : KV → R} {κ : KV} {h : Heap} {n : K4} (hh : ∀ p w, g = some (p, w) → ∀ κ, ε (.t p) κ = κ (rget p t)) : guard2 g ε F κ h n = guardK g t (F κ) (κ undV h n) := by
  cases g with
  | none => rfl
  | some pw =>
    obtain ⟨p, w⟩ := pw
    exact (hh p w rfl _).trans vguard_eq
theorem guardV_eq {g : Option (K2 × Bool)} {ε : Tell} {t : Regs} {F : (V → R) → R} {κ : V → R} (hh : ∀ p w, g = some (p, w) → ∀ κ, ε (.t p) κ = κ (rget p t)) : guardV g ε F κ = guardK g t (F κ) (κ undV) := by
  cases g with
  | none => rfl
  | some pw =>
    obtain ⟨p, w⟩ := pw
    exact (hh p w rfl _).trans vguard_eq
theorem guard0_eq {g : Option (K2 × Bool)} {ε : Tell} {t : Regs} {F : R → R} {κ : R} (hh : ∀ p w, g = some (p, w) → ∀ κ, ε (.t p) κ = κ (rget p t)) : guard0 g ε F κ = guardK g t (F κ) κ := by
  cases g with
  | none => rfl
  | some pw =>
    obtain ⟨p, w⟩ := pw
    exact (hh p w rfl _).trans vguard_eq
def stepV (cf : CF) (o : AOp) (t : Regs) (h : Heap) (n : K4) (κ : KV) : R := guardK o.g t (evk o.k cf t h n κ) (κ undV h n)
theorem stepV_good (hρ : OneSym ρ) (hcf : CallOK P ρ B cf) {ops : Array Oper} {o : Oper} {ao : AOp} (hc : cOper P N ops o = some ao) {t : Regs} {h : Heap} {n : K4} {κ : KV} (hg : (stepV cf ao t h n κ).good) :
    ∃ v h1 n1, stepV cf ao t h n κ = κ v h1 n1 ∧ ∀ φ a w, TR ρ N φ t a → Gam ρ B h n φ w → ∀ (K : Act → World → Prop) (Q : Exit → Act → World → Prop),
      (∀ φ' a' w', Fr h h1 φ φ' n n1 w w' → Gam ρ B h1 n1 φ' w' → TR ρ N φ' (putS ao.dst t v) a' → K a' w') → modelStep P ops o a w K Q := by
  obtain ⟨hd, hgd, hk⟩ := cOper_some hc
  rcases guardK_good (ρ := ρ) (o := o) (show R.good (guardK _ _ _ _) from hg) hgd with ⟨e1, hw⟩ | ⟨e1, hw⟩
  · have e1 : stepV cf ao t h n κ = _ := e1
    rw [e1] at hg
    have hs : Sound P ρ B N o (evk ao.k cf t h n) t h n := by
      rcases hk with hk | ⟨why, hk⟩
      · exact kind_sound hρ hcf hk
      · rw [hk]; exact sound_bad (cf := cf) (why := why)
    obtain ⟨v, h1, n1, e2, hstep⟩ := hs _ hg
    refine ⟨v, h1, n1, e1.trans e2, fun φ a w hT g K Q hK => ?_⟩
    unfold modelStep
    rw [if_pos (hw φ a hT)]
    exact hstep φ a w hT g K Q fun φ' x w' f1 g1 r1 => hK φ' _ w' f1 g1 ((hT.mono f1.ext).puts hd r1)
  · have e1 : stepV cf ao t h n κ = _ := e1
    refine ⟨undV, h, n, e1, fun φ a w hT g K Q hK => ?_⟩
    unfold modelStep
    rw [if_neg (by rw [hw φ a hT]; simp)]
    exact hK φ _ w (Fr.refl h φ n w) g (hT.puts hd rel_undef)
/-- A list of operations, and what comes behind it. -/
def wpChain (P : Program) (ops : Array Oper) (Q : Exit → Act → World → Prop) (K : Act → World → Prop) : List Oper → Act → World → Prop
  | [], a, w => K a w
  | o :: rest, a, w => if Region.wanted o (yielded ops a.tmps) = true then o.wp P a w (wpChain P ops Q K rest) Q else wpChain P ops Q K rest (a.put o.dst undef) w
theorem wpChain_list {ops : Array Oper} {Q : Exit → Act → World → Prop} {r : List Oper} : ∀ {l : List Oper} {a : Act} {w : World}, wpChain P ops Q (wpList P ops Q r) l a w → wpList P ops Q (l ++ r) a w
  | [], _, _, h => h
  | o :: l, a, w, h => by
    show wpList P ops Q (o :: (l ++ r)) a w
    simp only [wpList]
    unfold wpChain at h
    split
    · rw [if_pos (by assumption)] at h
      refine .inl ?_
      exact Oper.wp_mono (fun a w h => wpChain_list h) h
    · rw [if_neg (by assumption)] at h; exact wpChain_list h
theorem ops2K_goodR (hρ : OneSym ρ) (hcf : CallOK P ρ B cf) (h2 : ∀ f, cf2 (fnKey f) = cf f) {ops : Array Oper} : ∀ {l : List Oper} {al : List AOp} {dom : List K2} {env : Ren} {t : Regs} {t' : S} {h : Heap} {n : K4} {κ : Ren → S → Heap → K4 → R},
    cOps P N ops l = some al → okOps sm al dom = true → RI sm dom env t t' → (ops2K sm cf2 al env t' h n κ).good →
    ∃ env1 t1 t1' h1 n1, ops2K sm cf2 al env t' h n κ = κ env1 t1' h1 n1 ∧ RI sm (domOps al dom) env1 t1 t1' ∧ ∀ φ a w, TR ρ N φ t a → Gam ρ B h n φ w → ∀ (Q : Exit → Act → World → Prop) (K : Act → World → Prop),
      (∀ φ' a' w', Fr h h1 φ φ' n n1 w w' → Gam ρ B h1 n1 φ' w' → TR ρ N φ' t1 a' → K a' w') → wpChain P ops Q K l a w
  | [], al, dom, env, t, t', h, n, κ, hc, hok, ri, hg => by
    simp only [cOps, Option.some.injEq] at hc; subst hc
    exact ⟨env, t, t', h, n, rfl, ri, fun φ a w hT g Q K hQ => hQ φ a w (Fr.refl h φ n w) g hT⟩
  | o :: l, al, dom, env, t, t', h, n, κ, hc, hok, ri, hg => by
    simp only [cOps] at hc
    split at hc
    · rename_i ao al' ho hl
      cases hc
      simp only [okOps, Bool.and_eq_true] at hok
      have ht := ri.tells hok.1
      have e0 : ops2K sm cf2 (ao :: al') env t' h n κ = guard2 ao.g (tellE sm env t') (evk2 ao.k cf2 (tellE sm env t') h n) (fun v h n => store2 sm ao.dst t' v fun t => ops2K sm cf2 al' (envAdd ao.dst v env) t h n κ) h n := by cases ao; rfl
      have e1 : ops2K sm cf2 (ao :: al') env t' h n κ = stepV cf ao t h n (fun v h n => store2 sm ao.dst t' v fun t => ops2K sm cf2 al' (envAdd ao.dst v env) t h n κ) := by
        rw [e0, guard2_eq ht.2, evk2_eq ht.1 h2]; rfl
      rw [e1] at hg ⊢
      obtain ⟨v, h1, n1, e2, H1⟩ := stepV_good (B := B) hρ hcf ho hg
      rw [e2] at hg ⊢
      obtain ⟨t1', e3, ri1⟩ := ri.put ao.dst v (fun t => ops2K sm cf2 al' (envAdd ao.dst v env) t h1 n1 κ)
      rw [e3] at hg ⊢
      obtain ⟨env2, t2, t2', hh2, n2, e4, ri2, H2⟩ := ops2K_goodR hρ hcf h2 hl hok.2 ri1 hg
      refine ⟨env2, t2, t2', hh2, n2, e4, ri2, fun φ a w hT g Q K hQ => ?_⟩
      have := H1 φ a w hT g (wpChain P ops Q K l) Q fun φ' a' w' f1 g1 T1 => H2 φ' a' w' T1 g1 Q K fun φ2 a2 w2 f2 g2 T2 => hQ φ2 a2 w2 (Fr.trans f1 f2) g2 T2
      exact this
    · cases hc
theorem ops2K_good (hρ : OneSym ρ) (hcf : CallOK P ρ B cf) (h2 : ∀ f, cf2 (fnKey f) = cf f) {ops : Array Oper} {l : List Oper} {al : List AOp} {dom : List K2} {env : Ren} {t : Regs} {t' : S} {h : Heap} {n : K4} {κ : Ren → S → Heap → K4 → R}
    (hc : cOps P N ops l = some al) (hok : okOps sm al dom = true) (ri : RI sm dom env t t') (hg : (ops2K sm cf2 al env t' h n κ).good) :
    ∃ env1 t1 t1' h1 n1, ops2K sm cf2 al env t' h n κ = κ env1 t1' h1 n1 ∧ RI sm (domOps al dom) env1 t1 t1' ∧ ∀ φ a w, TR ρ N φ t a → Gam ρ B h n φ w → ∀ (Q : Exit → Act → World → Prop),
      (∀ φ' a' w', Fr h h1 φ φ' n n1 w w' → Gam ρ B h1 n1 φ' w' → TR ρ N φ' t1 a' → Q .normal a' w') → wpList P ops Q l a w := by
  obtain ⟨env1, t1, t1', h1, n1, e1, ri1, H⟩ := ops2K_goodR hρ hcf h2 hc hok ri hg
  exact ⟨env1, t1, t1', h1, n1, e1, ri1, fun φ a w hT g Q hQ => by have := wpChain_list (r := []) (H φ a w hT g Q (wpList P ops Q []) hQ); rwa [List.append_nil] at this⟩
theorem atV_good {r : R} {κ : V → R} (hg : (atV r κ).good) : ∃ v h n, r = .rv v h n ∧ atV r κ = κ v := by
  cases r with
  | ok e t h n => exact hg.elim
  | rv v h n => exact ⟨v, h, n, rfl, rfl⟩
  | fail w => exact hg.elim
  | both a b => exact hg.elim
theorem item2K_good (h2 : ∀ f, cf2 (fnKey f) = cf f) {b : K4} {i : Item} {dom : List K2} {env : Ren} {s : St} {t' : S} {κ : Ren → S → Heap → Heap → K4 → R} (hok : okItem sm dom i = true) (ri : RI sm dom env s.t t') (hg : (item2K sm cf2 b i env t' s.h0 s.h1 s.n κ).good) :
    ∃ s' env1 t1', ItemStep cf b i s s' ∧ RI sm (domItem i dom) env1 s'.t t1' ∧ item2K sm cf2 b i env t' s.h0 s.h1 s.n κ = κ env1 t1' s'.h0 s'.h1 s'.n := by
  obtain ⟨t, h0, h1, n⟩ := s
  cases i with
  | rd i o =>
    have ht := ri.tells hok
    have e0 : item2K sm cf2 b (.rd i o) env t' h0 h1 n κ = guardV o.g (tellE sm env t') (atV (evk2 o.k cf2 (tellE sm env t') h0 n rv0)) (fun v => store2 sm o.dst t' v fun t => κ (envAdd o.dst v env) t h0 h1 n) := by cases o; rfl
    simp only [e0] at hg ⊢
    rw [guardV_eq ht.2, evk2_eq ht.1 h2] at hg ⊢
    rcases guardK_dec hg with hy | hn
    · rw [hy] at hg
      obtain ⟨v, h, n', e1, e2⟩ := atV_good hg
      obtain ⟨t1', e3, ri1⟩ := ri.put o.dst v (fun t => κ (envAdd o.dst v env) t h0 h1 n)
      exact ⟨_, _, _, .inl ⟨hy, v, h, n', e1, rfl⟩, ri1, by rw [hy, e2, e3]⟩
    · obtain ⟨t1', e3, ri1⟩ := ri.put o.dst undV (fun t => κ (envAdd o.dst undV env) t h0 h1 n)
      exact ⟨_, _, _, .inr ⟨hn, rfl⟩, ri1, by rw [hn, e3]⟩
  | ef i o =>
    have ht := ri.tells hok
    have e0 : item2K sm cf2 b (.ef i o) env t' h0 h1 n κ = guard2 o.g (tellE sm env t') (atK (evk2 o.k cf2 (tellE sm env t') h1 n R.rv)) (fun v h n => store2 sm o.dst t' v fun t => κ (envAdd o.dst v env) t h h n) h1 n := by cases o; rfl
    simp only [e0] at hg ⊢
    rw [guard2_eq ht.2, evk2_eq ht.1 h2] at hg ⊢
    rcases guardK_dec hg with hy | hn
    · rw [hy] at hg
      obtain ⟨v, h, n', e1, e2⟩ := atK_good hg
      obtain ⟨t1', e3, ri1⟩ := ri.put o.dst v (fun t => κ (envAdd o.dst v env) t h h n')
      exact ⟨_, _, _, .inl ⟨hy, v, h, n', e1, rfl⟩, ri1, by rw [hy, e2, e3]⟩
    · obtain ⟨t1', e3, ri1⟩ := ri.put o.dst undV (fun t => κ (envAdd o.dst undV env) t h1 h1 n)
      exact ⟨_, _, _, .inr ⟨hn, rfl⟩, ri1, by rw [hn, e3]⟩
  | al i j o =>
    have ht := ri.tells hok
    have e0 : item2K sm cf2 b (.al i j o) env t' h0 h1 n κ = guard2 o.g (tellE sm env t') (fun κ => freeK (hget (plc b j) h1) (atK (evk2 o.k cf2 (tellE sm env t') h1 (plc b j) R.rv) κ)) (fun v h _ => store2 sm o.dst t' v fun t => κ (envAdd o.dst v env) t h0 h n) h1 n := by
      have : ∀ κ : KV, (b.at j fun r => hgetR r h1 fun x => freeK x (atK (evk2 o.k cf2 (tellE sm env t') h1 r R.rv) κ)) = freeK (hget (plc b j) h1) (atK (evk2 o.k cf2 (tellE sm env t') h1 (plc b j) R.rv) κ) := fun κ => by
        rw [K4.at_eq, hgetR_eq]; rfl
      cases o
      simp only [← this]
    simp only [e0] at hg ⊢
    rw [guard2_eq ht.2, evk2_eq ht.1 h2] at hg ⊢
    rcases guardK_dec hg with hy | hn
    · rw [hy] at hg
      obtain ⟨h3, e3⟩ := freeK_good hg
      rw [e3] at hg
      obtain ⟨v, h, n', e1, e2⟩ := atK_good hg
      obtain ⟨t1', e4, ri1⟩ := ri.put o.dst v (fun t => κ (envAdd o.dst v env) t h0 h n)
      exact ⟨_, _, _, .inl ⟨hy, h3, v, h, n', e1, rfl⟩, ri1, by rw [hy, e3, e2, e4]⟩
    · obtain ⟨t1', e3, ri1⟩ := ri.put o.dst undV (fun t => κ (envAdd o.dst undV env) t h0 h1 n)
      exact ⟨_, _, _, .inr ⟨hn, rfl⟩, ri1, by rw [hn, e3]⟩
  | ck i o =>
    simp only [okItem, Bool.and_eq_true] at hok
    have ht := ri.tells hok.1
    have e0 : item2K sm cf2 b (.ck i o) env t' h0 h1 n κ = guard0 o.g (tellE sm env t') (fun e => someK o.dst fun p => atV (evk2 o.k cf2 (tellE sm env t') h0 n rv0) fun v => tellE sm env t' (.t p) fun x => sameV x v e) (κ env t' h0 h1 n) := by cases o; rfl
    simp only [e0] at hg ⊢
    rw [guard0_eq ht.2, evk2_eq ht.1 h2] at hg ⊢
    rcases guardK_dec hg with hy | hn
    · rw [hy] at hg
      cases hd : o.dst with
      | none => rw [hd] at hg; exact hg.elim
      | some p =>
        have hkn : known sm dom p = true := by have := hok.2; rw [hd] at this; exact this
        rw [hd] at hg
        have e5 : (someK (some p) fun p => atV (evk o.k cf t h0 n rv0) fun v => tellE sm env t' (.t p) fun x => sameV x v (κ env t' h0 h1 n)) = atV (evk o.k cf t h0 n rv0) fun v => sameV (rget p t) v (κ env t' h0 h1 n) := by
          show atV _ (fun v => tellE sm env t' (.t p) fun x => sameV x v (κ env t' h0 h1 n)) = _
          congr 1; funext v
          exact ri.tell hkn _
        rw [e5] at hg
        obtain ⟨v, h, n', e1, e2⟩ := atV_good hg
        rw [e2] at hg
        obtain ⟨e3, e4⟩ := sameV_good hg
        exact ⟨_, env, t', ⟨rfl, .inl ⟨hy, p, h, n', hd, by show evk o.k cf t h0 n rv0 = .rv (rget p t) h n'; rw [e3]; exact e1⟩⟩, ri, by rw [hy]; exact e5.trans (e2.trans e4)⟩
    · exact ⟨_, env, t', ⟨rfl, .inr hn⟩, ri, by rw [hn]⟩
  | no j =>
    have e0 : item2K sm cf2 b (.no j) env t' h0 h1 n κ = freeK (hget (plc b j) h0) (κ env t' h0 h1 n) := by
      show b.at j (fun r => hgetR r h0 _) = _
      rw [K4.at_eq, hgetR_eq]; rfl
    simp only [e0] at hg ⊢
    obtain ⟨h3, e3⟩ := freeK_good hg
    exact ⟨_, env, t', ⟨rfl, h3⟩, ri, e3⟩
  | rn i j o =>
    have ht := ri.tells hok
    have e0 : item2K sm cf2 b (.rn i j o) env t' h0 h1 n κ = guardV o.g (tellE sm env t') (fun κ => obS (hget (plc b j) h1) fun ob => atV (evk2 o.k cf2 (tellE sm env t') (hputS (plc b j) hempty (some ob)) n rv0) κ) (fun v => store2 sm o.dst t' v fun t => κ (envAdd o.dst v env) t h0 h1 n) := by
      have : ∀ κ : V → R, (b.at j fun r => hgetR r h1 fun x => obS x fun ob => hputR r hempty (some ob) fun hx => atV (evk2 o.k cf2 (tellE sm env t') hx n rv0) κ) = obS (hget (plc b j) h1) fun ob => atV (evk2 o.k cf2 (tellE sm env t') (hputS (plc b j) hempty (some ob)) n rv0) κ := fun κ => by
        simp only [K4.at_eq, hgetR_eq, hputR_eq, hput_eq]; rfl
      cases o
      simp only [← this]
    simp only [e0] at hg ⊢
    simp only [evk2_eq ht.1 h2] at hg ⊢
    rw [guardV_eq ht.2] at hg ⊢
    rcases guardK_dec hg with hy | hn
    · rw [hy] at hg
      obtain ⟨ob, h3, e3⟩ := obS_good hg
      rw [e3] at hg
      obtain ⟨v, h, n', e1, e2⟩ := atV_good hg
      obtain ⟨t1', e4, ri1⟩ := ri.put o.dst v (fun t => κ (envAdd o.dst v env) t h0 h1 n)
      exact ⟨_, _, _, .inl ⟨hy, ob, v, h, n', h3, e1, rfl⟩, ri1, by rw [hy, e3, e2, e4]⟩
    · obtain ⟨t1', e3, ri1⟩ := ri.put o.dst undV (fun t => κ (envAdd o.dst undV env) t h0 h1 n)
      exact ⟨_, _, _, .inr ⟨hn, rfl⟩, ri1, by rw [hn, e3]⟩
theorem items2K_good (h2 : ∀ f, cf2 (fnKey f) = cf f) {b : K4} : ∀ {l : List Item} {dom : List K2} {env : Ren} {s : St} {t' : S} {κ : Ren → S → Heap → Heap → K4 → R}, okItems sm l dom = true → RI sm dom env s.t t' → (items2K sm cf2 b l env t' s.h0 s.h1 s.n κ).good →
    ∃ (st : Nat → St) (env1 : Ren) (t1' : S), st 0 = s ∧ (∀ i x, l[i]? = some x → ItemStep cf b x (st i) (st (i + 1))) ∧ RI sm (domItems l dom) env1 (st l.length).t t1' ∧ items2K sm cf2 b l env t' s.h0 s.h1 s.n κ = κ env1 t1' (st l.length).h0 (st l.length).h1 (st l.length).n
  | [], dom, env, s, t', κ, hok, ri, hg => ⟨fun _ => s, env, t', rfl, fun i x hx => by simp at hx, ri, rfl⟩
  | x :: l, dom, env, s, t', κ, hok, ri, hg => by
    simp only [okItems, Bool.and_eq_true] at hok
    have e0 : items2K sm cf2 b (x :: l) env t' s.h0 s.h1 s.n κ = item2K sm cf2 b x env t' s.h0 s.h1 s.n fun env t h0 h1 n => items2K sm cf2 b l env t h0 h1 n κ := rfl
    rw [e0] at hg
    obtain ⟨s', env1, t1', hs, ri1, e1⟩ := item2K_good h2 hok.1 ri hg
    rw [e1] at hg
    obtain ⟨st, env2, t2', h1, h3, ri2, h4⟩ := items2K_good h2 hok.2 ri1 hg
    refine ⟨fun i => match i with | 0 => s | i + 1 => st i, env2, t2', rfl, fun i y hy => ?_, ri2, ?_⟩
    · cases i with
      | zero => simp at hy; subst hy; show ItemStep cf b x s (st 0); rw [h1]; exact hs
      | succ i => exact h3 i y (by simpa using hy)
    · rw [e0, e1, h4]; rfl
end
end Go.Ev

namespace Go.Ev
open Go.ChangeMaps (setBlock)
set_option linter.unusedVariables false
/-- All that it may come to is known, and meets a condition. -/
def R.sat (Φ : R → Prop) : R → Prop
  | .fail _ => False
  | .both a b => a.sat Φ ∧ b.sat Φ
  | .ok e t h n => Φ (.ok e t h n)
  | .rv v h n => Φ (.rv v h n)
theorem R.sat_good {Φ : R → Prop} {r : R} (h : r.sat Φ) : r.good := by cases r <;> first | exact h.elim | trivial
theorem R.sat_mono {Φ Ψ : R → Prop} (H : ∀ r, Φ r → Ψ r) : ∀ {r : R}, r.sat Φ → r.sat Ψ
  | .fail _, h => h.elim
  | .both a b, h => ⟨R.sat_mono H h.1, R.sat_mono H h.2⟩
  | .ok _ _ _ _, h => H _ h
  | .rv _ _ _, h => H _ h
def itR (q : K4) (h : Heap) (κ0 : R) (κ : K4 → Nat → List Nat → Nat → R) : R :=
  hgetR q h fun o => @Option.rec Ob (fun _ => R) (.fail "no object") (fun o => @Ob.rec (fun _ => R) (fF3 "iterator expected") (fF3 "iterator expected") κ κ0 (fF2 "iterator expected") o) o
def rngK (v : V) (h : Heap) (n : K4) (κ : KV) : R :=
  asMap v (newR h n .it0 fun h' n' => κ (.ptr n 0) h' n') (fun p => mpR p h fun _ _ c => newR h n (.it p c [] c) fun h' n' => κ (.ptr n 0) h' n')
def findB (s : Nat) (es : List (V × V)) : List Nat → (V → V → R) → R :=
  @List.rec (V × V) (fun _ => List Nat → (V → V → R) → R) (fF2 "entry")
    (fun e _ ih bs κ => @List.rec Nat (fun _ => R) (.fail "stamps") (fun b tl _ => br (Nat.beq b s) (@Prod.rec V V (fun _ => R) κ e) (ih tl κ)) bs) es
def entK' (v : V) (h : Heap) (n : K4) (κ : KV) : R :=
  asP v fun q off => br (Nat.beq off 0) (itR q h (.fail "entry") fun p since seen c => mpR p h fun es bs clk => br (Nat.beq clk c)
    (@List.rec Nat (fun _ => R) (.fail "entry") (fun s _ _ => findB s es bs fun k x => κ (.tup [k, x]) h n) seen) (.fail "an insertion")) (.fail "iterator")
/-- Are all stamps elder? -/
def allLt (since : Nat) (bs : List Nat) : Bool := @List.rec Nat (fun _ => Bool) true (fun b _ ih => br (Nat.ble (Nat.succ b) since) ih false) bs
def memN (b : Nat) (l : List Nat) : Bool := @List.rec Nat (fun _ => Bool) false (fun x _ ih => br (Nat.beq x b) true ih) l
def leafK (q p : K4) (since : Nat) (seen : List Nat) (clk : Nat) (h : Heap) (n : K4) (κ : KV) (e : V × V) (b : Nat) : R :=
  hputR q h (some (.it p since (b :: seen) clk)) fun h' => @Prod.rec V V (fun _ => R) (fun k x => κ (.tup [.bool true, k, x]) h' n) e
def goMore (seen : List Nat) (leaf : V × V → Nat → R) (es : List (V × V)) : List Nat → R → R :=
  @List.rec (V × V) (fun _ => List Nat → R → R) (fun _ acc => acc)
    (fun e _ ih bs acc => @List.rec Nat (fun _ => R) (.fail "stamps") (fun b tl _ => br (memN b seen) (ih tl acc) (ih tl (.both acc (leaf e b)))) bs) es
def goNone (seen : List Nat) (leaf : V × V → Nat → R) (es : List (V × V)) : List Nat → R → R :=
  @List.rec (V × V) (fun _ => List Nat → R → R) (fun _ none => none)
    (fun e es ih bs none => @List.rec Nat (fun _ => R) (.fail "stamps") (fun b tl _ => br (memN b seen) (ih tl none) (goMore seen leaf es tl (leaf e b))) bs) es
def nxtK (v : V) (h : Heap) (n : K4) (κ : KV) : R :=
  asP v fun q off => br (Nat.beq off 0) (itR q h (κ (.tup [.bool false]) h n) fun p since seen c => mpR p h fun es bs clk => br (allLt since bs) (br (Nat.ble since c)
    (goNone seen (leafK q p since seen clk h n κ) es bs (κ (.tup [.bool false]) h n)) (.fail "clock")) (.fail "an insertion")) (.fail "iterator")
section
variable {P : Program} {ρ : Env} {B N : Nat} {o : Oper} {t : Regs} {h : Heap} {n : K4}
theorem itR_good {q : K4} {κ0 : R} {κ : K4 → Nat → List Nat → Nat → R} (hg : (itR q h κ0 κ).good) :
    (hget q h = some .it0 ∧ itR q h κ0 κ = κ0) ∨ ∃ p s l c, hget q h = some (.it p s l c) ∧ itR q h κ0 κ = κ p s l c := by
  have e : itR q h κ0 κ = @Option.rec Ob (fun _ => R) (.fail "no object") (fun o => @Ob.rec (fun _ => R) (fF3 "iterator expected") (fF3 "iterator expected") κ κ0 (fF2 "iterator expected") o) (hget q h) := hgetR_eq _ _ _
  rw [e] at hg
  cases hx : hget q h with
  | none => rw [hx] at hg; exact hg.elim
  | some ob =>
    rw [hx] at hg e
    cases ob with
    | c _ _ _ => exact hg.elim
    | m _ _ _ => exact hg.elim
    | it p s l c => exact .inr ⟨p, s, l, c, rfl, e⟩
    | it0 => exact .inl ⟨rfl, e⟩
    | lp _ _ => exact hg.elim
/-- One step of a range. -/
def SpOK (P : Program) (ρ : Env) (B N : Nat) (o : Oper) (t : Regs) (h : Heap) (n : K4) (f : KV → R) : Prop :=
  ∀ (κ : KV) (Φ : R → Prop), (f κ).sat Φ → ∀ (φ : Emb) (a : Act) (w : World), TR ρ N φ t a → Gam ρ B h n φ w → ∀ (K : Act → World → Prop) (Q : Exit → Act → World → Prop),
    (∀ v h1 n1, (κ v h1 n1).sat Φ → ∀ φ' x w', Fr h h1 φ φ' n n1 w w' → Gam ρ B h1 n1 φ' w' → rel ρ φ' v x → K (a.put o.dst x) w') → o.wp P a w K Q
theorem Sound.sp {f : KV → R} (H : Sound P ρ B N o f t h n) : SpOK P ρ B N o t h n f := fun κ Φ hs φ a w hT g K Q hK => by
  obtain ⟨v, h1, n1, e, st⟩ := H κ (R.sat_good hs)
  rw [e] at hs
  exact st φ a w hT g K Q fun φ' x w' f1 g1 r1 => hK v h1 n1 hs φ' x w' f1 g1 r1
theorem sound_rng {ty kt e : TypeId} {x : Operand} {x' : Opd} (ho : o.op = .range ty x) (hx : cOpd N x = some x') (ht : P.underlying ty = some (.map kt e)) : Sound P ρ B N o (rngK (ev x' t) h n) t h n := by
  intro κ hg
  unfold rngK at hg ⊢
  rw [newR_eq, mpR_eq] at hg ⊢
  rcases asMap_good hg with ⟨hv, e1⟩ | ⟨p, hv, e1⟩
  · rw [e1] at hg
    obtain ⟨n', hn, e2⟩ := newK_good hg
    refine ⟨_, _, _, e1.trans e2, .value fun φ a w hT g => ?_⟩
    have g1 := cOpd_rel hx hT
    rw [hv] at g1
    have gx := rel_nil g1
    refine ⟨_, .pointer (some ⟨w.heap.size, 0, none⟩), w.alloc (.mapIter none 0 #[] 0), ?_, Fr.alloc g.at_n (by omega) (Nat.le_refl _) (by omega) _ _ 0, g.alloc g.at_n (by omega) (by omega) .it0 rfl _ 0 fun φ' hle w' hw' => ⟨rfl, hw'⟩, rel_ptr_new⟩
    simp [execOp, ho, gx, nilOf, Instr.range, run_underlying ht, run_newObj]
  · rw [e1] at hg
    obtain ⟨es, bs, c, hpm, e2⟩ := mpK_good hg
    rw [e2] at hg
    obtain ⟨n', hn, e3⟩ := newK_good hg
    refine ⟨_, _, _, e1.trans (e2.trans e3), .value fun φ a w hT g => ?_⟩
    have g1 := cOpd_rel hx hT
    rw [hv] at g1
    obtain ⟨b, s, tot, hφ, gx⟩ := rel_map g1
    obtain ⟨ents, k1, k2, k3⟩ := g.obj p _ b s tot hpm hφ
    have hgo : (getObj b).run P w = .ok (.map ents c) w := by simp [getObj, Sem.run, k1]
    refine ⟨_, .pointer (some ⟨w.heap.size, 0, none⟩), w.alloc (.mapIter (some b) c #[] c), ?_, Fr.alloc g.at_n (by omega) (Nat.le_refl _) (by omega) _ _ 0, g.alloc g.at_n (by omega) (by omega) (.it p c [] c) rfl _ 0 fun φ' hle w' hw' => ⟨b, s, tot, hle _ _ hφ, rfl, hw'⟩, rel_ptr_new⟩
    simp only [execOp, ho, gx, Instr.range, Sem.run_bind, run_underlying ht, Result.andThen_ok, hgo]
    simp [run_newObj]
theorem findB_good {s : Nat} : ∀ {es : List (V × V)} {bs : List Nat} {κ : V → V → R}, (findB s es bs κ).good → ∃ (i : Nat) (e : V × V), es[i]? = some e ∧ bs[i]? = some s ∧ (∀ j, j < i → bs[j]? ≠ some s) ∧ findB s es bs κ = κ e.1 e.2
  | [], bs, κ, h => h.elim
  | (k, x) :: es, [], κ, h => h.elim
  | (k, x) :: es, b :: bs, κ, h => by
    have h : R.good (br (Nat.beq b s) (κ k x) (findB s es bs κ)) := h
    cases hb : Nat.beq b s with
    | true =>
      refine ⟨0, (k, x), rfl, by rw [Nat.eq_of_beq_eq_true hb]; rfl, fun j hj => by omega, ?_⟩
      show br (Nat.beq b s) (κ k x) (findB s es bs κ) = _
      rw [hb]; rfl
    | false =>
      rw [hb] at h
      obtain ⟨i, e, h1, h2, h3, h4⟩ := findB_good (show R.good (findB s es bs κ) from h)
      refine ⟨i + 1, e, by simpa using h1, by simpa using h2, fun j hj => ?_, ?_⟩
      · cases j with
        | zero => intro e; simp at e; subst e; simp at hb
        | succ j => simpa using h3 j (by omega)
      · show br (Nat.beq b s) (κ k x) (findB s es bs κ) = _
        rw [hb]; exact h4
theorem find_at {l : List MapEntry} {s : Nat} : ∀ {i : Nat} {m : MapEntry}, l[i]? = some m → m.born = s → (∀ j, j < i → (l.map (·.born))[j]? ≠ some s) → l.find? (·.born == s) = some m := by
  induction l with
  | nil => intro i m h; simp at h
  | cons x l ih =>
    intro i m h hm hj
    cases i with
    | zero => simp at h; subst h; simp [hm]
    | succ i =>
      have h0 := hj 0 (by omega)
      simp at h0
      rw [List.find?_cons]
      have : (x.born == s) = false := by simpa using h0
      rw [this]
      exact ih (by simpa using h) hm fun j hj' => by have := hj (j + 1) (by omega); simpa using this
theorem sound_ent {x : Operand} {x' : Opd} (ho : o.op = .entry x) (hx : cOpd N x = some x') : Sound P ρ B N o (entK' (ev x' t) h n) t h n := by
  intro κ hg
  unfold entK' at hg ⊢
  rw [mpR_eq] at hg ⊢
  obtain ⟨q, off, hv, e1⟩ := asP_good hg
  rw [e1] at hg
  obtain ⟨h0, e2⟩ := br_good hg
  rw [e2] at hg
  have h0 := Nat.eq_of_beq_eq_true h0
  subst h0
  rcases itR_good hg with ⟨hq, e3⟩ | ⟨p, since, seen, c, hq, e3⟩
  · rw [e3] at hg; exact hg.elim
  rw [e3] at hg
  obtain ⟨es, bs, clk, hp, e4⟩ := mpK_good hg
  rw [e4] at hg
  obtain ⟨h5, e5⟩ := br_good hg
  rw [e5] at hg
  have h5 := Nat.eq_of_beq_eq_true h5
  subst h5
  cases seen with
  | nil => exact hg.elim
  | cons s seen =>
    obtain ⟨i, ee, k1, k2, k3, e6⟩ := findB_good (show R.good (findB s es bs fun k x => κ (.tup [k, x]) h n) from hg)
    refine ⟨_, h, n, e1.trans (e2.trans (e3.trans (e4.trans (e5.trans e6)))), .pure fun φ a w hT g => ?_⟩
    have g1 := cOpd_rel hx hT
    rw [hv] at g1
    obtain ⟨b, sq, tot, hφ, gx⟩ := rel_ptr g1
    have := g.obj q _ b sq tot hq hφ
    obtain ⟨bm, sm, tm, hφm, hs0, hit⟩ := this
    subst hs0
    obtain ⟨ents, m1, m2, m3⟩ := g.obj p _ bm sm tm hp hφm
    obtain ⟨mm, hmm, hk, hvv⟩ := EsOK_get m2 k1
    have hborn : mm.born = s := by
      have : (ents.toList.map (·.born))[i]? = some s := by rw [m3]; exact k2
      rw [List.getElem?_map, hmm] at this
      simpa using this
    have hf : ents.find? (·.born == s) = some mm := by
      rw [← Array.find?_toList]
      exact find_at hmm hborn fun j hj => by rw [m3]; exact k3 j hj
    have hgo1 : (getObj b).run P w = .ok (.mapIter (some bm) since (s :: seen).reverse.toArray clk) w := by simp [getObj, Sem.run, hit]
    have hgo2 : (getObj bm).run P w = .ok (.map ents clk) w := by simp [getObj, Sem.run, m1]
    have hback : (s :: seen).reverse.toArray.back? = some s := by simp
    refine ⟨.tuple #[mm.key, mm.val], ?_, by simp only [rel, rels]; exact ⟨_, rfl, _, _, rfl, hk, _, _, rfl, hvv, rfl⟩⟩
    simp only [execOp, ho, gx, Instr.entry, Nat.zero_add, Sem.run_bind, hgo1, Result.andThen_ok, hback, hgo2]
    simp [hf]
theorem memN_eq (b : Nat) : ∀ l : List Nat, memN b l = l.contains b
  | [] => rfl
  | x :: l => by
    show br (Nat.beq x b) true (memN b l) = _
    rw [memN_eq b l, List.contains_cons]
    cases hb : Nat.beq x b with
    | true => rw [Nat.eq_of_beq_eq_true hb]; simp [br]
    | false =>
      have : (b == x) = false := by
        cases h : b == x with
        | false => rfl
        | true => have := eq_of_beq h; subst this; rw [Nat.beq_refl] at hb; cases hb
      rw [this]; rfl
theorem allLt_iff {since : Nat} : ∀ {bs : List Nat}, allLt since bs = true → ∀ b ∈ bs, b < since
  | [], _, b, hb => by simp at hb
  | x :: bs, h, b, hb => by
    have h : br (Nat.ble (Nat.succ x) since) (allLt since bs) false = true := h
    cases hx : Nat.ble (Nat.succ x) since with
    | false => rw [hx] at h; cases h
    | true =>
      rw [hx] at h
      rcases List.mem_cons.1 hb with e | hb
      · subst e; exact ble_iff.1 hx
      · exact allLt_iff (show allLt since bs = true from h) b hb
section
variable {seen : List Nat} {leaf : V × V → Nat → R} {Φ : R → Prop}
theorem goMore_sat : ∀ {es : List (V × V)} {bs : List Nat} {acc : R}, (goMore seen leaf es bs acc).sat Φ → acc.sat Φ ∧ ∀ (i : Nat) (e : V × V) (b : Nat), es[i]? = some e → bs[i]? = some b → memN b seen = false → (leaf e b).sat Φ
  | [], bs, acc, h => ⟨h, fun i e b he => by simp at he⟩
  | e0 :: es, [], acc, h => h.elim
  | e0 :: es, b0 :: bs, acc, h => by
    have h : (br (memN b0 seen) (goMore seen leaf es bs acc) (goMore seen leaf es bs (.both acc (leaf e0 b0)))).sat Φ := h
    cases hm : memN b0 seen with
    | true =>
      rw [hm] at h
      obtain ⟨h1, h2⟩ := goMore_sat (show (goMore seen leaf es bs acc).sat Φ from h)
      refine ⟨h1, fun i e b he hb hn => ?_⟩
      cases i with
      | zero => simp at he hb; subst he hb; rw [hm] at hn; cases hn
      | succ i => exact h2 i e b (by simpa using he) (by simpa using hb) hn
    | false =>
      rw [hm] at h
      obtain ⟨h1, h2⟩ := goMore_sat (show (goMore seen leaf es bs (.both acc (leaf e0 b0))).sat Φ from h)
      refine ⟨h1.1, fun i e b he hb hn => ?_⟩
      cases i with
      | zero => simp at he hb; subst he hb; exact h1.2
      | succ i => exact h2 i e b (by simpa using he) (by simpa using hb) hn
theorem goNone_sat : ∀ {es : List (V × V)} {bs : List Nat} {none : R}, (goNone seen leaf es bs none).sat Φ → ((∀ b ∈ bs, memN b seen = true) → es.length = bs.length → none.sat Φ) ∧ ∀ (i : Nat) (e : V × V) (b : Nat), es[i]? = some e → bs[i]? = some b → memN b seen = false → (leaf e b).sat Φ
  | [], bs, acc, h => ⟨fun _ _ => h, fun i e b he => by simp at he⟩
  | e0 :: es, [], acc, h => h.elim
  | e0 :: es, b0 :: bs, acc, h => by
    have h : (br (memN b0 seen) (goNone seen leaf es bs acc) (goMore seen leaf es bs (leaf e0 b0))).sat Φ := h
    cases hm : memN b0 seen with
    | true =>
      rw [hm] at h
      obtain ⟨h1, h2⟩ := goNone_sat (show (goNone seen leaf es bs acc).sat Φ from h)
      refine ⟨fun ha hl => h1 (fun b hb => ha b (List.mem_cons_of_mem _ hb)) (by simpa using hl), fun i e b he hb hn => ?_⟩
      cases i with
      | zero => simp at he hb; subst he hb; rw [hm] at hn; cases hn
      | succ i => exact h2 i e b (by simpa using he) (by simpa using hb) hn
    | false =>
      rw [hm] at h
      obtain ⟨h1, h2⟩ := goMore_sat (show (goMore seen leaf es bs (leaf e0 b0)).sat Φ from h)
      refine ⟨fun ha _ => absurd (ha b0 (List.mem_cons_self ..)) (by rw [hm]; simp), fun i e b he hb hn => ?_⟩
      cases i with
      | zero => simp at he hb; subst he hb; exact h1
      | succ i => exact h2 i e b (by simpa using he) (by simpa using hb) hn
end
theorem sp_nxt {x : Operand} {x' : Opd} (ho : o.op = .next x false) (hx : cOpd N x = some x') : SpOK P ρ B N o t h n (nxtK (ev x' t) h n) := by
  intro κ Φ hs φ a w hT g K Q hK
  unfold nxtK at hs
  rw [mpR_eq] at hs
  obtain ⟨q, off, hv, e1⟩ := asP_good (R.sat_good hs)
  rw [e1] at hs
  obtain ⟨h0, e2⟩ := br_good (R.sat_good hs)
  rw [e2] at hs
  have h0 := Nat.eq_of_beq_eq_true h0
  subst h0
  have g1 := cOpd_rel hx hT
  rw [hv] at g1
  obtain ⟨b, sq, tot, hφ, gx⟩ := rel_ptr g1
  rcases itR_good (R.sat_good hs) with ⟨hq, e3⟩ | ⟨p, since, seen, c, hq, e3⟩
  · rw [e3] at hs
    obtain ⟨hs0, hit⟩ := g.obj q _ b sq tot hq hφ
    subst hs0
    have hgo1 : (getObj b).run P w = .ok (.mapIter none 0 #[] 0) w := by simp [getObj, Sem.run, hit]
    have hrun : (execOp a.eval o).run P w = .ok (.value (.tuple #[.bool false])) w := by
      simp only [execOp, ho, gx, Instr.next, Nat.zero_add, Sem.run_bind, hgo1, Result.andThen_ok]
      simp
    unfold Oper.wp
    rw [hrun]
    exact hK _ _ _ hs φ _ w (Fr.refl h φ n w) g (by simp only [rel, rels]; exact ⟨_, rfl, _, _, rfl, rfl, rfl⟩)
  · rw [e3] at hs
    obtain ⟨es, bs, clk, hp, e4⟩ := mpK_good (R.sat_good hs)
    rw [e4] at hs
    obtain ⟨h5, e5⟩ := br_good (R.sat_good hs)
    rw [e5] at hs
    obtain ⟨h6, e6⟩ := br_good (R.sat_good hs)
    rw [e6] at hs
    obtain ⟨c1, c2⟩ := goNone_sat hs
    obtain ⟨bm, sm, tm, hφm, hs0, hit⟩ := g.obj q _ b sq tot hq hφ
    subst hs0
    obtain ⟨ents, m1, m2, m3⟩ := g.obj p _ bm sm tm hp hφm
    have hold : ∀ x ∈ ents.toList, x.born < since := fun x hx => allLt_iff h5 _ (by rw [← m3]; exact List.mem_map.2 ⟨x, hx, rfl⟩)
    have hlen : es.length = bs.length := by rw [← EsOK_length m2, ← m3, List.length_map]
    have hcon : ∀ k : Nat, seen.reverse.toArray.contains k = memN k seen := fun k => by rw [memN_eq]; simp
    rcases run_next_at (P := P) w o.type b bm since c seen.reverse.toArray ents clk hit m1 hold (ble_iff.1 h6) with ⟨hz, hrun⟩ | ⟨e, he, w1, hal, hrun⟩
    · have hall : ∀ k ∈ bs, memN k seen = true := fun k hk => by
        rw [← m3] at hk
        obtain ⟨x, hx, rfl⟩ := List.mem_map.1 hk
        cases hm : memN x.born seen with
        | true => rfl
        | false =>
          have : x ∈ leftOf ents seen.reverse.toArray := by
            unfold leftOf
            rw [Array.mem_filter]
            exact ⟨by simpa using hx, by rw [hcon, hm]; rfl⟩
          rw [Array.eq_empty_of_size_eq_zero hz] at this
          simp at this
      have hx : (execOp a.eval o).run P w = .ok (.value (.tuple #[.bool false])) w := by
        simp only [execOp, ho, gx, Nat.zero_add, Sem.run_bind, hrun, Result.andThen_ok]
        simp
      unfold Oper.wp
      rw [hx]
      exact hK _ _ _ (c1 hall hlen) φ _ w (Fr.refl h φ n w) g (by simp only [rel, rels]; exact ⟨_, rfl, _, _, rfl, rfl, rfl⟩)
    · have he' : e ∈ ents.toList ∧ memN e.born seen = false := by
        unfold leftOf at he
        have he := Array.mem_filter.1 (Array.mem_toList_iff.1 he)
        refine ⟨by simpa using he.1, ?_⟩
        have := he.2
        rw [hcon] at this
        simpa using this
      obtain ⟨i, hi⟩ := List.getElem?_of_mem he'.1
      have hil : i < es.length := by rw [← EsOK_length m2]; exact (List.getElem?_eq_some_iff.1 hi).1
      obtain ⟨mm, hmm, hk1, hk2⟩ := EsOK_get m2 (List.getElem?_eq_getElem hil)
      rw [hi] at hmm; cases hmm
      have hb : bs[i]? = some e.born := by rw [← m3, List.getElem?_map, hi]; rfl
      have leaf := c2 i _ _ (List.getElem?_eq_getElem hil) hb he'.2
      unfold leafK at leaf
      rw [hputR_eq, hput_eq] at leaf
      have g1 : Gam ρ B h n φ w1 := by
        rcases hal with e | e
        · rw [e]; exact g
        · rw [e]; exact g.drew
      have f1 : Fr h h φ φ n n w w1 := by
        rcases hal with e | e
        · rw [e]; exact Fr.refl h φ n _
        · rw [e]; exact Fr.drew
      have hw : setBlock w1 b (.mapIter (some bm) since (seen.reverse.toArray.push e.born) clk) = wput w1 b (.mapIter (some bm) since (e.born :: seen).reverse.toArray clk) := by
        have : seen.reverse.toArray.push e.born = (e.born :: seen).reverse.toArray := by simp
        rw [this]; rfl
      rw [hw] at hrun
      have hbl := (g1.blk q b 0 tot hφ).2
      have g2 : Gam ρ B (hputS q h (some (.it p since (e.born :: seen) clk))) n φ (wput w1 b (.mapIter (some bm) since (e.born :: seen).reverse.toArray clk)) :=
        g1.write (o := .it p since seen c) (o' := .it p since (e.born :: seen) clk) hq hφ rfl rfl ⟨bm, sm, tm, hφm, rfl, wput_same hbl⟩
      have f2 : Fr h (hputS q h (some (.it p since (e.born :: seen) clk))) φ φ n n w1 (wput w1 b (.mapIter (some bm) since (e.born :: seen).reverse.toArray clk)) :=
        Fr.write (o := .it p since seen c) hq hφ
      have hx : (execOp a.eval o).run P w = .ok (.value (.tuple #[.bool true, e.key, e.val])) (wput w1 b (.mapIter (some bm) since (e.born :: seen).reverse.toArray clk)) := by
        simp only [execOp, ho, gx, Nat.zero_add, Sem.run_bind, hrun, Result.andThen_ok]
        simp
      unfold Oper.wp
      rw [hx]
      exact hK _ _ _ leaf φ _ _ (Fr.trans f1 f2) g2 (by simp only [rel, rels]; exact ⟨_, rfl, _, _, rfl, rfl, _, _, rfl, hk1, _, _, rfl, hk2, rfl⟩)
end
end Go.Ev

namespace Go.Ev
set_option linter.unusedVariables false
def tcallK (r : R) (κ : KV) : R := @R.rec (fun _ => R) (fF4 "a call") (fun v h n => κ v h n) (fun w => .fail w) (fun _ _ a b => .both a b) r
/-- A round: its arguments are the box and what has come; it says true. -/
def yldK (cf : CF2) (p : K4) (l : List V) (h : Heap) (n : K4) (κ : KV) : R :=
  hgetR p h fun o => @Option.rec Ob (fun _ => R) (.fail "record") (fun o => @Ob.rec (fun _ => R) (fF3 "record") (fF3 "record") (fF4 "record") (.fail "record")
    (fun f box => @List.rec V (fun _ => R) (.fail "round") (fun x l _ => @List.rec V (fun _ => R)
      (hputR p h none fun h => tcallK (cf (fnKey f) [.oth .no, .ptr box 0, x] h n) fun v h n => hputR p h (some (.lp f box)) fun h => κ v h n) (fF3 "round") l) l) o) o
def dclK (cf : CF2) (v : V) (l : List V) (h : Heap) (n : K4) (κ : KV) : R :=
  @V.rec (fun _ => R) (fun _ => Unit) (fF2 "function expected") (fF1 "function expected") (fF2 "function expected") (fF6 "function expected") (fF2 "function expected") (fF2 "function expected") (fF1 "function expected") (fF1 "function expected")
    (fun f caps _ => appK l caps fun l => tcallK (cf (fnKey f) l h n) κ) (fF2 "function expected")
    (fun o => @Ot.rec (fun _ => R) (.fail "function expected") (fF1 "function expected") (fun p => yldK cf p l h n κ) (.fail "function expected") (fF3 "function expected") (fF2 "function expected") (.fail "function expected") (fF2 "function expected") (fF4 "function expected") (fF4 "function expected") (fF3 "function expected") (fF2 "function expected") o) () (fun _ _ _ _ => ()) v
abbrev spE (cf : CF2) (sp : Sp) (ε : Tell) (h : Heap) (n : K4) (κ : KV) : R :=
  @Sp.rec (fun _ => R) (fun x => ε x fun v => rngK v h n κ) (fun x => ε x fun v => nxtK v h n κ) (fun x => ε x fun v => entK' v h n κ)
    (fun f l => tellL ε l fun l => tcallK (cf (fnKey f) l h n) κ) (fun x l => ε x fun v => tellL ε l fun l => dclK cf v l h n κ) sp
section
variable {P : Program} {ρ : Env} {B N : Nat}
def fen : Option Nat → Fence
  | none => Fence.wide
  | some l => Fence.wide.inRound l
theorem fen_fn (l : Option Nat) (f : FuncId) : (fen l).fn f := by cases l <;> trivial
theorem fen_depth (l : Option Nat) : (fen l).depth = none := by cases l <;> rfl
theorem callsIn_fen {l : Option Nat} {n : Nat} {f : FuncId} {args : Array Value} {w : World} {R : Ending → World → Prop} (h : Calls P f args w R) : CallsIn (fen l) n P f args w R := by
  cases l with
  | none => exact callsIn_wide.2 h
  | some l => exact (show CallsIn Fence.wide n P f args w R from callsIn_wide.2 h)
theorem upon_in {l : Option Nat} {n : Nat} {o : Oper} {a : Act} {K K' : Act → World → Prop} {Q : Exit → Act → World → Prop} (hK : ∀ a w, K a w → K' a w) : ∀ {r : Result Next}, o.upon P a K Q r → o.uponIn (fen l) n P a K' Q r := by
  have hd : (fen l).depth.isSome = true → 1 ≤ n := fun h => by rw [fen_depth] at h; cases h
  intro r h
  cases r with
  | ok x w =>
    cases x with
    | value v => exact hK _ _ h
    | skip => exact hK _ _ h
    | defer d => exact hK _ _ h
    | enter f args =>
      refine ⟨hd, (callsIn_fen (show Calls P f args w _ from h)).mono fun e w' he => ?_⟩
      cases e with
      | returned v => exact hK _ _ he
      | panicked c => exact he
      | outgrown => exact he
    | row row args =>
      refine ⟨hd, fun c cs _ => ?_⟩
      obtain ⟨v, w', hr, hs⟩ := (show Rows P row args w _ from h) c cs
      refine ⟨v, w', hK _ _ hr, ?_⟩
      cases l with
      | none => exact stepsIn_wide.2 hs
      | some l => exact (show StepsIn (Machine.fenced P Fence.wide) P _ _ from stepsIn_wide.2 hs)
    | _ => exact h.elim
  | halt x w => cases x <;> first | exact h | exact h.elim
theorem wp_in {l : Option Nat} {n : Nat} {o : Oper} {a : Act} {w : World} {K K' : Act → World → Prop} {Q : Exit → Act → World → Prop} (hd : l = none ∨ ∀ c, o.op ≠ .defer c) (hK : ∀ a w, K a w → K' a w) (h : o.wp P a w K Q) : o.wpIn (fen l) n P a w K' Q := by
  refine ⟨fun f _ => fen_fn l f, ?_⟩
  have e : o.semAt (fen l).round a.eval = execOp a.eval o := by
    cases l with
    | none => rfl
    | some l =>
      rcases hd with h | h
      · cases h
      · exact Oper.semAt_eq _ _ _ h
  rw [e]
  exact upon_in hK h
theorem wpChain_in {l : Option Nat} {n : Nat} {ops : Array Oper} {Q : Exit → Act → World → Prop} {r : List Oper} : ∀ {os : List Oper} {a : Act} {w : World}, (l = none ∨ ∀ o ∈ os, ∀ c, o.op ≠ .defer c) →
    wpChain P ops Q (wpListIn (fen l) n P ops Q r) os a w → wpListIn (fen l) n P ops Q (os ++ r) a w
  | [], _, _, _, h => h
  | o :: os, a, w, hd, h => by
    show wpListIn (fen l) n P ops Q (o :: (os ++ r)) a w
    simp only [wpListIn]
    unfold wpChain at h
    have hd1 : l = none ∨ ∀ c, o.op ≠ .defer c := hd.imp id fun h => h o (List.mem_cons_self ..)
    have hd2 : l = none ∨ ∀ o ∈ os, ∀ c, o.op ≠ .defer c := hd.imp id fun h o ho => h o (List.mem_cons_of_mem _ ho)
    split
    · rw [if_pos (by assumption)] at h
      exact wp_in hd1 (fun a w h => wpChain_in hd2 h) h
    · rw [if_neg (by assumption)] at h
      exact ⟨fun f _ => fen_fn l f, wpChain_in hd2 h⟩
/-- A call's ways. -/
def CallT (P : Program) (ρ : Env) (B : Nat) (cf : CF) : Prop :=
  ∀ f args h n (Φ : R → Prop), (cf f args h n).sat Φ → ∀ φ w (xs : Array Value), Gam ρ B h n φ w → rels ρ φ args xs.toList →
    Runs P f xs w fun x w' => ∃ v h1 n1 φ', Φ (.rv v h1 n1) ∧ Fr h h1 φ φ' n n1 w w' ∧ Gam ρ B h1 n1 φ' w' ∧ rel ρ φ' v x
theorem CallT.ok {cf : CF} (H : CallT P ρ B cf) : CallOK P ρ B cf := fun f args h n v h1 n1 hr φ w xs g hx o a K Q hK => by
  refine H f args h n (fun r => r = .rv v h1 n1) (by rw [hr]; exact rfl) φ w xs g hx o a K Q fun x w' ⟨v', h', n', φ', e, f1, g1, r1⟩ => hK x w' ?_
  cases e
  exact ⟨φ', f1, g1, r1⟩
/-- The record of a loop over a function, between two rounds. -/
def recOf (A : ApC) (f : FuncId) (tmps : Array Value) (D : Nat) : Loop := { state := .ready, pending := none, fn := f, tmps, params := #[A.par], assign := A.asg, body := A.bod, defers := D }
/-- A round is sound: its record is none of the objects. -/
def RoundOK (P : Program) (ρ : Env) (B : Nat) (cf : CF) : Prop :=
  ∀ f A fn, ρ.ap f = some A → ∀ box x h n (Φ : R → Prop), (cf f [.oth .no, .ptr box 0, x] h n).sat Φ → ∀ φ w (tmps : Array Value) X l D, Gam ρ B h n φ w → w.heap[l]? = some (.loop (recOf A fn tmps D)) →
    (∀ q s tot, φ q = some (l, s, tot) → hget q h = none) → tmps.size = A.ntm → rel ρ φ (.ptr box 0) (tmps.getD A.box undef) → rel ρ φ x X →
    RoundIn Fence.wide 0 P l fn (tmps.setIfInBounds A.par X) A.asg A.bod w fun e w' => e = .returned (.bool true) ∧
      ∃ v h1 n1 φ', v = .bool true ∧ Φ (.rv v h1 n1) ∧ Fr h h1 φ φ' n n1 w w' ∧ Gam ρ B h1 n1 φ' w'
/-- One step, inside the fence. -/
def SpIn (P : Program) (ρ : Env) (B N : Nat) (o : Oper) (t : Regs) (h : Heap) (n : K4) (f : KV → R) : Prop :=
  ∀ (κ : KV) (Φ : R → Prop), (f κ).sat Φ → ∀ (φ : Emb) (a : Act) (w : World), TR ρ N φ t a → Gam ρ B h n φ w → ∀ (K : Act → World → Prop) (Q : Exit → Act → World → Prop),
    (∀ v h1 n1, (κ v h1 n1).sat Φ → ∀ φ' x w', Fr h h1 φ φ' n n1 w w' → Gam ρ B h1 n1 φ' w' → rel ρ φ' v x → K (a.put o.dst x) w') → o.wpIn (fen none) 0 P a w K Q
section
variable {o : Oper} {t : Regs} {h : Heap} {n : K4} {cf : CF} {cf2 : CF2}
theorem SpOK.in_ {f : KV → R} (H : SpOK P ρ B N o t h n f) : SpIn P ρ B N o t h n f := fun κ Φ hs φ a w hT g K Q hK => wp_in (.inl rfl) (fun _ _ h => h) (H κ Φ hs φ a w hT g K Q hK)
/-- What is asked of a call's ways. -/
def CPost (κ : KV) (Φ : R → Prop) : R → Prop
  | .rv v h n => (κ v h n).sat Φ
  | _ => False
theorem tcallK_sat {κ : KV} {Φ : R → Prop} : ∀ {r : R}, (tcallK r κ).sat Φ → r.sat (CPost κ Φ)
  | .ok _ _ _ _, h => h.elim
  | .rv _ _ _, h => h
  | .fail _, h => h.elim
  | .both a b, h => ⟨tcallK_sat (r := a) h.1, tcallK_sat (r := b) h.2⟩
theorem sp_tcl {ct : Call} {f : FuncId} {args : List Opd} (hcf : CallT P ρ B cf) (h2 : ∀ f, cf2 (fnKey f) = cf f) (ho : o.op = .call ct) (hc : ct.callee = .value (.func f)) (ha : cOpds N ct.args.toList = some args) :
    SpOK P ρ B N o t h n fun κ => tcallK (cf2 (fnKey f) (args.map (ev · t)) h n) κ := by
  intro κ Φ hs φ a w hT g K Q hK
  have hs := tcallK_sat hs
  rw [h2] at hs
  have := hcf f _ h n _ hs φ w (ct.args.map a.eval) g (by rw [Array.toList_map]; exact cOpds_rel ha hT) o a K Q (fun x w' ⟨v, h1, n1, φ', hΦ, f1, g1, r1⟩ => hK v h1 n1 hΦ φ' x w' f1 g1 r1)
  unfold Oper.wp
  have e3 : (execOp a.eval o).run P w = (callFunc f (ct.args.map a.eval)).run P w := by
    simp [execOp, ho, resolve, hc, Act.eval, Deferred.ofValue, invoke]
  rw [e3]; exact this
/-- What was put aside is laid back. -/
theorem Gam.back {h1 : Heap} {n1 p : K4} {φ φ1 : Emb} {w w1 : World} {ob : Ob} {b s tot : Nat} (g : Gam ρ B h n φ w) (hp : hget p h = some ob) (hφ : φ p = some (b, s, tot)) (hsup : supOf ob = false) (hprev : prevOf ob = none)
    (f1 : Fr (hputS p h none) h1 φ φ1 n n1 w w1) (g1 : Gam ρ B h1 n1 φ1 w1) (hw : w1.heap[b]? = w.heap[b]?) :
    Gam ρ B (hputS p h1 (some ob)) n1 φ1 w1 ∧ Fr h (hputS p h1 (some ob)) φ φ1 n n1 w w1 := by
  have out : ∀ q o' s' tot', p ≠ q → hget q h1 = some o' → φ1 q = some (b, s', tot') → False := fun q o' s' tot' hne hq hx => by
    have key : ∀ r o2 sr tr, p ≠ r → hget r h = some o2 → φ r = some (b, sr, tr) → False := fun r o2 sr tr hpr hr hxr => by
      rcases g.sep p r ob o2 b s tot sr tr hpr hp hr hφ hxr with e | e
      · rw [hprev] at e; cases e
      · have := g.sup r p o2 ob b sr tr s tot hr e hp hxr hφ
        rw [hsup] at this; cases this
    rcases f1.fresh q b s' tot' hx with e | e | ⟨r, sr, tr, hr, hne'⟩
    · cases hq' : hget q h with
      | none =>
        have := f1.dm q (by rw [e]; simp) (by rw [hget_hputS_ne _ _ hne]; exact hq')
        rw [this] at hq; cases hq
      | some o2 => exact key q o2 s' tot' hne hq' e
    · have := (g.blk p b s tot hφ).2; omega
    · by_cases e : p = r
      · subst e; exact hne' (hget_hputS_same _ _ _)
      · rw [hget_hputS_ne _ _ e] at hne'
        cases hr' : hget r h with
        | none => exact hne' hr'
        | some o2 => exact key r o2 sr tr e hr' hr
  have hφ1 := f1.ext _ _ hφ
  refine ⟨⟨g1.base, g1.dom, g1.blk, fun q o' b' s' tot' hq hx => ?_, fun q r o1 o2 b' s1 t1 s2 t2 hne hq hr hx hy => ?_, fun q r o1 o2 b' s1 t1 s2 t2 hq hpr hr hx hy => ?_, g1.glob⟩,
    ⟨f1.ext, f1.new, f1.nn, f1.os, f1.tape, f1.out, f1.size, fun b' hb hn => f1.old b' hb fun q s' tot' hx => ?_, fun q b' s' tot' hx => ?_, fun q hq hn => ?_⟩⟩
  · rcases hget_inv hq with ⟨rfl, e⟩ | ⟨hne, hq⟩
    · cases e
      rw [hφ1] at hx; cases hx
      exact ObOK_heap hw (ObOK_mono f1.ext (g.obj p _ _ _ _ hp hφ))
    · exact g1.obj q o' b' s' tot' hq hx
  · rcases hget_inv hq with ⟨rfl, e⟩ | ⟨hq', hq⟩
    · rw [hφ1] at hx; cases hx
      rcases hget_inv hr with ⟨e', _⟩ | ⟨hr', hr⟩
      · exact absurd e' hne
      · exact (out r o2 s2 t2 hr' hr hy).elim
    · rcases hget_inv hr with ⟨rfl, e⟩ | ⟨hr', hr⟩
      · rw [hφ1] at hy; cases hy
        exact (out q o1 s1 t1 hq' hq hx).elim
      · exact g1.sep q r o1 o2 b' s1 t1 s2 t2 hne hq hr hx hy
  · rcases hget_inv hq with ⟨rfl, e⟩ | ⟨hq', hq⟩
    · cases e; rw [hprev] at hpr; cases hpr
    · rcases hget_inv hr with ⟨rfl, e⟩ | ⟨hr', hr⟩
      · rw [hφ1] at hy; cases hy
        exact (out q o1 s1 t1 hq' hq hx).elim
      · exact g1.sup q r o1 o2 b' s1 t1 s2 t2 hq hpr hr hx hy
  · by_cases e : p = q
    · subst e; exact hget_hputS_same _ _ _
    · rw [hget_hputS_ne _ _ e]; exact hn q s' tot' hx
  · rcases f1.fresh q b' s' tot' hx with e | e | ⟨r, sr, tr, hr, hne'⟩
    · exact .inl e
    · exact .inr (.inl e)
    · refine .inr (.inr ⟨r, sr, tr, hr, fun hn => hne' ?_⟩)
      by_cases e : p = r
      · subst e; exact hget_hputS_same _ _ _
      · rw [hget_hputS_ne _ _ e]; exact hn
  · have hne : p ≠ q := fun e => by subst e; rw [hp] at hn; cases hn
    rw [hget_hputS_ne _ _ hne]
    exact f1.dm q hq (by rw [hget_hputS_ne _ _ hne]; exact hn)
/-- An object is put aside. -/
theorem Gam.aside {p : K4} {φ : Emb} {w : World} (g : Gam ρ B h n φ w) : Gam ρ B (hputS p h none) n φ w := by
  have get : ∀ q o, hget q (hputS p h none) = some o → hget q h = some o := fun q o hq => by
    rcases hget_inv hq with ⟨_, e⟩ | ⟨_, hq⟩
    · cases e
    · exact hq
  exact ⟨g.base, g.dom, g.blk, fun q o b s t hq hx => g.obj q o b s t (get q o hq) hx, fun q r o o' b s t s' t' hne hq hr hx hy => g.sep q r o o' b s t s' t' hne (get q o hq) (get r o' hr) hx hy,
    fun q r o o' b s t s' t' hq hpr hr hx hy => g.sup q r o o' b s t s' t' (get q o hq) hpr (get r o' hr) hx hy, g.glob⟩
theorem sp_dcl {ct : Call} {x : Operand} {x' : Opd} {args : List Opd} (hcf : CallT P ρ B cf) (hR : RoundOK P ρ B cf) (h2 : ∀ f, cf2 (fnKey f) = cf f) (ho : o.op = .call ct) (hc : ct.callee = .value x) (hx : cOpd N x = some x') (ha : cOpds N ct.args.toList = some args) :
    SpIn P ρ B N o t h n fun κ => dclK cf2 (ev x' t) (args.map (ev · t)) h n κ := by
  intro κ Φ hs φ a w hT g K Q hK
  have g1 := cOpd_rel hx hT
  have gargs := cOpds_rel ha hT
  cases hv : ev x' t with
  | fn f caps =>
    rw [hv] at g1 hs
    have hs : (appK (args.map (ev · t)) caps fun l => tcallK (cf2 (fnKey f) l h n) κ).sat Φ := hs
    rw [appK_eq] at hs
    have hs := tcallK_sat hs
    rw [h2] at hs
    obtain ⟨cs, gx, hcs⟩ := rel_fn g1
    refine wp_in (.inl rfl) (fun _ _ h => h) ?_
    have := hcf f _ h n _ hs φ w (ct.args.map a.eval ++ cs) g (by rw [Array.toList_append, Array.toList_map]; exact rels_append gargs hcs) o a K Q (fun x w' ⟨v, h1, n1, φ', hΦ, f1, g1, r1⟩ => hK v h1 n1 hΦ φ' x w' f1 g1 r1)
    unfold Oper.wp
    have e3 : (execOp a.eval o).run P w = (callFunc f (ct.args.map a.eval ++ cs)).run P w := by
      simp [execOp, ho, resolve, hc, gx, Deferred.ofValue, invoke]
    rw [e3]; exact this
  | oth ot =>
    rw [hv] at g1 hs
    cases ot with
    | any => exact hs.elim
    | sym i => exact hs.elim
    | no => exact hs.elim
    | iv k lo hi => exact hs.elim
    | os lo hi => exact hs.elim
    | bl => exact hs.elim
    | rs m j => exact hs.elim
    | ss lo hi n c => exact hs.elim
    | ro i lo hi z => exact hs.elim
    | ap i j m => exact hs.elim
    | sy k i => exact hs.elim
    | yl p =>
      have hs : (yldK cf2 p (args.map (ev · t)) h n κ).sat Φ := hs
      unfold yldK at hs
      rw [hgetR_eq] at hs
      cases hob : hget p h with
      | none => rw [hob] at hs; exact hs.elim
      | some ob =>
        rw [hob] at hs
        cases ob with
        | c _ _ _ => exact hs.elim
        | m _ _ _ => exact hs.elim
        | it _ _ _ _ => exact hs.elim
        | it0 => exact hs.elim
        | lp f box =>
          generalize hal : args.map (ev · t) = al at hs gargs
          match al, hs, gargs, hal with
          | [], hs, _, _ => exact hs.elim
          | _ :: _ :: _, hs, _, _ => exact hs.elim
          | [y], hs, gargs, hal =>
            have hs : (hputR p h none fun h => tcallK (cf2 (fnKey f) [.oth .no, .ptr box 0, y] h n) fun v h n => hputR p h (some (.lp f box)) fun h => κ v h n).sat Φ := hs
            rw [hputR_eq, hput_eq] at hs
            have hs := tcallK_sat hs
            rw [h2] at hs
            have g1 : ∃ b s tot, φ p = some (b, s, tot) ∧ a.eval x = .func (.yield b) #[] #[] := by simpa only [rel] using g1
            obtain ⟨b, s, tot, hφ, gx⟩ := g1
            obtain ⟨hs0, A, fn, tmps, D, hA, hrec, hsz, hbox⟩ := g.obj p _ b s tot hob hφ
            subst hs0
            obtain ⟨X, l0, hX, rX, h0⟩ := rels_cons.1 gargs
            have h0 := rels_nil.1 h0
            subst h0
            have hargs : ct.args.map a.eval = #[X] := by
              have : (ct.args.map a.eval).toList = [X] := by rw [Array.toList_map]; exact hX
              cases hh : ct.args.map a.eval with
              | mk l => rw [hh] at this; simp at this; rw [this]
            have unc : ∀ q s tot, φ q = some (b, s, tot) → hget q (hputS p h none) = none := fun q s' tot' hq => by
              by_cases e : p = q
              · subst e; exact hget_hputS_same _ _ _
              · rw [hget_hputS_ne _ _ e]
                cases hq' : hget q h with
                | none => rfl
                | some o2 =>
                  rcases g.sep p q _ o2 b 0 tot s' tot' e hob hq' hφ hq with e | e
                  · cases e
                  · have := g.sup q p o2 _ b s' tot' 0 tot hq' e hob hq hφ; cases this
            have rnd := hR f A fn hA box y _ n _ hs φ w tmps X b D g.aside hrec unc hsz hbox rX
            refine ⟨fun f _ => trivial, ?_⟩
            have e3 : (o.semAt (fen none).round a.eval).run P w = .ok (.round b fn (tmps.setIfInBounds A.par X) A.asg A.bod) w := by
              have e4 : (Instr.yield b #[X]).run P w = .ok (.round b fn (tmps.setIfInBounds A.par X) A.asg A.bod) w := by
                have := run_yield (P := P) (args := #[X]) hrec rfl
                simpa [recOf] using this
              show (execOp a.eval o).run P w = _
              simp [execOp, ho, resolve, hc, gx, Deferred.ofValue, invoke, hargs, e4]
            rw [e3]
            refine ⟨fun h => (by cases h), rnd.mono fun e w' ⟨he, v, h1, n1, φ', hv, hΦ, f1, g1⟩ => ?_⟩
            subst he
            have hΦ : (hputR p h1 (some (.lp f box)) fun h => κ v h n1).sat Φ := hΦ
            rw [hputR_eq, hput_eq] at hΦ
            subst hv
            have hbl := (g.blk p b 0 tot hφ).2
            have hw' : w'.heap[b]? = w.heap[b]? := f1.old b hbl unc
            obtain ⟨g2, f2⟩ := g.back hob hφ rfl rfl f1 g1 hw'
            exact hK _ _ _ hΦ φ' (.bool true) w' f2 g2 (by simp only [rel])
  | _ => rw [hv] at hs; exact hs.elim
end
end
end Go.Ev

namespace Go.Ev
set_option linter.unusedVariables false
abbrev Rest := Ren → S → Heap → K4 → R
abbrev r0 : Rest := fun _ t h n => .ok .nrm t h n
/-- It comes to its end by no other way than an exit. -/
def AC.ends (c : AC) : Bool := @AC.rec (fun _ => Bool) false (fun _ _ x y => or x y) (fun _ => false) (fun _ _ => false) (fun _ _ _ x y => and x y) (fun _ _ _ => false) (fun _ _ => true) (fun _ => true) true (fun _ => true) (fun _ _ _ _ => false) c
def joinX (r : R) (κ : S → Heap → K4 → R) : R :=
  @R.rec (fun _ => R) (fun e t h n => @Ex.rec (fun _ => R) (κ t h n) (fun id => .ok (.exit id) t h n) (.ok .ret t h n) e) (fF3 "join") (fun w => .fail w) (fun _ _ a b => .both a b) r
def blockX (id : Nat) (r : R) (κ : S → Heap → K4 → R) : R :=
  @R.rec (fun _ => R) (fun e t h n => @Ex.rec (fun _ => R) (κ t h n) (fun j => br (Nat.beq j id) (κ t h n) (.ok (.exit j) t h n)) (.ok .ret t h n) e) (fF3 "block") (fun w => .fail w) (fun _ _ a b => .both a b) r
def loopX (body : S → Heap → K4 → R) : S → Heap → K4 → R := itK body 1000000000
def drawX (n : K4) (κ : K4 → K4 → R) : R := n.nx16 fun b => b.nx16 fun n => κ b n
abbrev drawn2 (al : Bool) (n : K4) (κ : K4 → K4 → R) : R := cho al (drawX n κ) (κ n n)
abbrev cond2 (ea eb : Bool) (v : V) (a b : Rest → Rest) (rest : Rest) (env : Ren) (t : S) (h : Heap) (n : K4) : R :=
  cho ea (vif v (a r0 env t h n) (b rest env t h n)) (cho eb (vif v (a rest env t h n) (b r0 env t h n)) (joinX (vif v (a r0 env t h n) (b r0 env t h n)) fun t h n => rest [] t h n))
abbrev denK (sm : SM) (cf : CF2) (c : AC) : Rest → Rest :=
  @AC.rec (fun _ => Rest → Rest) (fun rest => rest) (fun _ _ a b rest => a (b rest)) (fun l rest env t h n => ops2K sm cf l env t h n rest)
    (fun al l rest env t h n => drawn2 al n fun b n => items2K sm cf b l env t h h n fun env t _ h n => rest env t h n)
    (fun c x y a b rest env t h n => tellE sm env t c fun v => cond2 x.ends y.ends v a b rest env t h n)
    (fun id _ b rest env t h n => blockX id (b r0 env t h n) fun t h n => rest [] t h n)
    (fun _ b _ _ t h n => loopX (fun t h n => b r0 [] t h n) t h n) (fun id _ _ t h n => .ok (.exit id) t h n) (fun _ _ t h n => .ok .ret t h n) (fF6 "code that is not taken")
    (fun pre sp d post rest env t h n => ops2K sm cf pre env t h n fun env t h n => spE cf sp (tellE sm env t) h n fun v h n => store2 sm d t v fun t => ops2K sm cf post (envAdd d v env) t h n rest) c
def knownO (sm : SM) (dom : List K2) (c : Opd) : Bool := @Opd.rec (fun _ => Bool) (fun p => known sm dom p) (fun _ => true) c
def knownSp (sm : SM) (dom : List K2) (sp : Sp) : Bool := @Sp.rec (fun _ => Bool) (fun x => knownO sm dom x) (fun x => knownO sm dom x) (fun x => knownO sm dom x) (fun _ l => l.all (knownO sm dom)) (fun x l => knownO sm dom x && l.all (knownO sm dom)) sp
/-- Are all registers that it reads kept, or told? -/
def okK (sm : SM) (c : AC) : (List K2 → Bool) → List K2 → Bool :=
  @AC.rec (fun _ => (List K2 → Bool) → List K2 → Bool) (fun r => r) (fun _ _ a b r => a (b r)) (fun l r dom => okOps sm l dom && r (domOps l dom))
    (fun al l r dom => okItems sm l dom && r (domItems l dom))
    (fun c x y a b r dom => knownO sm dom c && br x.ends (a (fun _ => true) dom && b r dom) (br y.ends (a r dom && b (fun _ => true) dom) (a (fun _ => true) dom && (b (fun _ => true) dom && r []))))
    (fun id _ b r dom => b (fun _ => true) dom && r []) (fun _ b _ _ => b (fun _ => true) []) (fun _ _ _ => true) (fun _ _ => true) (fun _ _ _ => true)
    (fun pre sp d post r dom => okOps sm pre dom && (knownSp sm (domOps pre dom) sp && (okOps sm post (domAdd d (domOps pre dom)) && r (domOps post (domAdd d (domOps pre dom)))))) c
section
variable {P : Program} {ρ : Env} {B N : Nat} {cf : CF} {cf2 : CF2} {sm : SM}
/-- What is asked behind a piece of code whose ways are joined. -/
def JPost (κ : S → Heap → K4 → R) (Φ : R → Prop) : R → Prop
  | .ok .nrm t h n => (κ t h n).sat Φ
  | .ok e t h n => Φ (.ok e t h n)
  | _ => False
theorem joinX_sat {κ : S → Heap → K4 → R} {Φ : R → Prop} : ∀ {r : R}, (joinX r κ).sat Φ → r.sat (JPost κ Φ)
  | .ok e t h n, hs => by cases e <;> exact hs
  | .rv _ _ _, hs => hs.elim
  | .fail _, hs => hs.elim
  | .both a b, hs => ⟨joinX_sat (r := a) hs.1, joinX_sat (r := b) hs.2⟩
theorem itK_sat {body : S → Heap → K4 → R} {k : Nat} {Φ : R → Prop} {t : S} {h : Heap} {n : K4} (hs : (itK body (k + 1) t h n).sat Φ) : (body t h n).sat (JPost (itK body k) Φ) := by
  have e : itK body (k + 1) t h n = @R.rec (fun _ => R) (fun e t h n => @Ex.rec (fun _ => R) (itK body k t h n) (fun id => .ok (.exit id) t h n) (.ok .ret t h n) e) (fF3 "round") (fun w => .fail w) (fun _ _ a b => .both a b) (body t h n) := rfl
  rw [e] at hs
  generalize body t h n = r at hs
  clear e
  induction r with
  | ok e t h n => cases e <;> exact hs
  | rv _ _ _ => exact hs.elim
  | fail _ => exact hs.elim
  | both a b iha ihb => exact ⟨iha hs.1, ihb hs.2⟩
def BPost (id : Nat) (κ : S → Heap → K4 → R) (Φ : R → Prop) : R → Prop
  | .ok .nrm t h n => (κ t h n).sat Φ
  | .ok (.exit j) t h n => (j = id ∧ (κ t h n).sat Φ) ∨ (j ≠ id ∧ Φ (.ok (.exit j) t h n))
  | .ok .ret t h n => Φ (.ok .ret t h n)
  | _ => False
theorem blockX_sat {id : Nat} {κ : S → Heap → K4 → R} {Φ : R → Prop} : ∀ {r : R}, (blockX id r κ).sat Φ → r.sat (BPost id κ Φ)
  | .ok e t h n, hs => by
    cases e with
    | nrm => exact hs
    | ret => exact hs
    | exit j =>
      have hs : (br (Nat.beq j id) (κ t h n) (R.ok (.exit j) t h n)).sat Φ := hs
      cases hj : Nat.beq j id with
      | true => rw [hj] at hs; exact .inl ⟨Nat.eq_of_beq_eq_true hj, hs⟩
      | false => rw [hj] at hs; exact .inr ⟨fun e => by subst e; simp at hj, hs⟩
  | .rv _ _ _, hs => hs.elim
  | .fail _, hs => hs.elim
  | .both a b, hs => ⟨blockX_sat (r := a) hs.1, blockX_sat (r := b) hs.2⟩
/-- What code comes to whose rest is nothing. -/
def JoinOK (P : Program) (ρ : Env) (B N : Nat) (sm : SM) (C : Code) (t : Regs) (h : Heap) (n : K4) (Φ : R → Prop) : Prop :=
  ∀ φ a w, TR ρ N φ t a → Gam ρ B h n φ w → ∀ (Q : Exit → Act → World → Prop),
    (∀ e t1 h1 n1, Φ (.ok e t1 h1 n1) → ∀ φ' a' w' tf, Fr h h1 φ φ' n n1 w w' → Gam ρ B h1 n1 φ' w' → TR ρ N φ' tf a' → (∀ p s, findS p sm = some s → S.get s t1 = rget p tf) → Q (exitOf e) a' w') → C.wp P Q a w
def DenOK (P : Program) (ρ : Env) (B N : Nat) (sm : SM) (cf2 : CF2) (C : Code) : Prop :=
  ∀ (rest : Rest) (rOk : List K2 → Bool) (dom : List K2) (env : Ren) (t : Regs) (t' : S) (h : Heap) (n : K4) (Φ : R → Prop),
    okK sm (cCode P N C) rOk dom = true → RI sm dom env t t' → (denK sm cf2 (cCode P N C) rest env t' h n).sat Φ →
    ∀ φ a w, TR ρ N φ t a → Gam ρ B h n φ w → ∀ (Q : Exit → Act → World → Prop),
      (∀ e t1 h1 n1, Φ (.ok e t1 h1 n1) → e ≠ .nrm → ∀ φ' a' w' tf, Fr h h1 φ φ' n n1 w w' → Gam ρ B h1 n1 φ' w' → TR ρ N φ' tf a' → (∀ p s, findS p sm = some s → S.get s t1 = rget p tf) → Q (exitOf e) a' w') →
      ((cCode P N C).ends = false → ∀ dom2 env2 t2 t2' h2 n2, rOk dom2 = true → RI sm dom2 env2 t2 t2' → (rest env2 t2' h2 n2).sat Φ → ∀ φ2 a2 w2, Fr h h2 φ φ2 n n2 w w2 → Gam ρ B h2 n2 φ2 w2 → TR ρ N φ2 t2 a2 → Q .normal a2 w2) →
      C.wp P Q a w
theorem DenOK.join {C : Code} (H : DenOK P ρ B N sm cf2 C) {dom : List K2} {env : Ren} {t : Regs} {t' : S} {h : Heap} {n : K4} {Φ : R → Prop} (hok : okK sm (cCode P N C) (fun _ => true) dom = true) (ri : RI sm dom env t t')
    (hx : (denK sm cf2 (cCode P N C) r0 env t' h n).sat Φ) : JoinOK P ρ B N sm C t h n Φ := by
  intro φ a w hT g Q hQ
  refine H r0 _ dom env t t' h n Φ hok ri hx φ a w hT g Q (fun e t1 h1 n1 hΦ _ φ' a' w' tf f1 g1 T1 hk => hQ e t1 h1 n1 hΦ φ' a' w' tf f1 g1 T1 hk) fun _ dom2 env2 t2 t2' h2 n2 _ ri2 hr φ2 a2 w2 f2 g2 T2 => ?_
  have hr : Φ (R.ok .nrm t2' h2 n2) := hr
  exact hQ _ _ _ _ hr φ2 a2 w2 t2 f2 g2 T2 ri2.keep
theorem cDst_of {o : Oper} {d : Option K2} (h : cDst N o = some d) : DstOf N o.dst d := by
  unfold cDst at h
  cases hd : o.dst with
  | none => rw [hd] at h; cases h; trivial
  | some s =>
    rw [hd] at h
    obtain ⟨p, hp, rfl⟩ := map_some' h
    exact cSlot_some hp
theorem cSpl_some {ops : Array Oper} : ∀ {l : List Oper} {pre : List AOp} {sp : Sp} {d : Option K2} {post : List AOp}, cSpl P N ops l = some (pre, sp, d, post) →
    ∃ l1 o l2, l = l1 ++ o :: l2 ∧ cOps P N ops l1 = some pre ∧ cSp P N o = some sp ∧ o.guard = none ∧ DstOf N o.dst d ∧ cOps P N ops l2 = some post
  | [], pre, sp, d, post, h => by cases h
  | o :: l, pre, sp, d, post, h => by
    unfold cSpl at h
    split at h
    · rename_i sp' hsp
      split at h
      · rename_i d' post' hg hd hp
        cases h
        exact ⟨[], o, l, rfl, rfl, hsp, hg, cDst_of hd, hp⟩
      · cases h
    · split at h
      · cases h
      · rename_i r hr
        split at h
        · rename_i x hx
          obtain ⟨pre', sp', d', post'⟩ := r
          cases h
          obtain ⟨l1, o', l2, rfl, h1, h2, h3, h4, h5⟩ := cSpl_some hr
          refine ⟨o :: l1, o', l2, rfl, ?_, h2, h3, h4, h5⟩
          simp only [cOps, hx, h1]
        · cases h
/-- The kinds of maps that are ranged over are told by the program's types. -/
theorem sp_ok {cf : CF} {cf2 : CF2} (hcf : CallT P ρ B cf) (hR : RoundOK P ρ B cf) (h2 : ∀ f, cf2 (fnKey f) = cf f) {o : Oper} {sp : Sp} (hc : cSp P N o = some sp) {t : Regs} {h : Heap} {n : K4} : SpIn P ρ B N o t h n (spE cf2 sp (fun x κ => κ (ev x t)) h n) := by
  have tl : ∀ (l : List Opd) (κ : List V → R), tellL (fun x κ => κ (ev x t)) l κ = κ (l.map (ev · t)) := fun l κ => tellL_eq (fun x _ κ => rfl)
  unfold cSp at hc
  split at hc
  · rename_i ty x ho
    split at hc
    · rename_i kt e ht
      obtain ⟨x', hx, rfl⟩ := map_some' hc
      exact (sound_rng ho hx ht).sp.in_
    · cases hc
  · rename_i x s ho
    split at hc
    · cases hc
    · rename_i hs
      obtain ⟨x', hx, rfl⟩ := map_some' hc
      have : s = false := by simpa using hs
      subst this
      exact (sp_nxt ho hx).in_
  · rename_i x ho
    obtain ⟨x', hx, rfl⟩ := map_some' hc
    exact (sound_ent ho hx).sp.in_
  · rename_i ct ho
    split at hc
    · rename_i f hcal
      split at hc
      · obtain ⟨l, hl, rfl⟩ := map_some' hc
        have e : spE cf2 (.tcl f l) (fun x κ => κ (ev x t)) h n = fun κ => tcallK (cf2 (fnKey f) (l.map (ev · t)) h n) κ := by
          funext κ
          exact tl l _
        rw [e]
        exact (sp_tcl hcf h2 ho hcal hl).in_
      · cases hc
    · rename_i s hcal
      split at hc
      · rename_i x l hx hl
        cases hc
        have e : spE cf2 (.dcl x l) (fun x κ => κ (ev x t)) h n = fun κ => dclK cf2 (ev x t) (l.map (ev · t)) h n κ := by
          funext κ
          exact tl l _
        rw [e]
        exact sp_dcl hcf hR h2 ho hcal hx hl
      · cases hc
    · cases hc
  · cases hc
theorem den_ok (hρ : OneSym ρ) (hm : P.follows .mixedOrders = true) (hct : CallT P ρ B cf) (hR : RoundOK P ρ B cf) (h2 : ∀ f, cf2 (fnKey f) = cf f) : ∀ C : Code, DenOK P ρ B N sm cf2 C := by
  have hcf := hct.ok
  intro C
  induction C with
  | skip => intro rest rOk dom env t t' h n Φ hok ri hx φ a w hT g Q hex hre; exact wp_skip (hre rfl dom env t t' h n hok ri hx φ a w (Fr.refl h φ n w) g hT)
  | label l => intro rest rOk dom env t t' h n Φ hok ri hx φ a w hT g Q hex hre; exact wp_label (hre rfl dom env t t' h n hok ri hx φ a w (Fr.refl h φ n w) g hT)
  | exit id =>
    intro rest rOk dom env t t' h n Φ hok ri hx φ a w hT g Q hex hre
    exact wp_exit (hex _ _ _ _ hx (fun h => by cases h) φ a w t (Fr.refl h φ n w) g hT ri.keep)
  | ret =>
    intro rest rOk dom env t t' h n Φ hok ri hx φ a w hT g Q hex hre
    exact wp_ret (hex _ _ _ _ hx (fun h => by cases h) φ a w t (Fr.refl h φ n w) g hT ri.keep)
  | region id ops draw =>
    intro rest rOk dom env t t' h n Φ hok ri hx φ a w hT g Q hex hre
    cases draw with
    | true =>
      have hok : okK sm (cRegion0 P N ops true) rOk dom = true := hok
      have hx : (denK sm cf2 (cRegion0 P N ops true) rest env t' h n).sat Φ := hx
      have hre : (cRegion0 P N ops true).ends = false → _ := hre
      unfold cRegion0 at hok hx hre
      split at hx
      · exact hx.elim
      · rename_i os hos
        simp only [hos, if_true] at hok hre
        simp only [if_true] at hx
        split at hx
        · rename_i hpl
          rw [if_pos hpl] at hok hre
          have hre := hre rfl
          have good := Plot.good_of_ok hpl
          have hok : (okItems sm ((plotOf (ops.toList.map depsOf) os).sk.map (real os)) dom && rOk (domItems ((plotOf (ops.toList.map depsOf) os).sk.map (real os)) dom)) = true := hok
          rw [Bool.and_eq_true] at hok
          have run : ∀ (b n0 : K4), (items2K sm cf2 b ((plotOf (ops.toList.map depsOf) os).sk.map (real os)) env t' h h n0 (fun env t _ h n => rest env t h n)).sat Φ →
              ((plotOf (ops.toList.map depsOf) os).HasAl → b.d = .d0) → ((plotOf (ops.toList.map depsOf) os).HasAl → n.toN ≤ b.toN) → ((plotOf (ops.toList.map depsOf) os).HasAl → b.toN + 16 ≤ n0.toN) → n.toN ≤ n0.toN → (Code.region id ops true).wp P Q a w := fun b n0 hx k1 k2 k3 k4 => by
            obtain ⟨st, env1, t1', s0, hst, ri1, e3⟩ := items2K_good h2 (s := ⟨t, h, h, n0⟩) hok.1 ri (R.sat_good hx)
            have e3 : items2K sm cf2 b ((plotOf (ops.toList.map depsOf) os).sk.map (real os)) env t' h h n0 (fun env t _ h n => rest env t h n) = _ := e3
            rw [e3, List.length_map] at hx
            rw [List.length_map] at ri1
            have r : Rn P N ops os (plotOf (ops.toList.map depsOf) os) cf b st := ⟨good, hos, rfl, fun l x hlx => hst l _ (by rw [List.getElem?_map, hlx]; rfl)⟩
            refine drawn_run (φ := φ) hρ hm hcf r s0 k1 k2 k3 k4 hT g fun φ' a' w' f1 g1 T1 => ?_
            exact hre _ env1 _ t1' _ _ hok.2 ri1 hx φ' a' w' f1 g1 T1
          have hx : (drawn2 ((plotOf (ops.toList.map depsOf) os).sk.any SI.isAl) n (fun b n => items2K sm cf2 b ((plotOf (ops.toList.map depsOf) os).sk.map (real os)) env t' h h n fun env t _ h n => rest env t h n)).sat Φ := hx
          cases hal : (plotOf (ops.toList.map depsOf) os).sk.any SI.isAl with
          | false =>
            have hn := noAl good hal
            rw [hal] at hx
            exact run n n hx (fun h => absurd h hn) (fun h => absurd h hn) (fun h => absurd h hn) (Nat.le_refl _)
          | true =>
            rw [hal] at hx
            have hx : (n.nx16 (fun b => b.nx16 fun n0 => items2K sm cf2 b ((plotOf (ops.toList.map depsOf) os).sk.map (real os)) env t' h h n0 fun env t _ h n => rest env t h n)).sat Φ := hx
            rcases K4.nx16_eq n (fun b => b.nx16 fun n0 => items2K sm cf2 b ((plotOf (ops.toList.map depsOf) os).sk.map (real os)) env t' h h n0 fun env t _ h n => rest env t h n) with ⟨w', e1⟩ | ⟨b, hbn, hb0, e1⟩
            · rw [e1] at hx; exact hx.elim
            · rw [e1] at hx
              rcases K4.nx16_eq b (fun n0 => items2K sm cf2 b ((plotOf (ops.toList.map depsOf) os).sk.map (real os)) env t' h h n0 fun env t _ h n => rest env t h n) with ⟨w', e2⟩ | ⟨n0, hn0, _, e2⟩
              · rw [e2] at hx; exact hx.elim
              · rw [e2] at hx
                have hbn' := nx16_room hbn hb0 hn0
                exact run b n0 hx (fun _ => hb0) (fun _ => hbn'.1) (fun _ => by omega) (by omega)
        · exact hx.elim
    | false =>
      have hok : okK sm (match cSpl P N ops ops.toList with | some r => .spl r.1 r.2.1 r.2.2.1 r.2.2.2 | none => cRegion0 P N ops false) rOk dom = true := hok
      have hx : (denK sm cf2 (match cSpl P N ops ops.toList with | some r => .spl r.1 r.2.1 r.2.2.1 r.2.2.2 | none => cRegion0 P N ops false) rest env t' h n).sat Φ := hx
      have hre : AC.ends (match cSpl P N ops ops.toList with | some r => .spl r.1 r.2.1 r.2.2.1 r.2.2.2 | none => cRegion0 P N ops false) = false → _ := hre
      cases hspl : cSpl P N ops ops.toList with
      | some r =>
        rw [hspl] at hok hx hre
        obtain ⟨pre, sp, d, post⟩ := r
        have hre := hre rfl
        obtain ⟨l1, o, l2, hl, c1, c2, c3, c4, c5⟩ := cSpl_some hspl
        have hok : (okOps sm pre dom && (knownSp sm (domOps pre dom) sp && (okOps sm post (domAdd d (domOps pre dom)) && rOk (domOps post (domAdd d (domOps pre dom)))))) = true := hok
        rw [Bool.and_eq_true, Bool.and_eq_true, Bool.and_eq_true] at hok
        obtain ⟨k1, k2, k3, k4⟩ := hok
        have hx : (ops2K sm cf2 pre env t' h n fun env t h n => spE cf2 sp (tellE sm env t) h n fun v h n => store2 sm d t v fun t => ops2K sm cf2 post (envAdd d v env) t h n rest).sat Φ := hx
        obtain ⟨env1, t2, t2', h2', n2, e2, ri1, H⟩ := ops2K_goodR (B := B) (ops := ops) hρ hcf h2 c1 k1 ri (R.sat_good hx)
        rw [e2] at hx
        refine (wpIn_wide (n := 0)).1 (wpIn_region_list ?_)
        rw [hl]
        refine wpChain_in (l := none) (.inl rfl) (H φ a w hT g Q (wpListIn (fen none) 0 P ops Q (o :: l2)) fun φ' a' w' f1 g1 T1 => ?_)
        have one : ∀ x : Opd, knownO sm (domOps pre dom) x = true → ∀ κ : V → R, tellE sm env1 t2' x κ = κ (ev x t2) := fun x hk κ => by
          cases x with
          | c v => rfl
          | t p => exact ri1.tell hk κ
        have lst : ∀ l : List Opd, l.all (knownO sm (domOps pre dom)) = true → ∀ κ : List V → R, tellL (tellE sm env1 t2') l κ = tellL (fun x κ => κ (ev x t2)) l κ := fun l hk κ => by
          rw [tellL_eq (t := t2) (fun x hx => one x (List.all_eq_true.1 hk x hx)), tellL_eq (t := t2) (fun x _ κ => rfl)]
        have et : spE cf2 sp (tellE sm env1 t2') h2' n2 = spE cf2 sp (fun x κ => κ (ev x t2)) h2' n2 := by
          funext κ
          cases sp with
          | rng x => exact one x k2 _
          | nxt x => exact one x k2 _
          | ent x => exact one x k2 _
          | tcl f l => exact lst l k2 _
          | dcl x l =>
            have k2 : (knownO sm (domOps pre dom) x && l.all (knownO sm (domOps pre dom))) = true := k2
            rw [Bool.and_eq_true] at k2
            exact (one x k2.1 _).trans (lst l k2.2 _)
        rw [et] at hx
        have hw : Region.wanted o (yielded ops a'.tmps) = true := by simp [Region.wanted, c3]
        have st := sp_ok (P := P) (ρ := ρ) (B := B) hct hR h2 c2 _ Φ hx φ' a' w' T1 g1 (wpListIn (fen none) 0 P ops Q l2) Q fun v h3 n3 hs φ2 x w2 f2 g2 r2 => by
          obtain ⟨t3', e3, ri3⟩ := ri1.put d v (fun t => ops2K sm cf2 post (envAdd d v env1) t h3 n3 rest)
          have hs : (store2 sm d t2' v fun t => ops2K sm cf2 post (envAdd d v env1) t h3 n3 rest).sat Φ := hs
          rw [e3] at hs
          obtain ⟨env4, t4, t4', h4, n4, e4, ri4, H4⟩ := ops2K_goodR (B := B) (ops := ops) hρ hcf h2 c5 k3 ri3 (R.sat_good hs)
          rw [e4] at hs
          have := wpChain_in (l := none) (n := 0) (r := []) (.inl rfl) (H4 φ2 _ w2 ((T1.mono f2.ext).puts c4 r2) g2 Q (wpListIn (fen none) 0 P ops Q []) fun φ3 a3 w3 f3 g3 T3 => hre _ env4 t4 t4' h4 n4 k4 ri4 hs φ3 a3 w3 (Fr.trans f1 (Fr.trans f2 f3)) g3 T3)
          rwa [List.append_nil] at this
        show wpListIn (fen none) 0 P ops Q (o :: l2) a' w'
        simp only [wpListIn]
        rw [if_pos hw]
        exact st
      | none =>
      rw [hspl] at hok hx hre
      have hok : okK sm (cRegion0 P N ops false) rOk dom = true := hok
      have hx : (denK sm cf2 (cRegion0 P N ops false) rest env t' h n).sat Φ := hx
      have hre : (cRegion0 P N ops false).ends = false → _ := hre
      unfold cRegion0 at hok hx hre
      split at hx
      · exact hx.elim
      · rename_i al hal
        simp only [hal, Bool.false_eq_true, if_false] at hok hre
        simp only [Bool.false_eq_true, if_false] at hx
        have hre := hre rfl
        have hok : (okOps sm al dom && rOk (domOps al dom)) = true := hok
        rw [Bool.and_eq_true] at hok
        have hx : (ops2K sm cf2 al env t' h n rest).sat Φ := hx
        obtain ⟨env1, t2, t2', h2', n2, e2, ri1, H⟩ := ops2K_good (B := B) (ops := ops) hρ hcf h2 hal hok.1 ri (R.sat_good hx)
        rw [e2] at hx
        exact wp_region_list (H φ a w hT g Q fun φ' a' w' f1 g1 T1 => hre _ env1 t2 t2' h2' n2 hok.2 ri1 hx φ' a' w' f1 g1 T1)
  | seq x y ihx ihy =>
    intro rest rOk dom env t t' h n Φ hok ri hx φ a w hT g Q hex hre
    have hok : okK sm (cCode P N x) (okK sm (cCode P N y) rOk) dom = true := hok
    have hx : (denK sm cf2 (cCode P N x) (denK sm cf2 (cCode P N y) rest) env t' h n).sat Φ := hx
    have hre : or (cCode P N x).ends (cCode P N y).ends = false → _ := hre
    refine wp_seq (ihx _ _ dom env t t' h n Φ hok ri hx φ a w hT g _ (fun e t1 h1 n1 hΦ hne φ' a' w' tf f1 g1 T1 hk => ?_) fun he dom2 env2 t2 t2' h2' n2 hok2 ri2 hr φ2 a2 w2 f2 g2 T2 => ?_)
    · have := hex e t1 h1 n1 hΦ hne φ' a' w' tf f1 g1 T1 hk
      cases e with
      | nrm => exact absurd rfl hne
      | exit id => exact this
      | ret => exact this
    · exact ihy rest rOk dom2 env2 t2 t2' h2' n2 Φ hok2 ri2 hr φ2 a2 w2 T2 g2 Q (fun e t1 h1 n1 hΦ hne φ' a' w' tf f1 g1 T1 hk => hex e t1 h1 n1 hΦ hne φ' a' w' tf (Fr.trans f2 f1) g1 T1 hk)
        fun he' dom3 env3 t3 t3' h3 n3 hok3 ri3 hr3 φ3 a3 w3 f3 g3 T3 => hre (by rw [he, he']; rfl) dom3 env3 t3 t3' h3 n3 hok3 ri3 hr3 φ3 a3 w3 (Fr.trans f2 f3) g3 T3
  | cond c x y ihx ihy =>
    intro rest rOk dom env t t' h n Φ hok ri hx φ a w hT g Q hex hre
    have hok : okK sm (match cOpd N c with | some c => .cond c (cCode P N x) (cCode P N y) | none => .bad "a test") rOk dom = true := hok
    have hx : (denK sm cf2 (match cOpd N c with | some c => .cond c (cCode P N x) (cCode P N y) | none => .bad "a test") rest env t' h n).sat Φ := hx
    have hre : AC.ends (match cOpd N c with | some c => .cond c (cCode P N x) (cCode P N y) | none => .bad "a test") = false → _ := hre
    split at hx
    · rename_i c' hc
      simp only [hc] at hok hre
      have hre : and (cCode P N x).ends (cCode P N y).ends = false → _ := hre
      have hok : (knownO sm dom c' && br (cCode P N x).ends (okK sm (cCode P N x) (fun _ => true) dom && okK sm (cCode P N y) rOk dom) (br (cCode P N y).ends (okK sm (cCode P N x) rOk dom && okK sm (cCode P N y) (fun _ => true) dom) (okK sm (cCode P N x) (fun _ => true) dom && (okK sm (cCode P N y) (fun _ => true) dom && rOk [])))) = true := hok
      rw [Bool.and_eq_true] at hok
      have hx : (tellE sm env t' c' (fun v => cond2 (cCode P N x).ends (cCode P N y).ends v (denK sm cf2 (cCode P N x)) (denK sm cf2 (cCode P N y)) rest env t' h n)).sat Φ := hx
      have e0 : ∀ κ : V → R, tellE sm env t' c' κ = κ (ev c' t) := fun κ => by
        cases c' with
        | c v => rfl
        | t p => exact ri.tell hok.1 κ
      rw [e0] at hx
      have g1 := cOpd_rel hc hT
      generalize hv : ev c' t = v at hx g1
      obtain ⟨_, hok⟩ := hok
      unfold cond2 at hx
      -- the value is a bool
      have key : ∀ (A C : R) (κ : R → R), (∀ s, κ (.fail s) = .fail s) → (∀ x y, κ (.both x y) = .both (κ x) (κ y)) → (κ (vif v A C)).sat Φ → ∃ q, a.eval c = .bool q ∧ (κ (br q A C)).sat Φ := fun A C κ hκ hb hh => by
        have no : (κ (.fail "bool expected")).sat Φ → ∃ q, a.eval c = .bool q ∧ (κ (br q A C)).sat Φ := fun hh => by rw [hκ] at hh; exact hh.elim
        cases v with
        | bool q => exact ⟨q, rel_bool g1, by cases q <;> exact hh⟩
        | oth o => cases o with
          | bl =>
            have g1 := g1
            simp only [rel] at g1
            obtain ⟨q, hq⟩ := g1
            have hh : (κ (.both A C)).sat Φ := hh
            rw [hb] at hh
            exact ⟨q, hq, by cases q; exact hh.2; exact hh.1⟩
          | _ => exact no hh
        | _ => exact no hh
      cases hex' : (cCode P N x).ends with
      | true =>
        rw [hex'] at hx hok hre
        have hok : (okK sm (cCode P N x) (fun _ => true) dom && okK sm (cCode P N y) rOk dom) = true := hok
        rw [Bool.and_eq_true] at hok
        obtain ⟨q, hq, hx⟩ := key _ _ id (fun _ => rfl) (fun _ _ => rfl) hx
        refine wp_cond hq ?_
        cases q with
        | true => exact ihx r0 _ dom env t t' h n Φ hok.1 ri hx φ a w hT g Q hex fun he => by rw [hex'] at he; cases he
        | false => exact ihy rest rOk dom env t t' h n Φ hok.2 ri hx φ a w hT g Q hex fun he => hre (by rw [he]; rfl)
      | false =>
        rw [hex'] at hx hok hre
        have hre := hre rfl
        cases hey : (cCode P N y).ends with
        | true =>
          rw [hey] at hx hok
          have hok : (okK sm (cCode P N x) rOk dom && okK sm (cCode P N y) (fun _ => true) dom) = true := hok
          rw [Bool.and_eq_true] at hok
          obtain ⟨q, hq, hx⟩ := key _ _ id (fun _ => rfl) (fun _ _ => rfl) hx
          refine wp_cond hq ?_
          cases q with
          | true => exact ihx rest rOk dom env t t' h n Φ hok.1 ri hx φ a w hT g Q hex fun _ => hre
          | false => exact ihy r0 _ dom env t t' h n Φ hok.2 ri hx φ a w hT g Q hex fun he => by rw [hey] at he; cases he
        | false =>
          rw [hey] at hx hok
          have hok : (okK sm (cCode P N x) (fun _ => true) dom && (okK sm (cCode P N y) (fun _ => true) dom && rOk [])) = true := hok
          rw [Bool.and_eq_true, Bool.and_eq_true] at hok
          obtain ⟨q, hq, hx⟩ := key _ _ (fun r => joinX r fun t h n => rest [] t h n) (fun _ => rfl) (fun _ _ => rfl) hx
          refine wp_cond hq ?_
          have fin : ∀ (Z : Code), JoinOK P ρ B N sm Z t h n (JPost (fun t h n => rest [] t h n) Φ) → Z.wp P Q a w := fun Z HZ => by
            refine HZ φ a w hT g Q fun e0 t0 h0 n0 hj φ' a' w' tf f1 g1 T1 hk => ?_
            cases e0 with
            | nrm => exact hre [] [] tf t0 h0 n0 hok.2.2 (RI.start ri.inj hk) hj φ' a' w' f1 g1 T1
            | exit id => exact hex _ _ _ _ hj (fun h => by cases h) φ' a' w' tf f1 g1 T1 hk
            | ret => exact hex _ _ _ _ hj (fun h => by cases h) φ' a' w' tf f1 g1 T1 hk
          cases q with
          | true => exact fin x (ihx.join hok.1 ri (joinX_sat hx))
          | false => exact fin y (ihy.join hok.2.1 ri (joinX_sat hx))
    · exact hx.elim
  | block id b ih =>
    intro rest rOk dom env t t' h n Φ hok ri hx φ a w hT g Q hex hre
    have hok : (okK sm (cCode P N b) (fun _ => true) dom && rOk []) = true := hok
    rw [Bool.and_eq_true] at hok
    have hx : (blockX id (denK sm cf2 (cCode P N b) r0 env t' h n) (fun t h n => rest [] t h n)).sat Φ := hx
    have hre := hre rfl
    refine wp_block (ih.join hok.1 ri (blockX_sat hx) φ a w hT g _ fun e0 t0 h0 n0 hx φ' a' w' tf f1 g1 T1 hk => ?_)
    cases e0 with
    | nrm => exact hre [] [] tf t0 h0 n0 hok.2 (RI.start ri.inj hk) hx φ' a' w' f1 g1 T1
    | exit j =>
      show (if j = id then Q .normal a' w' else Q (.exit j) a' w')
      rcases hx with ⟨hj, hx⟩ | ⟨hj, hx⟩
      · rw [if_pos hj]; exact hre [] [] tf t0 h0 n0 hok.2 (RI.start ri.inj hk) hx φ' a' w' f1 g1 T1
      · rw [if_neg hj]; exact hex _ _ _ _ hx (fun h => by cases h) φ' a' w' tf f1 g1 T1 hk
    | ret => exact hex _ _ _ _ hx (fun h => by cases h) φ' a' w' tf f1 g1 T1 hk
  | loop b ih =>
    intro rest rOk dom env t t' h n Φ hok ri hx φ a w hT g Q hex hre
    have hok : okK sm (cCode P N b) (fun _ => true) [] = true := hok
    have hx : (itK (fun t h n => denK sm cf2 (cCode P N b) r0 [] t h n) 1000000000 t' h n).sat Φ := hx
    refine wp_loop_rounds 1000000000 ?_
    have key : ∀ (k : Nat) (t : Regs) (t' : S) (h : Heap) (n : K4), (∀ p s, findS p sm = some s → S.get s t' = rget p t) → (itK (fun t h n => denK sm cf2 (cCode P N b) r0 [] t h n) k t' h n).sat Φ → ∀ φ a w, TR ρ N φ t a → Gam ρ B h n φ w →
        (∀ e t1 h1 n1, Φ (.ok e t1 h1 n1) → e ≠ .nrm → ∀ φ' a' w' tf, Fr h h1 φ φ' n n1 w w' → Gam ρ B h1 n1 φ' w' → TR ρ N φ' tf a' → (∀ p s, findS p sm = some s → S.get s t1 = rget p tf) → Q (exitOf e) a' w') → Code.rounds P b Q k a w := by
      intro k
      induction k with
      | zero => intro t t' h n _ hx; exact hx.elim
      | succ k ihk =>
        intro t t' h n hk0 hx φ a w hT g hQ
        refine ih.join hok (RI.start ri.inj hk0) (itK_sat hx) φ a w hT g _ fun e0 t0 h0 n0 hx φ' a' w' tf f1 g1 T1 hk => ?_
        cases e0 with
        | nrm => exact ihk tf t0 h0 n0 hk hx φ' a' w' T1 g1 fun e t1 h1 n1 hΦ hne φ2 a2 w2 tf2 f2 g2 T2 hk2 => hQ e t1 h1 n1 hΦ hne φ2 a2 w2 tf2 (Fr.trans f1 f2) g2 T2 hk2
        | exit id => exact hQ _ _ _ _ hx (fun h => by cases h) φ' a' w' tf f1 g1 T1 hk
        | ret => exact hQ _ _ _ _ hx (fun h => by cases h) φ' a' w' tf f1 g1 T1 hk
    exact key _ t t' h n ri.keep hx φ a w hT g hex
  | rangeFunc _ _ _ _ => intro rest rOk dom env t t' h n Φ hok ri hx; exact hx.elim
  | scope _ => intro rest rOk dom env t t' h n Φ hok ri hx; exact hx.elim
  | goto _ => intro rest rOk dom env t t' h n Φ hok ri hx; exact hx.elim
  | refuse _ => intro rest rOk dom env t t' h n Φ hok ri hx; exact hx.elim
end
end Go.Ev

namespace Go.Ev
set_option linter.unusedVariables false
def plsV (v : V) : List K4 → List K4 :=
  @V.rec (fun _ => List K4 → List K4) (fun _ => List K4 → List K4)
    (fun _ _ a => a) (fun _ a => a) (fun p _ a => p :: a) (fun p _ _ _ _ _ a => p :: a) (fun _ _ a => a) (fun _ ih a => ih a) (fun _ a => a) (fun p a => p :: a) (fun _ _ ih a => ih a) (fun _ ih a => ih a) (fun _ a => a)
    (fun a => a) (fun _ _ ihx ihl a => ihx (ihl a)) v
def plsL (l : List V) (a : List K4) : List K4 := @List.rec V (fun _ => List K4) a (fun v _ ih => plsV v ih) l
def plsE (es : List (V × V)) (a : List K4) : List K4 := @List.rec (V × V) (fun _ => List K4) a (fun e _ ih => @Prod.rec V V (fun _ => List K4) (fun x y => plsV x (plsV y ih)) e) es
def plsO (o : Ob) (a : List K4) : List K4 :=
  @Ob.rec (fun _ => List K4) (fun cs _ _ => @Cs.rec (fun _ => List K4) (fun xs => plsL xs a) (fun _ _ => a) cs) (fun es _ _ => plsE es a) (fun _ _ _ _ => a) a (fun _ _ => a) o
/-- An object that may be run on. -/
def goodOb (o : Ob) : Bool := @Ob.rec (fun _ => Bool) (fun _ sup _ => @Bool.rec (fun _ => Bool) true false sup) (fun _ _ _ => true) (fun _ _ _ _ => false) false (fun _ _ => false) o
/-- An object without its tie to an elder one. -/
def clrP (o : Ob) : Ob := @Ob.rec (fun _ => Ob) (fun cs sup _ => .c cs sup none) (fun es bs c => .m es bs c) (fun p s l c => .it p s l c) .it0 (fun f b => .lp f b) o
theorem clrP_prev (o : Ob) : prevOf (clrP o) = none := by cases o <;> rfl
theorem clrP_ok {ρ : Env} {φ : Emb} {w : World} {o : Ob} {b s tot : Nat} (h : ObOK ρ φ w o b s tot) : ObOK ρ φ w (clrP o) b s tot := by cases o <;> exact h
/-- The objects that are reached. -/
def reachK (h : Heap) (k : Nat) : List K4 → Heap → List K4 → (Heap → List K4 → R) → R :=
  @Nat.rec (fun _ => List K4 → Heap → List K4 → (Heap → List K4 → R) → R) (fun _ hs acc κ => κ hs acc)
    (fun _ ih todo hs acc κ => @List.rec K4 (fun _ => R) (κ hs acc) (fun p todo _ => hgetR p hs fun o => @Option.rec Ob (fun _ => R)
      (hgetR p h fun o => @Option.rec Ob (fun _ => R) (ih todo hs acc κ) (fun ob => br (goodOb ob) (hputR p hs (some (clrP ob)) fun hs => ih (plsO ob todo) hs (p :: acc) κ) (ih todo hs acc κ)) o)
      (fun _ => ih todo hs acc κ) o) todo) k
def ltK (p n : K4) : Bool := Nat.ble (Nat.succ p.toN) n.toN
def oldV (n : K4) (v : V) : Bool :=
  @V.rec (fun _ => Bool) (fun _ => Bool)
    (fun _ _ => true) (fun _ => true) (fun p _ => ltK p n) (fun p _ _ _ _ _ => ltK p n) (fun _ _ => true) (fun _ ih => ih) (fun _ => true) (fun p => ltK p n) (fun _ _ ih => ih) (fun _ ih => ih) (fun o => @Ot.rec (fun _ => Bool) true (fun _ => true) (fun p => ltK p n) false (fun _ _ _ => true) (fun _ _ => true) true (fun _ _ => true) (fun _ _ _ _ => true) (fun _ _ _ _ => true) (fun _ _ _ => true) (fun _ _ => true) o)
    true (fun _ _ ihx ihl => br ihx ihl false) v
def oldL (n : K4) (l : List V) : Bool := oldV n (.tup l)
def noneK (p : Option K4) (κ : R) : R := @Option.rec K4 (fun _ => R) κ (fF1 "memory that may be shared") p
def sameCs (n : K4) (a b : Cs) (κ : R) : R :=
  @Cs.rec (fun _ => R) (fun xs => @Cs.rec (fun _ => R) (fun ys => br (oldL n xs) (sameV (.tup xs) (.tup ys) κ) (.fail "a new place")) (fF2 "unlike") b)
    (fun m c => @Cs.rec (fun _ => R) (fF1 "unlike") (fun m' c' => br (Nat.beq m m') (br (Nat.beq c c') κ (.fail "unlike")) (.fail "unlike")) b) a
def sameEs (n : K4) (a : List (V × V)) : List (V × V) → R → R :=
  @List.rec (V × V) (fun _ => List (V × V) → R → R) (fun b κ => @List.rec (V × V) (fun _ => R) κ (fF3 "unlike") b)
    (fun e _ ih b κ => @List.rec (V × V) (fun _ => R) (.fail "unlike") (fun e' b _ => @Prod.rec V V (fun _ => R) (fun x y => @Prod.rec V V (fun _ => R) (fun x' y' => br (oldV n x) (br (oldV n y) (sameV x x' (sameV y y' (ih b κ))) (.fail "a new place")) (.fail "a new place")) e') e) b) a
def sameNs (a : List Nat) : List Nat → R → R :=
  @List.rec Nat (fun _ => List Nat → R → R) (fun b κ => @List.rec Nat (fun _ => R) κ (fF3 "unlike") b)
    (fun x _ ih b κ => @List.rec Nat (fun _ => R) (.fail "unlike") (fun y b _ => br (Nat.beq x y) (ih b κ) (.fail "unlike")) b) a
def sameO (n : K4) (a b : Ob) (κ : R) : R :=
  @Ob.rec (fun _ => R) (fun cs sup prev => br sup (.fail "memory that may be shared") (noneK prev (@Ob.rec (fun _ => R) (fun cs' sup' prev' => br sup' (.fail "memory that may be shared") (noneK prev' (sameCs n cs cs' κ))) (fF3 "unlike") (fF4 "unlike") (.fail "unlike") (fF2 "unlike") b)))
    (fun es bs c => @Ob.rec (fun _ => R) (fF3 "unlike") (fun es' bs' c' => br (Nat.beq c c') (sameNs bs bs' (sameEs n es es' κ)) (.fail "unlike")) (fF4 "unlike") (.fail "unlike") (fF2 "unlike") b) (fF4 "iterator") (.fail "iterator") (fF2 "record") a
def sameOO (n : K4) (a b : OOb) (κ : R) : R :=
  @Option.rec Ob (fun _ => R) (@Option.rec Ob (fun _ => R) κ (fF1 "unlike") b) (fun x => @Option.rec Ob (fun _ => R) (.fail "unlike") (fun y => sameO n x y κ) b) a
def sameAll (n : K4) (h1 h' : Heap) (acc : List K4) (κ : R) : R :=
  @List.rec K4 (fun _ => R) κ (fun p _ ih => hgetR p h1 fun a => hgetR p h' fun b => sameOO n a b ih) acc
/-- Without the tie to memory that is new too. -/
def clnP (n : K4) (p : Option K4) : Option K4 := @Option.rec K4 (fun _ => Option K4) none (fun q => @Bool.rec (fun _ => Option K4) none (some q) (ltK q n)) p
def clnO (n : K4) (o : OOb) : OOb := @Option.rec Ob (fun _ => OOb) none (fun o => some (@Ob.rec (fun _ => Ob) (fun cs sup prev => .c cs sup (clnP n prev)) (fun es bs c => .m es bs c) (fun p s l c => .it p s l c) .it0 (fun f b => .lp f b) o)) o
/-- The results: alike, and nothing new in them; or two new slices that are alike. -/
def sameRes (n : K4) (v1 : V) (h1 : Heap) (v' : V) (h' : Heap) (κ : R) : R :=
  br (oldV n v1) (sameV v1 v' κ) (asSl v1 (.fail "a result") fun p off len cap ex esz => asSl v' (.fail "a result") fun p' off' len' cap' ex' esz' =>
    br (ltK p n) (.fail "a result") (br (ltK p' n) (.fail "a result") (sameV (.sl p off len cap ex esz) (.sl p off' len' cap' ex' esz') (hgetR p h1 fun a => hgetR p' h' fun b => sameOO n (clnO n a) (clnO n b) κ))))
def firstK (r : R) : (V → Heap → R) → R :=
  @R.rec (fun _ => (V → Heap → R) → R) (fF5 "a way") (fun v h _ κ => κ v h) (fun w _ => .fail w) (fun _ _ iha _ κ => iha κ) r
def maxK (a b : K4) (κ : K4 → R) : R := br (Nat.ble a.toN b.toN) (κ b) (κ a)
def allK (n : K4) (v1 : V) (h1 : Heap) (acc : List K4) (r : R) : K4 → (K4 → R) → R :=
  @R.rec (fun _ => K4 → (K4 → R) → R) (fF6 "a way") (fun v h m mx κ => sameRes n v1 h1 v h (sameAll n h1 h acc (maxK m mx κ))) (fun w _ _ => .fail w) (fun _ _ iha ihb mx κ => iha mx fun mx => ihb mx κ) r
def killO (o : Ob) (h : Heap) (κ : Heap → R) : R := @Ob.rec (fun _ => R) (fun _ _ prev => @Option.rec K4 (fun _ => R) (κ h) (fun q => hputR q h none κ) prev) (fun _ _ _ => κ h) (fun _ _ _ _ => κ h) (κ h) (fun _ _ => κ h) o
def putsK (h h1 : Heap) (acc : List K4) : (Heap → R) → R :=
  @List.rec K4 (fun _ => (Heap → R) → R) (fun κ => κ h)
    (fun p _ ih κ => ih fun hf => hgetR p h fun o => @Option.rec Ob (fun _ => R) (.fail "an object") (fun o => killO o hf fun hf => hgetR p h1 fun o1 => hputR p hf o1 κ) o) acc
def resR (n : K4) (v1 : V) (h1 hf : Heap) (m : K4) : R :=
  br (oldV n v1) (.rv v1 hf m) (asSl v1 (.fail "a result") fun p off len cap ex esz => hgetR p h1 fun o => @Option.rec Ob (fun _ => R) (.fail "a result") (fun ob => hputR m hf (some ob) fun hf => m.nx fun m' => .rv (.sl m off len cap ex esz) hf m') (clnO n o))
def finK (n : K4) (h : Heap) (acc : List K4) (r : R) : R :=
  firstK r fun v1 h1 => allK n v1 h1 acc r n fun m => putsK h h1 acc fun hf => resR n v1 h1 hf m
def brK (k : Nat) (run : Heap → R) (args : List V) (h : Heap) (n : K4) : R :=
  reachK h k (plsL args []) hempty [] fun hs acc => finK n h acc (run hs)
section
variable {P : Program} {ρ : Env} {B : Nat}
structure Sub (h hs : Heap) (acc : List K4) : Prop where
  sub : ∀ p o, hget p hs = some o → ∃ o0, hget p h = some o0 ∧ o = clrP o0 ∧ goodOb o0 = true ∧ p ∈ acc
  has : ∀ p, p ∈ acc → ∃ o, hget p hs = some o
theorem Sub.mem {h hs : Heap} {acc : List K4} (s : Sub h hs acc) {p : K4} {o : Ob} (hp : hget p hs = some o) : p ∈ acc := by
  obtain ⟨_, _, _, _, m⟩ := s.sub p o hp; exact m
theorem Sub.in_h {h hs : Heap} {acc : List K4} (s : Sub h hs acc) {p : K4} {o : Ob} (hp : hget p hs = some o) : ∃ o0, hget p h = some o0 := by
  obtain ⟨o0, e, _⟩ := s.sub p o hp; exact ⟨o0, e⟩
theorem reachK_ok {h : Heap} : ∀ (k : Nat) {todo : List K4} {hs : Heap} {acc : List K4} {κ : Heap → List K4 → R}, Sub h hs acc → ∃ hs' acc', Sub h hs' acc' ∧ reachK h k todo hs acc κ = κ hs' acc'
  | 0, todo, hs, acc, κ, s => ⟨hs, acc, s, rfl⟩
  | k + 1, [], hs, acc, κ, s => ⟨hs, acc, s, rfl⟩
  | k + 1, p :: todo, hs, acc, κ, s => by
    have e : reachK h (k + 1) (p :: todo) hs acc κ = hgetR p hs fun o => @Option.rec Ob (fun _ => R)
      (hgetR p h fun o => @Option.rec Ob (fun _ => R) (reachK h k todo hs acc κ) (fun ob => br (goodOb ob) (hputR p hs (some (clrP ob)) fun hs => reachK h k (plsO ob todo) hs (p :: acc) κ) (reachK h k todo hs acc κ)) o)
      (fun _ => reachK h k todo hs acc κ) o := rfl
    rw [e, hgetR_eq]
    cases h1 : hget p hs with
    | some o => exact reachK_ok k s
    | none =>
      show ∃ hs' acc', Sub h hs' acc' ∧ (hgetR p h fun o => @Option.rec Ob (fun _ => R) (reachK h k todo hs acc κ) (fun ob => br (goodOb ob) (hputR p hs (some (clrP ob)) fun hs => reachK h k (plsO ob todo) hs (p :: acc) κ) (reachK h k todo hs acc κ)) o) = κ hs' acc'
      rw [hgetR_eq]
      cases h2 : hget p h with
      | none => exact reachK_ok k s
      | some ob =>
        show ∃ hs' acc', Sub h hs' acc' ∧ br (goodOb ob) (hputR p hs (some (clrP ob)) fun hs => reachK h k (plsO ob todo) hs (p :: acc) κ) (reachK h k todo hs acc κ) = κ hs' acc'
        cases h3 : goodOb ob with
        | false => exact reachK_ok k s
        | true =>
          show ∃ hs' acc', Sub h hs' acc' ∧ (hputR p hs (some (clrP ob)) fun hs => reachK h k (plsO ob todo) hs (p :: acc) κ) = κ hs' acc'
          rw [hputR_eq, hput_eq]
          refine reachK_ok k ⟨fun q o hq => ?_, fun q hq => ?_⟩
          · rcases hget_inv hq with ⟨rfl, e⟩ | ⟨hne, hq⟩
            · cases e; exact ⟨ob, h2, rfl, h3, List.mem_cons_self ..⟩
            · obtain ⟨o0, a, e, b, c⟩ := s.sub q o hq; exact ⟨o0, a, e, b, List.mem_cons_of_mem _ c⟩
          · by_cases e : p = q
            · subst e; exact ⟨clrP ob, hget_hputS_same _ _ _⟩
            · rw [hget_hputS_ne _ _ e]
              rcases List.mem_cons.1 hq with e' | hq
              · exact absurd e'.symm e
              · exact s.has q hq
theorem Sub.nil {h : Heap} : Sub h hempty [] := ⟨fun p o hp => (by rw [hget_hempty] at hp; cases hp), fun p hp => (by simp at hp)⟩
theorem ltK_iff {p n : K4} : ltK p n = true ↔ p.toN < n.toN := by unfold ltK; rw [ble_iff]; omega
mutual
theorem rel_agree {n : K4} {φ1 φ2 : Emb} (hφ : ∀ p x, p.toN < n.toN → φ1 p = some x → φ2 p = some x) : ∀ {v : V} {x : Value}, oldV n v = true → rel ρ φ1 v x → rel ρ φ2 v x
  | .int _ _, _, _, r => by simpa only [rel] using r
  | .bool _, _, _, r => by simpa only [rel] using r
  | .ptr p _, _, ho, r => by
    have ho : ltK p n = true := ho
    simp only [rel] at r ⊢
    obtain ⟨b, s, tot, hp, e⟩ := r
    exact ⟨b, s, tot, hφ _ _ (ltK_iff.1 ho) hp, e⟩
  | .sl p _ _ _ _ _, _, ho, r => by
    have ho : ltK p n = true := ho
    simp only [rel] at r ⊢
    obtain ⟨b, s, tot, o, c, hp, e⟩ := r
    exact ⟨b, s, tot, o, c, hφ _ _ (ltK_iff.1 ho) hp, e⟩
  | .str _ _, _, _, r => by simpa only [rel] using r
  | .agg l, _, ho, r => by
    have ho : oldL n l = true := ho
    simp only [rel] at r ⊢
    obtain ⟨cs, e, hl, hh⟩ := r
    exact ⟨cs, e, rels_agree hφ ho hl, hh⟩
  | .nil _, _, _, r => by simpa only [rel] using r
  | .map p, _, ho, r => by
    have ho : ltK p n = true := ho
    simp only [rel] at r ⊢
    obtain ⟨b, s, tot, hp, e⟩ := r
    exact ⟨b, s, tot, hφ _ _ (ltK_iff.1 ho) hp, e⟩
  | .fn _ l, _, ho, r => by
    have ho : oldL n l = true := ho
    simp only [rel] at r ⊢
    obtain ⟨cs, e, hl⟩ := r
    exact ⟨cs, e, rels_agree hφ ho hl⟩
  | .tup l, _, ho, r => by
    have ho : oldL n l = true := ho
    simp only [rel] at r ⊢
    obtain ⟨cs, e, hl⟩ := r
    exact ⟨cs, e, rels_agree hφ ho hl⟩
  | .oth o, _, ho, r => by
    cases o with
    | yl p =>
      have ho : ltK p n = true := ho
      simp only [rel] at r ⊢
      obtain ⟨b, s, tot, hp, e⟩ := r
      exact ⟨b, s, tot, hφ _ _ (ltK_iff.1 ho) hp, e⟩
    | _ => simp only [rel] at r ⊢ <;> exact r
theorem rels_agree {n : K4} {φ1 φ2 : Emb} (hφ : ∀ p x, p.toN < n.toN → φ1 p = some x → φ2 p = some x) : ∀ {l : List V} {xs : List Value}, oldL n l = true → rels ρ φ1 l xs → rels ρ φ2 l xs
  | [], _, _, r => by simpa only [rels] using r
  | v :: l, _, ho, r => by
    have ho : br (oldV n v) (oldL n l) false = true := ho
    simp only [rels] at r ⊢
    obtain ⟨y, ys, e, hy, hys⟩ := r
    cases h1 : oldV n v with
    | false => rw [h1] at ho; cases ho
    | true =>
      rw [h1] at ho
      exact ⟨y, ys, e, rel_agree hφ h1 hy, rels_agree hφ ho hys⟩
end
theorem oldL_mem {n : K4} : ∀ {l : List V}, oldL n l = true → ∀ v ∈ l, oldV n v = true
  | [], _, v, hv => by simp at hv
  | x :: l, ho, v, hv => by
    have ho : br (oldV n x) (oldL n l) false = true := ho
    cases h1 : oldV n x with
    | false => rw [h1] at ho; cases ho
    | true =>
      rw [h1] at ho
      rcases List.mem_cons.1 hv with e | hv
      · subst e; exact h1
      · exact oldL_mem (show oldL n l = true from ho) v hv
/-- An object that names nothing new, and shares its memory with no other. -/
def OldO (n : K4) : Ob → Prop
  | .c (.l xs) sup prev => oldL n xs = true ∧ sup = false ∧ prev = none
  | .c (.b _ _) sup prev => sup = false ∧ prev = none
  | .m es _ _ => ∀ e ∈ es, oldV n e.1 = true ∧ oldV n e.2 = true
  | _ => False
theorem OldO.prev {n : K4} {o : Ob} (h : OldO n o) : prevOf o = none := by
  cases o with
  | c cs sup prev => cases cs with
    | l xs => exact h.2.2
    | b m c => exact h.2
  | m es bs c => rfl
  | it _ _ _ _ => exact h.elim
  | it0 => exact h.elim
  | lp _ _ => exact h.elim
theorem OldO.sup {n : K4} {o : Ob} (h : OldO n o) : supOf o = false := by
  cases o with
  | c cs sup prev => cases cs with
    | l xs => exact h.2.1
    | b m c => exact h.1
  | m es bs c => rfl
  | it _ _ _ _ => exact h.elim
  | it0 => exact h.elim
  | lp _ _ => exact h.elim
theorem clnO_some {n : K4} {o : OOb} {ob : Ob} (h : clnO n o = some ob) : ∃ obr, o = some obr ∧ (prevOf ob = none → ∀ q, prevOf obr = some q → n.toN ≤ q.toN) ∧ ∀ {φ : Emb} {w : World} {b s tot : Nat}, ObOK ρ φ w obr b s tot → ObOK ρ φ w ob b s tot := by
  cases o with
  | none => cases h
  | some obr =>
    refine ⟨obr, rfl, ?_⟩
    cases obr with
    | c cs sup prev =>
      have h : some (Ob.c cs sup (clnP n prev)) = some ob := h
      cases h
      refine ⟨fun hp q hq => ?_, fun k => k⟩
      have hq : prev = some q := hq
      subst hq
      have hp : @Bool.rec (fun _ => Option K4) none (some q) (ltK q n) = none := hp
      cases hl : ltK q n with
      | true => rw [hl] at hp; cases hp
      | false =>
        rcases Nat.lt_or_ge q.toN n.toN with h | h
        · rw [ltK_iff.2 h] at hl; cases hl
        · exact h
    | m _ _ _ => cases h; exact ⟨fun _ q hq => (by cases hq), fun k => k⟩
    | it _ _ _ _ => cases h; exact ⟨fun _ q hq => (by cases hq), fun k => k⟩
    | it0 => cases h; exact ⟨fun _ q hq => (by cases hq), fun k => k⟩
    | lp _ _ => cases h; exact ⟨fun _ q hq => (by cases hq), fun k => k⟩
theorem ObOK_agree {n : K4} {φ1 φ2 : Emb} (hφ : ∀ p x, p.toN < n.toN → φ1 p = some x → φ2 p = some x) {w : World} {o : Ob} {b s tot : Nat} (ho : OldO n o) (k : ObOK ρ φ1 w o b s tot) : ObOK ρ φ2 w o b s tot := by
  cases o with
  | c cs sup prev =>
    obtain ⟨c, e, fr, h1, h2, h3, h4, h5⟩ := k
    refine ⟨c, e, fr, h1, h2, h3, h4, fun i v hv => ?_⟩
    obtain ⟨x, k1, k2, k3⟩ := h5 i v hv
    refine ⟨x, k1, ?_, k3⟩
    cases cs with
    | l xs => exact rel_agree hφ (oldL_mem ho.1 v (List.mem_of_getElem? hv)) k2
    | b m c =>
      by_cases hi : i < m
      · rw [Cs.b_pos hi] at hv; cases hv; exact rel_agree hφ rfl k2
      · rw [Cs.b_neg hi] at hv; cases hv
  | m es bs clk =>
    obtain ⟨ents, h1, h2, h3⟩ := k
    refine ⟨ents, h1, ?_, h3⟩
    have ho' : ∀ e ∈ es, oldV n e.1 = true ∧ oldV n e.2 = true := ho
    clear h1 h3 ho
    generalize ents.toList = l at h2
    induction es generalizing l with
    | nil => exact h2
    | cons e es ih =>
      obtain ⟨y, ys, rfl, k1, k2, k3⟩ := h2
      obtain ⟨o1, o2⟩ := ho' e (List.mem_cons_self ..)
      exact ⟨y, ys, rfl, rel_agree hφ o1 k1, rel_agree hφ o2 k2, ih (fun e he => ho' e (List.mem_cons_of_mem _ he)) _ k3⟩
  | it _ _ _ _ => exact ho.elim
  | it0 => exact ho.elim
  | lp _ _ => exact ho.elim
theorem noneK_good {p : Option K4} {κ : R} (h : (noneK p κ).good) : p = none ∧ noneK p κ = κ := by
  cases p with
  | none => exact ⟨rfl, rfl⟩
  | some q => exact h.elim
theorem sameNs_good : ∀ {a b : List Nat} {κ : R}, (sameNs a b κ).good → a = b ∧ sameNs a b κ = κ
  | [], [], κ, _ => ⟨rfl, rfl⟩
  | [], _ :: _, κ, h => h.elim
  | _ :: _, [], κ, h => h.elim
  | x :: a, y :: b, κ, h => by
    have h : R.good (br (Nat.beq x y) (sameNs a b κ) (.fail "unlike")) := h
    obtain ⟨h1, e1⟩ := br_good h
    rw [e1] at h
    obtain ⟨h2, e2⟩ := sameNs_good h
    exact ⟨by rw [Nat.eq_of_beq_eq_true h1, h2], Eq.trans e1 e2⟩
theorem sameEs_good {n : K4} : ∀ {a b : List (V × V)} {κ : R}, (sameEs n a b κ).good → a = b ∧ (∀ e ∈ a, oldV n e.1 = true ∧ oldV n e.2 = true) ∧ sameEs n a b κ = κ
  | [], [], κ, _ => ⟨rfl, fun e he => by simp at he, rfl⟩
  | [], _ :: _, κ, h => h.elim
  | _ :: _, [], κ, h => h.elim
  | (x, y) :: a, (x', y') :: b, κ, h => by
    have h : R.good (br (oldV n x) (br (oldV n y) (sameV x x' (sameV y y' (sameEs n a b κ))) (.fail "a new place")) (.fail "a new place")) := h
    obtain ⟨h1, e1⟩ := br_good h
    rw [e1] at h
    obtain ⟨h2, e2⟩ := br_good h
    rw [e2] at h
    obtain ⟨h3, e3⟩ := sameV_good h
    rw [e3] at h
    obtain ⟨h4, e4⟩ := sameV_good h
    rw [e4] at h
    obtain ⟨h5, h6, e5⟩ := sameEs_good h
    refine ⟨by rw [h3, h4, h5], fun e he => ?_, Eq.trans e1 (e2.trans (e3.trans (e4.trans e5)))⟩
    rcases List.mem_cons.1 he with e' | he
    · subst e'; exact ⟨h1, h2⟩
    · exact h6 e he
theorem sameO_good {n : K4} {a b : Ob} {κ : R} (h : (sameO n a b κ).good) : a = b ∧ OldO n a ∧ sameO n a b κ = κ := by
  cases a with
  | c cs sup prev =>
    have h0 : R.good (br sup (.fail "memory that may be shared") (noneK prev (@Ob.rec (fun _ => R) (fun cs' sup' prev' => br sup' (.fail "memory that may be shared") (noneK prev' (sameCs n cs cs' κ))) (fF3 "unlike") (fF4 "unlike") (.fail "unlike") (fF2 "unlike") b))) := h
    obtain ⟨h1, e1⟩ := br_good' h0
    rw [e1] at h0
    obtain ⟨h2, e2⟩ := noneK_good h0
    rw [e2] at h0
    cases b with
    | c cs' sup' prev' =>
      have h0 : R.good (br sup' (.fail "memory that may be shared") (noneK prev' (sameCs n cs cs' κ))) := h0
      obtain ⟨h3, e3⟩ := br_good' h0
      rw [e3] at h0
      obtain ⟨h4, e4⟩ := noneK_good h0
      rw [e4] at h0
      subst h1 h2 h3 h4
      cases cs with
      | l xs => cases cs' with
        | l ys =>
          have h0 : R.good (br (oldL n xs) (sameV (.tup xs) (.tup ys) κ) (.fail "a new place")) := h0
          obtain ⟨h5, e5⟩ := br_good h0
          rw [e5] at h0
          obtain ⟨h6, e6⟩ := sameV_good h0
          cases h6
          exact ⟨rfl, ⟨h5, rfl, rfl⟩, Eq.trans e5 e6⟩
        | b m c => exact h0.elim
      | b m c => cases cs' with
        | l ys => exact h0.elim
        | b m' c' =>
          have h0 : R.good (br (Nat.beq m m') (br (Nat.beq c c') κ (.fail "unlike")) (.fail "unlike")) := h0
          obtain ⟨h5, e5⟩ := br_good h0
          rw [e5] at h0
          obtain ⟨h6, e6⟩ := br_good h0
          exact ⟨by rw [Nat.eq_of_beq_eq_true h5, Nat.eq_of_beq_eq_true h6], ⟨rfl, rfl⟩, Eq.trans e5 e6⟩
    | m _ _ _ => exact h0.elim
    | it _ _ _ _ => exact h0.elim
    | it0 => exact h0.elim
    | lp _ _ => exact h0.elim
  | m es bs c => cases b with
    | m es' bs' c' =>
      have h0 : R.good (br (Nat.beq c c') (sameNs bs bs' (sameEs n es es' κ)) (.fail "unlike")) := h
      obtain ⟨h1, e1⟩ := br_good h0
      rw [e1] at h0
      obtain ⟨h2, e2⟩ := sameNs_good h0
      rw [e2] at h0
      obtain ⟨h3, h4, e3⟩ := sameEs_good h0
      refine ⟨by rw [Nat.eq_of_beq_eq_true h1, h2, h3], h4, Eq.trans e1 (e2.trans e3)⟩
    | c _ _ _ => exact h.elim
    | it _ _ _ _ => exact h.elim
    | it0 => exact h.elim
    | lp _ _ => exact h.elim
  | it _ _ _ _ => exact h.elim
  | it0 => exact h.elim
  | lp _ _ => exact h.elim
theorem sameOO_good {n : K4} {a b : OOb} {κ : R} (h : (sameOO n a b κ).good) : a = b ∧ (∀ o, a = some o → OldO n o) ∧ sameOO n a b κ = κ := by
  cases a with
  | none => cases b with
    | none => exact ⟨rfl, fun o h => (by cases h), rfl⟩
    | some y => exact h.elim
  | some x => cases b with
    | none => exact h.elim
    | some y =>
      obtain ⟨h1, h2, e⟩ := sameO_good (show R.good (sameO n x y κ) from h)
      subst h1
      exact ⟨rfl, fun o h => (by cases h; exact h2), e⟩
theorem sameAll_good {n : K4} {h1 h' : Heap} : ∀ {acc : List K4} {κ : R}, (sameAll n h1 h' acc κ).good → (∀ p ∈ acc, hget p h1 = hget p h' ∧ ∀ o, hget p h1 = some o → OldO n o) ∧ sameAll n h1 h' acc κ = κ
  | [], κ, _ => ⟨fun p hp => by simp at hp, rfl⟩
  | q :: acc, κ, h => by
    have e0 : sameAll n h1 h' (q :: acc) κ = sameOO n (hget q h1) (hget q h') (sameAll n h1 h' acc κ) := by
      show (hgetR q h1 fun a => hgetR q h' fun b => sameOO n a b (sameAll n h1 h' acc κ)) = _
      rw [hgetR_eq, hgetR_eq]
    rw [e0] at h
    obtain ⟨a1, a2, e1⟩ := sameOO_good h
    rw [e1] at h
    obtain ⟨a3, e2⟩ := sameAll_good h
    refine ⟨fun p hp => ?_, e0.trans (e1.trans e2)⟩
    rcases List.mem_cons.1 hp with e | hp
    · subst e; exact ⟨a1, a2⟩
    · exact a3 p hp
/-- Two results. -/
def ResOK (n : K4) (v1 : V) (h1 : Heap) (v' : V) (h' : Heap) : Prop :=
  (oldV n v1 = true ∧ v1 = v') ∨ (oldV n v1 = false ∧ ∃ p p' off len cap ex esz, v1 = .sl p off len cap ex esz ∧ v' = .sl p' off len cap ex esz ∧ n.toN ≤ p.toN ∧ n.toN ≤ p'.toN ∧ clnO n (hget p h1) = clnO n (hget p' h') ∧ ∀ o, clnO n (hget p h1) = some o → OldO n o)
theorem sameRes_good {n : K4} {v1 v' : V} {h1 h' : Heap} {κ : R} (h : (sameRes n v1 h1 v' h' κ).good) : ResOK n v1 h1 v' h' ∧ sameRes n v1 h1 v' h' κ = κ := by
  unfold sameRes at h ⊢
  cases ho : oldV n v1 with
  | true =>
    rw [ho] at h
    obtain ⟨a, e⟩ := sameV_good (show R.good (sameV v1 v' κ) from h)
    exact ⟨.inl ⟨ho, a⟩, e⟩
  | false =>
    rw [ho] at h
    have h : R.good (asSl v1 (.fail "a result") fun p off len cap ex esz => asSl v' (.fail "a result") fun p' off' len' cap' ex' esz' => br (ltK p n) (.fail "a result") (br (ltK p' n) (.fail "a result") (sameV (.sl p off len cap ex esz) (.sl p off' len' cap' ex' esz') (hgetR p h1 fun a => hgetR p' h' fun b => sameOO n (clnO n a) (clnO n b) κ)))) := h
    show ResOK n v1 h1 v' h' ∧ (asSl v1 (.fail "a result") fun p off len cap ex esz => asSl v' (.fail "a result") fun p' off' len' cap' ex' esz' => br (ltK p n) (.fail "a result") (br (ltK p' n) (.fail "a result") (sameV (.sl p off len cap ex esz) (.sl p off' len' cap' ex' esz') (hgetR p h1 fun a => hgetR p' h' fun b => sameOO n (clnO n a) (clnO n b) κ)))) = κ
    rcases asSl_good h with ⟨_, e1⟩ | ⟨p, off, len, cap, ex, esz, hv, e1⟩
    · rw [e1] at h; exact h.elim
    rw [e1] at h ⊢
    rcases asSl_good h with ⟨_, e2⟩ | ⟨p', off', len', cap', ex', esz', hv', e2⟩
    · rw [e2] at h; exact h.elim
    rw [e2] at h ⊢
    obtain ⟨a1, e3⟩ := br_good' h
    rw [e3] at h ⊢
    obtain ⟨a2, e4⟩ := br_good' h
    rw [e4] at h ⊢
    obtain ⟨a3, e5⟩ := sameV_good h
    rw [e5] at h ⊢
    rw [hgetR_eq, hgetR_eq] at h ⊢
    obtain ⟨a4, a5, e6⟩ := sameOO_good h
    rw [e6]
    cases a3
    have n1 : n.toN ≤ p.toN := by
      rcases Nat.lt_or_ge p.toN n.toN with h | h
      · rw [ltK_iff.2 h] at a1; cases a1
      · exact h
    have n2 : n.toN ≤ p'.toN := by
      rcases Nat.lt_or_ge p'.toN n.toN with h | h
      · rw [ltK_iff.2 h] at a2; cases a2
      · exact h
    exact ⟨.inr ⟨ho, p, p', off, len, cap, ex, esz, hv, hv', n1, n2, a4, a5⟩, rfl⟩
theorem maxK_eq (a b : K4) (κ : K4 → R) : ∃ m : K4, maxK a b κ = κ m ∧ a.toN ≤ m.toN ∧ b.toN ≤ m.toN := by
  unfold maxK
  cases h : Nat.ble a.toN b.toN with
  | true => exact ⟨b, rfl, ble_iff.1 h, Nat.le_refl _⟩
  | false =>
    have : ¬ a.toN ≤ b.toN := fun h' => by rw [ble_iff.2 h'] at h; cases h
    exact ⟨a, rfl, Nat.le_refl _, by omega⟩
/-- All ways are like the first one. -/
def WayOK (n : K4) (v1 : V) (h1 : Heap) (acc : List K4) (m : K4) : R → Prop
  | .rv v h n' => ResOK n v1 h1 v h ∧ (∀ p ∈ acc, hget p h1 = hget p h ∧ ∀ o, hget p h1 = some o → OldO n o) ∧ n'.toN ≤ m.toN
  | _ => False
theorem allK_good {n : K4} {v1 : V} {h1 : Heap} {acc : List K4} : ∀ {r : R} {mx : K4} {κ : K4 → R}, (allK n v1 h1 acc r mx κ).good → ∃ m : K4, mx.toN ≤ m.toN ∧ r.sat (WayOK n v1 h1 acc m) ∧ allK n v1 h1 acc r mx κ = κ m
  | .ok _ _ _ _, mx, κ, h => h.elim
  | .fail _, mx, κ, h => h.elim
  | .rv v h0 n', mx, κ, h => by
    have h : R.good (sameRes n v1 h1 v h0 (sameAll n h1 h0 acc (maxK n' mx κ))) := h
    obtain ⟨a1, e1⟩ := sameRes_good h
    rw [e1] at h
    obtain ⟨a2, e2⟩ := sameAll_good h
    rw [e2] at h
    obtain ⟨m, e3, l1, l2⟩ := maxK_eq n' mx κ
    exact ⟨m, l2, ⟨a1, a2, l1⟩, Eq.trans e1 (e2.trans e3)⟩
  | .both a b, mx, κ, h => by
    have h : R.good (allK n v1 h1 acc a mx fun mx => allK n v1 h1 acc b mx κ) := h
    obtain ⟨m1, l1, s1, e1⟩ := allK_good h
    rw [e1] at h
    obtain ⟨m2, l2, s2, e2⟩ := allK_good h
    refine ⟨m2, Nat.le_trans l1 l2, ⟨R.sat_mono (fun r hr => ?_) s1, s2⟩, Eq.trans e1 e2⟩
    cases r with
    | rv v h0 n' => exact ⟨hr.1, hr.2.1, Nat.le_trans hr.2.2 l2⟩
    | ok _ _ _ _ => exact hr
    | fail _ => exact hr
    | both _ _ => exact hr
theorem firstK_good : ∀ {r : R} {κ : V → Heap → R}, (firstK r κ).good → ∃ v h, firstK r κ = κ v h
  | .ok _ _ _ _, κ, h => h.elim
  | .fail _, κ, h => h.elim
  | .rv v h0 n', κ, h => ⟨v, h0, rfl⟩
  | .both a b, κ, h => firstK_good (r := a) h
theorem killO_eq (o : Ob) (h : Heap) (κ : Heap → R) : killO o h κ = κ (killS (prevOf o) h) := by
  cases o with
  | c cs sup prev =>
    cases prev with
    | none => rfl
    | some q => show hputR q h none κ = _; rw [hputR_eq, hput_eq]; rfl
  | m _ _ _ => rfl
  | it _ _ _ _ => rfl
  | it0 => rfl
  | lp _ _ => rfl
/-- What is left when the ways are laid together. -/
structure PutOK (h h1 : Heap) (acc : List K4) (hf : Heap) : Prop where
  put : ∀ q o, hget q hf = some o → (q ∈ acc ∧ hget q h1 = some o) ∨ (q ∉ acc ∧ hget q h = some o ∧ ∀ p ∈ acc, ∀ op, hget p h = some op → prevOf op ≠ some q)
theorem putsK_good {h h1 : Heap} : ∀ {acc : List K4} {κ : Heap → R}, (putsK h h1 acc κ).good → ∃ hf, PutOK h h1 acc hf ∧ putsK h h1 acc κ = κ hf
  | [], κ, _ => ⟨h, ⟨fun q o hq => .inr ⟨by simp, hq, fun p hp => by simp at hp⟩⟩, rfl⟩
  | p :: acc, κ, hg => by
    have hg : R.good (putsK h h1 acc fun hf => hgetR p h fun o => @Option.rec Ob (fun _ => R) (.fail "an object") (fun o => killO o hf fun hf => hgetR p h1 fun o1 => hputR p hf o1 κ) o) := hg
    obtain ⟨hf, ok, e1⟩ := putsK_good hg
    rw [e1] at hg
    have e0 : putsK h h1 (p :: acc) κ = _ := e1
    rw [e0]
    rw [hgetR_eq] at hg ⊢
    cases hp : hget p h with
    | none => rw [hp] at hg; exact hg.elim
    | some op =>
      show ∃ hf', PutOK h h1 (p :: acc) hf' ∧ (killO op hf fun hf => hgetR p h1 fun o1 => hputR p hf o1 κ) = κ hf'
      rw [killO_eq, hgetR_eq, hputR_eq, hput_eq]
      refine ⟨_, ⟨fun q o hq => ?_⟩, rfl⟩
      rcases hget_inv hq with ⟨rfl, e⟩ | ⟨hne, hq⟩
      · exact .inl ⟨List.mem_cons_self .., e⟩
      · obtain ⟨k1, hq⟩ := killS_inv hq
        rcases ok.put q o hq with ⟨a, b⟩ | ⟨a, b, c⟩
        · exact .inl ⟨List.mem_cons_of_mem _ a, b⟩
        · refine .inr ⟨fun hm => ?_, b, fun p' hp' op' hop' => ?_⟩
          · rcases List.mem_cons.1 hm with e | hm
            · exact hne e.symm
            · exact a hm
          · rcases List.mem_cons.1 hp' with e | hp'
            · subst e; rw [hp] at hop'; cases hop'; exact k1
            · exact c p' hp' op' hop'
section
variable {h hs h1 h' hf : Heap} {acc : List K4} {n n' m : K4} {v1 v : V} {φ φ' : Emb} {w w' : World}
theorem lay_apart (sub : Sub h hs acc) (put : PutOK h h1 acc hf) (g : Gam ρ B h n φ w) {q : K4} {o : Ob} (hq : q ∉ acc) (ho : hget q hf = some o) {b s tot : Nat} (hφ : φ q = some (b, s, tot)) {p : K4} (hp : p ∈ acc) {s' tot' : Nat} (hφp : φ p = some (b, s', tot')) : False := by
  obtain ⟨op', hop⟩ := sub.has p hp
  obtain ⟨op, k1, _, k2, _⟩ := sub.sub p op' hop
  rcases put.put q o ho with ⟨a, _⟩ | ⟨_, a, c⟩
  · exact hq a
  · have hne : p ≠ q := fun e => hq (e ▸ hp)
    rcases g.sep p q op o b s' tot' s tot hne k1 a hφp hφ with e | e
    · exact c p hp op k1 e
    · have := g.sup q p o op b s tot s' tot' a e k1 hφ hφp
      cases op with
      | c cs sup prev =>
        have this : sup = true := this
        subst this
        cases k2
      | m _ _ _ => cases this
      | it _ _ _ _ => cases this
      | it0 => cases this
      | lp _ _ => cases this
theorem lay_same (sub : Sub h hs acc) (put : PutOK h h1 acc hf) (g : Gam ρ B h n φ w) (f1 : Fr hs h' φ φ' n n' w w') {q : K4} {o : Ob} (hq : q ∉ acc) (ho : hget q hf = some o) {b s tot : Nat} (hφ : φ q = some (b, s, tot)) : w'.heap[b]? = w.heap[b]? := by
  refine f1.old b (g.blk q b s tot hφ).2 fun p s' tot' hp => ?_
  cases hx : hget p hs with
  | none => rfl
  | some o' => exact (lay_apart sub put g hq ho hφ (sub.mem hx) hp).elim
theorem lay_base (sub : Sub h hs acc) (put : PutOK h h1 acc hf) (g : Gam ρ B h n φ w) (f1 : Fr hs h' φ φ' n n' w w') (g1 : Gam ρ B h' n' φ' w')
    (hacc : ∀ p ∈ acc, hget p h1 = hget p h' ∧ ∀ o, hget p h1 = some o → OldO n o) (hm : n.toN ≤ m.toN) : Gam ρ B hf m φ w' ∧ Fr h hf φ φ n m w w' := by
  have back : ∀ p x, p.toN < n.toN → φ' p = some x → φ p = some x := fun p x hp hx => by
    rcases f1.new p x hx with h | ⟨h, _⟩
    · exact h
    · omega
  have inacc : ∀ q o, q ∈ acc → hget q hf = some o → hget q h' = some o ∧ OldO n o := fun q o hq ho => by
    rcases put.put q o ho with ⟨_, a⟩ | ⟨a, _⟩
    · exact ⟨(hacc q hq).1 ▸ a, (hacc q hq).2 o a⟩
    · exact absurd hq a
  have outacc : ∀ q o, q ∉ acc → hget q hf = some o → hget q h = some o := fun q o hq ho => by
    rcases put.put q o ho with ⟨a, _⟩ | ⟨_, a, _⟩
    · exact absurd a hq
    · exact a
  refine ⟨⟨Nat.le_trans g.base f1.size, fun p x hx => Nat.lt_of_lt_of_le (g.dom p x hx) hm, fun p b s tot hx => ⟨(g.blk p b s tot hx).1, Nat.lt_of_lt_of_le (g.blk p b s tot hx).2 f1.size⟩, fun q o b s tot ho hx => ?_, fun p q o o' b s tot s' tot' hne ho ho' hx hy => ?_, fun p q o o' b s tot s' tot' ho hpr ho' hx hy => ?_, g1.glob⟩,
    ⟨Emb.le_refl φ, fun _ _ h => .inl h, hm, f1.os, f1.tape, f1.out, f1.size, fun b hb hn => f1.old b hb fun p s tot hp => ?_, fun _ _ _ _ h => .inl h, fun p hp hn => ?_⟩⟩
  · by_cases hq : q ∈ acc
    · obtain ⟨a, c⟩ := inacc q o hq ho
      exact ObOK_agree back c (g1.obj q o b s tot a (f1.ext _ _ hx))
    · exact ObOK_heap (lay_same sub put g f1 hq ho hx) (g.obj q o b s tot (outacc q o hq ho) hx)
  · by_cases hp : p ∈ acc
    · by_cases hq : q ∈ acc
      · exact g1.sep p q o o' b s tot s' tot' hne (inacc p o hp ho).1 (inacc q o' hq ho').1 (f1.ext _ _ hx) (f1.ext _ _ hy)
      · exact (lay_apart sub put g hq ho' hy hp hx).elim
    · by_cases hq : q ∈ acc
      · exact (lay_apart sub put g hp ho hx hq hy).elim
      · exact g.sep p q o o' b s tot s' tot' hne (outacc p o hp ho) (outacc q o' hq ho') hx hy
  · by_cases hp : p ∈ acc
    · rw [(inacc p o hp ho).2.prev] at hpr; cases hpr
    · by_cases hq : q ∈ acc
      · exact (lay_apart sub put g hp ho hx hq hy).elim
      · exact g.sup p q o o' b s tot s' tot' (outacc p o hp ho) hpr (outacc q o' hq ho') hx hy
  · cases hx : hget p hs with
    | none => rfl
    | some o' => have := hn p s tot hp; obtain ⟨o0, e0⟩ := sub.in_h hx; rw [e0] at this; cases this
  · cases hx : hget p hf with
    | none => rfl
    | some o =>
      exfalso
      by_cases hq : p ∈ acc
      · obtain ⟨o', ho'⟩ := sub.has p hq
        obtain ⟨o0, e0⟩ := sub.in_h ho'
        rw [e0] at hn; cases hn
      · rw [outacc p o hq hx] at hn; cases hn
theorem lay_ok (sub : Sub h hs acc) (put : PutOK h h1 acc hf) (g : Gam ρ B h n φ w) (f1 : Fr hs h' φ φ' n n' w w') (g1 : Gam ρ B h' n' φ' w') {x : Value} (r1 : rel ρ φ' v x)
    (way : WayOK n v1 h1 acc m (.rv v h' n')) (hm : n.toN ≤ m.toN) {vf : V} {hff : Heap} {nf : K4} (hres : resR n v1 h1 hf m = .rv vf hff nf) :
    ∃ φ'', Fr h hff φ φ'' n nf w w' ∧ Gam ρ B hff nf φ'' w' ∧ rel ρ φ'' vf x := by
  obtain ⟨res, hacc, hn'⟩ := way
  obtain ⟨gb, fb⟩ := lay_base sub put g f1 g1 hacc hm
  have back : ∀ p x, p.toN < n.toN → φ' p = some x → φ p = some x := fun p x hp hx => by
    rcases f1.new p x hx with h | ⟨h, _⟩
    · exact h
    · omega
  unfold resR at hres
  rcases res with ⟨ho, e⟩ | ⟨ho, p, p', off, len, cap, ex, esz, e1, e2, hp, hp', heq, hold⟩
  · subst e
    rw [ho] at hres
    have hres : R.rv v1 hf m = R.rv vf hff nf := hres
    cases hres
    exact ⟨φ, fb, gb, rel_agree back ho r1⟩
  · rw [ho] at hres
    subst e1 e2
    have hres : (hgetR p h1 fun o => @Option.rec Ob (fun _ => R) (.fail "a result") (fun ob => hputR m hf (some ob) fun hf => m.nx fun m' => .rv (.sl m off len cap ex esz) hf m') (clnO n o)) = .rv vf hff nf := hres
    rw [hgetR_eq] at hres
    cases hob : clnO n (hget p h1) with
    | none => rw [hob] at hres; cases hres
    | some ob =>
      rw [hob] at hres
      have hres : (hputR m hf (some ob) fun hf => m.nx fun m' => .rv (.sl m off len cap ex esz) hf m') = .rv vf hff nf := hres
      rw [hputR_eq, hput_eq] at hres
      rcases K4.nx_eq m (fun m' => .rv (.sl m off len cap ex esz) (hputS m hf (some ob)) m') with ⟨why, e⟩ | ⟨m', hm', e⟩
      · rw [e] at hres; cases hres
      rw [e] at hres
      cases hres
      have hOld := hold ob hob
      obtain ⟨obr, hob', hpv, hcl⟩ := clnO_some (heq ▸ hob)
      obtain ⟨b', s', tot', o, cap', hφ', gx, c1, c2, c3, c4⟩ := rel_sl r1
      have hmn : φ m = none := by
        cases hx : φ m with
        | none => rfl
        | some x => have := g.dom m x hx; omega
      have hoblk := g1.blk p' b' s' tot' hφ'
      -- no object that was there lies in that block
      have apart : ∀ q oq, hget q hf = some oq → ∀ s tot, φ q = some (b', s, tot) → False := fun q oq hq s tot hx => by
        have hqn := g.dom q _ hx
        have hne : p' ≠ q := fun e => by rw [e] at hp'; omega
        by_cases hqa : q ∈ acc
        · rcases put.put q oq hq with ⟨_, a⟩ | ⟨a, _⟩
          · have a' : hget q h' = some oq := (hacc q hqa).1 ▸ a
            rcases g1.sep p' q obr oq b' s' tot' s tot hne hob' a' hφ' (f1.ext _ _ hx) with e | e
            · have := hpv hOld.prev q e; omega
            · rw [((hacc q hqa).2 oq a).prev] at e; cases e
          · exact a hqa
        · rcases f1.fresh p' b' s' tot' hφ' with h | h | ⟨r, sr, tr, hr, hne'⟩
          · have := g.dom p' _ h; omega
          · have := (g.blk q b' s tot hx).2; omega
          · cases hx' : hget r hs with
            | none => exact hne' hx'
            | some o' => exact lay_apart sub put g hqa hq hx (sub.mem hx') hr
      refine ⟨updE φ m (b', s', tot'), ⟨Emb.le_trans fb.ext (updE_le hmn), fun q y hy => ?_, by omega, fb.os, fb.tape, fb.out, fb.size, fb.old, fun q b s t hx => ?_, fun q hq hn => ?_⟩, ⟨gb.base, fun q y hy => ?_, fun q b s t hy => ?_, fun q oq b s t hq hy => ?_, fun q r oq or b s t s2 t2 hne hq hr hx hy => ?_, fun q r oq or b s t s2 t2 hq hpr hr hx hy => ?_, gb.glob⟩, ?_⟩
      · rcases updE_inv hy with ⟨rfl, _⟩ | ⟨_, hy⟩
        · exact .inr ⟨hm, by omega⟩
        · exact .inl hy
      · rcases updE_inv hx with ⟨rfl, e⟩ | ⟨_, hx⟩
        · cases e
          rcases f1.fresh p' b' s' tot' hφ' with h | h | ⟨r, sr, tr, hr, hne'⟩
          · have := g.dom p' _ h; omega
          · exact .inr (.inl h)
          · refine .inr (.inr ⟨r, sr, tr, hr, ?_⟩)
            cases hx' : hget r hs with
            | none => exact absurd hx' hne'
            | some o' => obtain ⟨o0, e0⟩ := sub.in_h hx'; rw [e0]; simp
        · exact .inl hx
      · have hne : m ≠ q := fun e => hq (e ▸ hmn)
        rw [hget_hputS_ne _ _ hne]
        exact fb.dm q hq hn
      · rcases updE_inv hy with ⟨rfl, _⟩ | ⟨_, hy⟩
        · omega
        · have := gb.dom q y hy; omega
      · rcases updE_inv hy with ⟨rfl, e⟩ | ⟨_, hy⟩
        · cases e; exact hoblk
        · exact gb.blk q b s t hy
      · rcases updE_inv hy with ⟨rfl, e⟩ | ⟨hne, hy⟩
        · cases e
          rw [hget_hputS_same] at hq; cases hq
          refine ObOK_agree (φ1 := φ') (fun q y hq hy => ?_) hOld (hcl (g1.obj p' obr _ _ _ hob' hφ'))
          rw [updE_ne fun e => by subst e; omega]
          exact back q y hq hy
        · rw [hget_hputS_ne _ _ hne] at hq
          exact ObOK_mono (updE_le hmn) (gb.obj q oq b s t hq hy)
      · rcases updE_inv hx with ⟨rfl, e⟩ | ⟨hq', hx⟩
        · cases e
          rcases updE_inv hy with ⟨e, _⟩ | ⟨hr', hy⟩
          · exact absurd e hne
          · rw [hget_hputS_ne _ _ hr'] at hr
            exact (apart r or hr s2 t2 hy).elim
        · rw [hget_hputS_ne _ _ hq'] at hq
          rcases updE_inv hy with ⟨rfl, e⟩ | ⟨hr', hy⟩
          · cases e
            exact (apart q oq hq s t hx).elim
          · rw [hget_hputS_ne _ _ hr'] at hr
            exact gb.sep q r oq or b s t s2 t2 hne hq hr hx hy
      · rcases updE_inv hx with ⟨rfl, e⟩ | ⟨hq', hx⟩
        · rw [hget_hputS_same] at hq; cases hq
          rw [hOld.prev] at hpr; cases hpr
        · rw [hget_hputS_ne _ _ hq'] at hq
          rcases updE_inv hy with ⟨rfl, e⟩ | ⟨hr', hy⟩
          · cases e
            exact (apart q oq hq s t hx).elim
          · rw [hget_hputS_ne _ _ hr'] at hr
            exact gb.sup q r oq or b s t s2 t2 hq hpr hr hx hy
      · rw [gx]
        simp only [rel]
        exact ⟨b', s', tot', o, cap', updE_same _ _ _, rfl, c1, c2, c3, c4⟩
end
/-- A CALL WHOSE WAYS ARE LAID TOGETHER IS SOUND. -/
theorem brK_ok {f : FuncId} {run : Heap → R} {k : Nat} {args : List V} {h : Heap} {n : K4} {v : V} {h1 : Heap} {n1 : K4} (hr : brK k run args h n = .rv v h1 n1) {φ : Emb} {w : World} {xs : Array Value} (g : Gam ρ B h n φ w) (hxs : rels ρ φ args xs.toList)
    (H : ∀ (hs : Heap) (Φ : R → Prop), (run hs).sat Φ → Gam ρ B hs n φ w → Runs P f xs w fun x w' => ∃ v h1 n1 φ', Φ (.rv v h1 n1) ∧ Fr hs h1 φ φ' n n1 w w' ∧ Gam ρ B h1 n1 φ' w' ∧ rel ρ φ' v x) :
    Runs P f xs w fun x w' => ∃ φ', Fr h h1 φ φ' n n1 w w' ∧ Gam ρ B h1 n1 φ' w' ∧ rel ρ φ' v x := by
  unfold brK at hr
  obtain ⟨hs, acc, sub, e1⟩ := reachK_ok k (todo := plsL args []) (κ := fun hs acc => finK n h acc (run hs)) (Sub.nil (h := h))
  rw [e1] at hr
  unfold finK at hr
  obtain ⟨v1, hh1, e2⟩ := firstK_good (by rw [hr]; trivial)
  rw [e2] at hr
  obtain ⟨m, hm, sat, e3⟩ := allK_good (by rw [hr]; trivial)
  rw [e3] at hr
  obtain ⟨hf, put, e4⟩ := putsK_good (by rw [hr]; trivial)
  rw [e4] at hr
  have gs : Gam ρ B hs n φ w := by
    refine ⟨g.base, g.dom, g.blk, fun p o b s tot hp hx => ?_, fun p q o o' b s tot s' tot' hne hp hq hx hy => ?_, fun p q o o' b s tot s' tot' hp hpr hq hx hy => ?_, g.glob⟩
    · obtain ⟨o0, e0, rfl, _⟩ := sub.sub p o hp
      exact clrP_ok (g.obj p o0 b s tot e0 hx)
    · exfalso
      obtain ⟨o0, e0, _, g0, _⟩ := sub.sub p o hp
      obtain ⟨o1, e1, _, g1, _⟩ := sub.sub q o' hq
      have no : ∀ (ob : Ob), goodOb ob = true → supOf ob = true → False := fun ob h1 h2 => by
        cases ob with
        | c cs sup prev =>
          cases sup with
          | true => cases h1
          | false => cases h2
        | _ => cases h2
      rcases g.sep p q o0 o1 b s tot s' tot' hne e0 e1 hx hy with h | h
      · exact no o1 g1 (g.sup p q o0 o1 b s tot s' tot' e0 h e1 hx hy)
      · exact no o0 g0 (g.sup q p o1 o0 b s' tot' s tot e1 h e0 hy hx)
    · obtain ⟨o0, e0, rfl, _⟩ := sub.sub p o hp
      rw [clrP_prev] at hpr; cases hpr
  intro o a K Q hK
  refine H hs _ sat gs o a K Q fun x w' ⟨v', h', n', φ', way, f1, g1, r1⟩ => hK x w' ?_
  exact lay_ok sub put g f1 g1 r1 way hm hr
end
end Go.Ev

namespace Go.Ev
set_option linter.unusedVariables false
open Go.RowKit
/-- One round: the parameter, then the body. -/
abbrev rdK (pb px : K2) (al bl : List AOp) (cf : CF2) (b x : V) (h : Heap) (n : K4) : R :=
  ops2K [] cf al [(px, x), (pb, b)] sempty h n fun env t h n => ops2K [] cf bl env t h n fun _ _ h n => .rv (.bool true) h n
abbrev Rd := CF2 → V → V → Heap → K4 → R
def noDefer (l : List Oper) : Bool := l.all fun o => match o.op with | .defer _ => false | _ => true
theorem noDefer_mem {l : List Oper} (h : noDefer l = true) : ∀ o ∈ l, ∀ c, o.op ≠ .defer c := fun o ho c e => by
  have := List.all_eq_true.1 h o ho
  rw [e] at this; cases this
def opsOf : Code → Option (Array Oper)
  | .region _ ops false => some ops
  | _ => none
def bodOf : Code → Option (Array Oper)
  | .block _ c => opsOf c
  | _ => none
/-- The round's text, and whether it is one. -/
def rdOf (P : Program) (A : ApC) : Option Rd :=
  match opsOf A.asg, bodOf A.bod, K2.ofN A.par, K2.ofN A.box with
  | some oa, some ob, some px, some pb => match cOps P A.ntm oa oa.toList, cOps P A.ntm ob ob.toList with
    | some al, some bl => if okOps [] al [px, pb] && (okOps [] bl (domOps al [px, pb]) && (noDefer oa.toList && (noDefer ob.toList && (Nat.blt A.par A.ntm && (Nat.blt A.box A.ntm && !(A.par == A.box)))))) then some (rdK pb px al bl) else none
    | _, _ => none
  | _, _, _, _ => none
theorem opsOf_some {c : Code} {ops : Array Oper} (h : opsOf c = some ops) : ∃ i, c = .region i ops false := by
  unfold opsOf at h
  split at h
  · cases h; exact ⟨_, rfl⟩
  · cases h
theorem bodOf_some {c : Code} {ops : Array Oper} (h : bodOf c = some ops) : ∃ i j, c = .block i (.region j ops false) := by
  unfold bodOf at h
  split at h
  · obtain ⟨j, rfl⟩ := opsOf_some h; exact ⟨_, j, rfl⟩
  · cases h
/-- The function. -/
def apOf (P : Program) (f : FuncId) : Option ApC :=
  match P.funcs[f]? with
  | some fn => match fn.body with
    | some (.seq (.region _ r0 false) (.seq (.seq (.region _ r1 false) (.block _ (.rangeFunc (.tmp s6) ps asg bod))) (.seq (.region _ r4 false) .ret))) =>
      match r0.toList, r1.toList, r4.toList, ps.toList, fn.results.toList with
      | [o1, o2], [o3], [o4, o5], [par], [.tmp s4] => match o1.op, o2.op, o3.op, o4.op, o5.op with
        | .box _ (.tmp s0), .assign (.const c2), .move (.tmp s1), .load tL (.tmp s2), .assign (.tmp s12) =>
          if (fn.name == "runtime.NumGoroutine") = false ∧ fn.ntmps = 13 ∧ s6 = 6 ∧ s4 = 4 ∧ s0 = 0 ∧ s1 = 1 ∧ s2 = 2 ∧ s12 = 12 ∧ o1.dst = some 2 ∧ o2.dst = some 4 ∧ o3.dst = some 6 ∧ o4.dst = some 12 ∧ o5.dst = some 4 ∧
            o1.guard = none ∧ o2.guard = none ∧ o3.guard = none ∧ o4.guard = none ∧ o5.guard = none ∧ cAgg P tL = some false then some ⟨asg, bod, par, 2, 13⟩ else none
        | _, _, _, _, _ => none
      | _, _, _, _, _ => none
    | _ => none
  | none => none
def unK (l : List V) (κ : V → List V → R) : R := @List.rec V (fun _ => R) (.fail "arguments") (fun x xs _ => κ x xs) l
def nlK (l : List V) (κ : R) : R := @List.rec V (fun _ => R) κ (fF3 "arguments") l
def nilSlK (v : V) (κ : R) : R :=
  @V.rec (fun _ => R) (fun _ => Unit) (fF2 "nil expected") (fF1 "nil expected") (fF2 "nil expected") (fF6 "nil expected") (fF2 "nil expected") (fF2 "nil expected")
    (fun u => @Nl.rec (fun _ => R) (.fail "nil expected") κ (.fail "nil expected") (.fail "nil expected") (.fail "nil expected") u) (fF1 "nil expected") (fF3 "nil expected") (fF2 "nil expected") (fF1 "nil expected") () (fun _ _ _ _ => ()) v
def asFnK (v : V) (κ : Nat → List V → R) : R :=
  @V.rec (fun _ => R) (fun _ => Unit) (fF2 "function expected") (fF1 "function expected") (fF2 "function expected") (fF6 "function expected") (fF2 "function expected") (fF2 "function expected") (fF1 "function expected") (fF1 "function expected")
    (fun f caps _ => κ f caps) (fF2 "function expected") (fF1 "function expected") () (fun _ _ _ _ => ()) v
def lpK (o : OOb) (κ : R) : R := @Option.rec Ob (fun _ => R) (.fail "record") (fun o => @Ob.rec (fun _ => R) (fF3 "record") (fF3 "record") (fF4 "record") (.fail "record") (fun _ _ => κ) o) o
def memFK (g : Nat) (l : List Nat) (κ : R) : R := @List.rec Nat (fun _ => R) (.fail "an iterator that is not listed") (fun x _ ih => br (Nat.beq x g) κ ih) l
def apLK (f : Nat) (its : List Nat) (cf : CF2) (args : List V) (h : Heap) (n : K4) : R :=
  unK args fun v l => unK l fun s l => nlK l (nilSlK v (asFnK s fun g caps => memFK g its
    (hputR n h (some (.c (.l [.nil .sl]) false none)) fun h => n.nx fun n1 => hputR n1 h (some (.lp f n)) fun h => n1.nx fun n2 =>
      tcallK (cf (fnKey g) (.oth (.yl n1) :: caps) h n2) fun _ h m =>
        hgetR n1 h fun o => lpK o (obR n h fun cs _ _ => getC cs 0 fun sv => hputR n h none fun h => hputR n1 h none fun h => .rv sv h m))))
section
variable {P : Program} {ρ : Env} {B : Nat} {h : Heap} {n : K4}
/-- No object tells of a block. -/
def Unc (φ : Emb) (h : Heap) (l : Nat) : Prop := ∀ q s tot, φ q = some (l, s, tot) → hget q h = none
theorem Unc.step {φ φ1 : Emb} {h1 : Heap} {n1 : K4} {w w1 : World} {l : Nat} (u : Unc φ h l) (hl : l < w.heap.size) (f : Fr h h1 φ φ1 n n1 w w1) : Unc φ1 h1 l := fun q s tot hq => by
  rcases f.fresh q l s tot hq with e | e | ⟨r, s', tot', hr, hne⟩
  · exact f.dm q (by rw [e]; simp) (u q s tot e)
  · omega
  · exact absurd (u r s' tot' hr) hne
theorem Gam.poke {φ : Emb} {w : World} (g : Gam ρ B h n φ w) {l : Nat} (u : Unc φ h l) (O : Obj) (hno : ∀ c e fr, w.heap[l]? ≠ some (.cells c e fr)) : Gam ρ B h n φ (w.putObj l O) where
  glob := fun k c e fr hk => ⟨(g.glob k c e fr hk).1, by rw [World.putObj_heap_other (fun e' => by subst e'; exact hno _ _ _ (g.glob _ c e fr hk).2)]; exact (g.glob k c e fr hk).2⟩
  base := by rw [World.putObj_size]; exact g.base
  dom := g.dom
  blk := fun p b s t hp => by rw [World.putObj_size]; exact g.blk p b s t hp
  obj := fun p o b s t hp hφ => by
    refine ObOK_heap (World.putObj_heap_other fun e => ?_) (g.obj p o b s t hp hφ)
    subst e
    rw [u p s t hφ] at hp; cases hp
  sep := g.sep
  sup := g.sup
/-- A block is other for a while. -/
theorem Fr.around {h1 : Heap} {n1 : K4} {φ φ1 : Emb} {w W : World} {l : Nat} {O O0 : Obj} (hl : w.heap[l]? = some O0) (f : Fr h h1 φ φ1 n n1 (w.putObj l O) W) : Fr h h1 φ φ1 n n1 w (W.putObj l O0) := by
  have hlt : l < w.heap.size := by
    rcases Nat.lt_or_ge l w.heap.size with e | e
    · exact e
    · rw [Array.getElem?_eq_none e] at hl; cases hl
  have hs := f.size
  rw [World.putObj_size] at hs
  refine ⟨f.ext, f.new, f.nn, f.os, f.tape, f.out, by rw [World.putObj_size]; exact hs, fun b hb hn => ?_, fun q b s t hq => ?_, f.dm⟩
  · by_cases e : b = l
    · subst e; rw [World.putObj_heap_same (by omega), hl]
    · rw [World.putObj_heap_other e, f.old b (by rw [World.putObj_size]; exact hb) hn, World.putObj_heap_other e]
  · have := f.fresh q b s t hq
    rwa [World.putObj_size] at this
/-- A new block is other behind. -/
theorem Fr.poke {h1 : Heap} {n1 : K4} {φ φ1 : Emb} {w W : World} {l : Nat} (O : Obj) (hl : w.heap.size ≤ l) (f : Fr h h1 φ φ1 n n1 w W) : Fr h h1 φ φ1 n n1 w (W.putObj l O) :=
  ⟨f.ext, f.new, f.nn, f.os, f.tape, f.out, by rw [World.putObj_size]; exact f.size, fun b hb hn => by rw [World.putObj_heap_other (by omega)]; exact f.old b hb hn, f.fresh, f.dm⟩
def rany : Regs := Regs.all (VP.all (.oth .any))
theorem rget_rany (p : K2) : rget p rany = .oth .any := by simp only [rget, rany, Regs.sel_all, VP.sel_all]
/-- The round is sound. -/
theorem rd_ok (hρ : OneSym ρ) {cf : CF} {cf2 : CF2} (hcf : CallOK P ρ B cf) (h2 : ∀ f, cf2 (fnKey f) = cf f) {A : ApC} {rd : Rd} (hrd : rdOf P A = some rd) {fn : FuncId} {box : K4} {x : V} {Φ : R → Prop}
    (hs : (rd cf2 (.ptr box 0) x h n).sat Φ) {φ : Emb} {w : World} {tmps : Array Value} {X : Value} {l D : Nat} (g : Gam ρ B h n φ w) (hl : w.heap[l]? = some (.loop (recOf A fn tmps D))) (u : Unc φ h l)
    (hsz : tmps.size = A.ntm) (hbox : rel ρ φ (.ptr box 0) (tmps.getD A.box undef)) (hX : rel ρ φ x X) :
    RoundIn Fence.wide 0 P l fn (tmps.setIfInBounds A.par X) A.asg A.bod w fun e w' => e = .returned (.bool true) ∧
      ∃ v h1 n1 φ', v = .bool true ∧ Φ (.rv v h1 n1) ∧ Fr h h1 φ φ' n n1 w w' ∧ Gam ρ B h1 n1 φ' w' := by
  unfold rdOf at hrd
  split at hrd
  · rename_i oa ob px pb ha hb hpx hpb
    split at hrd
    · rename_i al bl hal hbl
      split at hrd
      · rename_i hok
        cases hrd
        simp only [Bool.and_eq_true, Nat.blt_eq] at hok
        obtain ⟨ok1, ok2, nd1, nd2, lt1, lt2, hne⟩ := hok
        have hne : A.par ≠ A.box := by simpa using hne
        obtain ⟨i, hasg⟩ := opsOf_some ha
        obtain ⟨j, k, hbod⟩ := bodOf_some hb
        have hlt : l < w.heap.size := by
          rcases Nat.lt_or_ge l w.heap.size with e | e
          · exact e
          · rw [Array.getElem?_eq_none e] at hl; cases hl
        have hpp : px ≠ pb := fun e => hne (K2.ofN_inj hpx (e ▸ hpb))
        have ri : RI [] [px, pb] [(px, x), (pb, .ptr box 0)] (rputS px (rputS pb rany (.ptr box 0)) x) sempty := by
          refine ⟨fun h => (by cases h), fun p v hp => ?_, fun p hp => ?_, fun p s h => (by cases h)⟩
          · by_cases e : px = p
            · subst e; rw [findR_same] at hp; cases hp; exact rget_rputS_same _ _ _
            · rw [findR_ne e] at hp
              rw [rget_rputS_ne _ _ e]
              by_cases e' : pb = p
              · subst e'; rw [findR_same] at hp; cases hp; exact rget_rputS_same _ _ _
              · rw [findR_ne e'] at hp; simp [findR] at hp
          · by_cases e : px = p
            · subst e; exact ⟨x, findR_same⟩
            · rw [findR_ne e]
              by_cases e' : pb = p
              · subst e'; exact ⟨_, findR_same⟩
              · simp at hp; rcases hp with hp | hp
                · exact absurd hp.symm e
                · exact absurd hp.symm e'
        have hT : TR ρ A.ntm φ (rputS px (rputS pb rany (.ptr box 0)) x) { tmps := tmps.setIfInBounds A.par X, defers := [] } := {
          size := by simp [hsz]
          defers := rfl
          at_ := fun s p hs hp => by
            show rel ρ φ _ ((tmps.setIfInBounds A.par X).getD s undef)
            by_cases e : A.par = s
            · subst e
              rw [hpx] at hp; cases hp
              rw [rget_rputS_same, Array.getD_eq_getD_getElem?, Array.getElem?_setIfInBounds_self_of_lt (by omega)]
              exact hX
            · rw [rget_rputS_ne _ _ (fun e' => e (K2.ofN_inj hpx (by rw [e']; exact hp))), Array.getD_eq_getD_getElem?, Array.getElem?_setIfInBounds_ne e, ← Array.getD_eq_getD_getElem?]
              by_cases e2 : A.box = s
              · subst e2
                rw [hpb] at hp; cases hp
                rw [rget_rputS_same]; exact hbox
              · rw [rget_rputS_ne _ _ (fun e' => e2 (K2.ofN_inj hpb (by rw [e']; exact hp))), rget_rany]
                simp only [rel] }
        have hs : (ops2K [] cf2 al [(px, x), (pb, .ptr box 0)] sempty h n fun env t h n => ops2K [] cf2 bl env t h n fun _ _ h n => .rv (.bool true) h n).sat Φ := hs
        obtain ⟨env1, t1, t1', h1, n1, e1, ri1, H1⟩ := ops2K_goodR (B := B) (ops := oa) hρ hcf h2 hal ok1 ri (R.sat_good hs)
        rw [e1] at hs
        obtain ⟨env2, t2, t2', h2', n2, e2, ri2, H2⟩ := ops2K_goodR (B := B) (ops := ob) hρ hcf h2 hbl ok2 ri1 (R.sat_good hs)
        rw [e2] at hs
        have hs : Φ (.rv (.bool true) h2' n2) := hs
        refine roundIn_of_wpIn trivial ?_
        rw [hasg, hbod]
        have c1 := wpChain_in (l := some l) (n := 0) (r := []) (.inr (noDefer_mem nd1)) (H1 φ _ w hT g (Exit.then (fun a₁ w₁ => ∃ w₂, (Instr.beginRound l).run P w₁ = .ok () w₂ ∧ (Code.block j (.region k ob false)).wpIn (Fence.wide.inRound l) 0 P (roundPost P l (fun e w' => e = .returned (.bool true) ∧
            ∃ v h1 n1 φ', v = .bool true ∧ Φ (.rv v h1 n1) ∧ Fr h h1 φ φ' n n1 w w' ∧ Gam ρ B h1 n1 φ' w')) a₁ w₂) (fun _ _ _ => False)) (wpListIn (fen (some l)) 0 P oa _ []) fun φ1 a1 w1 f1 g1 T1 => wpListIn_nil (F := fen (some l)) ?_)
        · rw [List.append_nil] at c1
          exact wpIn_region_list c1
        · have u1 := u.step hlt f1
          have hl1 : w1.heap[l]? = some (.loop (recOf A fn tmps D)) := (f1.old l hlt u).trans hl
          refine ⟨_, run_beginRound hl1 rfl, wpIn_block (wpIn_region_list ?_)⟩
          have g1' := g1.poke u1 (.loop { recOf A fn tmps D with state := .busy }) (fun c e fr h => by rw [hl1] at h; cases h)
          have c2 := wpChain_in (l := some l) (n := 0) (r := []) (.inr (noDefer_mem nd2)) (H2 φ1 a1 _ T1 g1' (Exit.inBlock j (roundPost P l (fun e w' => e = .returned (.bool true) ∧
            ∃ v h1 n1 φ', v = .bool true ∧ Φ (.rv v h1 n1) ∧ Fr h h1 φ φ' n n1 w w' ∧ Gam ρ B h1 n1 φ' w'))) (wpListIn (fen (some l)) 0 P ob _ []) fun φ2 a2 w2 f2 g2 T2 => wpListIn_nil (F := fen (some l)) ?_)
          · rw [List.append_nil] at c2; exact c2
          · have hlt1 : l < (w1.putObj l (.loop { recOf A fn tmps D with state := .busy })).heap.size := by rw [World.putObj_size]; have := f1.size; omega
            have u2 := u1.step hlt1 f2
            have hl2 : w2.heap[l]? = some (.loop { recOf A fn tmps D with state := .busy }) := (f2.old l hlt1 u1).trans (World.putObj_heap_same (by rwa [World.putObj_size] at hlt1))
            exact ⟨_, _, run_endRound none hl2, rfl, _, h2', n2, φ2, rfl, hs, Fr.trans f1 (f2.around hl1), g2.poke u2 _ (fun c e fr h => by rw [hl2] at h; cases h)⟩
      · cases hrd
    · cases hrd
  · cases hrd
/-- It has a body. -/
def HasBody (P : Program) (g : FuncId) : Prop := ∃ fn c, P.funcs[g]? = some fn ∧ fn.body = some c ∧ (fn.name == "runtime.NumGoroutine") = false
theorem unK_good {l : List V} {κ : V → List V → R} (hg : (unK l κ).good) : ∃ x xs, l = x :: xs ∧ unK l κ = κ x xs := by
  cases l with
  | nil => exact hg.elim
  | cons x xs => exact ⟨x, xs, rfl, rfl⟩
theorem nlK_good {l : List V} {κ : R} (hg : (nlK l κ).good) : l = [] ∧ nlK l κ = κ := by
  cases l with
  | nil => exact ⟨rfl, rfl⟩
  | cons x xs => exact hg.elim
theorem nilSlK_good {v : V} {κ : R} (hg : (nilSlK v κ).good) : v = .nil .sl ∧ nilSlK v κ = κ := by
  cases v with
  | nil u => cases u with
    | sl => exact ⟨rfl, rfl⟩
    | _ => exact hg.elim
  | _ => exact hg.elim
theorem asFnK_good {v : V} {κ : Nat → List V → R} (hg : (asFnK v κ).good) : ∃ f l, v = .fn f l ∧ asFnK v κ = κ f l := by
  cases v with
  | fn f l => exact ⟨f, l, rfl, rfl⟩
  | _ => exact hg.elim
theorem lpK_good {o : OOb} {κ : R} (hg : (lpK o κ).good) : (∃ f b, o = some (.lp f b)) ∧ lpK o κ = κ := by
  cases o with
  | none => exact hg.elim
  | some ob => cases ob with
    | lp f b => exact ⟨⟨f, b, rfl⟩, rfl⟩
    | _ => exact hg.elim
theorem memFK_good {g : Nat} : ∀ {l : List Nat} {κ : R}, (memFK g l κ).good → g ∈ l ∧ memFK g l κ = κ
  | [], κ, hg => hg.elim
  | x :: l, κ, hg => by
    have hg : R.good (br (Nat.beq x g) κ (memFK g l κ)) := hg
    show _ ∧ br (Nat.beq x g) κ (memFK g l κ) = κ
    cases hb : Nat.beq x g with
    | true => exact ⟨by rw [Nat.eq_of_beq_eq_true hb]; exact List.mem_cons_self .., rfl⟩
    | false =>
      rw [hb] at hg
      obtain ⟨h1, h2⟩ := memFK_good (show R.good (memFK g l κ) from hg)
      exact ⟨List.mem_cons_of_mem _ h1, h2⟩
theorem wpIn_value {o : Oper} {a : Act} {w w' : World} {x : Value} {K : Act → World → Prop} {Q : Exit → Act → World → Prop} (hr : (execOp a.eval o).run P w = .ok (.value x) w') (hK : K (a.put o.dst x) w') : o.wpIn Fence.wide 0 P a w K Q :=
  wp_in (l := none) (.inl rfl) (fun _ _ h => h) (show o.wp P a w K Q by unfold Oper.wp; rw [hr]; exact hK)
/-- The function is sound. -/
theorem ap_ok {f : FuncId} {its : List Nat} {A : ApC} (hA : ρ.ap f = some A) (hsh : apOf P f = some A) (hits : ∀ g ∈ its, HasBody P g) {cf : CF} {cf2 : CF2} (hcf : CallT P ρ B cf) (h2 : ∀ f, cf2 (fnKey f) = cf f) {args : List V} {Φ : R → Prop}
    (hr : (apLK f its cf2 args h n).sat Φ) {φ : Emb} {w : World} {xs : Array Value} (g : Gam ρ B h n φ w) (hxs : rels ρ φ args xs.toList) :
    Runs P f xs w fun x w' => ∃ v h1 n1 φ', Φ (.rv v h1 n1) ∧ Fr h h1 φ φ' n n1 w w' ∧ Gam ρ B h1 n1 φ' w' ∧ rel ρ φ' v x := by
  unfold apOf at hsh
  split at hsh
  next fn hfn =>
    split at hsh
    next i0 r0 i1 r1 b0 s6 ps asg bod i4 r4 hbody =>
      split at hsh
      next o1 o2 o3 o4 o5 par s4 e0 e1 e4 eps ers =>
        split at hsh
        next tS s0 c2 s1 tL s2 s12 p1 p2 p3 p4 p5 =>
          split at hsh
          next hc =>
            obtain ⟨hname, hnt, rfl, rfl, rfl, rfl, rfl, rfl, d1, d2, d3, d4, d5, g1, g2, g3, g4, g5, hagg⟩ := hc
            cases hsh
            have hname : (fn.name == "runtime.NumGoroutine") = false := hname
            -- the arguments
            unfold apLK at hr
            obtain ⟨v, l, rfl, q1⟩ := unK_good (R.sat_good hr)
            rw [q1] at hr
            obtain ⟨s, l, rfl, q2⟩ := unK_good (R.sat_good hr)
            rw [q2] at hr
            obtain ⟨rfl, q3⟩ := nlK_good (R.sat_good hr)
            rw [q3] at hr
            obtain ⟨rfl, q4⟩ := nilSlK_good (R.sat_good hr)
            rw [q4] at hr
            obtain ⟨it, caps, rfl, q5⟩ := asFnK_good (R.sat_good hr)
            rw [q5] at hr
            obtain ⟨hmem, q6⟩ := memFK_good (R.sat_good hr)
            rw [q6, hputR_eq, hput_eq] at hr
            rcases K4.nx_eq n _ with ⟨m, e⟩ | ⟨n1, hn1, e⟩
            · rw [e] at hr; exact hr.elim
            rw [e, hputR_eq, hput_eq] at hr
            rcases K4.nx_eq n1 _ with ⟨m, e⟩ | ⟨n2, hn2, e'⟩
            · rw [e] at hr; exact hr.elim
            rw [e'] at hr
            have hr := tcallK_sat hr
            rw [h2] at hr
            obtain ⟨X0, l0, hx0, r0', hl0⟩ := rels_cons.1 hxs
            obtain ⟨X1, l1, rfl, r1', hl1⟩ := rels_cons.1 hl0
            have hl1 := rels_nil.1 hl1
            subst hl1
            have hX0 := rel_nil r0'
            obtain ⟨cs, hX1, rcs⟩ := rel_fn r1'
            have hps : ps = #[par] := by cases ps; simp at eps; rw [eps]
            have hres : fn.results = #[.tmp 4] := by cases hh : fn.results with | mk l => rw [hh] at ers; simp at ers; rw [ers]
            -- the box
            obtain ⟨ga, fa⟩ := alloc_cells g (n' := n1) hn1 (e := tS) (fr := (0, 0)) (c := #[X0]) (cs := .l [.nil .sl]) (by simp [Cs.len]) (frz0 _)
              (by have := csOK_list (ρ := ρ) (φ := φ) (l := [.nil .sl]) (xs := [X0]) (rels_cons.2 ⟨X0, [], rfl, r0', rels_nil.2 rfl⟩) (by simp [hX0, nilOf, Value.oneCell']); simpa using this)
            generalize hW0 : w.alloc (.cells #[X0] tS (0, 0)) = W0 at ga fa
            have hb0 : W0.heap[w.heap.size]? = some (.cells #[X0] tS (0, 0)) := by rw [← hW0]; exact World.alloc_heap_new w _
            have gb := ga.push (.deferred (some []))
            have fb := Fr.trans fa (Fr.push (h := hputS n h (some (.c (.l [.nil .sl]) false none))) (n := n1) (φ := updE φ n (w.heap.size, 0, (#[X0] : Array Value).size)) (.deferred (some [])))
            have hs0 : W0.heap.size = w.heap.size + 1 := by rw [← hW0, World.size_alloc]
            generalize htm : ((((#[X0, X1] : Array Value) ++ Array.replicate (fn.ntmps - 2) undef).setIfInBounds 2 (.pointer (some ⟨w.heap.size, 0, none⟩))).setIfInBounds 4 c2).setIfInBounds 6 X1 = tm
            have htsz : tm.size = 13 := by rw [← htm, hnt]; simp
            have ht2 : tm.getD 2 undef = .pointer (some ⟨w.heap.size, 0, none⟩) := by rw [← htm, hnt]; simp [Array.getD_eq_getD_getElem?]
            have ht6 : tm.getD 6 undef = X1 := by rw [← htm, hnt]; simp [Array.getD_eq_getD_getElem?]
            intro o a K Q hK
            have hcf' : (callFunc f #[X0, X1]).run P w = .ok (.enter f #[X0, X1]) w := by
              have hname' : fn.name ≠ "runtime.NumGoroutine" := by simpa using hname
              simp [callFunc, hfn, hname', hbody]
            have hxe : xs = #[X0, X1] := by cases xs; simp at hx0; rw [hx0]
            rw [hxe, hcf']
            refine (callsIn_wide (n := 0)).1 (callsIn_of_wp_marks hfn hbody trivial ?_ rfl)
            have ev0 : Act.eval { tmps := (#[X0, X1] : Array Value) ++ Array.replicate (fn.ntmps - (#[X0, X1] : Array Value).size) undef, defers := [] } (.tmp 0) = X0 := by
              simp [Act.eval, Array.getD_eq_getD_getElem?, Array.getElem?_append]
            have hcl : X0.cells = #[X0] := by rw [hX0]; rfl
            refine wpIn_seq (wpIn_region_list ?_)
            rw [e0]
            refine wpListIn_plain g1 fun K1 hK1 => wpIn_value (x := .pointer (some ⟨w.heap.size, 0, none⟩)) (w' := W0) (by rw [← hW0]; simp only [execOp, p1, ev0]; simp [Instr.box, newVar, run_newRow, hcl]) (hK1 _ _ ?_)
            refine wpListIn_plain g2 fun K2 hK2 => wpIn_value (x := c2) (w' := W0) (by simp [execOp, p2, Act.eval]) (hK2 _ _ ?_)
            refine wpListIn_nil ?_
            refine wpIn_seq (wpIn_seq (wpIn_region_list ?_))
            rw [e1]
            refine wpListIn_plain g3 fun K3 hK3 => wpIn_value (x := X1) (w' := W0) (by simp only [execOp, p3, Act.eval, Act.put, d1, d2, hnt]; simp [Array.getD_eq_getD_getElem?, Array.getElem?_setIfInBounds]) (hK3 _ _ ?_)
            refine wpListIn_nil ?_
            refine wpIn_block (wpIn_rangeFunc fun fn' _ => ?_)
            have hact : ((({ tmps := (#[X0, X1] : Array Value) ++ Array.replicate (fn.ntmps - (#[X0, X1] : Array Value).size) undef, defers := [] } : Act).put o1.dst (.pointer (some ⟨w.heap.size, 0, none⟩))).put o2.dst c2).put o3.dst X1 = { tmps := tm, defers := [] } := by
              rw [d1, d2, d3, ← htm]; rfl
            rw [hact]
            generalize hWb : W0.alloc (.deferred (some [])) = Wb at gb fb
            have hsb : Wb.heap.size = w.heap.size + 2 := by rw [← hWb, World.size_alloc, hs0]
            have hDb : Wb.heap[w.heap.size + 1]? = some (.deferred (some [])) := by rw [← hWb, ← hs0]; exact World.alloc_heap_new _ _
            have hn1' : updE φ n (w.heap.size, 0, (#[X0] : Array Value).size) n1 = none := gb.at_n
            have gc := gb.alloc (p := n1) (n' := n2) hn1' (by omega) (by omega) (.lp f n) rfl (.loop (recOf ⟨asg, bod, par, 2, 13⟩ fn' tm W0.heap.size)) 0
              (fun φ' hle w' hw' => ⟨rfl, ⟨asg, bod, par, 2, 13⟩, fn', tm, W0.heap.size, hA, hw', htsz, by rw [ht2]; exact rel_mono hle rel_ptr_new⟩)
            have fc := Fr.trans fb (Fr.alloc (h := hputS n h (some (.c (.l [.nil .sl]) false none))) (w := Wb) (n := n1) (n' := n2) (p := n1) hn1' (by omega) (Nat.le_refl _) (by omega) (some (.lp f n)) (.loop (recOf ⟨asg, bod, par, 2, 13⟩ fn' tm W0.heap.size)) 0)
            generalize hWc : Wb.alloc (.loop (recOf ⟨asg, bod, par, 2, 13⟩ fn' tm W0.heap.size)) = Wc at gc fc
            have hsc : Wc.heap.size = w.heap.size + 3 := by rw [← hWc, World.size_alloc, hsb]
            have hDc : Wc.heap[w.heap.size + 1]? = some (.deferred (some [])) := by rw [← hWc, Below.heap_alloc _ _ _ (by omega)]; exact hDb
            have hφn : φ n = none := g.at_n
            have hφn1 : φ n1 = none := by
              cases hx : φ n1 with
              | none => rfl
              | some x => have := g.dom n1 x hx; omega
            generalize hφc : updE (updE φ n (w.heap.size, 0, (#[X0] : Array Value).size)) n1 (Wb.heap.size, 0, 0) = φc at gc fc
            have hcn1 : φc n1 = some (w.heap.size + 2, 0, 0) := by rw [← hφc, updE_same, hsb]
            have hnn : n1 ≠ n := fun e => by rw [e] at hn1; omega
            have hcn : φc n = some (w.heap.size, 0, 1) := by rw [← hφc, updE_ne hnn, updE_same]; rfl
            have huD : Unc φc (hputS n1 (hputS n h (some (.c (.l [.nil .sl]) false none))) (some (.lp f n))) (w.heap.size + 1) := fun q s tot hq => by
              rw [← hφc] at hq
              rcases updE_inv hq with ⟨_, e⟩ | ⟨_, hq⟩
              · simp only [Prod.mk.injEq] at e; omega
              · rcases updE_inv hq with ⟨_, e⟩ | ⟨_, hq⟩
                · simp only [Prod.mk.injEq] at e; omega
                · have := (g.blk q _ _ _ hq).2; omega
            obtain ⟨fng, cg, hg1, hg2, hg3⟩ := hits it hmem
            have call := calls_of_runs hg1 hg2 (by simpa using hg3) (hcf it _ _ n2 _ hr φc Wc (#[.func (.yield (w.heap.size + 2)) #[] #[]] ++ cs) gc (by
              rw [Array.toList_append]
              exact rels_cons.2 ⟨_, cs.toList, rfl, by simp only [rel]; exact ⟨_, _, _, hcn1, rfl⟩, by rw [← hφc]; exact rels_mono (Emb.le_trans (updE_le hφn) (updE_le hn1')) rcs⟩))
            refine ⟨w.heap.size + 2, [{ target := .collected (w.heap.size + 1), args := #[] }], Wc, { target := .fn (.func it) cs, args := #[.func (.yield (w.heap.size + 2)) #[] #[]] }, Wc, it, #[.func (.yield (w.heap.size + 2)) #[] #[]] ++ cs, Wc, ?_, ?_, ?_, ?_, fun h => (by cases h), ?_⟩
            · have := run_enterLoop_outer (P := P) (w := W0) fn' tm ps asg bod
              rw [hs0] at this
              show (Instr.enterLoop fn' tm ps asg bod none).run P W0 = _
              rw [this, hWb, hps, ← hWc, hs0]; rfl
            · have e6 : Act.eval { tmps := tm, defers := [] } (.tmp 6) = .func (.func it) #[] cs := by show tm.getD 6 undef = _; rw [ht6, hX1]
              simp only [resolve, rangeCall, e6, Deferred.ofValue]
              simp [Act.eval]
            · intro _ _; trivial
            · simp [invoke, callFunc, hg1, hg2, show fng.name ≠ "runtime.NumGoroutine" by simpa using hg3]
            · refine (callsIn_wide (n := 0)).2 (call.mono fun e w3 he => ?_)
              cases e with
              | panicked c => exact he.elim
              | outgrown => exact he.elim
              | returned u =>
              obtain ⟨v, h3, n3, φ3, hΦ, f3, g3', _⟩ : ∃ v h1 n1 φ', CPost _ Φ (.rv v h1 n1) ∧ Fr _ h1 φc φ' n2 n1 Wc w3 ∧ Gam ρ B h1 n1 φ' w3 ∧ rel ρ φ' v u := he
              have hΦ : (hgetR n1 h3 fun o => lpK o (obR n h3 fun cs _ _ => getC cs 0 fun sv => hputR n h3 none fun h => hputR n1 h none fun h => .rv sv h n3)).sat Φ := hΦ
              rw [hgetR_eq] at hΦ
              obtain ⟨⟨f', b', hlp⟩, q7⟩ := lpK_good (R.sat_good hΦ)
              rw [q7, obR_eq] at hΦ
              obtain ⟨cs3, sup3, prev3, hbx, q8⟩ := obK_good (R.sat_good hΦ)
              rw [q8] at hΦ
              obtain ⟨sv, hsv, q9⟩ := getC_good (R.sat_good hΦ)
              rw [q9, hputR_eq, hput_eq, hputR_eq, hput_eq] at hΦ
              have hΦ : Φ (.rv sv (hputS n1 (hputS n h3 none) none) n3) := hΦ
              have h3n := f3.ext _ _ hcn
              have h3n1 := f3.ext _ _ hcn1
              obtain ⟨_, A3, fn3, tm3, D3, _, hrec, _, _⟩ := g3'.obj n1 _ _ _ _ hlp h3n1
              obtain ⟨c3, e3, fr3, k1, k2, k3, k4, k5⟩ := g3'.obj n _ _ _ _ hbx h3n
              obtain ⟨SV, hSV, rSV, _⟩ := k5 0 sv hsv
              have hD3 : w3.heap[w.heap.size + 1]? = some (.deferred (some [])) := (f3.old _ (by omega) huD).trans hDc
              have uD3 := huD.step (by omega) f3
              have ul3 : Unc φ3 (hputS n1 (hputS n h3 none) none) (w.heap.size + 2) := fun q s tot hq => by
                by_cases e : n1 = q
                · subst e; exact hget_hputS_same _ _ _
                · rw [hget_hputS_ne _ _ e]
                  by_cases e' : n = q
                  · subst e'; exact hget_hputS_same _ _ _
                  · rw [hget_hputS_ne _ _ e']
                    cases hq' : hget q h3 with
                    | none => rfl
                    | some o2 =>
                      rcases g3'.sep n1 q _ o2 _ _ _ s tot e hlp hq' h3n1 hq with e2 | e2
                      · cases e2
                      · have := g3'.sup q n1 o2 _ _ s tot _ _ hq' e2 hlp hq h3n1; cases this
              refine ⟨none, w3.putObj (w.heap.size + 2) (.loop { recOf A3 fn3 tm3 D3 with state := .exhausted }), run_endLoop hrec (by simp), ?_⟩
              refine wpIn_seq (wpIn_region_list ?_)
              rw [e4]
              generalize hw4 : w3.putObj (w.heap.size + 2) (.loop { recOf A3 fn3 tm3 D3 with state := .exhausted }) = w4
              have hb4 : w4.heap[w.heap.size]? = some (.cells c3 e3 fr3) := by rw [← hw4, World.putObj_heap_other (by omega)]; exact k1
              have hD4 : w4.heap[w.heap.size + 1]? = some (.deferred (some [])) := by rw [← hw4, World.putObj_heap_other (by omega)]; exact hD3
              have hld : (execOp (Act.eval { tmps := tm, defers := [{ target := .collected (w.heap.size + 1), args := #[] }] ++ [] }) o4).run P w4 = .ok (.value SV) w4 := by
                have e2 : Act.eval { tmps := tm, defers := [{ target := .collected (w.heap.size + 1), args := #[] }] ++ [] } (.tmp 2) = .pointer (some ⟨w.heap.size, 0, none⟩) := ht2
                simp only [execOp, p4, e2]
                simp [Instr.loadAt, Instr.sureAddr, loadVar, run_isAgg hagg, cell_at hb4 hSV]
              refine wpListIn_plain g4 fun K4 hK4 => wpIn_value hld (hK4 _ _ ?_)
              refine wpListIn_plain g5 fun K5 hK5 => wpIn_value (x := SV) (w' := w4) (by
                simp only [execOp, p5, Act.eval, Act.put, d4]; simp [Array.getD_eq_getD_getElem?, htsz]) (hK5 _ _ ?_)
              refine wpListIn_nil (wpIn_ret ?_)
              have take := run_takeDeferred (P := P) hD4
              rw [d4, d5]
              show LeavesInM Fence.wide 0 P fn _ _ [{ target := .collected (w.heap.size + 1), args := #[] }] .returning w4
              unfold LeavesInM
              refine ⟨(by intro h; cases h), .inl ⟨w.heap.size + 1, _, rfl, take, ?_⟩⟩
              unfold LeavesInM LeavesIn
              refine ⟨SV, ?_, ?_⟩
              · simp [results, hres, Act.put, htsz, Array.getD_eq_getD_getElem?]
              · have hna : ∀ q, φ q ≠ none → hget q (hputS n1 (hputS n h3 none) none) = hget q h3 := fun q hq => by
                  rw [hget_hputS_ne _ _ (fun e : n1 = q => hq (by rw [← e]; exact hφn1)), hget_hputS_ne _ _ (fun e : n = q => hq (by rw [← e]; exact hφn))]
                have fz := ((Fr.trans fc f3).show hna).poke (l := w.heap.size + 2) (.loop { recOf A3 fn3 tm3 D3 with state := .exhausted }) (by omega)
                have gz := (g3'.aside (p := n)).aside (p := n1)
                have gz := gz.poke ul3 (.loop { recOf A3 fn3 tm3 D3 with state := .exhausted }) (fun c e fr h => by rw [hrec] at h; cases h)
                rw [hw4] at fz gz
                have uDz : Unc φ3 (hputS n1 (hputS n h3 none) none) (w.heap.size + 1) := fun q s tot hq => by
                  by_cases e : n1 = q
                  · subst e; exact hget_hputS_same _ _ _
                  · rw [hget_hputS_ne _ _ e]
                    by_cases e' : n = q
                    · subst e'; exact hget_hputS_same _ _ _
                    · rw [hget_hputS_ne _ _ e']; exact uD3 q s tot hq
                exact hK SV _ ⟨sv, _, n3, φ3, hΦ, fz.poke _ (by omega), gz.poke uDz _ (fun c e fr h => by rw [hD4] at h; cases h), rSV⟩
          next => cases hsh
        next => cases hsh
      next => cases hsh
    next => cases hsh
  next => cases hsh
end
end Go.Ev

namespace Go.Ev
set_option linter.unusedVariables false
/-- What a function is: code, or a step of the evaluator's own. -/
inductive Ent where
  | code (entry : List V → (S → R) → R) (body : CF2 → S → Heap → K4 → R) (res : S → Heap → K4 → R)
  | prim (p : Prim)
  | br (k : Nat) (entry : List V → (S → R) → R) (body : CF2 → S → Heap → K4 → R) (res : S → Heap → K4 → R)
  | ap (f : Nat) (its : List Nat) (rd : Rd)
  | tree (p : Prim)
abbrev OEnt := Option Ent
/-- Sixteen functions. -/
inductive FA where
  | mk (c0 c1 c2 c3 c4 c5 c6 c7 c8 c9 ca cb cc cd ce cf : OEnt)
def FA.sel (d : D) (p : FA) : OEnt :=
  @FA.rec (fun _ => OEnt) (fun c0 c1 c2 c3 c4 c5 c6 c7 c8 c9 ca cb cc cd ce cf => @D.rec (fun _ => OEnt) c0 c1 c2 c3 c4 c5 c6 c7 c8 c9 ca cb cc cd ce cf d) p
def fag0 (p : FA) (k : OEnt → R) : R := @FA.rec (fun _ => R) (fun c0 c1 c2 c3 c4 c5 c6 c7 c8 c9 ca cb cc cd ce cf => k c0) p
def fag1 (p : FA) (k : OEnt → R) : R := @FA.rec (fun _ => R) (fun c0 c1 c2 c3 c4 c5 c6 c7 c8 c9 ca cb cc cd ce cf => k c1) p
def fag2 (p : FA) (k : OEnt → R) : R := @FA.rec (fun _ => R) (fun c0 c1 c2 c3 c4 c5 c6 c7 c8 c9 ca cb cc cd ce cf => k c2) p
def fag3 (p : FA) (k : OEnt → R) : R := @FA.rec (fun _ => R) (fun c0 c1 c2 c3 c4 c5 c6 c7 c8 c9 ca cb cc cd ce cf => k c3) p
def fag4 (p : FA) (k : OEnt → R) : R := @FA.rec (fun _ => R) (fun c0 c1 c2 c3 c4 c5 c6 c7 c8 c9 ca cb cc cd ce cf => k c4) p
def fag5 (p : FA) (k : OEnt → R) : R := @FA.rec (fun _ => R) (fun c0 c1 c2 c3 c4 c5 c6 c7 c8 c9 ca cb cc cd ce cf => k c5) p
def fag6 (p : FA) (k : OEnt → R) : R := @FA.rec (fun _ => R) (fun c0 c1 c2 c3 c4 c5 c6 c7 c8 c9 ca cb cc cd ce cf => k c6) p
def fag7 (p : FA) (k : OEnt → R) : R := @FA.rec (fun _ => R) (fun c0 c1 c2 c3 c4 c5 c6 c7 c8 c9 ca cb cc cd ce cf => k c7) p
def fag8 (p : FA) (k : OEnt → R) : R := @FA.rec (fun _ => R) (fun c0 c1 c2 c3 c4 c5 c6 c7 c8 c9 ca cb cc cd ce cf => k c8) p
def fag9 (p : FA) (k : OEnt → R) : R := @FA.rec (fun _ => R) (fun c0 c1 c2 c3 c4 c5 c6 c7 c8 c9 ca cb cc cd ce cf => k c9) p
def fag10 (p : FA) (k : OEnt → R) : R := @FA.rec (fun _ => R) (fun c0 c1 c2 c3 c4 c5 c6 c7 c8 c9 ca cb cc cd ce cf => k ca) p
def fag11 (p : FA) (k : OEnt → R) : R := @FA.rec (fun _ => R) (fun c0 c1 c2 c3 c4 c5 c6 c7 c8 c9 ca cb cc cd ce cf => k cb) p
def fag12 (p : FA) (k : OEnt → R) : R := @FA.rec (fun _ => R) (fun c0 c1 c2 c3 c4 c5 c6 c7 c8 c9 ca cb cc cd ce cf => k cc) p
def fag13 (p : FA) (k : OEnt → R) : R := @FA.rec (fun _ => R) (fun c0 c1 c2 c3 c4 c5 c6 c7 c8 c9 ca cb cc cd ce cf => k cd) p
def fag14 (p : FA) (k : OEnt → R) : R := @FA.rec (fun _ => R) (fun c0 c1 c2 c3 c4 c5 c6 c7 c8 c9 ca cb cc cd ce cf => k ce) p
def fag15 (p : FA) (k : OEnt → R) : R := @FA.rec (fun _ => R) (fun c0 c1 c2 c3 c4 c5 c6 c7 c8 c9 ca cb cc cd ce cf => k cf) p
def FA.selK (d : D) : FA → (OEnt → R) → R :=
  @D.rec (fun _ => FA → (OEnt → R) → R) fag0 fag1 fag2 fag3 fag4 fag5 fag6 fag7 fag8 fag9 fag10 fag11 fag12 fag13 fag14 fag15 d
theorem FA.selK_eq (d : D) (p : FA) (k : OEnt → R) : FA.selK d p k = k (FA.sel d p) := by
  cases d <;> cases p <;> rfl
/-- Of those sixteen. -/
inductive FB where
  | mk (c0 c1 c2 c3 c4 c5 c6 c7 c8 c9 ca cb cc cd ce cf : FA)
def FB.sel (d : D) (p : FB) : FA :=
  @FB.rec (fun _ => FA) (fun c0 c1 c2 c3 c4 c5 c6 c7 c8 c9 ca cb cc cd ce cf => @D.rec (fun _ => FA) c0 c1 c2 c3 c4 c5 c6 c7 c8 c9 ca cb cc cd ce cf d) p
def fbg0 (p : FB) (k : FA → R) : R := @FB.rec (fun _ => R) (fun c0 c1 c2 c3 c4 c5 c6 c7 c8 c9 ca cb cc cd ce cf => k c0) p
def fbg1 (p : FB) (k : FA → R) : R := @FB.rec (fun _ => R) (fun c0 c1 c2 c3 c4 c5 c6 c7 c8 c9 ca cb cc cd ce cf => k c1) p
def fbg2 (p : FB) (k : FA → R) : R := @FB.rec (fun _ => R) (fun c0 c1 c2 c3 c4 c5 c6 c7 c8 c9 ca cb cc cd ce cf => k c2) p
def fbg3 (p : FB) (k : FA → R) : R := @FB.rec (fun _ => R) (fun c0 c1 c2 c3 c4 c5 c6 c7 c8 c9 ca cb cc cd ce cf => k c3) p
def fbg4 (p : FB) (k : FA → R) : R := @FB.rec (fun _ => R) (fun c0 c1 c2 c3 c4 c5 c6 c7 c8 c9 ca cb cc cd ce cf => k c4) p
def fbg5 (p : FB) (k : FA → R) : R := @FB.rec (fun _ => R) (fun c0 c1 c2 c3 c4 c5 c6 c7 c8 c9 ca cb cc cd ce cf => k c5) p
def fbg6 (p : FB) (k : FA → R) : R := @FB.rec (fun _ => R) (fun c0 c1 c2 c3 c4 c5 c6 c7 c8 c9 ca cb cc cd ce cf => k c6) p
def fbg7 (p : FB) (k : FA → R) : R := @FB.rec (fun _ => R) (fun c0 c1 c2 c3 c4 c5 c6 c7 c8 c9 ca cb cc cd ce cf => k c7) p
def fbg8 (p : FB) (k : FA → R) : R := @FB.rec (fun _ => R) (fun c0 c1 c2 c3 c4 c5 c6 c7 c8 c9 ca cb cc cd ce cf => k c8) p
def fbg9 (p : FB) (k : FA → R) : R := @FB.rec (fun _ => R) (fun c0 c1 c2 c3 c4 c5 c6 c7 c8 c9 ca cb cc cd ce cf => k c9) p
def fbg10 (p : FB) (k : FA → R) : R := @FB.rec (fun _ => R) (fun c0 c1 c2 c3 c4 c5 c6 c7 c8 c9 ca cb cc cd ce cf => k ca) p
def fbg11 (p : FB) (k : FA → R) : R := @FB.rec (fun _ => R) (fun c0 c1 c2 c3 c4 c5 c6 c7 c8 c9 ca cb cc cd ce cf => k cb) p
def fbg12 (p : FB) (k : FA → R) : R := @FB.rec (fun _ => R) (fun c0 c1 c2 c3 c4 c5 c6 c7 c8 c9 ca cb cc cd ce cf => k cc) p
def fbg13 (p : FB) (k : FA → R) : R := @FB.rec (fun _ => R) (fun c0 c1 c2 c3 c4 c5 c6 c7 c8 c9 ca cb cc cd ce cf => k cd) p
def fbg14 (p : FB) (k : FA → R) : R := @FB.rec (fun _ => R) (fun c0 c1 c2 c3 c4 c5 c6 c7 c8 c9 ca cb cc cd ce cf => k ce) p
def fbg15 (p : FB) (k : FA → R) : R := @FB.rec (fun _ => R) (fun c0 c1 c2 c3 c4 c5 c6 c7 c8 c9 ca cb cc cd ce cf => k cf) p
def FB.selK (d : D) : FB → (FA → R) → R :=
  @D.rec (fun _ => FB → (FA → R) → R) fbg0 fbg1 fbg2 fbg3 fbg4 fbg5 fbg6 fbg7 fbg8 fbg9 fbg10 fbg11 fbg12 fbg13 fbg14 fbg15 d
theorem FB.selK_eq (d : D) (p : FB) (k : FA → R) : FB.selK d p k = k (FB.sel d p) := by
  cases d <;> cases p <;> rfl
/-- The table of the functions. -/
inductive FC where
  | mk (c0 c1 c2 c3 c4 c5 c6 c7 c8 c9 ca cb cc cd ce cf : FB)
def FC.sel (d : D) (p : FC) : FB :=
  @FC.rec (fun _ => FB) (fun c0 c1 c2 c3 c4 c5 c6 c7 c8 c9 ca cb cc cd ce cf => @D.rec (fun _ => FB) c0 c1 c2 c3 c4 c5 c6 c7 c8 c9 ca cb cc cd ce cf d) p
def fcg0 (p : FC) (k : FB → R) : R := @FC.rec (fun _ => R) (fun c0 c1 c2 c3 c4 c5 c6 c7 c8 c9 ca cb cc cd ce cf => k c0) p
def fcg1 (p : FC) (k : FB → R) : R := @FC.rec (fun _ => R) (fun c0 c1 c2 c3 c4 c5 c6 c7 c8 c9 ca cb cc cd ce cf => k c1) p
def fcg2 (p : FC) (k : FB → R) : R := @FC.rec (fun _ => R) (fun c0 c1 c2 c3 c4 c5 c6 c7 c8 c9 ca cb cc cd ce cf => k c2) p
def fcg3 (p : FC) (k : FB → R) : R := @FC.rec (fun _ => R) (fun c0 c1 c2 c3 c4 c5 c6 c7 c8 c9 ca cb cc cd ce cf => k c3) p
def fcg4 (p : FC) (k : FB → R) : R := @FC.rec (fun _ => R) (fun c0 c1 c2 c3 c4 c5 c6 c7 c8 c9 ca cb cc cd ce cf => k c4) p
def fcg5 (p : FC) (k : FB → R) : R := @FC.rec (fun _ => R) (fun c0 c1 c2 c3 c4 c5 c6 c7 c8 c9 ca cb cc cd ce cf => k c5) p
def fcg6 (p : FC) (k : FB → R) : R := @FC.rec (fun _ => R) (fun c0 c1 c2 c3 c4 c5 c6 c7 c8 c9 ca cb cc cd ce cf => k c6) p
def fcg7 (p : FC) (k : FB → R) : R := @FC.rec (fun _ => R) (fun c0 c1 c2 c3 c4 c5 c6 c7 c8 c9 ca cb cc cd ce cf => k c7) p
def fcg8 (p : FC) (k : FB → R) : R := @FC.rec (fun _ => R) (fun c0 c1 c2 c3 c4 c5 c6 c7 c8 c9 ca cb cc cd ce cf => k c8) p
def fcg9 (p : FC) (k : FB → R) : R := @FC.rec (fun _ => R) (fun c0 c1 c2 c3 c4 c5 c6 c7 c8 c9 ca cb cc cd ce cf => k c9) p
def fcg10 (p : FC) (k : FB → R) : R := @FC.rec (fun _ => R) (fun c0 c1 c2 c3 c4 c5 c6 c7 c8 c9 ca cb cc cd ce cf => k ca) p
def fcg11 (p : FC) (k : FB → R) : R := @FC.rec (fun _ => R) (fun c0 c1 c2 c3 c4 c5 c6 c7 c8 c9 ca cb cc cd ce cf => k cb) p
def fcg12 (p : FC) (k : FB → R) : R := @FC.rec (fun _ => R) (fun c0 c1 c2 c3 c4 c5 c6 c7 c8 c9 ca cb cc cd ce cf => k cc) p
def fcg13 (p : FC) (k : FB → R) : R := @FC.rec (fun _ => R) (fun c0 c1 c2 c3 c4 c5 c6 c7 c8 c9 ca cb cc cd ce cf => k cd) p
def fcg14 (p : FC) (k : FB → R) : R := @FC.rec (fun _ => R) (fun c0 c1 c2 c3 c4 c5 c6 c7 c8 c9 ca cb cc cd ce cf => k ce) p
def fcg15 (p : FC) (k : FB → R) : R := @FC.rec (fun _ => R) (fun c0 c1 c2 c3 c4 c5 c6 c7 c8 c9 ca cb cc cd ce cf => k cf) p
def FC.selK (d : D) : FC → (FB → R) → R :=
  @D.rec (fun _ => FC → (FB → R) → R) fcg0 fcg1 fcg2 fcg3 fcg4 fcg5 fcg6 fcg7 fcg8 fcg9 fcg10 fcg11 fcg12 fcg13 fcg14 fcg15 d
theorem FC.selK_eq (d : D) (p : FC) (k : FB → R) : FC.selK d p k = k (FC.sel d p) := by
  cases d <;> cases p <;> rfl
def tabG (k : K3) (T : FC) : OEnt := FA.sel k.c (FB.sel k.b (FC.sel k.a T))
def tabK (k : K3) (T : FC) (κ : OEnt → R) : R := @K3.rec (fun _ => R) (fun a b c => FC.selK a T fun x => FB.selK b x fun y => FA.selK c y κ) k
theorem tabK_eq (k : K3) (T : FC) (κ : OEnt → R) : tabK k T κ = κ (tabG k T) := by
  cases k; simp only [tabK, tabG, FC.selK_eq, FB.selK_eq, FA.selK_eq]
abbrev arg2K (ps : List K2) : List V → Regs → (Regs → R) → R :=
  @List.rec K2 (fun _ => List V → Regs → (Regs → R) → R) (fun l t κ => nlK l (κ t)) (fun p _ ih l t κ => unK l fun v l => rput p t v fun t => ih l t κ) ps
theorem arg2K_eq : ∀ (ps : List K2) (l : List V) (t : Regs) (κ : Regs → R), arg2K ps l t κ = argK l ps t κ
  | [], l, t, κ => by cases l <;> rfl
  | p :: ps, l, t, κ => by
    cases l with
    | nil => rfl
    | cons v l =>
      show rput p t v (fun t => arg2K ps l t κ) = rput p t v fun t => argK l ps t κ
      rw [rput_eq, rput_eq, arg2K_eq]
def retX (r : R) (res : S → Heap → K4 → R) : R :=
  @R.rec (fun _ => R) (fun e t h n => @Ex.rec (fun _ => R) (res t h n) (fF1 "exit") (res t h n) e) (fF3 "body") (fun w => .fail w) (fun _ _ a b => .both a b) r
def primX (r : R) : R := @R.rec (fun _ => R) (fF4 "a call") (fun v h n => .rv v h n) (fun w => .fail w) (fF4 "ways") r
def isNoK (v : V) (yes no : R) : R :=
  @V.rec (fun _ => R) (fun _ => Unit) (fun _ _ => no) (fun _ => no) (fun _ _ => no) (fun _ _ _ _ _ _ => no) (fun _ _ => no) (fun _ _ => no) (fun _ => no) (fun _ => no) (fun _ _ _ => no) (fun _ _ => no)
    (fun o => @Ot.rec (fun _ => R) no (fun _ => no) (fun _ => no) yes (fun _ _ _ => no) (fun _ _ => no) no (fun _ _ => no) (fun _ _ _ _ => no) (fun _ _ _ _ => no) (fun _ _ _ => no) (fun _ _ => no) o) () (fun _ _ _ _ => ()) v
def apX (f : Nat) (its : List Nat) (rd : Rd) (cf : CF2) (args : List V) (h : Heap) (n : K4) : R :=
  unK args fun v l => isNoK v (unK l fun b l => unK l fun x l => nlK l (rd cf b x h n)) (apLK f its cf args h n)
def entK (cf : CF2) (o : OEnt) (args : List V) (h : Heap) (n : K4) : R :=
  @Option.rec Ent (fun _ => R) (.fail "no such function") (fun e => @Ent.rec (fun _ => R) (fun entry body res => entry args fun t => retX (body cf t h n) res) (fun p => primX (p args h n)) (fun k entry body res => primX (brK k (fun hs => entry args fun t => retX (body cf t hs n) res) args h n)) (fun f its rd => apX f its rd cf args h n) (fun p => p args h n) e) o
/-- What a call comes to. -/
def call2 (T : FC) (m : Nat) : CF2 :=
  @Nat.rec (fun _ => CF2) (fF4 "depth") (fun _ ih f args h n => tabK f T fun o => entK ih o args h n) m
/-- The kept registers out of all of them. -/
abbrev toS (sm : SM) (t : Regs) : S := @List.rec (K2 × SL) (fun _ => S) sempty (fun x _ ih => S.put x.2 ih (rget x.1 t)) sm
theorem toS_get {t : Regs} : ∀ {sm : SM}, okSM sm = true → ∀ {p : K2} {s : SL}, findS p sm = some s → S.get s (toS sm t) = rget p t
  | [], _, p, s, h => by cases h
  | x :: l, hok, p, s, h => by
    simp only [okSM, Bool.and_eq_true] at hok
    have e1 : toS (x :: l) t = S.put x.2 (toS l t) (rget x.1 t) := rfl
    rw [e1]
    simp only [findS] at h
    cases hb : K2.beq x.1 p with
    | true =>
      rw [hb] at h
      have h : some x.2 = some s := h
      cases h
      rw [S.get_put_same, K2.beq_iff.1 hb]
    | false =>
      rw [hb] at h
      have h : findS p l = some s := h
      have hne : x.2 ≠ s := fun e => by
        have := List.all_eq_true.1 hok.1 _ (findS_mem h)
        rw [← e] at this
        simp [SL.beq, O8.beq_self, O4.beq_self] at this
      rw [S.get_put_ne _ _ hne]
      exact toS_get hok.2 h
abbrev resV2 (sm : SM) (r : ARes) (t : S) (h : Heap) (κ : V → R) : R :=
  @ARes.rec (fun _ => R) (fun p => tellE sm [] t (.t p) κ) (fun p m => tellE sm [] t (.t p) fun v => asP v fun q off => obR q h fun cs _ _ =>
    @Option.rec Nat (fun _ => R) (getC cs off κ) (fun m => rangeC cs off m fun y => listC y fun l => κ (.agg l)) m) r
abbrev resL2 (sm : SM) (rs : List ARes) (t : S) (h : Heap) : (List V → R) → R :=
  @List.rec ARes (fun _ => (List V → R) → R) (fun κ => κ []) (fun r _ ih κ => resV2 sm r t h fun v => ih fun vs => κ (v :: vs)) rs
abbrev resK2 (sm : SM) (rs : List ARes) (t : S) (h : Heap) (n : K4) : R :=
  resL2 sm rs t h fun l => @List.rec V (fun _ => R) (.rv (.tup []) h n) (fun v vs _ => @List.rec V (fun _ => R) (.rv v h n) (fun _ _ _ => .rv (.tup l) h n) vs) l
/-- A function as it is run. -/
abbrev denF (sm : SM) (a : AFn) : Ent := @AFn.rec (fun _ => Ent) (fun ps c rs => .code (fun l κ => arg2K ps l rempty fun t => κ (toS sm t)) (fun cf t h n => denK sm cf c r0 [] t h n) (fun t h n => resK2 sm rs t h n)) a
def ARes.reg (r : ARes) : K2 := @ARes.rec (fun _ => K2) (fun p => p) (fun p _ => p) r
def okF (sm : SM) (a : AFn) : Bool := okSM sm && (okK sm a.code (fun _ => true) [] && a.rs.all fun r => keepB sm r.reg)
abbrev denO (sm : SM) (o : Option AFn) : OEnt := @Option.rec AFn (fun _ => OEnt) none (fun a => some (denF sm a)) o
def okO (sm : SM) (o : Option AFn) : Bool := @Option.rec AFn (fun _ => Bool) false (fun a => okF sm a) o
section
variable {P : Program} {ρ : Env} {B : Nat}
/-- It is that function. -/
def EntOf (P : Program) (f : FuncId) (e : Ent) : Prop := ∃ sm : SM, denO sm (cFunc P f) = some e ∧ okO sm (cFunc P f) = true
theorem EntOf.mk {f : FuncId} {e : Ent} (sm : SM) (h : denO sm (cFunc P f) = some e) (k : okO sm (cFunc P f) = true) : EntOf P f e := ⟨sm, h, k⟩
/-- It is that function, run on what it can reach. -/
def BrOf (P : Program) (f : FuncId) (e : Ent) : Prop := ∃ k en bo re, e = .br k en bo re ∧ EntOf P f (.code en bo re)
/-- It ranges over a function. -/
def ApEnt (P : Program) (ρ : Env) (f : FuncId) (e : Ent) : Prop := ∃ its rd A, e = .ap f its rd ∧ ρ.ap f = some A ∧ apOf P f = some A ∧ rdOf P A = some rd ∧ ∀ g ∈ its, HasBody P g
/-- A step of the evaluator's own that may come to many ways. -/
def TreeOK (P : Program) (ρ : Env) (B : Nat) (f : FuncId) (p : Prim) : Prop :=
  ∀ args h n (Φ : R → Prop), (p args h n).sat Φ → ∀ φ w (xs : Array Value), Gam ρ B h n φ w → rels ρ φ args xs.toList →
    Runs P f xs w fun x w' => ∃ v h1 n1 φ', Φ (.rv v h1 n1) ∧ Fr h h1 φ φ' n n1 w w' ∧ Gam ρ B h1 n1 φ' w' ∧ rel ρ φ' v x
def EGood (P : Program) (ρ : Env) (B : Nat) (f : FuncId) (e : Ent) : Prop := (EntOf P f e ∨ BrOf P f e) ∨ ((∃ p, e = .prim p ∧ PrimOK P ρ B f p) ∨ (ApEnt P ρ f e ∨ ∃ p, e = .tree p ∧ TreeOK P ρ B f p))
def TabOK (P : Program) (ρ : Env) (B : Nat) (T : FC) : Prop := (∀ f e, tabG (fnKey f) T = some e → EGood P ρ B f e) ∧ ∀ f A, ρ.ap f = some A → ∃ e, tabG (fnKey f) T = some e ∧ ApEnt P ρ f e
theorem primX_sat {r : R} {Φ : R → Prop} (h : (primX r).sat Φ) : ∃ v h1 n1, r = .rv v h1 n1 ∧ Φ (.rv v h1 n1) := by
  cases r with
  | rv v h1 n1 => exact ⟨v, h1, n1, rfl, h⟩
  | _ => exact h.elim
theorem resV2_eq {sm : SM} {r : ARes} {t : Regs} {t' : S} (ri : RI sm [] [] t t') (hk : keepB sm r.reg = true) (hp : Heap) (κ : V → R) : resV2 sm r t' hp κ = resV r t hp κ := by
  have kn : ∀ p, keepB sm p = true → known sm [] p = true := fun p h => by unfold known; rw [h, Bool.or_true]
  cases r with
  | tmp p => show tellE sm [] t' (.t p) κ = rgetK p t κ; rw [ri.tell (kn p hk), rgetK_eq]
  | cel p m =>
    show tellE sm [] t' (.t p) _ = rgetK p t _
    rw [ri.tell (kn p hk), rgetK_eq, obR_eq]
theorem resL2_eq {sm : SM} {t : Regs} {t' : S} (ri : RI sm [] [] t t') {hp : Heap} : ∀ {rs : List ARes} {κ : List V → R}, (∀ r ∈ rs, keepB sm r.reg = true) → resL2 sm rs t' hp κ = resL rs t hp κ
  | [], κ, _ => rfl
  | r :: rs, κ, h => by
    have e1 : resL2 sm (r :: rs) t' hp κ = resV2 sm r t' hp fun v => resL2 sm rs t' hp fun vs => κ (v :: vs) := rfl
    have e2 : resL (r :: rs) t hp κ = resV r t hp fun v => resL rs t hp fun vs => κ (v :: vs) := rfl
    rw [e1, e2, resV2_eq ri (h r (List.mem_cons_self ..))]
    congr 1; funext v
    exact resL2_eq ri fun r hr => h r (List.mem_cons_of_mem _ hr)
theorem resK2_eq {sm : SM} {t : Regs} {t' : S} (ri : RI sm [] [] t t') {hp : Heap} {n : K4} {rs : List ARes} (h : ∀ r ∈ rs, keepB sm r.reg = true) : resK2 sm rs t' hp n = resK rs t hp n := resL2_eq ri h
/-- What is asked behind a body. -/
def RPost (res : S → Heap → K4 → R) (Φ : R → Prop) : R → Prop
  | .ok .nrm t h n => (res t h n).sat Φ
  | .ok .ret t h n => (res t h n).sat Φ
  | _ => False
theorem retX_sat {res : S → Heap → K4 → R} {Φ : R → Prop} : ∀ {r : R}, (retX r res).sat Φ → r.sat (RPost res Φ)
  | .ok e t h n, hs => by
    cases e with
    | nrm => exact hs
    | ret => exact hs
    | exit j => exact hs.elim
  | .rv _ _ _, hs => hs.elim
  | .fail _, hs => hs.elim
  | .both a b, hs => ⟨retX_sat (r := a) hs.1, retX_sat (r := b) hs.2⟩
theorem resV_nb {r : ARes} {t : Regs} {h : Heap} {κ : V → R} (hg : (resV r t h κ).good) : ∃ v, resV r t h κ = κ v := by
  cases r with
  | tmp p => exact ⟨_, rgetK_eq p t κ⟩
  | cel p m =>
    have e1 : resV (.cel p m) t h κ = asP (rget p t) fun q off => obK q h fun cs _ _ =>
        @Option.rec Nat (fun _ => R) (getC cs off κ) (fun m => rangeC cs off m fun y => listC y fun l => κ (.agg l)) m := rgetK_eq p t _
    rw [e1] at hg
    obtain ⟨q, off, hv, e2⟩ := asP_good hg
    rw [e2] at hg
    obtain ⟨cs, sup, prev, hq, e3⟩ := obK_good hg
    rw [e3] at hg
    cases m with
    | none =>
      obtain ⟨v, _, e4⟩ := getC_good (show R.good (getC cs off κ) from hg)
      exact ⟨v, e1.trans (e2.trans (e3.trans e4))⟩
    | some m =>
      obtain ⟨hle, y, hyl, hya, e4⟩ := rangeC_good (show R.good (rangeC cs off m fun y => listC y fun l => κ (.agg l)) from hg)
      obtain ⟨l, e5, _, _⟩ := listC_eq y fun l => κ (.agg l)
      exact ⟨.agg l, e1.trans (e2.trans (e3.trans (Eq.trans e4 e5)))⟩
theorem resL_nb : ∀ {rs : List ARes} {t : Regs} {h : Heap} {κ : List V → R}, (resL rs t h κ).good → ∃ vs, resL rs t h κ = κ vs
  | [], t, h, κ, _ => ⟨[], rfl⟩
  | r :: rs, t, h, κ, hg => by
    have hg : R.good (resV r t h fun v => resL rs t h fun vs => κ (v :: vs)) := hg
    obtain ⟨v, e1⟩ := resV_nb hg
    rw [e1] at hg
    obtain ⟨vs, e2⟩ := resL_nb hg
    exact ⟨v :: vs, Eq.trans e1 e2⟩
theorem resK_rv {rs : List ARes} {t : Regs} {h : Heap} {n : K4} (hg : (resK rs t h n).good) : ∃ v, resK rs t h n = .rv v h n := by
  obtain ⟨vs, e⟩ := resL_nb (show R.good (resL rs t h _) from hg)
  have e : resK rs t h n = _ := e
  match vs, e with
  | [], e => exact ⟨_, e⟩
  | [u], e => exact ⟨_, e⟩
  | u :: u' :: us, e => exact ⟨_, e⟩
theorem call_tree (hρ : OneSym ρ) (hm : P.follows .mixedOrders = true) {cf : CF} {cf2 : CF2} (hct : CallT P ρ B cf) (hR : RoundOK P ρ B cf) (h2 : ∀ f, cf2 (fnKey f) = cf f) {f : FuncId} {e : Ent} (he : EntOf P f e) {args : List V} {h : Heap} {n : K4} {Φ : R → Prop}
    (hr : (entK cf2 (some e) args h n).sat Φ) {φ : Emb} {w : World} {xs : Array Value} (g : Gam ρ B h n φ w) (hxs : rels ρ φ args xs.toList) :
    Runs P f xs w fun x w' => ∃ v h1 n1 φ', Φ (.rv v h1 n1) ∧ Fr h h1 φ φ' n n1 w w' ∧ Gam ρ B h1 n1 φ' w' ∧ rel ρ φ' v x := by
  obtain ⟨sm, hd, hok⟩ := he
  cases hf : cFunc P f with
  | none => rw [hf] at hd; cases hd
  | some a =>
    rw [hf] at hd hok
    obtain ⟨fn, c, ps, rs, hfn, hb, hps, hrs, hname, rfl⟩ := cFunc_some hf
    have hd : some (Ent.code (fun l κ => arg2K ps l rempty fun t => κ (toS sm t)) (fun cf t h n => denK sm cf (cCode P fn.ntmps c) r0 [] t h n) (fun t h n => resK2 sm rs t h n)) = some e := hd
    cases hd
    have hok : (okSM sm && (okK sm (cCode P fn.ntmps c) (fun _ => true) [] && rs.all fun r => keepB sm r.reg)) = true := hok
    rw [Bool.and_eq_true, Bool.and_eq_true] at hok
    obtain ⟨hsm, hok⟩ := hok
    have inj : ∀ {p q s}, findS p sm = some s → findS q sm = some s → p = q := fun h h' => okSM_inj hsm h h'
    have hr : (arg2K ps args rempty (fun t => retX (denK sm cf2 (cCode P fn.ntmps c) r0 [] (toS sm t) h n) fun t h n => resK2 sm rs t h n)).sat Φ := hr
    rw [arg2K_eq] at hr
    obtain ⟨hlen, t0, e2, H0⟩ := argK_good (k := 0) (fun i s hi => by
      obtain ⟨hi', hi2⟩ := List.getElem?_eq_some_iff.1 hi
      simp at hi2; omega) hps (R.sat_good hr)
    rw [e2] at hr
    simp only [List.length_range] at hlen
    have hxl : xs.size = args.length := by have := rels_length hxs; simpa using this
    have hxN : xs.size ≤ fn.ntmps := by
      rcases Nat.eq_zero_or_pos xs.size with h0 | h0
      · omega
      · have := cSlots_lt hps (xs.size - 1) (List.mem_range.2 (by omega)); omega
    have hT : TR ρ fn.ntmps φ t0 { tmps := xs ++ Array.replicate (fn.ntmps - xs.size) undef, defers := [] } := {
      size := by simp; omega
      defers := rfl
      at_ := fun s p hs hp => by
        rw [H0 s p hp, if_pos (Nat.zero_le _), Nat.sub_zero, rget_rempty]
        show rel ρ φ _ ((xs ++ Array.replicate (fn.ntmps - xs.size) undef).getD s undef)
        rw [Array.getD_eq_getD_getElem?]
        by_cases hsx : s < xs.size
        · rw [Array.getElem?_append_left hsx]
          have hsa : s < args.length := by omega
          rw [List.getElem?_eq_getElem hsa]
          obtain ⟨x, hx, hrx⟩ := (rels_iff.1 hxs).2 s _ (List.getElem?_eq_getElem hsa)
          rw [Array.getElem?_toList] at hx
          rw [hx]; exact hrx
        · rw [Array.getElem?_append_right (by omega), Array.getElem?_replicate, if_pos (by omega), List.getElem?_eq_none (by omega)]
          exact rel_undef }
    have hx := retX_sat hr
    have hOK := (den_ok (N := fn.ntmps) (sm := sm) hρ hm hct hR h2 c).join hok.1 (RI.start inj fun p s hs => toS_get hsm hs) hx
    intro o a K Q hK
    have hcf' : (callFunc f xs).run P w = .ok (.enter f xs) w := by
      have hname' : fn.name ≠ "runtime.NumGoroutine" := by simpa using hname
      simp [callFunc, hfn, hname', hb]
    rw [hcf']
    refine calls_of_wp hfn hb (hOK φ _ w hT g _ fun e t1 h2' n2 hres φ' a' w' tf f1 g1 T1 hk => ?_)
    have fin : (resK2 sm rs t1 h2' n2).sat Φ → ∃ X, (results fn a'.tmps).run P w' = .ok X w' ∧ K (a.put o.dst X) w' := fun hres => by
      rw [resK2_eq (RI.start inj hk) fun r hr => List.all_eq_true.1 hok.2 r hr] at hres
      obtain ⟨v, hv⟩ := resK_rv (R.sat_good hres)
      obtain ⟨_, _, Hres⟩ := resK_good (ρ := ρ) (B := B) hrs hv
      rw [hv] at hres
      obtain ⟨X, hX, hrX⟩ := Hres φ' a' w' T1 g1
      exact ⟨X, hX, hK X w' ⟨v, h2', n2, φ', hres, f1, g1, hrX⟩⟩
    cases e with
    | nrm => obtain ⟨X, hX, hKX⟩ := fin hres; exact ⟨T1.defers, X, hX, hKX⟩
    | exit id => exact hres.elim
    | ret => obtain ⟨X, hX, hKX⟩ := fin hres; exact ⟨T1.defers, X, hX, hKX⟩
/-- THE CALL IS SOUND. -/
theorem call2_all (hρ : OneSym ρ) (hm : P.follows .mixedOrders = true) {T : FC} (hT : TabOK P ρ B T) : ∀ m, CallT P ρ B (fun f => call2 T m (fnKey f)) ∧ RoundOK P ρ B (fun f => call2 T m (fnKey f)) := by
  intro m
  induction m with
  | zero => exact ⟨fun f args h n Φ hr => hr.elim, fun f A fn hA box x h n Φ hr => hr.elim⟩
  | succ m ih =>
    obtain ⟨hct, hR⟩ := ih
    have e1 : ∀ f args h n, call2 T (m + 1) (fnKey f) args h n = entK (call2 T m) (tabG (fnKey f) T) args h n := fun f args h n => tabK_eq (fnKey f) T fun o => entK (call2 T m) o args h n
    refine ⟨fun f args h n Φ hr φ w xs g hxs => ?_, fun f A fn hA box x h n Φ hr φ w tmps X l D g hrec unc hsz hbox hX => ?_⟩
    · have hr : (call2 T (m + 1) (fnKey f) args h n).sat Φ := hr
      rw [e1] at hr
      cases ho : tabG (fnKey f) T with
      | none => rw [ho] at hr; exact hr.elim
      | some e =>
        rw [ho] at hr
        rcases hT.1 f e ho with (he | ⟨k, en, bo, re, rfl, he⟩) | (⟨p, rfl, hp⟩ | (⟨its, rd, A, rfl, hA, h1, h2, h3⟩ | ⟨p, rfl, hp⟩))
        · exact call_tree hρ hm hct hR (fun _ => rfl) he hr g hxs
        · obtain ⟨v, h1, n1, hr, hΦ⟩ := primX_sat (show (primX (brK k (fun hs => en args fun t => retX (bo (call2 T m) t hs n) re) args h n)).sat Φ from hr)
          intro o a K Q hK
          exact brK_ok hr g hxs (fun hs Φ hsat gs => call_tree hρ hm hct hR (fun _ => rfl) he (h := hs) hsat gs hxs) o a K Q fun x w' ⟨φ', f1, g1, r1⟩ => hK x w' ⟨v, h1, n1, φ', hΦ, f1, g1, r1⟩
        · obtain ⟨v, h1, n1, hr, hΦ⟩ := primX_sat (show (primX (p args h n)).sat Φ from hr)
          intro o a K Q hK
          exact hp args h n v h1 n1 hr φ w xs g hxs o a K Q fun x w' ⟨φ', f1, g1, r1⟩ => hK x w' ⟨v, h1, n1, φ', hΦ, f1, g1, r1⟩
        · have hr : (apX f its rd (call2 T m) args h n).sat Φ := hr
          unfold apX at hr
          obtain ⟨v, l, hl, q1⟩ := unK_good (R.sat_good hr)
          rw [q1] at hr
          subst hl
          by_cases hv : v = .oth .no
          · subst hv
            obtain ⟨y, ys, _, hy, _⟩ := rels_cons.1 hxs
            simp only [rel] at hy
          · have e2 : ∀ A C : R, isNoK v A C = C := fun A C => by
              cases v with
              | oth o => cases o with
                | no => exact absurd rfl hv
                | _ => rfl
              | _ => rfl
            rw [e2] at hr
            exact ap_ok hA h1 h3 hct (fun _ => rfl) hr g hxs
        · exact hp args h n Φ hr φ w xs g hxs
    · obtain ⟨e, ho, its, rd, A', rfl, hA', h1, h2, h3⟩ := hT.2 f A hA
      rw [hA] at hA'; cases hA'
      have hr : (call2 T (m + 1) (fnKey f) [.oth .no, .ptr box 0, x] h n).sat Φ := hr
      rw [e1, ho] at hr
      have hr : (rd (call2 T m) (.ptr box 0) x h n).sat Φ := hr
      exact rd_ok hρ hct.ok (fun _ => rfl) h2 hr g hrec unc hsz hbox hX
theorem call2_ok (hρ : OneSym ρ) (hm : P.follows .mixedOrders = true) {T : FC} (hT : TabOK P ρ B T) (m : Nat) : CallOK P ρ B fun f => call2 T m (fnKey f) := (call2_all hρ hm hT m).1.ok
end
end Go.Ev

namespace Go.Ev
open Go.RowKit
set_option linter.unusedVariables false
abbrev gdX (w : Bool) (v : V) (h : Heap) (n : K4) (F : KV → R) (κ : KV) : R := gd w v F κ h n
abbrev rvV (v : V) : R := .rv v hempty ⟨.d0, .d0, .d0, .d0⟩
abbrev U : V := undV
abbrev Q0 : SQ := .mk U U U U
abbrev g0 (t : S) (k : V → R) : R := @S.rec (fun _ => R) (fun c0 c1 c2 c3 c4 c5 c6 c7 => @SQ.rec (fun _ => R) (fun d0 d1 d2 d3 => k d0) c0) t
abbrev w0 (t : S) (v : V) (k : S → R) : R := @S.rec (fun _ => R) (fun c0 c1 c2 c3 c4 c5 c6 c7 => @SQ.rec (fun _ => R) (fun d0 d1 d2 d3 => k (.mk (.mk v d1 d2 d3) c1 c2 c3 c4 c5 c6 c7)) c0) t
abbrev g1 (t : S) (k : V → R) : R := @S.rec (fun _ => R) (fun c0 c1 c2 c3 c4 c5 c6 c7 => @SQ.rec (fun _ => R) (fun d0 d1 d2 d3 => k d1) c0) t
abbrev w1 (t : S) (v : V) (k : S → R) : R := @S.rec (fun _ => R) (fun c0 c1 c2 c3 c4 c5 c6 c7 => @SQ.rec (fun _ => R) (fun d0 d1 d2 d3 => k (.mk (.mk d0 v d2 d3) c1 c2 c3 c4 c5 c6 c7)) c0) t
abbrev g2 (t : S) (k : V → R) : R := @S.rec (fun _ => R) (fun c0 c1 c2 c3 c4 c5 c6 c7 => @SQ.rec (fun _ => R) (fun d0 d1 d2 d3 => k d2) c0) t
abbrev w2 (t : S) (v : V) (k : S → R) : R := @S.rec (fun _ => R) (fun c0 c1 c2 c3 c4 c5 c6 c7 => @SQ.rec (fun _ => R) (fun d0 d1 d2 d3 => k (.mk (.mk d0 d1 v d3) c1 c2 c3 c4 c5 c6 c7)) c0) t
abbrev g3 (t : S) (k : V → R) : R := @S.rec (fun _ => R) (fun c0 c1 c2 c3 c4 c5 c6 c7 => @SQ.rec (fun _ => R) (fun d0 d1 d2 d3 => k d3) c0) t
abbrev w3 (t : S) (v : V) (k : S → R) : R := @S.rec (fun _ => R) (fun c0 c1 c2 c3 c4 c5 c6 c7 => @SQ.rec (fun _ => R) (fun d0 d1 d2 d3 => k (.mk (.mk d0 d1 d2 v) c1 c2 c3 c4 c5 c6 c7)) c0) t
abbrev g4 (t : S) (k : V → R) : R := @S.rec (fun _ => R) (fun c0 c1 c2 c3 c4 c5 c6 c7 => @SQ.rec (fun _ => R) (fun d0 d1 d2 d3 => k d0) c1) t
abbrev w4 (t : S) (v : V) (k : S → R) : R := @S.rec (fun _ => R) (fun c0 c1 c2 c3 c4 c5 c6 c7 => @SQ.rec (fun _ => R) (fun d0 d1 d2 d3 => k (.mk c0 (.mk v d1 d2 d3) c2 c3 c4 c5 c6 c7)) c1) t
abbrev g5 (t : S) (k : V → R) : R := @S.rec (fun _ => R) (fun c0 c1 c2 c3 c4 c5 c6 c7 => @SQ.rec (fun _ => R) (fun d0 d1 d2 d3 => k d1) c1) t
abbrev w5 (t : S) (v : V) (k : S → R) : R := @S.rec (fun _ => R) (fun c0 c1 c2 c3 c4 c5 c6 c7 => @SQ.rec (fun _ => R) (fun d0 d1 d2 d3 => k (.mk c0 (.mk d0 v d2 d3) c2 c3 c4 c5 c6 c7)) c1) t
abbrev g6 (t : S) (k : V → R) : R := @S.rec (fun _ => R) (fun c0 c1 c2 c3 c4 c5 c6 c7 => @SQ.rec (fun _ => R) (fun d0 d1 d2 d3 => k d2) c1) t
abbrev w6 (t : S) (v : V) (k : S → R) : R := @S.rec (fun _ => R) (fun c0 c1 c2 c3 c4 c5 c6 c7 => @SQ.rec (fun _ => R) (fun d0 d1 d2 d3 => k (.mk c0 (.mk d0 d1 v d3) c2 c3 c4 c5 c6 c7)) c1) t
abbrev g7 (t : S) (k : V → R) : R := @S.rec (fun _ => R) (fun c0 c1 c2 c3 c4 c5 c6 c7 => @SQ.rec (fun _ => R) (fun d0 d1 d2 d3 => k d3) c1) t
abbrev w7 (t : S) (v : V) (k : S → R) : R := @S.rec (fun _ => R) (fun c0 c1 c2 c3 c4 c5 c6 c7 => @SQ.rec (fun _ => R) (fun d0 d1 d2 d3 => k (.mk c0 (.mk d0 d1 d2 v) c2 c3 c4 c5 c6 c7)) c1) t
abbrev g8 (t : S) (k : V → R) : R := @S.rec (fun _ => R) (fun c0 c1 c2 c3 c4 c5 c6 c7 => @SQ.rec (fun _ => R) (fun d0 d1 d2 d3 => k d0) c2) t
abbrev w8 (t : S) (v : V) (k : S → R) : R := @S.rec (fun _ => R) (fun c0 c1 c2 c3 c4 c5 c6 c7 => @SQ.rec (fun _ => R) (fun d0 d1 d2 d3 => k (.mk c0 c1 (.mk v d1 d2 d3) c3 c4 c5 c6 c7)) c2) t
abbrev g9 (t : S) (k : V → R) : R := @S.rec (fun _ => R) (fun c0 c1 c2 c3 c4 c5 c6 c7 => @SQ.rec (fun _ => R) (fun d0 d1 d2 d3 => k d1) c2) t
abbrev w9 (t : S) (v : V) (k : S → R) : R := @S.rec (fun _ => R) (fun c0 c1 c2 c3 c4 c5 c6 c7 => @SQ.rec (fun _ => R) (fun d0 d1 d2 d3 => k (.mk c0 c1 (.mk d0 v d2 d3) c3 c4 c5 c6 c7)) c2) t
abbrev g10 (t : S) (k : V → R) : R := @S.rec (fun _ => R) (fun c0 c1 c2 c3 c4 c5 c6 c7 => @SQ.rec (fun _ => R) (fun d0 d1 d2 d3 => k d2) c2) t
abbrev w10 (t : S) (v : V) (k : S → R) : R := @S.rec (fun _ => R) (fun c0 c1 c2 c3 c4 c5 c6 c7 => @SQ.rec (fun _ => R) (fun d0 d1 d2 d3 => k (.mk c0 c1 (.mk d0 d1 v d3) c3 c4 c5 c6 c7)) c2) t
abbrev g11 (t : S) (k : V → R) : R := @S.rec (fun _ => R) (fun c0 c1 c2 c3 c4 c5 c6 c7 => @SQ.rec (fun _ => R) (fun d0 d1 d2 d3 => k d3) c2) t
abbrev w11 (t : S) (v : V) (k : S → R) : R := @S.rec (fun _ => R) (fun c0 c1 c2 c3 c4 c5 c6 c7 => @SQ.rec (fun _ => R) (fun d0 d1 d2 d3 => k (.mk c0 c1 (.mk d0 d1 d2 v) c3 c4 c5 c6 c7)) c2) t
abbrev g12 (t : S) (k : V → R) : R := @S.rec (fun _ => R) (fun c0 c1 c2 c3 c4 c5 c6 c7 => @SQ.rec (fun _ => R) (fun d0 d1 d2 d3 => k d0) c3) t
abbrev w12 (t : S) (v : V) (k : S → R) : R := @S.rec (fun _ => R) (fun c0 c1 c2 c3 c4 c5 c6 c7 => @SQ.rec (fun _ => R) (fun d0 d1 d2 d3 => k (.mk c0 c1 c2 (.mk v d1 d2 d3) c4 c5 c6 c7)) c3) t
abbrev g17 (t : S) (k : V → R) : R := @S.rec (fun _ => R) (fun c0 c1 c2 c3 c4 c5 c6 c7 => @SQ.rec (fun _ => R) (fun d0 d1 d2 d3 => k d1) c4) t
section
variable {P : Program} {ρ : Env} {B : Nat}
/-- What stands at a function's place in the table. -/
def OKO (P : Program) (ρ : Env) (B : Nat) (f : FuncId) (o : OEnt) : Prop := ∀ e, o = some e → EGood P ρ B f e
theorem OKO.no {f : FuncId} : OKO P ρ B f none := fun e h => by cases h
theorem OKO.fn {f : FuncId} {e : Ent} (h : EntOf P f e) : OKO P ρ B f (some e) := fun e' h' => by cases h'; exact .inl (.inl h)
theorem OKO.br {f : FuncId} {k : Nat} {en : List V → (S → R) → R} {bo : CF2 → S → Heap → K4 → R} {re : S → Heap → K4 → R} (h : EntOf P f (.code en bo re)) : OKO P ρ B f (some (.br k en bo re)) := fun e' h' => by cases h'; exact .inl (.inr ⟨k, en, bo, re, rfl, h⟩)
theorem OKO.pr {f : FuncId} {p : Prim} (h : PrimOK P ρ B f p) : OKO P ρ B f (some (.prim p)) := fun e' h' => by cases h'; exact .inr (.inl ⟨p, rfl, h⟩)
theorem OKO.ap {f : FuncId} {its : List Nat} {rd : Rd} {A : ApC} (hA : ρ.ap f = some A) (h1 : apOf P f = some A) (h2 : rdOf P A = some rd) (h3 : ∀ g ∈ its, HasBody P g) : OKO P ρ B f (some (.ap f its rd)) := fun e' h' => by cases h'; exact .inr (.inr (.inl ⟨its, rd, A, rfl, hA, h1, h2, h3⟩))
theorem OKO.tr {f : FuncId} {p : Prim} (h : TreeOK P ρ B f p) : OKO P ρ B f (some (.tree p)) := fun e' h' => by cases h'; exact .inr (.inr (.inr ⟨p, rfl, h⟩))
def OKA (P : Program) (ρ : Env) (B : Nat) (base : Nat) (x : FA) : Prop := ∀ d, OKO P ρ B (base + d.toN) (FA.sel d x)
def OKB (P : Program) (ρ : Env) (B : Nat) (base : Nat) (x : FB) : Prop := ∀ d, OKA P ρ B (base + 16 * d.toN) (FB.sel d x)
theorem okA_mk {base : Nat} {c0 c1 c2 c3 c4 c5 c6 c7 c8 c9 ca cb cc cd ce cf : OEnt} (h0 : OKO P ρ B (base + 0) c0) (h1 : OKO P ρ B (base + 1) c1) (h2 : OKO P ρ B (base + 2) c2) (h3 : OKO P ρ B (base + 3) c3) (h4 : OKO P ρ B (base + 4) c4) (h5 : OKO P ρ B (base + 5) c5) (h6 : OKO P ρ B (base + 6) c6) (h7 : OKO P ρ B (base + 7) c7) (h8 : OKO P ρ B (base + 8) c8) (h9 : OKO P ρ B (base + 9) c9) (h10 : OKO P ρ B (base + 10) ca) (h11 : OKO P ρ B (base + 11) cb) (h12 : OKO P ρ B (base + 12) cc) (h13 : OKO P ρ B (base + 13) cd) (h14 : OKO P ρ B (base + 14) ce) (h15 : OKO P ρ B (base + 15) cf) : OKA P ρ B base (.mk c0 c1 c2 c3 c4 c5 c6 c7 c8 c9 ca cb cc cd ce cf) := fun d => by
  cases d
  · exact h0
  · exact h1
  · exact h2
  · exact h3
  · exact h4
  · exact h5
  · exact h6
  · exact h7
  · exact h8
  · exact h9
  · exact h10
  · exact h11
  · exact h12
  · exact h13
  · exact h14
  · exact h15
theorem okB_mk {base : Nat} {c0 c1 c2 c3 c4 c5 c6 c7 c8 c9 ca cb cc cd ce cf : FA} (h0 : OKA P ρ B (base + 16 * 0) c0) (h1 : OKA P ρ B (base + 16 * 1) c1) (h2 : OKA P ρ B (base + 16 * 2) c2) (h3 : OKA P ρ B (base + 16 * 3) c3) (h4 : OKA P ρ B (base + 16 * 4) c4) (h5 : OKA P ρ B (base + 16 * 5) c5) (h6 : OKA P ρ B (base + 16 * 6) c6) (h7 : OKA P ρ B (base + 16 * 7) c7) (h8 : OKA P ρ B (base + 16 * 8) c8) (h9 : OKA P ρ B (base + 16 * 9) c9) (h10 : OKA P ρ B (base + 16 * 10) ca) (h11 : OKA P ρ B (base + 16 * 11) cb) (h12 : OKA P ρ B (base + 16 * 12) cc) (h13 : OKA P ρ B (base + 16 * 13) cd) (h14 : OKA P ρ B (base + 16 * 14) ce) (h15 : OKA P ρ B (base + 16 * 15) cf) : OKB P ρ B base (.mk c0 c1 c2 c3 c4 c5 c6 c7 c8 c9 ca cb cc cd ce cf) := fun d => by
  cases d
  · exact h0
  · exact h1
  · exact h2
  · exact h3
  · exact h4
  · exact h5
  · exact h6
  · exact h7
  · exact h8
  · exact h9
  · exact h10
  · exact h11
  · exact h12
  · exact h13
  · exact h14
  · exact h15
def noA : FA := .mk none none none none none none none none none none none none none none none none
def noB : FB := .mk noA noA noA noA noA noA noA noA noA noA noA noA noA noA noA noA
theorem noA_sel (d : D) : FA.sel d noA = none := by cases d <;> rfl
theorem noB_sel (d : D) : FB.sel d noB = noA := by cases d <;> rfl
theorem okA_no {base : Nat} : OKA P ρ B base noA := fun d => by rw [noA_sel]; exact OKO.no
theorem okB_no {base : Nat} : OKB P ρ B base noB := fun d => by rw [noB_sel]; exact okA_no
theorem ofN_lt {x : Nat} {d : D} (h : D.ofN x = d) (hd : d ≠ .d15) : x = d.toN := by
  rcases Nat.lt_or_ge x 15 with hx | hx
  · rw [← h, D.toN_ofN x (by omega)]
  · exfalso
    obtain ⟨y, rfl⟩ : ∃ y, x = y + 15 := ⟨x - 15, by omega⟩
    exact hd h.symm
theorem okC_mk {c0 c1 c2 c3 c4 c5 c6 c7 c8 c9 ca cb cc cd ce : FB} (h0 : OKB P ρ B (256 * 0) c0) (h1 : OKB P ρ B (256 * 1) c1) (h2 : OKB P ρ B (256 * 2) c2) (h3 : OKB P ρ B (256 * 3) c3) (h4 : OKB P ρ B (256 * 4) c4) (h5 : OKB P ρ B (256 * 5) c5) (h6 : OKB P ρ B (256 * 6) c6) (h7 : OKB P ρ B (256 * 7) c7) (h8 : OKB P ρ B (256 * 8) c8) (h9 : OKB P ρ B (256 * 9) c9) (h10 : OKB P ρ B (256 * 10) ca) (h11 : OKB P ρ B (256 * 11) cb) (h12 : OKB P ρ B (256 * 12) cc) (h13 : OKB P ρ B (256 * 13) cd) (h14 : OKB P ρ B (256 * 14) ce) : ∀ f e, tabG (fnKey f) (.mk c0 c1 c2 c3 c4 c5 c6 c7 c8 c9 ca cb cc cd ce noB) = some e → EGood P ρ B f e := fun f e h => by
  have hc : (D.ofN (f % 16)).toN = f % 16 := D.toN_ofN _ (by omega)
  have hb : (D.ofN (f / 16 % 16)).toN = f / 16 % 16 := D.toN_ofN _ (by omega)
  have key : ∀ x : FB, OKB P ρ B (256 * (f / 256)) x → FA.sel (D.ofN (f % 16)) (FB.sel (D.ofN (f / 16 % 16)) x) = some e → EGood P ρ B f e := fun x hx hs => by
    have := hx (D.ofN (f / 16 % 16)) (D.ofN (f % 16)) e hs
    rw [hc, hb] at this
    have e1 : 256 * (f / 256) + 16 * (f / 16 % 16) + f % 16 = f := by omega
    rw [e1] at this; exact this
  have h : FA.sel (D.ofN (f % 16)) (FB.sel (D.ofN (f / 16 % 16)) (FC.sel (D.ofN (f / 256)) (.mk c0 c1 c2 c3 c4 c5 c6 c7 c8 c9 ca cb cc cd ce noB))) = some e := h
  generalize hd : D.ofN (f / 256) = d at h
  cases d
  · have := ofN_lt hd (by intro h; cases h); rw [show D.toN .d0 = 0 from rfl] at this; exact key c0 (by rw [this]; exact h0) h
  · have := ofN_lt hd (by intro h; cases h); rw [show D.toN .d1 = 1 from rfl] at this; exact key c1 (by rw [this]; exact h1) h
  · have := ofN_lt hd (by intro h; cases h); rw [show D.toN .d2 = 2 from rfl] at this; exact key c2 (by rw [this]; exact h2) h
  · have := ofN_lt hd (by intro h; cases h); rw [show D.toN .d3 = 3 from rfl] at this; exact key c3 (by rw [this]; exact h3) h
  · have := ofN_lt hd (by intro h; cases h); rw [show D.toN .d4 = 4 from rfl] at this; exact key c4 (by rw [this]; exact h4) h
  · have := ofN_lt hd (by intro h; cases h); rw [show D.toN .d5 = 5 from rfl] at this; exact key c5 (by rw [this]; exact h5) h
  · have := ofN_lt hd (by intro h; cases h); rw [show D.toN .d6 = 6 from rfl] at this; exact key c6 (by rw [this]; exact h6) h
  · have := ofN_lt hd (by intro h; cases h); rw [show D.toN .d7 = 7 from rfl] at this; exact key c7 (by rw [this]; exact h7) h
  · have := ofN_lt hd (by intro h; cases h); rw [show D.toN .d8 = 8 from rfl] at this; exact key c8 (by rw [this]; exact h8) h
  · have := ofN_lt hd (by intro h; cases h); rw [show D.toN .d9 = 9 from rfl] at this; exact key c9 (by rw [this]; exact h9) h
  · have := ofN_lt hd (by intro h; cases h); rw [show D.toN .d10 = 10 from rfl] at this; exact key ca (by rw [this]; exact h10) h
  · have := ofN_lt hd (by intro h; cases h); rw [show D.toN .d11 = 11 from rfl] at this; exact key cb (by rw [this]; exact h11) h
  · have := ofN_lt hd (by intro h; cases h); rw [show D.toN .d12 = 12 from rfl] at this; exact key cc (by rw [this]; exact h12) h
  · have := ofN_lt hd (by intro h; cases h); rw [show D.toN .d13 = 13 from rfl] at this; exact key cd (by rw [this]; exact h13) h
  · have := ofN_lt hd (by intro h; cases h); rw [show D.toN .d14 = 14 from rfl] at this; exact key ce (by rw [this]; exact h14) h
  · have h : FA.sel (D.ofN (f % 16)) (FB.sel (D.ofN (f / 16 % 16)) noB) = some e := h
    rw [noB_sel, noA_sel] at h; cases h
/-- The environment of a program in which some functions range over functions. -/
def envAp (P : Program) (fs : List Nat) : Env := { v := fun _ => .bool true, ap := fun f => @Bool.rec (fun _ => Option ApC) none (apOf P f) (fs.contains f) }
def hasBody (P : Program) (g : FuncId) : Bool := match P.funcs[g]? with
  | some fn => fn.body.isSome && !(fn.name == "runtime.NumGoroutine")
  | none => false
theorem hasBody_ok {g : FuncId} (h : hasBody P g = true) : HasBody P g := by
  unfold hasBody at h
  split at h
  · rename_i fn hfn
    simp only [Bool.and_eq_true, Bool.not_eq_true'] at h
    obtain ⟨c, hc⟩ := Option.isSome_iff_exists.1 h.1
    exact ⟨fn, c, hfn, hc, h.2⟩
  · cases h
def rdFn (P : Program) (f : FuncId) : Option Rd := (apOf P f).bind (rdOf P)
theorem ApEnt.mk {fs : List Nat} {f : FuncId} {its : List Nat} {rd : Rd} (hf : fs.contains f = true) (h : rdFn P f = some rd) (hb : its.all (hasBody P) = true) : ApEnt P (envAp P fs) f (.ap f its rd) := by
  unfold rdFn at h
  cases hA : apOf P f with
  | none => rw [hA] at h; cases h
  | some A =>
    rw [hA] at h
    exact ⟨its, rd, A, rfl, by show @Bool.rec (fun _ => Option ApC) none (apOf P f) (fs.contains f) = _; rw [hf]; exact hA, hA, h, fun g hg => hasBody_ok (List.all_eq_true.1 hb g hg)⟩
theorem TabOK.mk {fs : List Nat} {T : FC} (h : ∀ f e, tabG (fnKey f) T = some e → EGood P (envAp P fs) B f e) (ha : ∀ f ∈ fs, ∃ e, tabG (fnKey f) T = some e ∧ ApEnt P (envAp P fs) f e) : TabOK P (envAp P fs) B T := by
  refine ⟨h, fun f A hA => ?_⟩
  have hA : @Bool.rec (fun _ => Option ApC) none (apOf P f) (fs.contains f) = some A := hA
  cases hc : fs.contains f with
  | false => rw [hc] at hA; cases hA
  | true => exact ha f (List.contains_iff_mem.1 hc)
theorem ha_nil {Q : Nat → Prop} : ∀ f ∈ ([] : List Nat), Q f := fun f h => by cases h
/-- A call that is evaluated to true, from values that the arguments tell of. -/
theorem law2_call (hρ : OneSym ρ) (hm : P.follows .mixedOrders = true) {T : FC} (hT : ∀ B, TabOK P ρ B T) {m : Nat} {f : FuncId} {fn : Func} {args : List V}
    (hf : P.funcs[f]? = some fn) (hb : fn.body.isSome = true) (hn : (fn.name == "runtime.NumGoroutine") = false) (hx : rTrue (call2 T m (fnKey f) args hempty n00) = true) {xs : Array Value} (hr : rels ρ (fun _ => none) args xs.toList) (w : World) (hgl : GlAt ρ w := by intro b c e fr h; have h : (none : Option (Array Value × TypeId × (Nat × Nat))) = some (c, e, fr) := h; cases h) :
    Calls P f xs w fun e w' => e = .returned (.bool true) ∧ Below w.heap.size w w' := by
  obtain ⟨h1, n1, hx⟩ := rTrue_rv hx
  obtain ⟨c, hc⟩ := Option.isSome_iff_exists.1 hb
  have := calls_of_runs (R := fun x w' => x = .bool true ∧ Below w.heap.size w w') hf hc (by simpa using hn) (fun o a K Q hK =>
    call2_ok (B := w.heap.size) hρ hm (hT _) m f args hempty n00 _ h1 n1 hx (fun _ => none) w xs (gam_start w n00 hgl) hr o a K Q fun x w' ⟨φ', f1, _, hr⟩ => hK x w' ⟨by simpa only [rel] using hr, below_of_fr f1⟩)
  refine this.mono fun e w' he => ?_
  cases e with
  | returned v => exact ⟨by rw [he.1], he.2⟩
  | _ => exact he.elim
end
end Go.Ev

namespace Go.Ev
set_option linter.unusedVariables false
open Go.RowKit
section
variable {P : Program} {ρ : Env} {B : Nat}
end
end Go.Ev

namespace Go.Ev
set_option linter.unusedVariables false
section
variable {G : R → Prop}
end
end Go.Ev

namespace Go.Ev
set_option linter.unusedVariables false
end Go.Ev

namespace Go.Ev
set_option linter.unusedVariables false
theorem runs_of_calls {P : Program} {f : FuncId} {fn : Func} {c : Code} {xs : Array Value} {w : World} {R : Value → World → Prop} (hf : P.funcs[f]? = some fn) (hb : fn.body = some c) (hn : (fn.name == "runtime.NumGoroutine") = false)
    (h : Calls P f xs w fun e w' => ∃ v, e = .returned v ∧ R v w') : Runs P f xs w R := by
  intro o a K Q hK
  have hn' : fn.name ≠ "runtime.NumGoroutine" := by simpa using hn
  have e : (callFunc f xs).run P w = .ok (.enter f xs) w := by simp [callFunc, hf, hn', hb]
  rw [e]
  show Calls P f xs w _
  refine h.mono fun e w' ⟨v, he, hv⟩ => ?_
  subst he
  exact hK v w' hv
/-- internal/bytealg.CountString. -/
def cntK (r : Nat) (m : Nat) : Nat → Nat → (Nat → R) → R :=
  @Nat.rec (fun _ => Nat → Nat → (Nat → R) → R) (fun _ a κ => κ a)
    (fun _ ih c a κ => br (Nat.beq (lo c 1) r) (forceN (sh c 1) fun d => forceN (Nat.succ a) fun a => ih d a κ) (forceN (sh c 1) fun d => ih d a κ)) m
theorem cntK_eq (b : UInt8) (l : List UInt8) : ∀ (a : Nat) (κ : Nat → R), cntK b.toNat l.length (encL l) a κ = κ (a + Lib.countByte l b) := by
  induction l with
  | nil => intro a κ; show κ a = κ (a + Lib.countByte [] b); simp [Lib.countByte]
  | cons x l ih =>
    intro a κ
    have hx := x.toNat_lt
    have e0 : lo (encL (x :: l)) 1 = x.toNat := by rw [lo_eq]; simp only [encL]; omega
    have e1 : sh (encL (x :: l)) 1 = encL l := by rw [sh_eq]; simp only [encL]; omega
    have e2 : cntK b.toNat (x :: l).length (encL (x :: l)) a κ = br (Nat.beq x.toNat b.toNat) (cntK b.toNat l.length (encL l) (a + 1) κ) (cntK b.toNat l.length (encL l) a κ) := by
      have : cntK b.toNat (x :: l).length (encL (x :: l)) a κ = br (Nat.beq (lo (encL (x :: l)) 1) b.toNat) (forceN (sh (encL (x :: l)) 1) fun d => forceN (Nat.succ a) fun a => cntK b.toNat l.length d a κ) (forceN (sh (encL (x :: l)) 1) fun d => cntK b.toNat l.length d a κ) := rfl
      rw [this, e0, e1, forceN_eq, forceN_eq, forceN_eq]
    rw [e2, ih, ih]
    have hc : Lib.countByte (x :: l) b = Lib.countByte l b + if x == b then 1 else 0 := by unfold Lib.countByte; rw [List.count_cons]
    rw [hc]
    by_cases hb : x = b
    · subst hb
      rw [Nat.beq_refl, br_true]; simp; congr 1; omega
    · have h1 : Nat.beq x.toNat b.toNat = false := by
        cases h : Nat.beq x.toNat b.toNat with
        | false => rfl
        | true => exact absurd (UInt8.toNat_inj.1 (Nat.eq_of_beq_eq_true h)) hb
      have h2 : (x == b) = false := by simpa using hb
      rw [h1, br_false, h2]; simp
def pCountString : Prim := fun args h n =>
  unK args fun x l => unK l fun y l => nlK l (asStr x fun m c => asI y fun k r => br (kbeq k .u8) (br (Nat.ble m 1000000000) (cntK r m c 0 fun i => .rv (.int .i64 i) h n) (.fail "a long string")) (.fail "kinds"))
theorem countString_ok {P : Program} {ρ : Env} {B : Nat} {f : FuncId} (b : Bare P f Extern.BytealgCount.count) : PrimOK P ρ B f pCountString := by
  intro args h n v h1 n1 hx φ w xs g hr
  have hg : (pCountString args h n).good := by rw [hx]; trivial
  unfold pCountString at hx hg
  obtain ⟨x, l, rfl, q1⟩ := unK_good hg
  rw [q1] at hx hg
  obtain ⟨y, l, rfl, q2⟩ := unK_good hg
  rw [q2] at hx hg
  obtain ⟨rfl, q3⟩ := nlK_good hg
  rw [q3] at hx
  obtain ⟨m, c, rfl, hx⟩ := asStr_rv hx
  obtain ⟨k, r, rfl, hx⟩ := asI_rv hx
  obtain ⟨hk, hx⟩ := br_rv hx
  have := kbeq_iff.1 hk
  subst this
  obtain ⟨hm, hx⟩ := br_rv hx
  have hm := ble_iff.1 hm
  obtain ⟨x1, ys, hxs, hr1, hr⟩ := rels_cons.1 hr
  obtain ⟨x2, ys, rfl, hr2, hr⟩ := rels_cons.1 hr
  obtain rfl := rels_nil.1 hr
  obtain ⟨s, rfl, hsz, hc⟩ := (by simpa only [rel] using hr1 : ∃ s : ByteArray, x1 = .string s ∧ s.size = m ∧ encL s.data.toList = c)
  obtain ⟨hlt, rfl⟩ := (by simpa only [rel] using hr2 : r < Mk .u8 ∧ x2 = .int .u8 (dec .u8 r))
  have hlt : r < 256 := hlt
  have hdec : dec .u8 r = (r : Int) := dec_nonneg (by show r < 256; exact hlt)
  obtain rfl : xs = #[.string s, .int .u8 (dec .u8 r)] := by cases xs; simp at hxs; simp [hxs]
  rw [hdec]
  refine b.runs (Lib.run_countString s r w) ⟨φ, ?_⟩
  have hb : ((r : Int).toNat.toUInt8).toNat = r := by
    simp only [Int.toNat_natCast]
    exact UInt8.toNat_ofNat_of_lt' (show r < 2 ^ 8 from hlt)
  have hl : s.data.toList.length = m := by rw [← hsz]; rfl
  have key := cntK_eq ((r : Int).toNat.toUInt8) s.data.toList 0 (fun i => R.rv (.int .i64 i) h n)
  rw [hb, hl, hc] at key
  rw [key] at hx
  have hle : Lib.countByte s.data.toList ((r : Int).toNat.toUInt8) ≤ m := by rw [← hl]; exact List.count_le_length
  cases hx
  refine ⟨Fr.refl h φ n w, g, ?_⟩
  simp only [rel]
  rw [Nat.zero_add]
  have h9 : Lib.countByte s.data.toList ((r : Int).toNat.toUInt8) < 9223372036854775808 := by omega
  exact ⟨Nat.lt_trans h9 (by decide), congrArg (Value.int .i64) (dec_nonneg (k := .i64) h9).symm⟩
section
variable {P : Program} {ρ : Env} {B : Nat}
end
abbrev iI (n : Nat) : V := .int .i64 n
abbrev iW (n : Nat) : V := .int .u32 n
abbrev iB (n : Nat) : V := .int .u8 n
abbrev iL (n : Nat) : V := .int .u64 n
abbrev nR (t : S) (h : Heap) (n : K4) : R := .ok .nrm t h n
abbrev rT (t : S) (h : Heap) (n : K4) : R := .ok .ret t h n
def o8 (i : Nat) : O8 := @Nat.rec (fun _ => O8) .d0 (fun i _ => @Nat.rec (fun _ => O8) .d1 (fun i _ => @Nat.rec (fun _ => O8) .d2 (fun i _ => @Nat.rec (fun _ => O8) .d3 (fun i _ => @Nat.rec (fun _ => O8) .d4 (fun i _ => @Nat.rec (fun _ => O8) .d5 (fun i _ => @Nat.rec (fun _ => O8) .d6 (fun _ _ => .d7) i) i) i) i) i) i) i
def o4 (i : Nat) : O4 := @Nat.rec (fun _ => O4) .d0 (fun i _ => @Nat.rec (fun _ => O4) .d1 (fun i _ => @Nat.rec (fun _ => O4) .d2 (fun _ _ => .d3) i) i) i
def mS (l : List Nat) : SM := @List.rec Nat (fun _ => Nat → SM) (fun _ => []) (fun p _ ih i => (⟨D.ofN (Nat.div p 16), D.ofN (Nat.mod p 16)⟩, ⟨o8 (Nat.div i 4), o4 (Nat.mod i 4)⟩) :: ih (Nat.succ i)) l 0
theorem goes_no {P : Program} (h : (P.funcs.toList.all fun fn => !fn.goes) = true) (func : String) : P.goesAt .entering func = false := by
  have key : ∀ g : Nat, (P.funcs[g]?).any Func.goes = false := fun g => by
    cases hx : P.funcs[g]? with
    | none => rfl
    | some fn =>
      have hm : fn ∈ P.funcs.toList := by
        rw [← Array.getElem?_toList] at hx
        exact List.mem_of_getElem? hx
      have := List.all_eq_true.1 h fn hm
      simpa using this
  have hp : P.funcs.any Func.goes = false := by
    rw [← Array.any_toList, Bool.eq_false_iff]
    intro hc
    obtain ⟨fn, hm, hg⟩ := List.any_eq_true.1 hc
    have := List.all_eq_true.1 h fn hm
    rw [hg] at this; cases this
  have hgo : ∀ f, P.goes f = false := fun f => by
    unfold Program.goes
    rw [hp, Bool.and_false, Bool.or_false, Bool.eq_false_iff]
    intro hc
    simp only [key] at hc
    simp at hc
  unfold Program.goesAt Program.goesFrom
  cases P.funcNamed func with
  | none => rfl
  | some f => simp [hgo f]
end Go.Ev

namespace Go.Ev
set_option linter.unusedVariables false
abbrev GlF := Nat → Option (Array Value × TypeId × (Nat × Nat))
/-- The environment of a program whose blocks gl stay as they are. -/
def envGl (P : Program) (fs : List Nat) (gl : GlF) : Env := { envAp P fs with gl := gl }
theorem oneGl {P : Program} {fs : List Nat} {gl : GlF} : OneSym (envGl P fs gl) := fun _ => rfl
section
variable {P : Program} {ρ : Env} {B : Nat}
theorem ApEnt.gl {fs : List Nat} {gl : GlF} {f : FuncId} {e : Ent} (h : ApEnt P (envAp P fs) f e) : ApEnt P (envGl P fs gl) f e := h
theorem TabOK.mkG {fs : List Nat} {gl : GlF} {T : FC} (h : ∀ f e, tabG (fnKey f) T = some e → EGood P (envGl P fs gl) B f e) (ha : ∀ f ∈ fs, ∃ e, tabG (fnKey f) T = some e ∧ ApEnt P (envGl P fs gl) f e) : TabOK P (envGl P fs gl) B T := by
  refine ⟨h, fun f A hA => ?_⟩
  have hA : @Bool.rec (fun _ => Option ApC) none (apOf P f) (fs.contains f) = some A := hA
  cases hc : fs.contains f with
  | false => rw [hc] at hA; cases hA
  | true => exact ha f (List.contains_iff_mem.1 hc)
/-- A table that stays. -/
def TabG (P : Program) (gl : GlF) (name : String) (k : IntKind) (zs : List Int) : Prop := ∃ g e fr, P.globalNamed name = some g ∧ gl g = some ((zs.map fun z => Value.int k z).toArray, e, fr)
theorem TabG.is {gl : GlF} {name : String} {k : IntKind} {zs : List Int} {h : Heap} {n : K4} {φ : Emb} {w : World} (t : TabG P gl name k zs) (hgl : ρ.gl = gl) (g : Gam ρ B h n φ w) : Lib.TabIs P w name k zs := by
  obtain ⟨b, e, fr, h1, h2⟩ := t
  obtain ⟨_, h3⟩ := g.glob b _ e fr (by rw [hgl]; exact h2)
  unfold Lib.TabIs World.var?
  rw [h1, Option.bind_some, h3]
/-- The blocks of a world that a list names. -/
def glOf (w : World) (l : List Nat) : GlF := fun b => if b ∈ l then (match w.heap[b]? with | some (.cells c e fr) => some (c, e, fr) | _ => none) else none
theorem glOf_at {P : Program} {fs : List Nat} {w : World} {l : List Nat} : GlAt (envGl P fs (glOf w l)) w := fun b c e fr h => by
  have h : glOf w l b = some (c, e, fr) := h
  unfold glOf at h
  split at h
  · split at h
    · rename_i c' e' fr' hw
      cases h
      refine ⟨?_, hw⟩
      rcases Nat.lt_or_ge b w.heap.size with hb | hb
      · exact hb
      · rw [Array.getElem?_eq_none hb] at hw; cases hw
    · cases h
  · cases h
theorem TabG.of {w : World} {l : List Nat} {g : Nat} {name : String} {k : IntKind} {zs : List Int} (hg : P.globalNamed name = some g) (hl : g ∈ l) (h : Lib.TabIs P w name k zs) : TabG P (glOf w l) name k zs := by
  unfold Lib.TabIs World.var? at h
  rw [hg, Option.bind_some] at h
  split at h
  · rename_i c e fr hw
    cases h
    refine ⟨g, e, fr, hg, ?_⟩
    unfold glOf
    rw [if_pos hl, hw]
  · cases h
def ndK (m : Nat) : Nat → Nat := @Nat.rec (fun _ => Nat → Nat) (fun _ => 1) (fun _ ih u => br (Nat.ble (Nat.succ u) 10) 1 (Nat.succ (ih (Nat.div u 10)))) m
theorem ndK_eq : ∀ (m u : Nat), u < 10 ^ (m + 1) → ndK m u = Lib.nDigits u
  | 0, u, h => by rw [Lib.nDigits_small (by simpa using h)]; rfl
  | m + 1, u, h => by
    have e : ndK (m + 1) u = br (Nat.ble (Nat.succ u) 10) 1 (Nat.succ (ndK m (u / 10))) := rfl
    rw [e]
    by_cases hu : u < 10
    · rw [ble_iff.2 (by omega), br_true, Lib.nDigits_small hu]
    · rw [ble_false (by omega), br_false, Lib.nDigits_big hu, ndK_eq m (u / 10) (by rw [Nat.pow_succ] at h; omega)]
theorem nDigits_lt {u : Nat} (h : u < 18446744073709551616) : Lib.nDigits u ≤ 20 := by
  rw [← ndK_eq 19 u (by omega)]
  have : ∀ (m u : Nat), ndK m u ≤ m + 1 := by
    intro m
    induction m with
    | zero => intro u; exact Nat.le_refl _
    | succ m ih =>
      intro u
      have e : ndK (m + 1) u = br (Nat.ble (Nat.succ u) 10) 1 (Nat.succ (ndK m (u / 10))) := rfl
      rw [e]
      cases Nat.ble (Nat.succ u) 10 with
      | true => show 1 ≤ _; omega
      | false => have := ih (u / 10); show Nat.succ _ ≤ _; omega
  exact this 19 u
/-- internal/strconv.numDigits. -/
def pDigits : Prim := fun args h n =>
  unK args fun x l => nlK l (asI x fun k r => br (kbeq k .u64) (br (Nat.ble 1 r) (forceN (ndK 19 r) fun i => .rv (.int .i64 i) h n) (.fail "no number")) (.fail "kinds"))
def DigitsFn (P : Program) (f : FuncId) : Prop := ∀ (u : Nat), 1 ≤ u → u < 18446744073709551616 → ∀ w : World, Lib.TabIs P w "internal/strconv.uint64pow10" .u64 Lib.pow10Tab → Calls P f #[.int .u64 u] w fun e w' => e = .returned (.int .i64 (Lib.nDigits u)) ∧ w' = w
theorem digits_ok {f : FuncId} {fn : Func} {gl : GlF} (hf : P.funcs[f]? = some fn) (hb : fn.body.isSome = true) (hn : (fn.name == "runtime.NumGoroutine") = false) (hS : DigitsFn P f) (hgl : ρ.gl = gl) (ht : TabG P gl "internal/strconv.uint64pow10" .u64 Lib.pow10Tab) : PrimOK P ρ B f pDigits := by
  intro args h n v h1 n1 hx φ w xs g hr
  have hg : (pDigits args h n).good := by rw [hx]; trivial
  unfold pDigits at hx hg
  obtain ⟨x, l, rfl, q1⟩ := unK_good hg
  rw [q1] at hx hg
  obtain ⟨rfl, q2⟩ := nlK_good hg
  rw [q2] at hx
  obtain ⟨k, r, rfl, hx⟩ := asI_rv hx
  obtain ⟨hk, hx⟩ := br_rv hx
  obtain rfl := kbeq_iff.1 hk
  obtain ⟨h1', hx⟩ := br_rv hx
  have h1' := ble_iff.1 h1'
  rw [forceN_eq] at hx
  cases hx
  obtain ⟨X, ys, hX, r0, hr⟩ := rels_cons.1 hr
  obtain rfl := rels_nil.1 hr
  obtain ⟨hlt, rfl⟩ := rel_int r0
  have hlt : r < 18446744073709551616 := hlt
  have hxs : xs = #[.int .u64 (dec .u64 r)] := by cases xs; simp at hX; rw [hX]
  subst hxs
  rw [show dec .u64 r = (r : Int) from dec_nonneg (by simp only [Hk]; exact hlt)]
  obtain ⟨c, hc⟩ := Option.isSome_iff_exists.1 hb
  refine runs_of_calls hf hc hn ((hS r h1' hlt w (ht.is hgl g)).mono fun e w' ⟨he, hw⟩ => ⟨_, he, ?_⟩)
  subst hw
  refine ⟨φ, Fr.refl h φ n _, g, ?_⟩
  rw [ndK_eq 19 r (by omega)]
  have := nDigits_lt hlt
  simp only [rel]
  generalize Lib.nDigits r = d at this
  exact ⟨by simp only [Mk]; omega, congrArg (Value.int .i64) (dec_nonneg (k := .i64) (by simp only [Hk]; omega)).symm⟩
end
theorem tab_of_vars {P : Program} {w : World} : ∀ {l : List (String × DataW Unit)} {ps : List MemPlace}, DataW.LaidVars P w l ps → ∀ {name : String} {d : DataW Unit}, (name, d) ∈ l →
    ∃ g t cs fuel p, P.globalNamed name = some g ∧ (P.globals[g]?).map (·.type) = some t ∧ w.var? P name = some cs ∧ DataW.trod (fun _ => ()) P w 0 (fun _ => true) false fuel t cs.toList = some (d, p)
  | [], _, _, _, _, hm => by cases hm
  | (n, d) :: r, ps, h, name, d', hm => by
    obtain ⟨g, t, cs, fuel, p, q, h1, h2, h3, h4, h5, _⟩ := h
    rcases List.mem_cons.1 hm with e | e
    · cases e; exact ⟨g, t, cs, fuel, p, h1, h2, h3, h4⟩
    · exact tab_of_vars h5 e
theorem tabIs_of_mem {P : Program} {W : World} {name : String} {k : IntKind} {zs : List Int} {l : List (String × DataW Unit)} {g : Nat} {t e : TypeId} {n : Nat}
    (hg : P.globalNamed name = some g) (hty : (P.globals[g]?).map (·.type) = some t) (ht : P.underlying t = some (.array n e)) (he : P.underlying e = some (.int k)) (hce : P.cellsOf e = 1) (hct : P.cellsOf t = n)
    (hm : (name, Lib.tabData k zs) ∈ l) (h : laidMet P l W) : Lib.TabIs P W name k zs := by
  obtain ⟨ps, hv, _⟩ := h
  obtain ⟨g', t', cs, fuel, p, hg', ht', hvar, hd⟩ := tab_of_vars hv hm
  obtain rfl := Option.some.inj (hg.symm.trans hg')
  obtain rfl := Option.some.inj (hty.symm.trans ht')
  unfold Lib.TabIs
  rw [hvar, ← Lib.cells_of_tab ht he hce hct hd]
end Go.Ev

namespace Go.Ev
set_option linter.unusedVariables false
open Go.RowKit
section
variable {P : Program} {ρ : Env} {B : Nat}
/-- What stands below stays; new blocks are nothing to it. -/
theorem Gam.below {h : Heap} {n : K4} {φ : Emb} {w w' : World} (g : Gam ρ B h n φ w) (b : Below w.heap.size w w') : Gam ρ B h n φ w' ∧ Fr h h φ φ n n w w' := by
  obtain ⟨b1, b2, b3, b4, b5⟩ := b
  refine ⟨⟨Nat.le_trans g.base b4, g.dom, fun p b s t hp => ⟨(g.blk p b s t hp).1, Nat.lt_of_lt_of_le (g.blk p b s t hp).2 b4⟩, fun p o b s t ho hp => ObOK_heap (b5 b (g.blk p b s t hp).2) (g.obj p o b s t ho hp), g.sep, g.sup,
    fun b c e fr hb => ⟨(g.glob b c e fr hb).1, by rw [b5 b (Nat.lt_of_lt_of_le (g.glob b c e fr hb).1 g.base)]; exact (g.glob b c e fr hb).2⟩⟩,
    ⟨Emb.le_refl φ, fun _ _ h => .inl h, Nat.le_refl _, b1, b2, b3, b4, fun b hb _ => b5 b hb, fun _ _ _ _ h => .inl h, fun _ _ h => h⟩⟩
end
end Go.Ev

namespace Go.Ev
set_option linter.unusedVariables false
section
variable {P : Program} {ρ : Env} {B : Nat}
theorem glOf_some {w : World} {l : List Nat} {b : Nat} {c : Array Value} {e : TypeId} {fr : Nat × Nat} (hb : b ∈ l) (h : w.heap[b]? = some (.cells c e fr)) : glOf w l b = some (c, e, fr) := by
  unfold glOf
  rw [if_pos hb, h]
/-- A cell of a world. -/
theorem cell_block {w : World} {a : Addr} {v : Value} (h : w.cell? a = some v) : ∃ b o c e fr, a = ⟨b, o, none⟩ ∧ w.heap[b]? = some (.cells c e fr) ∧ c[o]? = some v := by
  obtain ⟨b, o, sp⟩ := a
  unfold World.cell? at h
  split at h
  · rename_i c e fr hw
    split at h
    · cases h
    · rename_i hs
      cases sp with
      | none => exact ⟨b, o, c, e, fr, rfl, hw, h⟩
      | some x => exact absurd rfl hs
  · cases h
end
section
variable {ρ : Env} {φ : Emb} {b o len cap lo hi hi' i : Nat} {c : Array Value} {e : TypeId} {fr : Nat × Nat}
end
end Go.Ev

namespace Go.Ev
set_option linter.unusedVariables false
section
def ixtK (n2 c2 : Nat) (m : Nat) : Nat → Nat → (Nat → R) → R → R :=
  @Nat.rec (fun _ => Nat → Nat → (Nat → R) → R → R) (fun _ _ _ κn => κn)
    (fun _ ih c i κ κn => br (Nat.beq (lo c n2) c2) (κ i) (forceN (sh c 1) fun d => forceN (Nat.succ i) fun j => ih d j κ κn)) m
theorem isPrefixOf_iff {a b : List UInt8} : a.isPrefixOf b = true ↔ b.take a.length = a := by
  rw [List.isPrefixOf_iff_prefix, List.prefix_iff_eq_take]
  exact ⟨fun h => h.symm, fun h => h.symm⟩
theorem beq_take {sub l : List UInt8} (h : sub.length ≤ l.length) : Nat.beq (lo (encL l) sub.length) (encL sub) = sub.isPrefixOf l := by
  rw [lo_eq, encL_mod, Bool.eq_iff_iff, isPrefixOf_iff]
  have hl : (l.take sub.length).length = sub.length := by rw [List.length_take]; omega
  exact ⟨fun e => encL_inj hl (Nat.eq_of_beq_eq_true e), fun e => by rw [e]; exact Nat.beq_refl _⟩
theorem index_short {s sub : List UInt8} (h : s.length < sub.length) : Lib.index s sub = -1 := by
  refine Lib.index_none fun j _ => ?_
  unfold Lib.occAt
  rw [Bool.eq_false_iff]
  intro e
  have := isPrefixOf_iff.1 e
  have hl := congrArg List.length this
  rw [List.length_take, List.length_drop] at hl
  omega
theorem ixtK_eq (sub : List UInt8) : ∀ (m : Nat) (l : List UInt8) (i : Nat) (κ : Nat → R) (κn : R), m + sub.length = l.length + 1 →
    ixtK sub.length (encL sub) m (encL l) i κ κn = if Lib.index l sub = -1 then κn else κ (i + (Lib.index l sub).toNat)
  | 0, l, i, κ, κn, h => by rw [index_short (by omega), if_pos rfl]; rfl
  | m + 1, [], i, κ, κn, h => by
    have h0 : sub = [] := List.eq_nil_of_length_eq_zero (by simp at h; omega)
    subst h0
    show κ i = _
    rfl
  | m + 1, b :: l, i, κ, κn, h => by
    simp only [List.length_cons] at h
    have hx := b.toNat_lt
    have e1 : sh (encL (b :: l)) 1 = encL l := by rw [sh_eq]; simp only [encL]; omega
    have e2 : ixtK sub.length (encL sub) (m + 1) (encL (b :: l)) i κ κn = br (sub.isPrefixOf (b :: l)) (κ i) (ixtK sub.length (encL sub) m (encL l) (i + 1) κ κn) := by
      have : ixtK sub.length (encL sub) (m + 1) (encL (b :: l)) i κ κn = br (Nat.beq (lo (encL (b :: l)) sub.length) (encL sub)) (κ i) (forceN (sh (encL (b :: l)) 1) fun d => forceN (Nat.succ i) fun j => ixtK sub.length (encL sub) m d j κ κn) := rfl
      rw [this, beq_take (by simp only [List.length_cons]; omega), e1, forceN_eq, forceN_eq]
    rw [e2]
    unfold Lib.index
    cases hp : sub.isPrefixOf (b :: l) with
    | true => rw [br_true, if_pos rfl]; rfl
    | false =>
      rw [br_false, ixtK_eq sub m l (i + 1) κ κn (by omega)]
      have hn := Lib.index_ge l sub
      simp only [Bool.false_eq_true, if_false]
      by_cases hm : Lib.index l sub = -1
      · simp [hm]
      · have h3 : (Lib.index l sub == -1) = false := by simpa using hm
        rw [if_neg hm, h3]
        simp only [Bool.false_eq_true, if_false]
        rw [if_neg (by omega)]
        congr 1; omega
/-- internal/stringslite.Index, strings.Index. -/
def pIndex : Prim := fun args h n =>
  unK args fun x l => unK l fun y l => nlK l (asStr x fun m c => asStr y fun n2 c2 => br (Nat.ble m 1000000000) (forceN (Nat.sub (Nat.succ m) n2) fun q => ixtK n2 c2 q c 0 (fun i => .rv (.int .i64 i) h n) (.rv (.int .i64 18446744073709551615) h n)) (.fail "a long string"))
end
section
variable {P : Program} {ρ : Env} {B : Nat}
/-- A variable that stays, and holds some number. -/
def NumG (gl : GlF) (g : Nat) : Prop := ∃ c m e fr, gl g = some (c, e, fr) ∧ c[0]? = some (.int .i64 m)
theorem NumG.cell {gl : GlF} {q : Nat} {h : Heap} {n : K4} {φ : Emb} {w : World} (t : NumG gl q) (hgl : ρ.gl = gl) (g : Gam ρ B h n φ w) : ∃ m, w.cell? ⟨q, 0, none⟩ = some (.int .i64 m) := by
  obtain ⟨c, m, e, fr, h1, h3⟩ := t
  obtain ⟨_, h2⟩ := g.glob q _ e fr (by rw [hgl]; exact h1)
  exact ⟨m, by simp only [World.cell?, h2]; simpa using h3⟩
/-- What such a function does. -/
def IndexFn (P : Program) (f : FuncId) (q : Nat) : Prop := ∀ (s sub : ByteArray) (m : Int) (w : World), s.size < 4294967281 → w.cell? ⟨q, 0, none⟩ = some (.int .i64 m) →
  Calls P f #[.string s, .string sub] w fun e w' => e = .returned (.int .i64 (Lib.index s.data.toList sub.data.toList)) ∧ w' = w
theorem index_ok {f : FuncId} {fn : Func} {gl : GlF} {q : Nat} (hf : P.funcs[f]? = some fn) (hb : fn.body.isSome = true) (hn : (fn.name == "runtime.NumGoroutine") = false) (hS : IndexFn P f q) (hgl : ρ.gl = gl) (ht : NumG gl q) : PrimOK P ρ B f pIndex := by
  intro args h n v h1 n1 hx φ w xs g hr
  have hg : (pIndex args h n).good := by rw [hx]; trivial
  unfold pIndex at hx hg
  obtain ⟨x, l, rfl, q1⟩ := unK_good hg
  rw [q1] at hx hg
  obtain ⟨y, l, rfl, q2⟩ := unK_good hg
  rw [q2] at hx hg
  obtain ⟨rfl, q3⟩ := nlK_good hg
  rw [q3] at hx
  obtain ⟨m, c, ex1, hx1⟩ := asStr_rv hx
  obtain ⟨n2, c2, ex2, hx2⟩ := asStr_rv hx1
  subst ex1 ex2
  clear hx hx1 hg q1 q2 q3
  obtain ⟨hm, hx⟩ := br_rv hx2
  clear hx2
  rw [forceN_eq] at hx
  have hm := ble_iff.1 hm
  obtain ⟨x1, ys, hxs, hr1, hr⟩ := rels_cons.1 hr
  obtain ⟨x2, ys, rfl, hr2, hr⟩ := rels_cons.1 hr
  obtain rfl := rels_nil.1 hr
  obtain ⟨s, rfl, hsz, hc⟩ := (by simpa only [rel] using hr1 : ∃ s : ByteArray, x1 = .string s ∧ s.size = m ∧ encL s.data.toList = c)
  obtain ⟨s2, rfl, hsz2, hc2⟩ := (by simpa only [rel] using hr2 : ∃ s : ByteArray, x2 = .string s ∧ s.size = n2 ∧ encL s.data.toList = c2)
  obtain rfl : xs = #[.string s, .string s2] := by cases xs; simp at hxs; simp [hxs]
  obtain ⟨mm, hcell⟩ := ht.cell hgl g
  obtain ⟨cd, hcd⟩ := Option.isSome_iff_exists.1 hb
  have hl : s.data.toList.length = m := by rw [← hsz]; rfl
  have hl2 : s2.data.toList.length = n2 := by rw [← hsz2]; rfl
  refine runs_of_calls hf hcd hn ((hS s s2 mm w (by omega) hcell).mono fun e w' ⟨he, hw⟩ => ⟨_, he, ?_⟩)
  subst hw
  refine ⟨φ, ?_⟩
  generalize hQ : Lib.index s.data.toList s2.data.toList = Q at *
  have hge := Lib.index_ge s.data.toList s2.data.toList
  rw [hQ] at hge
  have key : Nat.succ m - n2 + n2 = m + 1 → _ := fun e => ixtK_eq s2.data.toList (Nat.sub (Nat.succ m) n2) s.data.toList 0 (fun i => .rv (.int .i64 i) h n) (.rv (.int .i64 18446744073709551615) h n) (by rw [hl, hl2]; exact e)
  have hle : Q ≤ (m : Int) := by
    rw [← hQ, ← hl]
    generalize s.data.toList = l
    generalize s2.data.toList = sub
    induction l with
    | nil => unfold Lib.index; split <;> simp
    | cons x l ih =>
      unfold Lib.index
      simp only [List.length_cons]
      split
      · omega
      · split <;> omega
  have hx : (if Q = -1 then (.rv (.int .i64 18446744073709551615) h n : R) else .rv (.int .i64 (0 + Q.toNat)) h n) = .rv v h1 n1 := by
    by_cases hle2 : n2 ≤ m + 1
    · rw [← hx, ← hc, ← hc2]
      have := key (by omega)
      rw [hl2, hQ] at this
      exact this.symm
    · have e0 : Nat.sub (Nat.succ m) n2 = 0 := by show m + 1 - n2 = 0; omega
      rw [e0] at hx
      have : Q = -1 := by rw [← hQ]; exact index_short (by omega)
      rw [if_pos this]
      exact hx
  by_cases hq : Q = -1
  · rw [if_pos hq] at hx
    simp only [R.rv.injEq] at hx
    obtain ⟨rfl, rfl, rfl⟩ := hx
    refine ⟨Fr.refl _ _ _ _, g, ?_⟩
    simp only [rel]
    subst hq
    exact ⟨by decide, by simp [dec, Hk, Mk]⟩
  · rw [if_neg hq] at hx
    simp only [R.rv.injEq] at hx
    obtain ⟨rfl, rfl, rfl⟩ := hx
    refine ⟨Fr.refl _ _ _ _, g, ?_⟩
    simp only [rel]
    refine ⟨by simp only [Mk]; omega, ?_⟩
    rw [dec_nonneg (by simp only [Hk]; omega)]
    congr 1; omega
/-- The shape of a world gives it. -/
theorem NumG.of {w : World} {l : List Nat} {g : Nat} (hl : g ∈ l) (h : ∃ m, w.cell? ⟨g, 0, none⟩ = some (.int .i64 m)) : NumG (glOf w l) g := by
  obtain ⟨m, hm⟩ := h
  obtain ⟨b, o, c, e, fr, ea, hw, hc⟩ := cell_block hm
  cases ea
  exact ⟨c, m, e, fr, glOf_some hl hw, hc⟩
end
end Go.Ev
