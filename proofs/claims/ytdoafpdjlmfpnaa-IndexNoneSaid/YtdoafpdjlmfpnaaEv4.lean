/- AN EVALUATOR OF THE MODEL OF Go, PROVED SOUND, PART 4: what it says of a call holds in every world, on every tape. Conditions: none of its own; each theorem bears its premises. -/
import Derived.Test.YtdoafpdjlmfpnaaEv3
set_option linter.unusedSimpArgs false
set_option linter.unusedVariables false
/- Calls as they are run. -/
namespace Go.Ev
set_option linter.unusedVariables false

/-- What a function is: code, or a step of the evaluator's own. -/
inductive Ent where
  | code (entry : List V → (S → R) → R) (body : CF2 → S → Heap → K4 → R) (res : S → Heap → K4 → R)
  | prim (p : Prim)
  | br (k : Nat) (entry : List V → (S → R) → R) (body : CF2 → S → Heap → K4 → R) (res : S → Heap → K4 → R)
abbrev OEnt := Option Ent
/-- .. run on what it can reach. -/
noncomputable def Ent.toBr (k : Nat) (e : Ent) : Ent := @Ent.rec (fun _ => Ent) (fun en bo re => .br k en bo re) (fun p => .prim p) (fun k en bo re => .br k en bo re) e
/-- Sixteen functions. -/
inductive FA where
  | mk (c0 c1 c2 c3 c4 c5 c6 c7 c8 c9 ca cb cc cd ce cf : OEnt)
noncomputable def FA.sel (d : D) (p : FA) : OEnt :=
  @FA.rec (fun _ => OEnt) (fun c0 c1 c2 c3 c4 c5 c6 c7 c8 c9 ca cb cc cd ce cf => @D.rec (fun _ => OEnt) c0 c1 c2 c3 c4 c5 c6 c7 c8 c9 ca cb cc cd ce cf d) p
noncomputable def fag0 (p : FA) (k : OEnt → R) : R := @FA.rec (fun _ => R) (fun c0 c1 c2 c3 c4 c5 c6 c7 c8 c9 ca cb cc cd ce cf => k c0) p
noncomputable def fag1 (p : FA) (k : OEnt → R) : R := @FA.rec (fun _ => R) (fun c0 c1 c2 c3 c4 c5 c6 c7 c8 c9 ca cb cc cd ce cf => k c1) p
noncomputable def fag2 (p : FA) (k : OEnt → R) : R := @FA.rec (fun _ => R) (fun c0 c1 c2 c3 c4 c5 c6 c7 c8 c9 ca cb cc cd ce cf => k c2) p
noncomputable def fag3 (p : FA) (k : OEnt → R) : R := @FA.rec (fun _ => R) (fun c0 c1 c2 c3 c4 c5 c6 c7 c8 c9 ca cb cc cd ce cf => k c3) p
noncomputable def fag4 (p : FA) (k : OEnt → R) : R := @FA.rec (fun _ => R) (fun c0 c1 c2 c3 c4 c5 c6 c7 c8 c9 ca cb cc cd ce cf => k c4) p
noncomputable def fag5 (p : FA) (k : OEnt → R) : R := @FA.rec (fun _ => R) (fun c0 c1 c2 c3 c4 c5 c6 c7 c8 c9 ca cb cc cd ce cf => k c5) p
noncomputable def fag6 (p : FA) (k : OEnt → R) : R := @FA.rec (fun _ => R) (fun c0 c1 c2 c3 c4 c5 c6 c7 c8 c9 ca cb cc cd ce cf => k c6) p
noncomputable def fag7 (p : FA) (k : OEnt → R) : R := @FA.rec (fun _ => R) (fun c0 c1 c2 c3 c4 c5 c6 c7 c8 c9 ca cb cc cd ce cf => k c7) p
noncomputable def fag8 (p : FA) (k : OEnt → R) : R := @FA.rec (fun _ => R) (fun c0 c1 c2 c3 c4 c5 c6 c7 c8 c9 ca cb cc cd ce cf => k c8) p
noncomputable def fag9 (p : FA) (k : OEnt → R) : R := @FA.rec (fun _ => R) (fun c0 c1 c2 c3 c4 c5 c6 c7 c8 c9 ca cb cc cd ce cf => k c9) p
noncomputable def fag10 (p : FA) (k : OEnt → R) : R := @FA.rec (fun _ => R) (fun c0 c1 c2 c3 c4 c5 c6 c7 c8 c9 ca cb cc cd ce cf => k ca) p
noncomputable def fag11 (p : FA) (k : OEnt → R) : R := @FA.rec (fun _ => R) (fun c0 c1 c2 c3 c4 c5 c6 c7 c8 c9 ca cb cc cd ce cf => k cb) p
noncomputable def fag12 (p : FA) (k : OEnt → R) : R := @FA.rec (fun _ => R) (fun c0 c1 c2 c3 c4 c5 c6 c7 c8 c9 ca cb cc cd ce cf => k cc) p
noncomputable def fag13 (p : FA) (k : OEnt → R) : R := @FA.rec (fun _ => R) (fun c0 c1 c2 c3 c4 c5 c6 c7 c8 c9 ca cb cc cd ce cf => k cd) p
noncomputable def fag14 (p : FA) (k : OEnt → R) : R := @FA.rec (fun _ => R) (fun c0 c1 c2 c3 c4 c5 c6 c7 c8 c9 ca cb cc cd ce cf => k ce) p
noncomputable def fag15 (p : FA) (k : OEnt → R) : R := @FA.rec (fun _ => R) (fun c0 c1 c2 c3 c4 c5 c6 c7 c8 c9 ca cb cc cd ce cf => k cf) p
noncomputable def FA.selK (d : D) : FA → (OEnt → R) → R :=
  @D.rec (fun _ => FA → (OEnt → R) → R) fag0 fag1 fag2 fag3 fag4 fag5 fag6 fag7 fag8 fag9 fag10 fag11 fag12 fag13 fag14 fag15 d
theorem FA.selK_eq (d : D) (p : FA) (k : OEnt → R) : FA.selK d p k = k (FA.sel d p) := by
  cases d <;> cases p <;> rfl
/-- Of those sixteen. -/
inductive FB where
  | mk (c0 c1 c2 c3 c4 c5 c6 c7 c8 c9 ca cb cc cd ce cf : FA)
noncomputable def FB.sel (d : D) (p : FB) : FA :=
  @FB.rec (fun _ => FA) (fun c0 c1 c2 c3 c4 c5 c6 c7 c8 c9 ca cb cc cd ce cf => @D.rec (fun _ => FA) c0 c1 c2 c3 c4 c5 c6 c7 c8 c9 ca cb cc cd ce cf d) p
noncomputable def fbg0 (p : FB) (k : FA → R) : R := @FB.rec (fun _ => R) (fun c0 c1 c2 c3 c4 c5 c6 c7 c8 c9 ca cb cc cd ce cf => k c0) p
noncomputable def fbg1 (p : FB) (k : FA → R) : R := @FB.rec (fun _ => R) (fun c0 c1 c2 c3 c4 c5 c6 c7 c8 c9 ca cb cc cd ce cf => k c1) p
noncomputable def fbg2 (p : FB) (k : FA → R) : R := @FB.rec (fun _ => R) (fun c0 c1 c2 c3 c4 c5 c6 c7 c8 c9 ca cb cc cd ce cf => k c2) p
noncomputable def fbg3 (p : FB) (k : FA → R) : R := @FB.rec (fun _ => R) (fun c0 c1 c2 c3 c4 c5 c6 c7 c8 c9 ca cb cc cd ce cf => k c3) p
noncomputable def fbg4 (p : FB) (k : FA → R) : R := @FB.rec (fun _ => R) (fun c0 c1 c2 c3 c4 c5 c6 c7 c8 c9 ca cb cc cd ce cf => k c4) p
noncomputable def fbg5 (p : FB) (k : FA → R) : R := @FB.rec (fun _ => R) (fun c0 c1 c2 c3 c4 c5 c6 c7 c8 c9 ca cb cc cd ce cf => k c5) p
noncomputable def fbg6 (p : FB) (k : FA → R) : R := @FB.rec (fun _ => R) (fun c0 c1 c2 c3 c4 c5 c6 c7 c8 c9 ca cb cc cd ce cf => k c6) p
noncomputable def fbg7 (p : FB) (k : FA → R) : R := @FB.rec (fun _ => R) (fun c0 c1 c2 c3 c4 c5 c6 c7 c8 c9 ca cb cc cd ce cf => k c7) p
noncomputable def fbg8 (p : FB) (k : FA → R) : R := @FB.rec (fun _ => R) (fun c0 c1 c2 c3 c4 c5 c6 c7 c8 c9 ca cb cc cd ce cf => k c8) p
noncomputable def fbg9 (p : FB) (k : FA → R) : R := @FB.rec (fun _ => R) (fun c0 c1 c2 c3 c4 c5 c6 c7 c8 c9 ca cb cc cd ce cf => k c9) p
noncomputable def fbg10 (p : FB) (k : FA → R) : R := @FB.rec (fun _ => R) (fun c0 c1 c2 c3 c4 c5 c6 c7 c8 c9 ca cb cc cd ce cf => k ca) p
noncomputable def fbg11 (p : FB) (k : FA → R) : R := @FB.rec (fun _ => R) (fun c0 c1 c2 c3 c4 c5 c6 c7 c8 c9 ca cb cc cd ce cf => k cb) p
noncomputable def fbg12 (p : FB) (k : FA → R) : R := @FB.rec (fun _ => R) (fun c0 c1 c2 c3 c4 c5 c6 c7 c8 c9 ca cb cc cd ce cf => k cc) p
noncomputable def fbg13 (p : FB) (k : FA → R) : R := @FB.rec (fun _ => R) (fun c0 c1 c2 c3 c4 c5 c6 c7 c8 c9 ca cb cc cd ce cf => k cd) p
noncomputable def fbg14 (p : FB) (k : FA → R) : R := @FB.rec (fun _ => R) (fun c0 c1 c2 c3 c4 c5 c6 c7 c8 c9 ca cb cc cd ce cf => k ce) p
noncomputable def fbg15 (p : FB) (k : FA → R) : R := @FB.rec (fun _ => R) (fun c0 c1 c2 c3 c4 c5 c6 c7 c8 c9 ca cb cc cd ce cf => k cf) p
noncomputable def FB.selK (d : D) : FB → (FA → R) → R :=
  @D.rec (fun _ => FB → (FA → R) → R) fbg0 fbg1 fbg2 fbg3 fbg4 fbg5 fbg6 fbg7 fbg8 fbg9 fbg10 fbg11 fbg12 fbg13 fbg14 fbg15 d
theorem FB.selK_eq (d : D) (p : FB) (k : FA → R) : FB.selK d p k = k (FB.sel d p) := by
  cases d <;> cases p <;> rfl
/-- The table of the functions. -/
inductive FC where
  | mk (c0 c1 c2 c3 c4 c5 c6 c7 c8 c9 ca cb cc cd ce cf : FB)
noncomputable def FC.sel (d : D) (p : FC) : FB :=
  @FC.rec (fun _ => FB) (fun c0 c1 c2 c3 c4 c5 c6 c7 c8 c9 ca cb cc cd ce cf => @D.rec (fun _ => FB) c0 c1 c2 c3 c4 c5 c6 c7 c8 c9 ca cb cc cd ce cf d) p
noncomputable def fcg0 (p : FC) (k : FB → R) : R := @FC.rec (fun _ => R) (fun c0 c1 c2 c3 c4 c5 c6 c7 c8 c9 ca cb cc cd ce cf => k c0) p
noncomputable def fcg1 (p : FC) (k : FB → R) : R := @FC.rec (fun _ => R) (fun c0 c1 c2 c3 c4 c5 c6 c7 c8 c9 ca cb cc cd ce cf => k c1) p
noncomputable def fcg2 (p : FC) (k : FB → R) : R := @FC.rec (fun _ => R) (fun c0 c1 c2 c3 c4 c5 c6 c7 c8 c9 ca cb cc cd ce cf => k c2) p
noncomputable def fcg3 (p : FC) (k : FB → R) : R := @FC.rec (fun _ => R) (fun c0 c1 c2 c3 c4 c5 c6 c7 c8 c9 ca cb cc cd ce cf => k c3) p
noncomputable def fcg4 (p : FC) (k : FB → R) : R := @FC.rec (fun _ => R) (fun c0 c1 c2 c3 c4 c5 c6 c7 c8 c9 ca cb cc cd ce cf => k c4) p
noncomputable def fcg5 (p : FC) (k : FB → R) : R := @FC.rec (fun _ => R) (fun c0 c1 c2 c3 c4 c5 c6 c7 c8 c9 ca cb cc cd ce cf => k c5) p
noncomputable def fcg6 (p : FC) (k : FB → R) : R := @FC.rec (fun _ => R) (fun c0 c1 c2 c3 c4 c5 c6 c7 c8 c9 ca cb cc cd ce cf => k c6) p
noncomputable def fcg7 (p : FC) (k : FB → R) : R := @FC.rec (fun _ => R) (fun c0 c1 c2 c3 c4 c5 c6 c7 c8 c9 ca cb cc cd ce cf => k c7) p
noncomputable def fcg8 (p : FC) (k : FB → R) : R := @FC.rec (fun _ => R) (fun c0 c1 c2 c3 c4 c5 c6 c7 c8 c9 ca cb cc cd ce cf => k c8) p
noncomputable def fcg9 (p : FC) (k : FB → R) : R := @FC.rec (fun _ => R) (fun c0 c1 c2 c3 c4 c5 c6 c7 c8 c9 ca cb cc cd ce cf => k c9) p
noncomputable def fcg10 (p : FC) (k : FB → R) : R := @FC.rec (fun _ => R) (fun c0 c1 c2 c3 c4 c5 c6 c7 c8 c9 ca cb cc cd ce cf => k ca) p
noncomputable def fcg11 (p : FC) (k : FB → R) : R := @FC.rec (fun _ => R) (fun c0 c1 c2 c3 c4 c5 c6 c7 c8 c9 ca cb cc cd ce cf => k cb) p
noncomputable def fcg12 (p : FC) (k : FB → R) : R := @FC.rec (fun _ => R) (fun c0 c1 c2 c3 c4 c5 c6 c7 c8 c9 ca cb cc cd ce cf => k cc) p
noncomputable def fcg13 (p : FC) (k : FB → R) : R := @FC.rec (fun _ => R) (fun c0 c1 c2 c3 c4 c5 c6 c7 c8 c9 ca cb cc cd ce cf => k cd) p
noncomputable def fcg14 (p : FC) (k : FB → R) : R := @FC.rec (fun _ => R) (fun c0 c1 c2 c3 c4 c5 c6 c7 c8 c9 ca cb cc cd ce cf => k ce) p
noncomputable def fcg15 (p : FC) (k : FB → R) : R := @FC.rec (fun _ => R) (fun c0 c1 c2 c3 c4 c5 c6 c7 c8 c9 ca cb cc cd ce cf => k cf) p
noncomputable def FC.selK (d : D) : FC → (FB → R) → R :=
  @D.rec (fun _ => FC → (FB → R) → R) fcg0 fcg1 fcg2 fcg3 fcg4 fcg5 fcg6 fcg7 fcg8 fcg9 fcg10 fcg11 fcg12 fcg13 fcg14 fcg15 d
theorem FC.selK_eq (d : D) (p : FC) (k : FB → R) : FC.selK d p k = k (FC.sel d p) := by
  cases d <;> cases p <;> rfl
noncomputable def tabG (k : K3) (T : FC) : OEnt := FA.sel k.c (FB.sel k.b (FC.sel k.a T))
noncomputable def tabK (k : K3) (T : FC) (κ : OEnt → R) : R := @K3.rec (fun _ => R) (fun a b c => FC.selK a T fun x => FB.selK b x fun y => FA.selK c y κ) k
theorem tabK_eq (k : K3) (T : FC) (κ : OEnt → R) : tabK k T κ = κ (tabG k T) := by
  cases k; simp only [tabK, tabG, FC.selK_eq, FB.selK_eq, FA.selK_eq]
noncomputable def unK (l : List V) (κ : V → List V → R) : R := @List.rec V (fun _ => R) (.fail "arguments") (fun x xs _ => κ x xs) l
noncomputable def nlK (l : List V) (κ : R) : R := @List.rec V (fun _ => R) κ (fun _ _ _ => .fail "arguments") l
noncomputable abbrev arg2K (ps : List K2) : List V → Regs → (Regs → R) → R :=
  @List.rec K2 (fun _ => List V → Regs → (Regs → R) → R) (fun l t κ => nlK l (κ t)) (fun p _ ih l t κ => unK l fun v l => rput p t v fun t => ih l t κ) ps
theorem arg2K_eq : ∀ (ps : List K2) (l : List V) (t : Regs) (κ : Regs → R), arg2K ps l t κ = argK l ps t κ
  | [], l, t, κ => by cases l <;> rfl
  | p :: ps, l, t, κ => by
    cases l with
    | nil => rfl
    | cons v l =>
      show rput p t v (fun t => arg2K ps l t κ) = rput p t v fun t => argK l ps t κ
      rw [rput_eq, rput_eq, arg2K_eq]
noncomputable def retX (r : R) (res : S → Heap → K4 → R) : R :=
  @R.rec (fun _ => R) (fun e t h n => @Ex.rec (fun _ => R) (res t h n) (fun _ => .fail "exit") (res t h n) e) (fun _ _ _ => .fail "body") (fun w => .fail w) (fun _ _ a b => .both a b) r
noncomputable def entK (cf : CF2) (o : OEnt) (args : List V) (h : Heap) (n : K4) : R :=
  @Option.rec Ent (fun _ => R) (.fail "no such function") (fun e => @Ent.rec (fun _ => R) (fun entry body res => entry args fun t => retX (body cf t h n) res) (fun p => p args h n) (fun k entry body res => brK k (fun hs => entry args fun t => retX (body cf t hs n) res) args h n) e) o
/-- What a call comes to. -/
noncomputable def call2 (T : FC) (m : Nat) : CF2 :=
  @Nat.rec (fun _ => CF2) (fun _ _ _ _ => .fail "depth") (fun _ ih f args h n => tabK f T fun o => entK ih o args h n) m
/-- The kept registers out of all of them. -/
noncomputable abbrev toS (sm : SM) (t : Regs) : S := @List.rec (K2 × SL) (fun _ => S) sempty (fun x _ ih => S.put x.2 ih (rget x.1 t)) sm
theorem toS_get {t : Regs} : ∀ {sm : SM}, okSM sm = true → ∀ {p : K2} {s : SL}, findS p sm = some s → S.get s (toS sm t) = rget p t
  | [], _, p, s, h => by cases h
  | x :: l, hok, p, s, h => by
    simp only [okSM, Bool.and_eq_true] at hok
    have e1 : toS (x :: l) t = S.put x.2 (toS l t) (rget x.1 t) := rfl
    rw [e1]
    simp only [findS] at h
    cases hb : K2.beq x.1 p with
    | true =>
      rw [hb] at h
      have h : some x.2 = some s := h
      cases h
      rw [S.get_put_same, K2.beq_iff.1 hb]
    | false =>
      rw [hb] at h
      have h : findS p l = some s := h
      have hne : x.2 ≠ s := fun e => by
        have := List.all_eq_true.1 hok.1 _ (findS_mem h)
        rw [← e] at this
        simp [SL.beq, O8.beq_self, O4.beq_self] at this
      rw [S.get_put_ne _ _ hne]
      exact toS_get hok.2 h
noncomputable abbrev resV2 (sm : SM) (r : ARes) (t : S) (h : Heap) (κ : V → R) : R :=
  @ARes.rec (fun _ => R) (fun p => tellE sm [] t (.t p) κ) (fun p m => tellE sm [] t (.t p) fun v => asP v fun q off => obR q h fun cs _ _ =>
    @Option.rec Nat (fun _ => R) (getC cs off κ) (fun m => rangeC cs off m fun y => listC y fun l => κ (.agg l)) m) r
noncomputable abbrev resL2 (sm : SM) (rs : List ARes) (t : S) (h : Heap) : (List V → R) → R :=
  @List.rec ARes (fun _ => (List V → R) → R) (fun κ => κ []) (fun r _ ih κ => resV2 sm r t h fun v => ih fun vs => κ (v :: vs)) rs
noncomputable abbrev resK2 (sm : SM) (rs : List ARes) (t : S) (h : Heap) (n : K4) : R :=
  resL2 sm rs t h fun l => @List.rec V (fun _ => R) (.rv (.tup []) h n) (fun v vs _ => @List.rec V (fun _ => R) (.rv v h n) (fun _ _ _ => .rv (.tup l) h n) vs) l
/-- A function as it is run. -/
noncomputable abbrev denF (sm : SM) (a : AFn) : Ent := @AFn.rec (fun _ => Ent) (fun ps c rs => .code (fun l κ => arg2K ps l rempty fun t => κ (toS sm t)) (fun cf t h n => denK sm cf c r0 [] t h n) (fun t h n => resK2 sm rs t h n)) a
noncomputable def ARes.reg (r : ARes) : K2 := @ARes.rec (fun _ => K2) (fun p => p) (fun p _ => p) r
noncomputable def okF (sm : SM) (a : AFn) : Bool := okSM sm && (okK sm a.code (fun _ => true) [] && a.rs.all fun r => keepB sm r.reg)
noncomputable abbrev denO (sm : SM) (o : Option AFn) : OEnt := @Option.rec AFn (fun _ => OEnt) none (fun a => some (denF sm a)) o
noncomputable def okO (sm : SM) (o : Option AFn) : Bool := @Option.rec AFn (fun _ => Bool) false (fun a => okF sm a) o
section
variable {P : Program} {ρ : Nat → Value} {B : Nat}
/-- It is that function. -/
def EntOf (P : Program) (f : FuncId) (e : Ent) : Prop := ∃ sm : SM, denO sm (cFunc P f) = some e ∧ okO sm (cFunc P f) = true
theorem EntOf.mk {f : FuncId} {e : Ent} (sm : SM) (h : denO sm (cFunc P f) = some e) (k : okO sm (cFunc P f) = true) : EntOf P f e := ⟨sm, h, k⟩
/-- It is that function, run on what it can reach. -/
def BrOf (P : Program) (f : FuncId) (e : Ent) : Prop := ∃ k en bo re, e = .br k en bo re ∧ EntOf P f (.code en bo re)
def TabOK (P : Program) (ρ : Nat → Value) (B : Nat) (T : FC) : Prop := ∀ f e, tabG (fnKey f) T = some e → (EntOf P f e ∨ BrOf P f e) ∨ ∃ p, e = .prim p ∧ PrimOK P ρ B f p
/- Results from the registers that are kept. -/
theorem resV2_eq {sm : SM} {r : ARes} {t : Regs} {t' : S} (ri : RI sm [] [] t t') (hk : keepB sm r.reg = true) (hp : Heap) (κ : V → R) : resV2 sm r t' hp κ = resV r t hp κ := by
  have kn : ∀ p, keepB sm p = true → known sm [] p = true := fun p h => by unfold known; rw [h, Bool.or_true]
  cases r with
  | tmp p => show tellE sm [] t' (.t p) κ = rgetK p t κ; rw [ri.tell (kn p hk), rgetK_eq]
  | cel p m =>
    show tellE sm [] t' (.t p) _ = rgetK p t _
    rw [ri.tell (kn p hk), rgetK_eq, obR_eq]
theorem resL2_eq {sm : SM} {t : Regs} {t' : S} (ri : RI sm [] [] t t') {hp : Heap} : ∀ {rs : List ARes} {κ : List V → R}, (∀ r ∈ rs, keepB sm r.reg = true) → resL2 sm rs t' hp κ = resL rs t hp κ
  | [], κ, _ => rfl
  | r :: rs, κ, h => by
    have e1 : resL2 sm (r :: rs) t' hp κ = resV2 sm r t' hp fun v => resL2 sm rs t' hp fun vs => κ (v :: vs) := rfl
    have e2 : resL (r :: rs) t hp κ = resV r t hp fun v => resL rs t hp fun vs => κ (v :: vs) := rfl
    rw [e1, e2, resV2_eq ri (h r (List.mem_cons_self ..))]
    congr 1; funext v
    exact resL2_eq ri fun r hr => h r (List.mem_cons_of_mem _ hr)
theorem resK2_eq {sm : SM} {t : Regs} {t' : S} (ri : RI sm [] [] t t') {hp : Heap} {n : K4} {rs : List ARes} (h : ∀ r ∈ rs, keepB sm r.reg = true) : resK2 sm rs t' hp n = resK rs t hp n := resL2_eq ri h
/-- What is asked behind a body. -/
def RPost (res : S → Heap → K4 → R) (Φ : R → Prop) : R → Prop
  | .ok .nrm t h n => (res t h n).sat Φ
  | .ok .ret t h n => (res t h n).sat Φ
  | _ => False
theorem retX_sat {res : S → Heap → K4 → R} {Φ : R → Prop} : ∀ {r : R}, (retX r res).sat Φ → r.sat (RPost res Φ)
  | .ok e t h n, hs => by
    cases e with
    | nrm => exact hs
    | ret => exact hs
    | exit j => exact hs.elim
  | .rv _ _ _, hs => hs.elim
  | .fail _, hs => hs.elim
  | .both a b, hs => ⟨retX_sat (r := a) hs.1, retX_sat (r := b) hs.2⟩
theorem resV_nb {r : ARes} {t : Regs} {h : Heap} {κ : V → R} (hg : (resV r t h κ).good) : ∃ v, resV r t h κ = κ v := by
  cases r with
  | tmp p => exact ⟨_, rgetK_eq p t κ⟩
  | cel p m =>
    have e1 : resV (.cel p m) t h κ = asP (rget p t) fun q off => obK q h fun cs _ _ =>
        @Option.rec Nat (fun _ => R) (getC cs off κ) (fun m => rangeC cs off m fun y => listC y fun l => κ (.agg l)) m := rgetK_eq p t _
    rw [e1] at hg
    obtain ⟨q, off, hv, e2⟩ := asP_good hg
    rw [e2] at hg
    obtain ⟨cs, sup, prev, hq, e3⟩ := obK_good hg
    rw [e3] at hg
    cases m with
    | none =>
      obtain ⟨v, _, e4⟩ := getC_good (show R.good (getC cs off κ) from hg)
      exact ⟨v, e1.trans (e2.trans (e3.trans e4))⟩
    | some m =>
      obtain ⟨hle, y, hyl, hya, e4⟩ := rangeC_good (show R.good (rangeC cs off m fun y => listC y fun l => κ (.agg l)) from hg)
      obtain ⟨l, e5, _, _⟩ := listC_eq y fun l => κ (.agg l)
      exact ⟨.agg l, e1.trans (e2.trans (e3.trans (Eq.trans e4 e5)))⟩
theorem resL_nb : ∀ {rs : List ARes} {t : Regs} {h : Heap} {κ : List V → R}, (resL rs t h κ).good → ∃ vs, resL rs t h κ = κ vs
  | [], t, h, κ, _ => ⟨[], rfl⟩
  | r :: rs, t, h, κ, hg => by
    have hg : R.good (resV r t h fun v => resL rs t h fun vs => κ (v :: vs)) := hg
    obtain ⟨v, e1⟩ := resV_nb hg
    rw [e1] at hg
    obtain ⟨vs, e2⟩ := resL_nb hg
    exact ⟨v :: vs, Eq.trans e1 e2⟩
theorem resK_rv {rs : List ARes} {t : Regs} {h : Heap} {n : K4} (hg : (resK rs t h n).good) : ∃ v, resK rs t h n = .rv v h n := by
  obtain ⟨vs, e⟩ := resL_nb (show R.good (resL rs t h _) from hg)
  have e : resK rs t h n = _ := e
  match vs, e with
  | [], e => exact ⟨_, e⟩
  | [u], e => exact ⟨_, e⟩
  | u :: u' :: us, e => exact ⟨_, e⟩
theorem call_tree (hρ : OneSym ρ) (hm : P.follows .mixedOrders = true) {cf : CF} {cf2 : CF2} (hcf : CallOK P ρ B cf) (h2 : ∀ f, cf2 (fnKey f) = cf f) {f : FuncId} {e : Ent} (he : EntOf P f e) {args : List V} {h : Heap} {n : K4} {Φ : R → Prop}
    (hr : (entK cf2 (some e) args h n).sat Φ) {φ : Emb} {w : World} {xs : Array Value} (g : Gam ρ B h n φ w) (hxs : rels ρ φ args xs.toList) :
    Runs P f xs w fun x w' => ∃ v h1 n1 φ', Φ (.rv v h1 n1) ∧ Fr h h1 φ φ' n n1 w w' ∧ Gam ρ B h1 n1 φ' w' ∧ rel ρ φ' v x := by
  obtain ⟨sm, hd, hok⟩ := he
  cases hf : cFunc P f with
  | none => rw [hf] at hd; cases hd
  | some a =>
    rw [hf] at hd hok
    obtain ⟨fn, c, ps, rs, hfn, hb, hps, hrs, hname, rfl⟩ := cFunc_some hf
    have hd : some (Ent.code (fun l κ => arg2K ps l rempty fun t => κ (toS sm t)) (fun cf t h n => denK sm cf (cCode P fn.ntmps c) r0 [] t h n) (fun t h n => resK2 sm rs t h n)) = some e := hd
    cases hd
    have hok : (okSM sm && (okK sm (cCode P fn.ntmps c) (fun _ => true) [] && rs.all fun r => keepB sm r.reg)) = true := hok
    rw [Bool.and_eq_true, Bool.and_eq_true] at hok
    obtain ⟨hsm, hok⟩ := hok
    have inj : ∀ {p q s}, findS p sm = some s → findS q sm = some s → p = q := fun h h' => okSM_inj hsm h h'
    have hr : (arg2K ps args rempty (fun t => retX (denK sm cf2 (cCode P fn.ntmps c) r0 [] (toS sm t) h n) fun t h n => resK2 sm rs t h n)).sat Φ := hr
    rw [arg2K_eq] at hr
    obtain ⟨hlen, t0, e2, H0⟩ := argK_good (k := 0) (fun i s hi => by
      obtain ⟨hi', hi2⟩ := List.getElem?_eq_some_iff.1 hi
      simp at hi2; omega) hps (R.sat_good hr)
    rw [e2] at hr
    simp only [List.length_range] at hlen
    have hxl : xs.size = args.length := by have := rels_length hxs; simpa using this
    have hxN : xs.size ≤ fn.ntmps := by
      rcases Nat.eq_zero_or_pos xs.size with h0 | h0
      · omega
      · have := cSlots_lt hps (xs.size - 1) (List.mem_range.2 (by omega)); omega
    have hT : TR ρ fn.ntmps φ t0 { tmps := xs ++ Array.replicate (fn.ntmps - xs.size) undef, defers := [] } := {
      size := by simp; omega
      defers := rfl
      at_ := fun s p hs hp => by
        rw [H0 s p hp, if_pos (Nat.zero_le _), Nat.sub_zero, rget_rempty]
        show rel ρ φ _ ((xs ++ Array.replicate (fn.ntmps - xs.size) undef).getD s undef)
        rw [Array.getD_eq_getD_getElem?]
        by_cases hsx : s < xs.size
        · rw [Array.getElem?_append_left hsx]
          have hsa : s < args.length := by omega
          rw [List.getElem?_eq_getElem hsa]
          obtain ⟨x, hx, hrx⟩ := (rels_iff.1 hxs).2 s _ (List.getElem?_eq_getElem hsa)
          rw [Array.getElem?_toList] at hx
          rw [hx]; exact hrx
        · rw [Array.getElem?_append_right (by omega), Array.getElem?_replicate, if_pos (by omega), List.getElem?_eq_none (by omega)]
          exact rel_undef }
    have hx := retX_sat hr
    have hOK := (den_ok (N := fn.ntmps) (sm := sm) hρ hm hcf h2 c).join hok.1 (RI.start inj fun p s hs => toS_get hsm hs) hx
    intro o a K Q hK
    have hcf' : (callFunc f xs).run P w = .ok (.enter f xs) w := by
      have hname' : fn.name ≠ "runtime.NumGoroutine" := by simpa using hname
      simp [callFunc, hfn, hname', hb]
    rw [hcf']
    refine calls_of_wp hfn hb (hOK φ _ w hT g _ fun e t1 h2' n2 hres φ' a' w' tf f1 g1 T1 hk => ?_)
    have fin : (resK2 sm rs t1 h2' n2).sat Φ → ∃ X, (results fn a'.tmps).run P w' = .ok X w' ∧ K (a.put o.dst X) w' := fun hres => by
      rw [resK2_eq (RI.start inj hk) fun r hr => List.all_eq_true.1 hok.2 r hr] at hres
      obtain ⟨v, hv⟩ := resK_rv (R.sat_good hres)
      obtain ⟨_, _, Hres⟩ := resK_good (ρ := ρ) (B := B) hrs hv
      rw [hv] at hres
      obtain ⟨X, hX, hrX⟩ := Hres φ' a' w' T1 g1
      exact ⟨X, hX, hK X w' ⟨v, h2', n2, φ', hres, f1, g1, hrX⟩⟩
    cases e with
    | nrm => obtain ⟨X, hX, hKX⟩ := fin hres; exact ⟨T1.defers, X, hX, hKX⟩
    | exit id => exact hres.elim
    | ret => obtain ⟨X, hX, hKX⟩ := fin hres; exact ⟨T1.defers, X, hX, hKX⟩
theorem call_step (hρ : OneSym ρ) (hm : P.follows .mixedOrders = true) {cf : CF} {cf2 : CF2} (hcf : CallOK P ρ B cf) (h2 : ∀ f, cf2 (fnKey f) = cf f) {f : FuncId} {e : Ent} (he : EntOf P f e) {args : List V} {h : Heap} {n : K4} {v : V} {h1 : Heap} {n1 : K4}
    (hr : entK cf2 (some e) args h n = .rv v h1 n1) {φ : Emb} {w : World} {xs : Array Value} (g : Gam ρ B h n φ w) (hxs : rels ρ φ args xs.toList) :
    Runs P f xs w fun x w' => ∃ φ', Fr h h1 φ φ' n n1 w w' ∧ Gam ρ B h1 n1 φ' w' ∧ rel ρ φ' v x := by
  have := call_tree (Φ := fun r => r = .rv v h1 n1) hρ hm hcf h2 he (by rw [hr]; exact rfl) g hxs
  intro o a K Q hK
  refine this o a K Q fun x w' ⟨v', h', n', φ', e, f1, g1, r1⟩ => hK x w' ?_
  cases e
  exact ⟨φ', f1, g1, r1⟩
/-- THE CALL IS SOUND. -/
theorem call2_ok (hρ : OneSym ρ) (hm : P.follows .mixedOrders = true) {T : FC} (hT : TabOK P ρ B T) : ∀ m, CallOK P ρ B fun f => call2 T m (fnKey f) := by
  intro m
  induction m with
  | zero => intro f args h n v h1 n1 hr; cases hr
  | succ m ih =>
    intro f args h n v h1 n1 hr φ w xs g hxs
    have e1 : call2 T (m + 1) (fnKey f) args h n = entK (call2 T m) (tabG (fnKey f) T) args h n := tabK_eq (fnKey f) T fun o => entK (call2 T m) o args h n
    have hr : call2 T (m + 1) (fnKey f) args h n = .rv v h1 n1 := hr
    rw [e1] at hr
    cases ho : tabG (fnKey f) T with
    | none => rw [ho] at hr; cases hr
    | some e =>
      rw [ho] at hr
      rcases hT f e ho with (he | ⟨k, en, bo, re, rfl, he⟩) | ⟨p, rfl, hp⟩
      · exact call_step hρ hm ih (fun _ => rfl) he hr g hxs
      · exact brK_ok hr g hxs fun hs Φ hsat gs => call_tree hρ hm ih (fun _ => rfl) he (h := hs) hsat gs hxs
      · exact hp args h n v h1 n1 hr φ w xs g hxs
end
end Go.Ev

/- Short words for a program's functions as they are run; the table of a whole program. -/
namespace Go.Ev
open Go.RowKit
set_option linter.unusedVariables false

noncomputable abbrev gdX (w : Bool) (v : V) (h : Heap) (n : K4) (F : KV → R) (κ : KV) : R := gd w v F κ h n
noncomputable abbrev rvV (v : V) : R := .rv v hempty ⟨.d0, .d0, .d0, .d0⟩
noncomputable abbrev alY (b : K4) (j : D) (h : Heap) (F : K4 → R) (κ : KV) : R := b.at j fun r => hgetR r h fun x => freeK x (atK (F r) κ)
noncomputable abbrev alX (b : K4) (j : D) (h : Heap) (F : K4 → R) (κ : V → Heap → R) : R := alY b j h F fun v h _ => κ v h
noncomputable abbrev noX (b : K4) (j : D) (h : Heap) (κ : R) : R := b.at j fun r => hgetR r h fun x => freeK x κ
noncomputable abbrev rnX (b : K4) (j : D) (h : Heap) (F : Heap → R) (κ : V → R) : R := b.at j fun r => hgetR r h fun x => obS x fun ob => hputR r hempty (some ob) fun hx => atV (F hx) κ
noncomputable abbrev celK (v : V) (h : Heap) (κ : V → R) : R := asP v fun q off => obR q h fun cs _ _ => getC cs off κ
noncomputable abbrev celN (m : Nat) (v : V) (h : Heap) (κ : V → R) : R := asP v fun q off => obR q h fun cs _ _ => rangeC cs off m fun y => listC y fun l => κ (.agg l)
abbrev U : V := undV
abbrev Q0 : SQ := .mk U U U U

noncomputable abbrev g0 (t : S) (k : V → R) : R := @S.rec (fun _ => R) (fun c0 c1 c2 c3 c4 c5 c6 c7 => @SQ.rec (fun _ => R) (fun d0 d1 d2 d3 => k d0) c0) t
noncomputable abbrev w0 (t : S) (v : V) (k : S → R) : R := @S.rec (fun _ => R) (fun c0 c1 c2 c3 c4 c5 c6 c7 => @SQ.rec (fun _ => R) (fun d0 d1 d2 d3 => k (.mk (.mk v d1 d2 d3) c1 c2 c3 c4 c5 c6 c7)) c0) t
noncomputable abbrev g1 (t : S) (k : V → R) : R := @S.rec (fun _ => R) (fun c0 c1 c2 c3 c4 c5 c6 c7 => @SQ.rec (fun _ => R) (fun d0 d1 d2 d3 => k d1) c0) t
noncomputable abbrev w1 (t : S) (v : V) (k : S → R) : R := @S.rec (fun _ => R) (fun c0 c1 c2 c3 c4 c5 c6 c7 => @SQ.rec (fun _ => R) (fun d0 d1 d2 d3 => k (.mk (.mk d0 v d2 d3) c1 c2 c3 c4 c5 c6 c7)) c0) t
noncomputable abbrev g2 (t : S) (k : V → R) : R := @S.rec (fun _ => R) (fun c0 c1 c2 c3 c4 c5 c6 c7 => @SQ.rec (fun _ => R) (fun d0 d1 d2 d3 => k d2) c0) t
noncomputable abbrev w2 (t : S) (v : V) (k : S → R) : R := @S.rec (fun _ => R) (fun c0 c1 c2 c3 c4 c5 c6 c7 => @SQ.rec (fun _ => R) (fun d0 d1 d2 d3 => k (.mk (.mk d0 d1 v d3) c1 c2 c3 c4 c5 c6 c7)) c0) t
noncomputable abbrev g3 (t : S) (k : V → R) : R := @S.rec (fun _ => R) (fun c0 c1 c2 c3 c4 c5 c6 c7 => @SQ.rec (fun _ => R) (fun d0 d1 d2 d3 => k d3) c0) t
noncomputable abbrev w3 (t : S) (v : V) (k : S → R) : R := @S.rec (fun _ => R) (fun c0 c1 c2 c3 c4 c5 c6 c7 => @SQ.rec (fun _ => R) (fun d0 d1 d2 d3 => k (.mk (.mk d0 d1 d2 v) c1 c2 c3 c4 c5 c6 c7)) c0) t
noncomputable abbrev g4 (t : S) (k : V → R) : R := @S.rec (fun _ => R) (fun c0 c1 c2 c3 c4 c5 c6 c7 => @SQ.rec (fun _ => R) (fun d0 d1 d2 d3 => k d0) c1) t
noncomputable abbrev w4 (t : S) (v : V) (k : S → R) : R := @S.rec (fun _ => R) (fun c0 c1 c2 c3 c4 c5 c6 c7 => @SQ.rec (fun _ => R) (fun d0 d1 d2 d3 => k (.mk c0 (.mk v d1 d2 d3) c2 c3 c4 c5 c6 c7)) c1) t
noncomputable abbrev g5 (t : S) (k : V → R) : R := @S.rec (fun _ => R) (fun c0 c1 c2 c3 c4 c5 c6 c7 => @SQ.rec (fun _ => R) (fun d0 d1 d2 d3 => k d1) c1) t
noncomputable abbrev w5 (t : S) (v : V) (k : S → R) : R := @S.rec (fun _ => R) (fun c0 c1 c2 c3 c4 c5 c6 c7 => @SQ.rec (fun _ => R) (fun d0 d1 d2 d3 => k (.mk c0 (.mk d0 v d2 d3) c2 c3 c4 c5 c6 c7)) c1) t
noncomputable abbrev g6 (t : S) (k : V → R) : R := @S.rec (fun _ => R) (fun c0 c1 c2 c3 c4 c5 c6 c7 => @SQ.rec (fun _ => R) (fun d0 d1 d2 d3 => k d2) c1) t
noncomputable abbrev w6 (t : S) (v : V) (k : S → R) : R := @S.rec (fun _ => R) (fun c0 c1 c2 c3 c4 c5 c6 c7 => @SQ.rec (fun _ => R) (fun d0 d1 d2 d3 => k (.mk c0 (.mk d0 d1 v d3) c2 c3 c4 c5 c6 c7)) c1) t
noncomputable abbrev g7 (t : S) (k : V → R) : R := @S.rec (fun _ => R) (fun c0 c1 c2 c3 c4 c5 c6 c7 => @SQ.rec (fun _ => R) (fun d0 d1 d2 d3 => k d3) c1) t
noncomputable abbrev w7 (t : S) (v : V) (k : S → R) : R := @S.rec (fun _ => R) (fun c0 c1 c2 c3 c4 c5 c6 c7 => @SQ.rec (fun _ => R) (fun d0 d1 d2 d3 => k (.mk c0 (.mk d0 d1 d2 v) c2 c3 c4 c5 c6 c7)) c1) t
noncomputable abbrev g8 (t : S) (k : V → R) : R := @S.rec (fun _ => R) (fun c0 c1 c2 c3 c4 c5 c6 c7 => @SQ.rec (fun _ => R) (fun d0 d1 d2 d3 => k d0) c2) t
noncomputable abbrev w8 (t : S) (v : V) (k : S → R) : R := @S.rec (fun _ => R) (fun c0 c1 c2 c3 c4 c5 c6 c7 => @SQ.rec (fun _ => R) (fun d0 d1 d2 d3 => k (.mk c0 c1 (.mk v d1 d2 d3) c3 c4 c5 c6 c7)) c2) t
noncomputable abbrev g9 (t : S) (k : V → R) : R := @S.rec (fun _ => R) (fun c0 c1 c2 c3 c4 c5 c6 c7 => @SQ.rec (fun _ => R) (fun d0 d1 d2 d3 => k d1) c2) t
noncomputable abbrev w9 (t : S) (v : V) (k : S → R) : R := @S.rec (fun _ => R) (fun c0 c1 c2 c3 c4 c5 c6 c7 => @SQ.rec (fun _ => R) (fun d0 d1 d2 d3 => k (.mk c0 c1 (.mk d0 v d2 d3) c3 c4 c5 c6 c7)) c2) t
noncomputable abbrev g10 (t : S) (k : V → R) : R := @S.rec (fun _ => R) (fun c0 c1 c2 c3 c4 c5 c6 c7 => @SQ.rec (fun _ => R) (fun d0 d1 d2 d3 => k d2) c2) t
noncomputable abbrev w10 (t : S) (v : V) (k : S → R) : R := @S.rec (fun _ => R) (fun c0 c1 c2 c3 c4 c5 c6 c7 => @SQ.rec (fun _ => R) (fun d0 d1 d2 d3 => k (.mk c0 c1 (.mk d0 d1 v d3) c3 c4 c5 c6 c7)) c2) t
noncomputable abbrev g11 (t : S) (k : V → R) : R := @S.rec (fun _ => R) (fun c0 c1 c2 c3 c4 c5 c6 c7 => @SQ.rec (fun _ => R) (fun d0 d1 d2 d3 => k d3) c2) t
noncomputable abbrev w11 (t : S) (v : V) (k : S → R) : R := @S.rec (fun _ => R) (fun c0 c1 c2 c3 c4 c5 c6 c7 => @SQ.rec (fun _ => R) (fun d0 d1 d2 d3 => k (.mk c0 c1 (.mk d0 d1 d2 v) c3 c4 c5 c6 c7)) c2) t
noncomputable abbrev g12 (t : S) (k : V → R) : R := @S.rec (fun _ => R) (fun c0 c1 c2 c3 c4 c5 c6 c7 => @SQ.rec (fun _ => R) (fun d0 d1 d2 d3 => k d0) c3) t
noncomputable abbrev w12 (t : S) (v : V) (k : S → R) : R := @S.rec (fun _ => R) (fun c0 c1 c2 c3 c4 c5 c6 c7 => @SQ.rec (fun _ => R) (fun d0 d1 d2 d3 => k (.mk c0 c1 c2 (.mk v d1 d2 d3) c4 c5 c6 c7)) c3) t
noncomputable abbrev g13 (t : S) (k : V → R) : R := @S.rec (fun _ => R) (fun c0 c1 c2 c3 c4 c5 c6 c7 => @SQ.rec (fun _ => R) (fun d0 d1 d2 d3 => k d1) c3) t
noncomputable abbrev w13 (t : S) (v : V) (k : S → R) : R := @S.rec (fun _ => R) (fun c0 c1 c2 c3 c4 c5 c6 c7 => @SQ.rec (fun _ => R) (fun d0 d1 d2 d3 => k (.mk c0 c1 c2 (.mk d0 v d2 d3) c4 c5 c6 c7)) c3) t
noncomputable abbrev g14 (t : S) (k : V → R) : R := @S.rec (fun _ => R) (fun c0 c1 c2 c3 c4 c5 c6 c7 => @SQ.rec (fun _ => R) (fun d0 d1 d2 d3 => k d2) c3) t
noncomputable abbrev w14 (t : S) (v : V) (k : S → R) : R := @S.rec (fun _ => R) (fun c0 c1 c2 c3 c4 c5 c6 c7 => @SQ.rec (fun _ => R) (fun d0 d1 d2 d3 => k (.mk c0 c1 c2 (.mk d0 d1 v d3) c4 c5 c6 c7)) c3) t
noncomputable abbrev g15 (t : S) (k : V → R) : R := @S.rec (fun _ => R) (fun c0 c1 c2 c3 c4 c5 c6 c7 => @SQ.rec (fun _ => R) (fun d0 d1 d2 d3 => k d3) c3) t
noncomputable abbrev w15 (t : S) (v : V) (k : S → R) : R := @S.rec (fun _ => R) (fun c0 c1 c2 c3 c4 c5 c6 c7 => @SQ.rec (fun _ => R) (fun d0 d1 d2 d3 => k (.mk c0 c1 c2 (.mk d0 d1 d2 v) c4 c5 c6 c7)) c3) t
noncomputable abbrev g16 (t : S) (k : V → R) : R := @S.rec (fun _ => R) (fun c0 c1 c2 c3 c4 c5 c6 c7 => @SQ.rec (fun _ => R) (fun d0 d1 d2 d3 => k d0) c4) t
noncomputable abbrev w16 (t : S) (v : V) (k : S → R) : R := @S.rec (fun _ => R) (fun c0 c1 c2 c3 c4 c5 c6 c7 => @SQ.rec (fun _ => R) (fun d0 d1 d2 d3 => k (.mk c0 c1 c2 c3 (.mk v d1 d2 d3) c5 c6 c7)) c4) t
noncomputable abbrev g17 (t : S) (k : V → R) : R := @S.rec (fun _ => R) (fun c0 c1 c2 c3 c4 c5 c6 c7 => @SQ.rec (fun _ => R) (fun d0 d1 d2 d3 => k d1) c4) t
noncomputable abbrev w17 (t : S) (v : V) (k : S → R) : R := @S.rec (fun _ => R) (fun c0 c1 c2 c3 c4 c5 c6 c7 => @SQ.rec (fun _ => R) (fun d0 d1 d2 d3 => k (.mk c0 c1 c2 c3 (.mk d0 v d2 d3) c5 c6 c7)) c4) t
noncomputable abbrev g18 (t : S) (k : V → R) : R := @S.rec (fun _ => R) (fun c0 c1 c2 c3 c4 c5 c6 c7 => @SQ.rec (fun _ => R) (fun d0 d1 d2 d3 => k d2) c4) t
noncomputable abbrev w18 (t : S) (v : V) (k : S → R) : R := @S.rec (fun _ => R) (fun c0 c1 c2 c3 c4 c5 c6 c7 => @SQ.rec (fun _ => R) (fun d0 d1 d2 d3 => k (.mk c0 c1 c2 c3 (.mk d0 d1 v d3) c5 c6 c7)) c4) t
noncomputable abbrev g19 (t : S) (k : V → R) : R := @S.rec (fun _ => R) (fun c0 c1 c2 c3 c4 c5 c6 c7 => @SQ.rec (fun _ => R) (fun d0 d1 d2 d3 => k d3) c4) t
noncomputable abbrev w19 (t : S) (v : V) (k : S → R) : R := @S.rec (fun _ => R) (fun c0 c1 c2 c3 c4 c5 c6 c7 => @SQ.rec (fun _ => R) (fun d0 d1 d2 d3 => k (.mk c0 c1 c2 c3 (.mk d0 d1 d2 v) c5 c6 c7)) c4) t
noncomputable abbrev g20 (t : S) (k : V → R) : R := @S.rec (fun _ => R) (fun c0 c1 c2 c3 c4 c5 c6 c7 => @SQ.rec (fun _ => R) (fun d0 d1 d2 d3 => k d0) c5) t
noncomputable abbrev w20 (t : S) (v : V) (k : S → R) : R := @S.rec (fun _ => R) (fun c0 c1 c2 c3 c4 c5 c6 c7 => @SQ.rec (fun _ => R) (fun d0 d1 d2 d3 => k (.mk c0 c1 c2 c3 c4 (.mk v d1 d2 d3) c6 c7)) c5) t
noncomputable abbrev g21 (t : S) (k : V → R) : R := @S.rec (fun _ => R) (fun c0 c1 c2 c3 c4 c5 c6 c7 => @SQ.rec (fun _ => R) (fun d0 d1 d2 d3 => k d1) c5) t
noncomputable abbrev w21 (t : S) (v : V) (k : S → R) : R := @S.rec (fun _ => R) (fun c0 c1 c2 c3 c4 c5 c6 c7 => @SQ.rec (fun _ => R) (fun d0 d1 d2 d3 => k (.mk c0 c1 c2 c3 c4 (.mk d0 v d2 d3) c6 c7)) c5) t
noncomputable abbrev g22 (t : S) (k : V → R) : R := @S.rec (fun _ => R) (fun c0 c1 c2 c3 c4 c5 c6 c7 => @SQ.rec (fun _ => R) (fun d0 d1 d2 d3 => k d2) c5) t
noncomputable abbrev w22 (t : S) (v : V) (k : S → R) : R := @S.rec (fun _ => R) (fun c0 c1 c2 c3 c4 c5 c6 c7 => @SQ.rec (fun _ => R) (fun d0 d1 d2 d3 => k (.mk c0 c1 c2 c3 c4 (.mk d0 d1 v d3) c6 c7)) c5) t
noncomputable abbrev g23 (t : S) (k : V → R) : R := @S.rec (fun _ => R) (fun c0 c1 c2 c3 c4 c5 c6 c7 => @SQ.rec (fun _ => R) (fun d0 d1 d2 d3 => k d3) c5) t
noncomputable abbrev w23 (t : S) (v : V) (k : S → R) : R := @S.rec (fun _ => R) (fun c0 c1 c2 c3 c4 c5 c6 c7 => @SQ.rec (fun _ => R) (fun d0 d1 d2 d3 => k (.mk c0 c1 c2 c3 c4 (.mk d0 d1 d2 v) c6 c7)) c5) t
noncomputable abbrev g24 (t : S) (k : V → R) : R := @S.rec (fun _ => R) (fun c0 c1 c2 c3 c4 c5 c6 c7 => @SQ.rec (fun _ => R) (fun d0 d1 d2 d3 => k d0) c6) t
noncomputable abbrev w24 (t : S) (v : V) (k : S → R) : R := @S.rec (fun _ => R) (fun c0 c1 c2 c3 c4 c5 c6 c7 => @SQ.rec (fun _ => R) (fun d0 d1 d2 d3 => k (.mk c0 c1 c2 c3 c4 c5 (.mk v d1 d2 d3) c7)) c6) t
noncomputable abbrev g25 (t : S) (k : V → R) : R := @S.rec (fun _ => R) (fun c0 c1 c2 c3 c4 c5 c6 c7 => @SQ.rec (fun _ => R) (fun d0 d1 d2 d3 => k d1) c6) t
noncomputable abbrev w25 (t : S) (v : V) (k : S → R) : R := @S.rec (fun _ => R) (fun c0 c1 c2 c3 c4 c5 c6 c7 => @SQ.rec (fun _ => R) (fun d0 d1 d2 d3 => k (.mk c0 c1 c2 c3 c4 c5 (.mk d0 v d2 d3) c7)) c6) t
noncomputable abbrev g26 (t : S) (k : V → R) : R := @S.rec (fun _ => R) (fun c0 c1 c2 c3 c4 c5 c6 c7 => @SQ.rec (fun _ => R) (fun d0 d1 d2 d3 => k d2) c6) t
noncomputable abbrev w26 (t : S) (v : V) (k : S → R) : R := @S.rec (fun _ => R) (fun c0 c1 c2 c3 c4 c5 c6 c7 => @SQ.rec (fun _ => R) (fun d0 d1 d2 d3 => k (.mk c0 c1 c2 c3 c4 c5 (.mk d0 d1 v d3) c7)) c6) t
noncomputable abbrev g27 (t : S) (k : V → R) : R := @S.rec (fun _ => R) (fun c0 c1 c2 c3 c4 c5 c6 c7 => @SQ.rec (fun _ => R) (fun d0 d1 d2 d3 => k d3) c6) t
noncomputable abbrev w27 (t : S) (v : V) (k : S → R) : R := @S.rec (fun _ => R) (fun c0 c1 c2 c3 c4 c5 c6 c7 => @SQ.rec (fun _ => R) (fun d0 d1 d2 d3 => k (.mk c0 c1 c2 c3 c4 c5 (.mk d0 d1 d2 v) c7)) c6) t
noncomputable abbrev g28 (t : S) (k : V → R) : R := @S.rec (fun _ => R) (fun c0 c1 c2 c3 c4 c5 c6 c7 => @SQ.rec (fun _ => R) (fun d0 d1 d2 d3 => k d0) c7) t
noncomputable abbrev w28 (t : S) (v : V) (k : S → R) : R := @S.rec (fun _ => R) (fun c0 c1 c2 c3 c4 c5 c6 c7 => @SQ.rec (fun _ => R) (fun d0 d1 d2 d3 => k (.mk c0 c1 c2 c3 c4 c5 c6 (.mk v d1 d2 d3))) c7) t
noncomputable abbrev g29 (t : S) (k : V → R) : R := @S.rec (fun _ => R) (fun c0 c1 c2 c3 c4 c5 c6 c7 => @SQ.rec (fun _ => R) (fun d0 d1 d2 d3 => k d1) c7) t
noncomputable abbrev w29 (t : S) (v : V) (k : S → R) : R := @S.rec (fun _ => R) (fun c0 c1 c2 c3 c4 c5 c6 c7 => @SQ.rec (fun _ => R) (fun d0 d1 d2 d3 => k (.mk c0 c1 c2 c3 c4 c5 c6 (.mk d0 v d2 d3))) c7) t
noncomputable abbrev g30 (t : S) (k : V → R) : R := @S.rec (fun _ => R) (fun c0 c1 c2 c3 c4 c5 c6 c7 => @SQ.rec (fun _ => R) (fun d0 d1 d2 d3 => k d2) c7) t
noncomputable abbrev w30 (t : S) (v : V) (k : S → R) : R := @S.rec (fun _ => R) (fun c0 c1 c2 c3 c4 c5 c6 c7 => @SQ.rec (fun _ => R) (fun d0 d1 d2 d3 => k (.mk c0 c1 c2 c3 c4 c5 c6 (.mk d0 d1 v d3))) c7) t
noncomputable abbrev g31 (t : S) (k : V → R) : R := @S.rec (fun _ => R) (fun c0 c1 c2 c3 c4 c5 c6 c7 => @SQ.rec (fun _ => R) (fun d0 d1 d2 d3 => k d3) c7) t
noncomputable abbrev w31 (t : S) (v : V) (k : S → R) : R := @S.rec (fun _ => R) (fun c0 c1 c2 c3 c4 c5 c6 c7 => @SQ.rec (fun _ => R) (fun d0 d1 d2 d3 => k (.mk c0 c1 c2 c3 c4 c5 c6 (.mk d0 d1 d2 v))) c7) t
section
variable {P : Program} {ρ : Nat → Value} {B : Nat}
def EGood (P : Program) (ρ : Nat → Value) (B : Nat) (f : FuncId) (e : Ent) : Prop := (EntOf P f e ∨ BrOf P f e) ∨ ∃ p, e = .prim p ∧ PrimOK P ρ B f p
/-- What stands at a function's place in the table. -/
def OKO (P : Program) (ρ : Nat → Value) (B : Nat) (f : FuncId) (o : OEnt) : Prop := ∀ e, o = some e → EGood P ρ B f e
theorem OKO.no {f : FuncId} : OKO P ρ B f none := fun e h => by cases h
theorem OKO.fn {f : FuncId} {e : Ent} (h : EntOf P f e) : OKO P ρ B f (some e) := fun e' h' => by cases h'; exact .inl (.inl h)
theorem OKO.br {f : FuncId} {k : Nat} {en : List V → (S → R) → R} {bo : CF2 → S → Heap → K4 → R} {re : S → Heap → K4 → R} (h : EntOf P f (.code en bo re)) : OKO P ρ B f (some (.br k en bo re)) := fun e' h' => by cases h'; exact .inl (.inr ⟨k, en, bo, re, rfl, h⟩)
theorem OKO.brX {f : FuncId} {e : Ent} {k : Nat} (h : EntOf P f e) (he : ∃ en bo re, e = .code en bo re) : OKO P ρ B f (some (e.toBr k)) := by
  obtain ⟨en, bo, re, rfl⟩ := he
  exact OKO.br h
theorem OKO.pr {f : FuncId} {p : Prim} (h : PrimOK P ρ B f p) : OKO P ρ B f (some (.prim p)) := fun e' h' => by cases h'; exact .inr ⟨p, rfl, h⟩
def OKA (P : Program) (ρ : Nat → Value) (B : Nat) (base : Nat) (x : FA) : Prop := ∀ d, OKO P ρ B (base + d.toN) (FA.sel d x)
def OKB (P : Program) (ρ : Nat → Value) (B : Nat) (base : Nat) (x : FB) : Prop := ∀ d, OKA P ρ B (base + 16 * d.toN) (FB.sel d x)
theorem okA_mk {base : Nat} {c0 c1 c2 c3 c4 c5 c6 c7 c8 c9 ca cb cc cd ce cf : OEnt} (h0 : OKO P ρ B (base + 0) c0) (h1 : OKO P ρ B (base + 1) c1) (h2 : OKO P ρ B (base + 2) c2) (h3 : OKO P ρ B (base + 3) c3) (h4 : OKO P ρ B (base + 4) c4) (h5 : OKO P ρ B (base + 5) c5) (h6 : OKO P ρ B (base + 6) c6) (h7 : OKO P ρ B (base + 7) c7) (h8 : OKO P ρ B (base + 8) c8) (h9 : OKO P ρ B (base + 9) c9) (h10 : OKO P ρ B (base + 10) ca) (h11 : OKO P ρ B (base + 11) cb) (h12 : OKO P ρ B (base + 12) cc) (h13 : OKO P ρ B (base + 13) cd) (h14 : OKO P ρ B (base + 14) ce) (h15 : OKO P ρ B (base + 15) cf) : OKA P ρ B base (.mk c0 c1 c2 c3 c4 c5 c6 c7 c8 c9 ca cb cc cd ce cf) := fun d => by
  cases d
  · exact h0
  · exact h1
  · exact h2
  · exact h3
  · exact h4
  · exact h5
  · exact h6
  · exact h7
  · exact h8
  · exact h9
  · exact h10
  · exact h11
  · exact h12
  · exact h13
  · exact h14
  · exact h15
theorem okB_mk {base : Nat} {c0 c1 c2 c3 c4 c5 c6 c7 c8 c9 ca cb cc cd ce cf : FA} (h0 : OKA P ρ B (base + 16 * 0) c0) (h1 : OKA P ρ B (base + 16 * 1) c1) (h2 : OKA P ρ B (base + 16 * 2) c2) (h3 : OKA P ρ B (base + 16 * 3) c3) (h4 : OKA P ρ B (base + 16 * 4) c4) (h5 : OKA P ρ B (base + 16 * 5) c5) (h6 : OKA P ρ B (base + 16 * 6) c6) (h7 : OKA P ρ B (base + 16 * 7) c7) (h8 : OKA P ρ B (base + 16 * 8) c8) (h9 : OKA P ρ B (base + 16 * 9) c9) (h10 : OKA P ρ B (base + 16 * 10) ca) (h11 : OKA P ρ B (base + 16 * 11) cb) (h12 : OKA P ρ B (base + 16 * 12) cc) (h13 : OKA P ρ B (base + 16 * 13) cd) (h14 : OKA P ρ B (base + 16 * 14) ce) (h15 : OKA P ρ B (base + 16 * 15) cf) : OKB P ρ B base (.mk c0 c1 c2 c3 c4 c5 c6 c7 c8 c9 ca cb cc cd ce cf) := fun d => by
  cases d
  · exact h0
  · exact h1
  · exact h2
  · exact h3
  · exact h4
  · exact h5
  · exact h6
  · exact h7
  · exact h8
  · exact h9
  · exact h10
  · exact h11
  · exact h12
  · exact h13
  · exact h14
  · exact h15
def noA : FA := .mk none none none none none none none none none none none none none none none none
def noB : FB := .mk noA noA noA noA noA noA noA noA noA noA noA noA noA noA noA noA
theorem noA_sel (d : D) : FA.sel d noA = none := by cases d <;> rfl
theorem noB_sel (d : D) : FB.sel d noB = noA := by cases d <;> rfl
theorem okA_no {base : Nat} : OKA P ρ B base noA := fun d => by rw [noA_sel]; exact OKO.no
theorem okB_no {base : Nat} : OKB P ρ B base noB := fun d => by rw [noB_sel]; exact okA_no
theorem ofN_lt {x : Nat} {d : D} (h : D.ofN x = d) (hd : d ≠ .d15) : x = d.toN := by
  rcases Nat.lt_or_ge x 15 with hx | hx
  · rw [← h, D.toN_ofN x (by omega)]
  · exfalso
    obtain ⟨y, rfl⟩ : ∃ y, x = y + 15 := ⟨x - 15, by omega⟩
    exact hd h.symm
theorem okC_mk {c0 c1 c2 c3 c4 c5 c6 c7 c8 c9 ca cb cc cd ce : FB} (h0 : OKB P ρ B (256 * 0) c0) (h1 : OKB P ρ B (256 * 1) c1) (h2 : OKB P ρ B (256 * 2) c2) (h3 : OKB P ρ B (256 * 3) c3) (h4 : OKB P ρ B (256 * 4) c4) (h5 : OKB P ρ B (256 * 5) c5) (h6 : OKB P ρ B (256 * 6) c6) (h7 : OKB P ρ B (256 * 7) c7) (h8 : OKB P ρ B (256 * 8) c8) (h9 : OKB P ρ B (256 * 9) c9) (h10 : OKB P ρ B (256 * 10) ca) (h11 : OKB P ρ B (256 * 11) cb) (h12 : OKB P ρ B (256 * 12) cc) (h13 : OKB P ρ B (256 * 13) cd) (h14 : OKB P ρ B (256 * 14) ce) : TabOK P ρ B (.mk c0 c1 c2 c3 c4 c5 c6 c7 c8 c9 ca cb cc cd ce noB) := fun f e h => by
  have hc : (D.ofN (f % 16)).toN = f % 16 := D.toN_ofN _ (by omega)
  have hb : (D.ofN (f / 16 % 16)).toN = f / 16 % 16 := D.toN_ofN _ (by omega)
  have key : ∀ x : FB, OKB P ρ B (256 * (f / 256)) x → FA.sel (D.ofN (f % 16)) (FB.sel (D.ofN (f / 16 % 16)) x) = some e → EGood P ρ B f e := fun x hx hs => by
    have := hx (D.ofN (f / 16 % 16)) (D.ofN (f % 16)) e hs
    rw [hc, hb] at this
    have e1 : 256 * (f / 256) + 16 * (f / 16 % 16) + f % 16 = f := by omega
    rw [e1] at this; exact this
  have h : FA.sel (D.ofN (f % 16)) (FB.sel (D.ofN (f / 16 % 16)) (FC.sel (D.ofN (f / 256)) (.mk c0 c1 c2 c3 c4 c5 c6 c7 c8 c9 ca cb cc cd ce noB))) = some e := h
  generalize hd : D.ofN (f / 256) = d at h
  cases d
  · have := ofN_lt hd (by intro h; cases h); rw [show D.toN .d0 = 0 from rfl] at this; exact key c0 (by rw [this]; exact h0) h
  · have := ofN_lt hd (by intro h; cases h); rw [show D.toN .d1 = 1 from rfl] at this; exact key c1 (by rw [this]; exact h1) h
  · have := ofN_lt hd (by intro h; cases h); rw [show D.toN .d2 = 2 from rfl] at this; exact key c2 (by rw [this]; exact h2) h
  · have := ofN_lt hd (by intro h; cases h); rw [show D.toN .d3 = 3 from rfl] at this; exact key c3 (by rw [this]; exact h3) h
  · have := ofN_lt hd (by intro h; cases h); rw [show D.toN .d4 = 4 from rfl] at this; exact key c4 (by rw [this]; exact h4) h
  · have := ofN_lt hd (by intro h; cases h); rw [show D.toN .d5 = 5 from rfl] at this; exact key c5 (by rw [this]; exact h5) h
  · have := ofN_lt hd (by intro h; cases h); rw [show D.toN .d6 = 6 from rfl] at this; exact key c6 (by rw [this]; exact h6) h
  · have := ofN_lt hd (by intro h; cases h); rw [show D.toN .d7 = 7 from rfl] at this; exact key c7 (by rw [this]; exact h7) h
  · have := ofN_lt hd (by intro h; cases h); rw [show D.toN .d8 = 8 from rfl] at this; exact key c8 (by rw [this]; exact h8) h
  · have := ofN_lt hd (by intro h; cases h); rw [show D.toN .d9 = 9 from rfl] at this; exact key c9 (by rw [this]; exact h9) h
  · have := ofN_lt hd (by intro h; cases h); rw [show D.toN .d10 = 10 from rfl] at this; exact key ca (by rw [this]; exact h10) h
  · have := ofN_lt hd (by intro h; cases h); rw [show D.toN .d11 = 11 from rfl] at this; exact key cb (by rw [this]; exact h11) h
  · have := ofN_lt hd (by intro h; cases h); rw [show D.toN .d12 = 12 from rfl] at this; exact key cc (by rw [this]; exact h12) h
  · have := ofN_lt hd (by intro h; cases h); rw [show D.toN .d13 = 13 from rfl] at this; exact key cd (by rw [this]; exact h13) h
  · have := ofN_lt hd (by intro h; cases h); rw [show D.toN .d14 = 14 from rfl] at this; exact key ce (by rw [this]; exact h14) h
  · have h : FA.sel (D.ofN (f % 16)) (FB.sel (D.ofN (f / 16 % 16)) noB) = some e := h
    rw [noB_sel, noA_sel] at h; cases h
/-- A call that is evaluated to true, from values that the arguments tell of. -/
theorem law2_call (hρ : OneSym ρ) (hm : P.follows .mixedOrders = true) {T : FC} (hT : ∀ B, TabOK P ρ B T) {m : Nat} {f : FuncId} {fn : Func} {args : List V}
    (hf : P.funcs[f]? = some fn) (hb : fn.body.isSome = true) (hn : (fn.name == "runtime.NumGoroutine") = false) (hx : rTrue (call2 T m (fnKey f) args hempty n00) = true) {xs : Array Value} (hr : rels ρ (fun _ => none) args xs.toList) (w : World) :
    Calls P f xs w fun e w' => e = .returned (.bool true) ∧ Below w.heap.size w w' := by
  obtain ⟨h1, n1, hx⟩ := rTrue_rv hx
  obtain ⟨c, hc⟩ := Option.isSome_iff_exists.1 hb
  have := calls_of_runs (R := fun x w' => x = .bool true ∧ Below w.heap.size w w') hf hc (by simpa using hn) (fun o a K Q hK =>
    call2_ok (B := w.heap.size) hρ hm (hT _) m f args hempty n00 _ h1 n1 hx (fun _ => none) w xs (gam_start w n00) hr o a K Q fun x w' ⟨φ', f1, _, hr⟩ => hK x w' ⟨by simpa only [rel] using hr, below_of_fr f1⟩)
  refine this.mono fun e w' he => ?_
  cases e with
  | returned v => exact ⟨by rw [he.1], he.2⟩
  | _ => exact he.elim
end
end Go.Ev
