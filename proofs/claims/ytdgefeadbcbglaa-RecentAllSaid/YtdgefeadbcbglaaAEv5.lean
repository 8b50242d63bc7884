/- AN EVALUATOR OF THE MODEL OF Go, PROVED SOUND, PART 5: what it says of a call holds in every world, on every tape. Conditions: none of its own; each theorem bears its premises. -/
import Derived.Test.YtdgefeadbcbglaaAEv4
import Derived.ChangeSame
import Derived.Deep.Slices
import Derived.Shelf.SlSortCmp.WholeK
import Derived.Shelf.Strconv.Itoa1
import Derived.Shelf.Strings.OnBuilder
import Derived.Sort.Grow
import Derived.Sort.KeysCollected
import GoSem.ClaimGoes
noncomputable section
set_option linter.unusedSimpArgs false
set_option linter.unusedVariables false
namespace Go.Ev
set_option linter.unusedVariables false
/-- What a function is: code, or a step of the evaluator's own. -/
inductive Ent where
  | code (entry:List V->(S->R)->R) (body:FL->S->Heap->K4->R) (res:S->Heap->K4->R)
  | prim (p:Ma)
  | br (k:Nat) (entry:List V->(S->R)->R) (body:FL->S->Heap->K4->R) (res:S->Heap->K4->R)
  | ap (f:Nat) (its:List Nat) (rd:Rd)
  | tree (p:Ma)
abbrev Ds := Option Ent
/-- Sixteen functions. -/
inductive FA where
  | mk (A B C E F G I J L M N O P Q T U:Ds)
def FA.sel (d:D) (p:FA):Ds :=
  @FA.rec (fun _ => Ds) (fun A B C E F G I J L M N O P Q T U => @D.rec (fun _ => Ds) A B C E F G I J L M N O P Q T U d) p
def Af4 (p:FA) (k:Ds->R):R := @FA.rec (fun _ => R) (fun A B C E F G I J L M N O P Q T U => k A) p
def Aeu (p:FA) (k:Ds->R):R := @FA.rec (fun _ => R) (fun A B C E F G I J L M N O P Q T U => k B) p
def Ag5 (p:FA) (k:Ds->R):R := @FA.rec (fun _ => R) (fun A B C E F G I J L M N O P Q T U => k C) p
def Aih (p:FA) (k:Ds->R):R := @FA.rec (fun _ => R) (fun A B C E F G I J L M N O P Q T U => k E) p
def Ahw (p:FA) (k:Ds->R):R := @FA.rec (fun _ => R) (fun A B C E F G I J L M N O P Q T U => k F) p
def Aib (p:FA) (k:Ds->R):R := @FA.rec (fun _ => R) (fun A B C E F G I J L M N O P Q T U => k G) p
def Aiz (p:FA) (k:Ds->R):R := @FA.rec (fun _ => R) (fun A B C E F G I J L M N O P Q T U => k I) p
def Agh (p:FA) (k:Ds->R):R := @FA.rec (fun _ => R) (fun A B C E F G I J L M N O P Q T U => k J) p
def Ahf (p:FA) (k:Ds->R):R := @FA.rec (fun _ => R) (fun A B C E F G I J L M N O P Q T U => k L) p
def Ah6 (p:FA) (k:Ds->R):R := @FA.rec (fun _ => R) (fun A B C E F G I J L M N O P Q T U => k M) p
def Acp (p:FA) (k:Ds->R):R := @FA.rec (fun _ => R) (fun A B C E F G I J L M N O P Q T U => k N) p
def Ady (p:FA) (k:Ds->R):R := @FA.rec (fun _ => R) (fun A B C E F G I J L M N O P Q T U => k O) p
def Adk (p:FA) (k:Ds->R):R := @FA.rec (fun _ => R) (fun A B C E F G I J L M N O P Q T U => k P) p
def Adv (p:FA) (k:Ds->R):R := @FA.rec (fun _ => R) (fun A B C E F G I J L M N O P Q T U => k Q) p
def Ab6 (p:FA) (k:Ds->R):R := @FA.rec (fun _ => R) (fun A B C E F G I J L M N O P Q T U => k T) p
def Adx (p:FA) (k:Ds->R):R := @FA.rec (fun _ => R) (fun A B C E F G I J L M N O P Q T U => k U) p
def FA.selK (d:D):FA->(Ds->R)->R :=
  @D.rec (fun _ => FA->(Ds->R)->R) Af4 Aeu Ag5 Aih Ahw Aib Aiz Agh Ahf Ah6 Acp Ady Adk Adv Ab6 Adx d
theorem FA.selK_eq (d:D) (p:FA) (k:Ds->R):FA.selK d p k=k (FA.sel d p) := by
  cases d <;> cases p <;> rfl
/-- Of those sixteen. -/
inductive FB where
  | mk (A B C E F G I J L M N O P Q T U:FA)
def FB.sel (d:D) (p:FB):FA :=
  @FB.rec (fun _ => FA) (fun A B C E F G I J L M N O P Q T U => @D.rec (fun _ => FA) A B C E F G I J L M N O P Q T U d) p
def Agy (p:FB) (k:FA->R):R := @FB.rec (fun _ => R) (fun A B C E F G I J L M N O P Q T U => k A) p
def Af1 (p:FB) (k:FA->R):R := @FB.rec (fun _ => R) (fun A B C E F G I J L M N O P Q T U => k B) p
def Afc (p:FB) (k:FA->R):R := @FB.rec (fun _ => R) (fun A B C E F G I J L M N O P Q T U => k C) p
def Ag2 (p:FB) (k:FA->R):R := @FB.rec (fun _ => R) (fun A B C E F G I J L M N O P Q T U => k E) p
def Ai9 (p:FB) (k:FA->R):R := @FB.rec (fun _ => R) (fun A B C E F G I J L M N O P Q T U => k F) p
def Agz (p:FB) (k:FA->R):R := @FB.rec (fun _ => R) (fun A B C E F G I J L M N O P Q T U => k G) p
def Aiu (p:FB) (k:FA->R):R := @FB.rec (fun _ => R) (fun A B C E F G I J L M N O P Q T U => k I) p
def Af6 (p:FB) (k:FA->R):R := @FB.rec (fun _ => R) (fun A B C E F G I J L M N O P Q T U => k J) p
def Aep (p:FB) (k:FA->R):R := @FB.rec (fun _ => R) (fun A B C E F G I J L M N O P Q T U => k L) p
def Afv (p:FB) (k:FA->R):R := @FB.rec (fun _ => R) (fun A B C E F G I J L M N O P Q T U => k M) p
def Acd (p:FB) (k:FA->R):R := @FB.rec (fun _ => R) (fun A B C E F G I J L M N O P Q T U => k N) p
def Ab9 (p:FB) (k:FA->R):R := @FB.rec (fun _ => R) (fun A B C E F G I J L M N O P Q T U => k O) p
def Ac8 (p:FB) (k:FA->R):R := @FB.rec (fun _ => R) (fun A B C E F G I J L M N O P Q T U => k P) p
def Aaz (p:FB) (k:FA->R):R := @FB.rec (fun _ => R) (fun A B C E F G I J L M N O P Q T U => k Q) p
def Ad0 (p:FB) (k:FA->R):R := @FB.rec (fun _ => R) (fun A B C E F G I J L M N O P Q T U => k T) p
def Aby (p:FB) (k:FA->R):R := @FB.rec (fun _ => R) (fun A B C E F G I J L M N O P Q T U => k U) p
def FB.selK (d:D):FB->(FA->R)->R :=
  @D.rec (fun _ => FB->(FA->R)->R) Agy Af1 Afc Ag2 Ai9 Agz Aiu Af6 Aep Afv Acd Ab9 Ac8 Aaz Ad0 Aby d
theorem FB.selK_eq (d:D) (p:FB) (k:FA->R):FB.selK d p k=k (FB.sel d p) := by
  cases d <;> cases p <;> rfl
/-- The table of the functions. -/
inductive FC where
  | mk (A B C E F G I J L M N O P Q T U:FB)
def FC.sel (d:D) (p:FC):FB :=
  @FC.rec (fun _ => FB) (fun A B C E F G I J L M N O P Q T U => @D.rec (fun _ => FB) A B C E F G I J L M N O P Q T U d) p
def Agv (p:FC) (k:FB->R):R := @FC.rec (fun _ => R) (fun A B C E F G I J L M N O P Q T U => k A) p
def Ago (p:FC) (k:FB->R):R := @FC.rec (fun _ => R) (fun A B C E F G I J L M N O P Q T U => k B) p
def Aik (p:FC) (k:FB->R):R := @FC.rec (fun _ => R) (fun A B C E F G I J L M N O P Q T U => k C) p
def Aiv (p:FC) (k:FB->R):R := @FC.rec (fun _ => R) (fun A B C E F G I J L M N O P Q T U => k E) p
def Ai7 (p:FC) (k:FB->R):R := @FC.rec (fun _ => R) (fun A B C E F G I J L M N O P Q T U => k F) p
def Aio (p:FC) (k:FB->R):R := @FC.rec (fun _ => R) (fun A B C E F G I J L M N O P Q T U => k G) p
def Age (p:FC) (k:FB->R):R := @FC.rec (fun _ => R) (fun A B C E F G I J L M N O P Q T U => k I) p
def Ah8 (p:FC) (k:FB->R):R := @FC.rec (fun _ => R) (fun A B C E F G I J L M N O P Q T U => k J) p
def Aie (p:FC) (k:FB->R):R := @FC.rec (fun _ => R) (fun A B C E F G I J L M N O P Q T U => k L) p
def Afz (p:FC) (k:FB->R):R := @FC.rec (fun _ => R) (fun A B C E F G I J L M N O P Q T U => k M) p
def Ac9 (p:FC) (k:FB->R):R := @FC.rec (fun _ => R) (fun A B C E F G I J L M N O P Q T U => k N) p
def Abn (p:FC) (k:FB->R):R := @FC.rec (fun _ => R) (fun A B C E F G I J L M N O P Q T U => k O) p
def Ac5 (p:FC) (k:FB->R):R := @FC.rec (fun _ => R) (fun A B C E F G I J L M N O P Q T U => k P) p
def Acz (p:FC) (k:FB->R):R := @FC.rec (fun _ => R) (fun A B C E F G I J L M N O P Q T U => k Q) p
def Ae4 (p:FC) (k:FB->R):R := @FC.rec (fun _ => R) (fun A B C E F G I J L M N O P Q T U => k T) p
def Ac2 (p:FC) (k:FB->R):R := @FC.rec (fun _ => R) (fun A B C E F G I J L M N O P Q T U => k U) p
def FC.selK (d:D):FC->(FB->R)->R :=
  @D.rec (fun _ => FC->(FB->R)->R) Agv Ago Aik Aiv Ai7 Aio Age Ah8 Aie Afz Ac9 Abn Ac5 Acz Ae4 Ac2 d
theorem FC.selK_eq (d:D) (p:FC) (k:FB->R):FC.selK d p k=k (FC.sel d p) := by
  cases d <;> cases p <;> rfl
def BD (k:K3) (T:FC):Ds := FA.sel k.c (FB.sel k.b (FC.sel k.a T))
def Yp (k:K3) (T:FC) (κ:Ds->R):R := @K3.rec (fun _ => R) (fun a b c => FC.selK a T fun x => FB.selK b x fun y => FA.selK c y κ) k
theorem Pa (k:K3) (T:FC) (κ:Ds->R):Yp k T κ=κ (BD k T) := by
  cases k; simp only [Yp, BD, FC.selK_eq, FB.selK_eq, FA.selK_eq]
abbrev Qc (ps:List K2):List V->Regs->(Regs->R)->R :=
  @List.rec K2 (fun _ => List V->Regs->(Regs->R)->R) (fun l t κ => J3 l (κ t)) (fun p _ ih l t κ => EB l fun v l => OX p t v fun t => ih l t κ) ps
theorem Q9:∀ (ps:List K2) (l:List V) (t:Regs) (κ:Regs->R), Qc ps l t κ=Uq l ps t κ
  | [], l, t, κ => by cases l <;> rfl
  | p::ps, l, t, κ => by
    cases l with
    | nil => rfl
    | cons v l =>
      show OX p t v (fun t => Qc ps l t κ)=OX p t v fun t => Uq l ps t κ
      rw [P4, P4, Q9]
def Kf (r:R) (res:S->Heap->K4->R):R :=
  @R.rec (fun _ => R) (fun e t h n => @Ex.rec (fun _ => R) (res t h n) (AH "") (res t h n) e) (By "") (fun w => .fail w) (fun _ _ a b => .both a b) r
def KC (r:R):R := @R.rec (fun _ => R) (Fl "") (fun v h n => .rv v h n) (fun w => .fail w) (Fl "") r
def YE (v:V) (yes no:R):R :=
  @V.rec (fun _ => R) (fun _ => Unit) (fun _ _ => no) (fun _ => no) (fun _ _ => no) (fun _ _ _ _ _ _ => no) (fun _ _ => no) (fun _ _ => no) (fun _ => no) (fun _ => no) (fun _ _ _ => no) (fun _ _ => no)
    (fun o => @Ot.rec (fun _ => R) no (fun _ => no) (fun _ => no) yes (fun _ _ _ => no) (fun _ _ => no) no (fun _ _ => no) (fun _ _ _ _ => no) (fun _ _ _ _ => no) (fun _ _ _ => no) (fun _ _ => no) (fun _ _ => no) (fun _ _ _ => no) (fun _ => no) o) () (fun _ _ _ _ => ()) v
def apX (f:Nat) (its:List Nat) (rd:Rd) (cf:FL) (args:List V) (h:Heap) (n:K4):R :=
  EB args fun v l => YE v (EB l fun b l => EB l fun x l => J3 l (rd cf b x h n)) (Aac f its cf args h n)
def MM (cf:FL) (o:Ds) (args:List V) (h:Heap) (n:K4):R :=
  @Option.rec Ent (fun _ => R) (.fail "") (fun e => @Ent.rec (fun _ => R) (fun entry body res => entry args fun t => Kf (body cf t h n) res) (fun p => KC (p args h n)) (fun k entry body res => KC (brK k (fun hs => entry args fun t => Kf (body cf t hs n) res) args h n)) (fun f its rd => apX f its rd cf args h n) (fun p => p args h n) e) o
/-- What a call comes to. -/
def Az (T:FC) (m:Nat):FL :=
  @Nat.rec (fun _ => FL) (Fl "") (fun _ ih f args h n => Yp f T fun o => MM ih o args h n) m
/-- The kept registers out of all of them. -/
abbrev toS (sm:SM) (t:Regs):S := @List.rec (K2×SL) (fun _ => S) Fi (fun x _ ih => S.put x.2 ih (B3 x.1 t)) sm
theorem Tf {t:Regs}:∀ {sm:SM}, S6 sm=true->∀ {p:K2} {s:SL}, C8 p sm=some s->S.get s (toS sm t)=B3 p t
  | [], _, p, s, h => by cases h
  | x::l, hok, p, s, h => by
    simp only [S6, Bool.and_eq_true] at hok
    have e1:toS (x::l) t=S.put x.2 (toS l t) (B3 x.1 t) := rfl
    rw [e1]
    simp only [C8] at h
    cases hb:K2.beq x.1 p with
    | true =>
      rw [hb] at h
      have h:some x.2=some s := h
      cases h
      rw [S.get_put_same, K2.beq_iff.1 hb]
    | false =>
      rw [hb] at h
      have h:C8 p l=some s := h
      have hne:x.2≠s := fun e => by
        have := List.all_eq_true.1 hok.1 _ (HY h)
        rw [←e] at this
        simp [SL.beq, O8.beq_self, O4.beq_self] at this
      rw [S.get_put_ne _ _ hne]
      exact Tf hok.2 h
abbrev WN (sm:SM) (r:ARes) (t:S) (h:Heap) (κ:V->R):R :=
  @ARes.rec (fun _ => R) (fun p => B5 sm [] t (.t p) κ) (fun p m => B5 sm [] t (.t p) fun v => J7 v fun q off => GD q h fun cs _ _ =>
    @Option.rec Nat (fun _ => R) (Gt cs off κ) (fun m => AJ cs off m fun y => DJ y fun l => κ (.agg l)) m) r
abbrev Tk (sm:SM) (rs:List ARes) (t:S) (h:Heap):(List V->R)->R :=
  @List.rec ARes (fun _ => (List V->R)->R) (fun κ => κ []) (fun r _ ih κ => WN sm r t h fun v => ih fun vs => κ (v::vs)) rs
abbrev QJ (sm:SM) (rs:List ARes) (t:S) (h:Heap) (n:K4):R :=
  Tk sm rs t h fun l => @List.rec V (fun _ => R) (.rv (.tup []) h n) (fun v vs _ => @List.rec V (fun _ => R) (.rv v h n) (fun _ _ _ => .rv (.tup l) h n) vs) l
/-- A function as it is run. -/
abbrev Afy (sm:SM) (a:AFn):Ent := @AFn.rec (fun _ => Ent) (fun ps c rs => .code (fun l κ => Qc ps l LL fun t => κ (toS sm t)) (fun cf t h n => In sm cf c r0 [] t h n) (fun t h n => QJ sm rs t h n)) a
def ARes.reg (r:ARes):K2 := @ARes.rec (fun _ => K2) (fun p => p) (fun p _ => p) r
def okF (sm:SM) (a:AFn):Bool := S6 sm&&(La sm a.code (fun _ => true) []&&a.rs.all fun r => Iy sm r.reg)
abbrev Ab7 (sm:SM) (o:Option AFn):Ds := @Option.rec AFn (fun _ => Ds) none (fun a => some (Afy sm a)) o
def okO (sm:SM) (o:Option AFn):Bool := @Option.rec AFn (fun _ => Bool) false (fun a => okF sm a) o
section
variable {P:Program} {ρ:Env} {B:Nat}
/-- It is that function. -/
def Cy (P:Program) (f:FuncId) (e:Ent):Prop := ∃ sm:SM, Ab7 sm (Ml P f)=some e∧okO sm (Ml P f)=true
theorem Cy.mk {f:FuncId} {e:Ent} (sm:SM) (h:Ab7 sm (Ml P f)=some e) (k:okO sm (Ml P f)=true):Cy P f e := ⟨sm, h, k⟩
/-- It is that function, run on what it can reach. -/
def Ah0 (P:Program) (f:FuncId) (e:Ent):Prop := ∃ k en bo re, e = .br k en bo re∧Cy P f (.code en bo re)
/-- It ranges over a function. -/
def DV (P:Program) (ρ:Env) (f:FuncId) (e:Ent):Prop := ∃ its rd A, e = .ap f its rd∧ρ.ap f=some A∧ML P f=some A∧Vs P A=some rd ∧ ∀ g∈its, Ld P g
/-- A step of the evaluator's own that may come to many ways. -/
def VT (P:Program) (ρ:Env) (B:Nat) (f:FuncId) (p:Ma):Prop :=
  ∀ args h n (Φ:R->Prop), (p args h n).sat Φ->∀ φ w (xs:Array Value), Gam ρ B h n φ w->Bi ρ φ args xs.toList →
    L3 P f xs w fun x w' => ∃ v h1 n1 φ', Φ (.rv v h1 n1)∧Fr h h1 φ φ' n n1 w w'∧Gam ρ B h1 n1 φ' w'∧Aj ρ φ' v x
def Nc (P:Program) (ρ:Env) (B:Nat) (f:FuncId) (e:Ent):Prop := (Cy P f e∨Ah0 P f e)∨((∃ p, e = .prim p∧Ko P ρ B f p)∨(DV P ρ f e ∨ ∃ p, e = .tree p∧VT P ρ B f p))
def Hq (P:Program) (ρ:Env) (B:Nat) (T:FC):Prop := (∀ f e, BD (AI f) T=some e->Nc P ρ B f e) ∧ ∀ f A, ρ.ap f=some A->∃ e, BD (AI f) T=some e∧DV P ρ f e
theorem Nn {r:R} {Φ:R->Prop} (h:(KC r).sat Φ):∃ v h1 n1, r = .rv v h1 n1∧Φ (.rv v h1 n1) := by
  cases r with
  | rv v h1 n1 => exact ⟨v, h1, n1, rfl, h⟩
  | _ => exact h.elim
theorem Va {sm:SM} {r:ARes} {t:Regs} {t':S} (ri:RI sm [] [] t t') (hk:Iy sm r.reg=true) (hp:Heap) (κ:V->R):WN sm r t' hp κ=LO r t hp κ := by
  have kn:∀ p, Iy sm p=true->DI sm [] p=true := fun p h => by unfold DI; rw [h, Bool.or_true]
  cases r with
  | tmp p => show B5 sm [] t' (.t p) κ=Iw p t κ; rw [ri.tell (kn p hk), Cw]
  | cel p m =>
    show B5 sm [] t' (.t p) _=Iw p t _
    rw [ri.tell (kn p hk), Cw, DC]
theorem QU {sm:SM} {t:Regs} {t':S} (ri:RI sm [] [] t t') {hp:Heap}:∀ {rs:List ARes} {κ:List V->R}, (∀ r∈rs, Iy sm r.reg=true)->Tk sm rs t' hp κ=KW rs t hp κ
  | [], κ, _ => rfl
  | r::rs, κ, h => by
    have e1:Tk sm (r::rs) t' hp κ=WN sm r t' hp fun v => Tk sm rs t' hp fun vs => κ (v::vs) := rfl
    have e2:KW (r::rs) t hp κ=LO r t hp fun v => KW rs t hp fun vs => κ (v::vs) := rfl
    rw [e1, e2, Va ri (h r (List.mem_cons_self ..))]
    congr 1; funext v
    exact QU ri fun r hr => h r (List.mem_cons_of_mem _ hr)
theorem Vf {sm:SM} {t:Regs} {t':S} (ri:RI sm [] [] t t') {hp:Heap} {n:K4} {rs:List ARes} (h:∀ r∈rs, Iy sm r.reg=true):QJ sm rs t' hp n=RH rs t hp n := QU ri h
/-- What is asked behind a body. -/
def Acx (res:S->Heap->K4->R) (Φ:R->Prop):R->Prop
  | .ok .nrm t h n => (res t h n).sat Φ
  | .ok .ret t h n => (res t h n).sat Φ
  | _ => False
theorem LR {res:S->Heap->K4->R} {Φ:R->Prop}:∀ {r:R}, (Kf r res).sat Φ->r.sat (Acx res Φ)
  | .ok e t h n, hs => by
    cases e with
    | nrm => exact hs
    | ret => exact hs
    | exit j => exact hs.elim
  | .rv _ _ _, hs => hs.elim
  | .fail _, hs => hs.elim
  | .both a b, hs => ⟨LR (r := a) hs.1, LR (r := b) hs.2⟩
theorem XO {r:ARes} {t:Regs} {h:Heap} {κ:V->R} (hg:(LO r t h κ).good):∃ v, LO r t h κ=κ v := by
  cases r with
  | tmp p => exact ⟨_, Cw p t κ⟩
  | cel p m =>
    have e1:LO (.cel p m) t h κ=J7 (B3 p t) fun q off => GW q h fun cs _ _ =>
        @Option.rec Nat (fun _ => R) (Gt cs off κ) (fun m => AJ cs off m fun y => DJ y fun l => κ (.agg l)) m := Cw p t _
    rw [e1] at hg
    obtain ⟨q, off, hv, e2⟩ := Ct hg
    rw [e2] at hg
    obtain ⟨cs, sup, prev, hq, e3⟩ := Cu hg
    rw [e3] at hg
    cases m with
    | none =>
      obtain ⟨v, _, e4⟩ := Ih (show R.good (Gt cs off κ) from hg)
      exact ⟨v, e1.trans (e2.trans (e3.trans e4))⟩
    | some m =>
      obtain ⟨hle, y, hyl, hya, e4⟩ := BT (show R.good (AJ cs off m fun y => DJ y fun l => κ (.agg l)) from hg)
      obtain ⟨l, e5, _, _⟩ := GB y fun l => κ (.agg l)
      exact ⟨.agg l, e1.trans (e2.trans (e3.trans (Eq.trans e4 e5)))⟩
theorem T0:∀ {rs:List ARes} {t:Regs} {h:Heap} {κ:List V->R}, (KW rs t h κ).good->∃ vs, KW rs t h κ=κ vs
  | [], t, h, κ, _ => ⟨[], rfl⟩
  | r::rs, t, h, κ, hg => by
    have hg:R.good (LO r t h fun v => KW rs t h fun vs => κ (v::vs)) := hg
    obtain ⟨v, e1⟩ := XO hg
    rw [e1] at hg
    obtain ⟨vs, e2⟩ := T0 hg
    exact ⟨v::vs, Eq.trans e1 e2⟩
theorem Y2 {rs:List ARes} {t:Regs} {h:Heap} {n:K4} (hg:(RH rs t h n).good):∃ v, RH rs t h n = .rv v h n := by
  obtain ⟨vs, e⟩ := T0 (show R.good (KW rs t h _) from hg)
  have e:RH rs t h n=_ := e
  match vs, e with
  | [], e => exact ⟨_, e⟩
  | [u], e => exact ⟨_, e⟩
  | u::u'::us, e => exact ⟨_, e⟩
theorem Nk (hρ:B4 ρ) (hm:P.follows .mixedOrders=true) {cf:CF} {cf2:FL} (hct:Jd P ρ B cf) (hR:Jt P ρ B cf) (h2:∀ f, cf2 (AI f)=cf f) {f:FuncId} {e:Ent} (he:Cy P f e) {args:List V} {h:Heap} {n:K4} {Φ:R->Prop}
    (hr:(MM cf2 (some e) args h n).sat Φ) {φ:AF} {w:World} {xs:Array Value} (g:Gam ρ B h n φ w) (hxs:Bi ρ φ args xs.toList) :
    L3 P f xs w fun x w' => ∃ v h1 n1 φ', Φ (.rv v h1 n1)∧Fr h h1 φ φ' n n1 w w'∧Gam ρ B h1 n1 φ' w'∧Aj ρ φ' v x := by
  obtain ⟨sm, hd, hok⟩ := he
  cases hf:Ml P f with
  | none => rw [hf] at hd; cases hd
  | some a =>
    rw [hf] at hd hok
    obtain ⟨fn, c, ps, rs, hfn, hb, hps, hrs, hname, rfl⟩ := RQ hf
    have hd:some (Ent.code (fun l κ => Qc ps l LL fun t => κ (toS sm t)) (fun cf t h n => In sm cf (AY P fn.ntmps c) r0 [] t h n) (fun t h n => QJ sm rs t h n))=some e := hd
    cases hd
    have hok:(S6 sm&&(La sm (AY P fn.ntmps c) (fun _ => true) []&&rs.all fun r => Iy sm r.reg))=true := hok
    rw [Bool.and_eq_true, Bool.and_eq_true] at hok
    obtain ⟨hsm, hok⟩ := hok
    have inj:∀ {p q s}, C8 p sm=some s->C8 q sm=some s->p=q := fun h h' => PF hsm h h'
    have hr:(Qc ps args LL (fun t => Kf (In sm cf2 (AY P fn.ntmps c) r0 [] (toS sm t) h n) fun t h n => QJ sm rs t h n)).sat Φ := hr
    rw [Q9] at hr
    obtain ⟨hlen, t0, e2, H0⟩ := Nu (k := 0) (fun i s hi => by
      obtain ⟨hi', hi2⟩ := List.getElem?_eq_some_iff.1 hi
      simp at hi2; omega) hps (R.sat_good hr)
    rw [e2] at hr
    simp only [List.length_range] at hlen
    have hxl:xs.size=args.length := by have := AW hxs; simpa using this
    have hxN:xs.size≤fn.ntmps := by
      rcases Nat.eq_zero_or_pos xs.size with h0 | h0
      · omega
      · have := Ov hps (xs.size - 1) (List.mem_range.2 (by omega)); omega
    have hT:TR ρ fn.ntmps φ t0 { tmps := xs++Array.replicate (fn.ntmps - xs.size) undef, defers := [] } := {
      size := by simp; omega
      defers := rfl
      at_ := fun s p hs hp => by
        rw [H0 s p hp, if_pos (Nat.zero_le _), Nat.sub_zero, Qu]
        show Aj ρ φ _ ((xs++Array.replicate (fn.ntmps - xs.size) undef).getD s undef)
        rw [Array.getD_eq_getD_getElem?]
        by_cases hsx:s<xs.size
        · rw [Array.getElem?_append_left hsx]
          have hsa:s<args.length := by omega
          rw [List.getElem?_eq_getElem hsa]
          obtain ⟨x, hx, hrx⟩ := (BO.1 hxs).2 s _ (List.getElem?_eq_getElem hsa)
          rw [Array.getElem?_toList] at hx
          rw [hx]; exact hrx
        · rw [Array.getElem?_append_right (by omega), Array.getElem?_replicate, if_pos (by omega), List.getElem?_eq_none (by omega)]
          exact F9 }
    have hx := LR hr
    have hOK := (Aas (N := fn.ntmps) (sm := sm) hρ hm hct hR h2 c).join hok.1 (RI.start inj fun p s hs => Tf hsm hs) hx
    intro o a K Q hK
    have hcf':(callFunc f xs).run P w = .ok (.enter f xs) w := by
      have hname':fn.name ≠ "runtime.NumGoroutine" := by simpa using hname
      simp [callFunc, hfn, hname', hb]
    rw [hcf']
    refine calls_of_wp hfn hb (hOK φ _ w hT g _ fun e t1 h2' n2 hres φ' a' w' tf f1 g1 T1 hk => ?_)
    have fin:(QJ sm rs t1 h2' n2).sat Φ->∃ X, (results fn a'.tmps).run P w' = .ok X w'∧K (a.put o.dst X) w' := fun hres => by
      rw [Vf (RI.start inj hk) fun r hr => List.all_eq_true.1 hok.2 r hr] at hres
      obtain ⟨v, hv⟩ := Y2 (R.sat_good hres)
      obtain ⟨_, _, Hres⟩ := UP (ρ := ρ) (B := B) hrs hv
      rw [hv] at hres
      obtain ⟨X, hX, hrX⟩ := Hres φ' a' w' T1 g1
      exact ⟨X, hX, hK X w' ⟨v, h2', n2, φ', hres, f1, g1, hrX⟩⟩
    cases e with
    | nrm => obtain ⟨X, hX, hKX⟩ := fin hres; exact ⟨T1.defers, X, hX, hKX⟩
    | exit id => exact hres.elim
    | ret => obtain ⟨X, hX, hKX⟩ := fin hres; exact ⟨T1.defers, X, hX, hKX⟩
/-- THE CALL IS SOUND. -/
theorem Kh (hρ:B4 ρ) (hm:P.follows .mixedOrders=true) {T:FC} (hT:Hq P ρ B T):∀ m, Jd P ρ B (fun f => Az T m (AI f))∧Jt P ρ B (fun f => Az T m (AI f)) := by
  intro m
  induction m with
  | zero => exact ⟨fun f args h n Φ hr => hr.elim, fun f A fn hA box x h n Φ hr => hr.elim⟩
  | succ m ih =>
    obtain ⟨hct, hR⟩ := ih
    have e1:∀ f args h n, Az T (m+1) (AI f) args h n=MM (Az T m) (BD (AI f) T) args h n := fun f args h n => Pa (AI f) T fun o => MM (Az T m) o args h n
    refine ⟨fun f args h n Φ hr φ w xs g hxs => ?_, fun f A fn hA box x h n Φ hr φ w tmps X l D g hrec unc hsz hbox hX => ?_⟩
    · have hr:(Az T (m+1) (AI f) args h n).sat Φ := hr
      rw [e1] at hr
      cases ho:BD (AI f) T with
      | none => rw [ho] at hr; exact hr.elim
      | some e =>
        rw [ho] at hr
        rcases hT.1 f e ho with (he | ⟨k, en, bo, re, rfl, he⟩) | (⟨p, rfl, hp⟩ | (⟨its, rd, A, rfl, hA, h1, h2, h3⟩ | ⟨p, rfl, hp⟩))
        · exact Nk hρ hm hct hR (fun _ => rfl) he hr g hxs
        · obtain ⟨v, h1, n1, hr, hΦ⟩ := Nn (show (KC (brK k (fun hs => en args fun t => Kf (bo (Az T m) t hs n) re) args h n)).sat Φ from hr)
          intro o a K Q hK
          exact Aal hr g hxs (fun hs Φ hsat gs => Nk hρ hm hct hR (fun _ => rfl) he (h := hs) hsat gs hxs) o a K Q fun x w' ⟨φ', f1, g1, r1⟩ => hK x w' ⟨v, h1, n1, φ', hΦ, f1, g1, r1⟩
        · obtain ⟨v, h1, n1, hr, hΦ⟩ := Nn (show (KC (p args h n)).sat Φ from hr)
          intro o a K Q hK
          exact hp args h n v h1 n1 hr φ w xs g hxs o a K Q fun x w' ⟨φ', f1, g1, r1⟩ => hK x w' ⟨v, h1, n1, φ', hΦ, f1, g1, r1⟩
        · have hr:(apX f its rd (Az T m) args h n).sat Φ := hr
          unfold apX at hr
          obtain ⟨v, l, hl, q1⟩ := Bt (R.sat_good hr)
          rw [q1] at hr
          subst hl
          by_cases hv:v = .oth .no
          · subst hv
            obtain ⟨y, ys, _, hy, _⟩ := Ak.1 hxs
            simp only [Aj] at hy
          · have e2:∀ A C:R, YE v A C=C := fun A C => by
              cases v with
              | oth o => cases o with
                | no => exact absurd rfl hv
                | _ => rfl
              | _ => rfl
            rw [e2] at hr
            exact Adm hA h1 h3 hct (fun _ => rfl) hr g hxs
        · exact hp args h n Φ hr φ w xs g hxs
    · obtain ⟨e, ho, its, rd, A', rfl, hA', h1, h2, h3⟩ := hT.2 f A hA
      rw [hA] at hA'; cases hA'
      have hr:(Az T (m+1) (AI f) [.oth .no, .ptr box 0, x] h n).sat Φ := hr
      rw [e1, ho] at hr
      have hr:(rd (Az T m) (.ptr box 0) x h n).sat Φ := hr
      exact Aco hρ hct.ok (fun _ => rfl) h2 hr g hrec unc hsz hbox hX
theorem W7 (hρ:B4 ρ) (hm:P.follows .mixedOrders=true) {T:FC} (hT:Hq P ρ B T) (m:Nat):E8 P ρ B fun f => Az T m (AI f) := (Kh hρ hm hT m).1.ok
end
end Go.Ev

namespace Go.Ev
open Go.RowKit
set_option linter.unusedVariables false
abbrev Ur (w:Bool) (v:V) (h:Heap) (n:K4) (F:KV->R) (κ:KV):R := gd w v F κ h n
abbrev AD (v:V):R := .rv v Aq ⟨.d0, .d0, .d0, .d0⟩
abbrev alY (b:K4) (j:D) (h:Heap) (F:K4->R) (κ:KV):R := b.at j fun r => AT r h fun x => Gp x (Ij (F r) κ)
abbrev alX (b:K4) (j:D) (h:Heap) (F:K4->R) (κ:V->Heap->R):R := alY b j h F fun v h _ => κ v h
abbrev noX (b:K4) (j:D) (h:Heap) (κ:R):R := b.at j fun r => AT r h fun x => Gp x κ
abbrev U:V := B8
abbrev Q0:SQ := .mk U U U U
abbrev g0 (t:S) (k:V->R):R := @S.rec (fun _ => R) (fun c0 c1 c2 c3 c4 c5 c6 c7 => @SQ.rec (fun _ => R) (fun d0 d1 d2 d3 => k d0) c0) t
abbrev w0 (t:S) (v:V) (k:S->R):R := @S.rec (fun _ => R) (fun c0 c1 c2 c3 c4 c5 c6 c7 => @SQ.rec (fun _ => R) (fun d0 d1 d2 d3 => k (.mk (.mk v d1 d2 d3) c1 c2 c3 c4 c5 c6 c7)) c0) t
abbrev g1 (t:S) (k:V->R):R := @S.rec (fun _ => R) (fun c0 c1 c2 c3 c4 c5 c6 c7 => @SQ.rec (fun _ => R) (fun d0 d1 d2 d3 => k d1) c0) t
abbrev w1 (t:S) (v:V) (k:S->R):R := @S.rec (fun _ => R) (fun c0 c1 c2 c3 c4 c5 c6 c7 => @SQ.rec (fun _ => R) (fun d0 d1 d2 d3 => k (.mk (.mk d0 v d2 d3) c1 c2 c3 c4 c5 c6 c7)) c0) t
abbrev g2 (t:S) (k:V->R):R := @S.rec (fun _ => R) (fun c0 c1 c2 c3 c4 c5 c6 c7 => @SQ.rec (fun _ => R) (fun d0 d1 d2 d3 => k d2) c0) t
abbrev w2 (t:S) (v:V) (k:S->R):R := @S.rec (fun _ => R) (fun c0 c1 c2 c3 c4 c5 c6 c7 => @SQ.rec (fun _ => R) (fun d0 d1 d2 d3 => k (.mk (.mk d0 d1 v d3) c1 c2 c3 c4 c5 c6 c7)) c0) t
abbrev g3 (t:S) (k:V->R):R := @S.rec (fun _ => R) (fun c0 c1 c2 c3 c4 c5 c6 c7 => @SQ.rec (fun _ => R) (fun d0 d1 d2 d3 => k d3) c0) t
abbrev w3 (t:S) (v:V) (k:S->R):R := @S.rec (fun _ => R) (fun c0 c1 c2 c3 c4 c5 c6 c7 => @SQ.rec (fun _ => R) (fun d0 d1 d2 d3 => k (.mk (.mk d0 d1 d2 v) c1 c2 c3 c4 c5 c6 c7)) c0) t
abbrev g4 (t:S) (k:V->R):R := @S.rec (fun _ => R) (fun c0 c1 c2 c3 c4 c5 c6 c7 => @SQ.rec (fun _ => R) (fun d0 d1 d2 d3 => k d0) c1) t
abbrev w4 (t:S) (v:V) (k:S->R):R := @S.rec (fun _ => R) (fun c0 c1 c2 c3 c4 c5 c6 c7 => @SQ.rec (fun _ => R) (fun d0 d1 d2 d3 => k (.mk c0 (.mk v d1 d2 d3) c2 c3 c4 c5 c6 c7)) c1) t
abbrev g5 (t:S) (k:V->R):R := @S.rec (fun _ => R) (fun c0 c1 c2 c3 c4 c5 c6 c7 => @SQ.rec (fun _ => R) (fun d0 d1 d2 d3 => k d1) c1) t
abbrev w5 (t:S) (v:V) (k:S->R):R := @S.rec (fun _ => R) (fun c0 c1 c2 c3 c4 c5 c6 c7 => @SQ.rec (fun _ => R) (fun d0 d1 d2 d3 => k (.mk c0 (.mk d0 v d2 d3) c2 c3 c4 c5 c6 c7)) c1) t
abbrev g6 (t:S) (k:V->R):R := @S.rec (fun _ => R) (fun c0 c1 c2 c3 c4 c5 c6 c7 => @SQ.rec (fun _ => R) (fun d0 d1 d2 d3 => k d2) c1) t
abbrev w6 (t:S) (v:V) (k:S->R):R := @S.rec (fun _ => R) (fun c0 c1 c2 c3 c4 c5 c6 c7 => @SQ.rec (fun _ => R) (fun d0 d1 d2 d3 => k (.mk c0 (.mk d0 d1 v d3) c2 c3 c4 c5 c6 c7)) c1) t
abbrev g7 (t:S) (k:V->R):R := @S.rec (fun _ => R) (fun c0 c1 c2 c3 c4 c5 c6 c7 => @SQ.rec (fun _ => R) (fun d0 d1 d2 d3 => k d3) c1) t
abbrev w7 (t:S) (v:V) (k:S->R):R := @S.rec (fun _ => R) (fun c0 c1 c2 c3 c4 c5 c6 c7 => @SQ.rec (fun _ => R) (fun d0 d1 d2 d3 => k (.mk c0 (.mk d0 d1 d2 v) c2 c3 c4 c5 c6 c7)) c1) t
abbrev g8 (t:S) (k:V->R):R := @S.rec (fun _ => R) (fun c0 c1 c2 c3 c4 c5 c6 c7 => @SQ.rec (fun _ => R) (fun d0 d1 d2 d3 => k d0) c2) t
abbrev w8 (t:S) (v:V) (k:S->R):R := @S.rec (fun _ => R) (fun c0 c1 c2 c3 c4 c5 c6 c7 => @SQ.rec (fun _ => R) (fun d0 d1 d2 d3 => k (.mk c0 c1 (.mk v d1 d2 d3) c3 c4 c5 c6 c7)) c2) t
abbrev g9 (t:S) (k:V->R):R := @S.rec (fun _ => R) (fun c0 c1 c2 c3 c4 c5 c6 c7 => @SQ.rec (fun _ => R) (fun d0 d1 d2 d3 => k d1) c2) t
abbrev w9 (t:S) (v:V) (k:S->R):R := @S.rec (fun _ => R) (fun c0 c1 c2 c3 c4 c5 c6 c7 => @SQ.rec (fun _ => R) (fun d0 d1 d2 d3 => k (.mk c0 c1 (.mk d0 v d2 d3) c3 c4 c5 c6 c7)) c2) t
abbrev EL (t:S) (k:V->R):R := @S.rec (fun _ => R) (fun c0 c1 c2 c3 c4 c5 c6 c7 => @SQ.rec (fun _ => R) (fun d0 d1 d2 d3 => k d2) c2) t
abbrev F3 (t:S) (v:V) (k:S->R):R := @S.rec (fun _ => R) (fun c0 c1 c2 c3 c4 c5 c6 c7 => @SQ.rec (fun _ => R) (fun d0 d1 d2 d3 => k (.mk c0 c1 (.mk d0 d1 v d3) c3 c4 c5 c6 c7)) c2) t
abbrev F5 (t:S) (k:V->R):R := @S.rec (fun _ => R) (fun c0 c1 c2 c3 c4 c5 c6 c7 => @SQ.rec (fun _ => R) (fun d0 d1 d2 d3 => k d3) c2) t
abbrev F0 (t:S) (v:V) (k:S->R):R := @S.rec (fun _ => R) (fun c0 c1 c2 c3 c4 c5 c6 c7 => @SQ.rec (fun _ => R) (fun d0 d1 d2 d3 => k (.mk c0 c1 (.mk d0 d1 d2 v) c3 c4 c5 c6 c7)) c2) t
abbrev EV (t:S) (k:V->R):R := @S.rec (fun _ => R) (fun c0 c1 c2 c3 c4 c5 c6 c7 => @SQ.rec (fun _ => R) (fun d0 d1 d2 d3 => k d0) c3) t
abbrev F4 (t:S) (v:V) (k:S->R):R := @S.rec (fun _ => R) (fun c0 c1 c2 c3 c4 c5 c6 c7 => @SQ.rec (fun _ => R) (fun d0 d1 d2 d3 => k (.mk c0 c1 c2 (.mk v d1 d2 d3) c4 c5 c6 c7)) c3) t
abbrev ES (t:S) (k:V->R):R := @S.rec (fun _ => R) (fun c0 c1 c2 c3 c4 c5 c6 c7 => @SQ.rec (fun _ => R) (fun d0 d1 d2 d3 => k d1) c3) t
abbrev EK (t:S) (v:V) (k:S->R):R := @S.rec (fun _ => R) (fun c0 c1 c2 c3 c4 c5 c6 c7 => @SQ.rec (fun _ => R) (fun d0 d1 d2 d3 => k (.mk c0 c1 c2 (.mk d0 v d2 d3) c4 c5 c6 c7)) c3) t
abbrev EM (t:S) (k:V->R):R := @S.rec (fun _ => R) (fun c0 c1 c2 c3 c4 c5 c6 c7 => @SQ.rec (fun _ => R) (fun d0 d1 d2 d3 => k d2) c3) t
abbrev EX (t:S) (v:V) (k:S->R):R := @S.rec (fun _ => R) (fun c0 c1 c2 c3 c4 c5 c6 c7 => @SQ.rec (fun _ => R) (fun d0 d1 d2 d3 => k (.mk c0 c1 c2 (.mk d0 d1 v d3) c4 c5 c6 c7)) c3) t
abbrev EQ (t:S) (k:V->R):R := @S.rec (fun _ => R) (fun c0 c1 c2 c3 c4 c5 c6 c7 => @SQ.rec (fun _ => R) (fun d0 d1 d2 d3 => k d3) c3) t
abbrev F8 (t:S) (v:V) (k:S->R):R := @S.rec (fun _ => R) (fun c0 c1 c2 c3 c4 c5 c6 c7 => @SQ.rec (fun _ => R) (fun d0 d1 d2 d3 => k (.mk c0 c1 c2 (.mk d0 d1 d2 v) c4 c5 c6 c7)) c3) t
abbrev F6 (t:S) (k:V->R):R := @S.rec (fun _ => R) (fun c0 c1 c2 c3 c4 c5 c6 c7 => @SQ.rec (fun _ => R) (fun d0 d1 d2 d3 => k d0) c4) t
abbrev EJ (t:S) (v:V) (k:S->R):R := @S.rec (fun _ => R) (fun c0 c1 c2 c3 c4 c5 c6 c7 => @SQ.rec (fun _ => R) (fun d0 d1 d2 d3 => k (.mk c0 c1 c2 c3 (.mk v d1 d2 d3) c5 c6 c7)) c4) t
abbrev ER (t:S) (k:V->R):R := @S.rec (fun _ => R) (fun c0 c1 c2 c3 c4 c5 c6 c7 => @SQ.rec (fun _ => R) (fun d0 d1 d2 d3 => k d1) c4) t
abbrev EP (t:S) (v:V) (k:S->R):R := @S.rec (fun _ => R) (fun c0 c1 c2 c3 c4 c5 c6 c7 => @SQ.rec (fun _ => R) (fun d0 d1 d2 d3 => k (.mk c0 c1 c2 c3 (.mk d0 v d2 d3) c5 c6 c7)) c4) t
abbrev F2 (t:S) (k:V->R):R := @S.rec (fun _ => R) (fun c0 c1 c2 c3 c4 c5 c6 c7 => @SQ.rec (fun _ => R) (fun d0 d1 d2 d3 => k d2) c4) t
abbrev EZ (t:S) (v:V) (k:S->R):R := @S.rec (fun _ => R) (fun c0 c1 c2 c3 c4 c5 c6 c7 => @SQ.rec (fun _ => R) (fun d0 d1 d2 d3 => k (.mk c0 c1 c2 c3 (.mk d0 d1 v d3) c5 c6 c7)) c4) t
abbrev F7 (t:S) (k:V->R):R := @S.rec (fun _ => R) (fun c0 c1 c2 c3 c4 c5 c6 c7 => @SQ.rec (fun _ => R) (fun d0 d1 d2 d3 => k d3) c4) t
abbrev EN (t:S) (v:V) (k:S->R):R := @S.rec (fun _ => R) (fun c0 c1 c2 c3 c4 c5 c6 c7 => @SQ.rec (fun _ => R) (fun d0 d1 d2 d3 => k (.mk c0 c1 c2 c3 (.mk d0 d1 d2 v) c5 c6 c7)) c4) t
section
variable {P:Program} {ρ:Env} {B:Nat}
/-- What stands at a function's place in the table. -/
def Aw (P:Program) (ρ:Env) (B:Nat) (f:FuncId) (o:Ds):Prop := ∀ e, o=some e->Nc P ρ B f e
theorem Aw.no {f:FuncId}:Aw P ρ B f none := fun e h => by cases h
theorem Aw.fn {f:FuncId} {e:Ent} (h:Cy P f e):Aw P ρ B f (some e) := fun e' h' => by cases h'; exact .inl (.inl h)
theorem Aw.br {f:FuncId} {k:Nat} {en:List V->(S->R)->R} {bo:FL->S->Heap->K4->R} {re:S->Heap->K4->R} (h:Cy P f (.code en bo re)):Aw P ρ B f (some (.br k en bo re)) := fun e' h' => by cases h'; exact .inl (.inr ⟨k, en, bo, re, rfl, h⟩)
theorem Aw.pr {f:FuncId} {p:Ma} (h:Ko P ρ B f p):Aw P ρ B f (some (.prim p)) := fun e' h' => by cases h'; exact .inr (.inl ⟨p, rfl, h⟩)
theorem Aw.ap {f:FuncId} {its:List Nat} {rd:Rd} {A:ApC} (hA:ρ.ap f=some A) (h1:ML P f=some A) (h2:Vs P A=some rd) (h3:∀ g∈its, Ld P g):Aw P ρ B f (some (.ap f its rd)) := fun e' h' => by cases h'; exact .inr (.inr (.inl ⟨its, rd, A, rfl, hA, h1, h2, h3⟩))
theorem Aw.tr {f:FuncId} {p:Ma} (h:VT P ρ B f p):Aw P ρ B f (some (.tree p)) := fun e' h' => by cases h'; exact .inr (.inr (.inr ⟨p, rfl, h⟩))
def Io (P:Program) (ρ:Env) (B:Nat) (base:Nat) (x:FA):Prop := ∀ d, Aw P ρ B (base+d.toN) (FA.sel d x)
def NM (P:Program) (ρ:Env) (B:Nat) (base:Nat) (x:FB):Prop := ∀ d, Io P ρ B (base+16*d.toN) (FB.sel d x)
theorem DL {base:Nat} {c0 c1 c2 c3 c4 c5 c6 c7 c8 c9 ca cb cc cd ce cf:Ds} (h0:Aw P ρ B (base+0) c0) (h1:Aw P ρ B (base+1) c1) (h2:Aw P ρ B (base+2) c2) (h3:Aw P ρ B (base+3) c3) (h4:Aw P ρ B (base+4) c4) (h5:Aw P ρ B (base+5) c5) (h6:Aw P ρ B (base+6) c6) (h7:Aw P ρ B (base+7) c7) (h8:Aw P ρ B (base+8) c8) (h9:Aw P ρ B (base+9) c9) (h10:Aw P ρ B (base+10) ca) (h11:Aw P ρ B (base+11) cb) (h12:Aw P ρ B (base+12) cc) (h13:Aw P ρ B (base+13) cd) (h14:Aw P ρ B (base+14) ce) (h15:Aw P ρ B (base+15) cf):Io P ρ B base (.mk c0 c1 c2 c3 c4 c5 c6 c7 c8 c9 ca cb cc cd ce cf) := fun d => by
  cases d
  · exact h0
  · exact h1
  · exact h2
  · exact h3
  · exact h4
  · exact h5
  · exact h6
  · exact h7
  · exact h8
  · exact h9
  · exact h10
  · exact h11
  · exact h12
  · exact h13
  · exact h14
  · exact h15
theorem UV {base:Nat} {c0 c1 c2 c3 c4 c5 c6 c7 c8 c9 ca cb cc cd ce cf:FA} (h0:Io P ρ B (base+16*0) c0) (h1:Io P ρ B (base+16*1) c1) (h2:Io P ρ B (base+16*2) c2) (h3:Io P ρ B (base+16*3) c3) (h4:Io P ρ B (base+16*4) c4) (h5:Io P ρ B (base+16*5) c5) (h6:Io P ρ B (base+16*6) c6) (h7:Io P ρ B (base+16*7) c7) (h8:Io P ρ B (base+16*8) c8) (h9:Io P ρ B (base+16*9) c9) (h10:Io P ρ B (base+16*10) ca) (h11:Io P ρ B (base+16*11) cb) (h12:Io P ρ B (base+16*12) cc) (h13:Io P ρ B (base+16*13) cd) (h14:Io P ρ B (base+16*14) ce) (h15:Io P ρ B (base+16*15) cf):NM P ρ B base (.mk c0 c1 c2 c3 c4 c5 c6 c7 c8 c9 ca cb cc cd ce cf) := fun d => by
  cases d
  · exact h0
  · exact h1
  · exact h2
  · exact h3
  · exact h4
  · exact h5
  · exact h6
  · exact h7
  · exact h8
  · exact h9
  · exact h10
  · exact h11
  · exact h12
  · exact h13
  · exact h14
  · exact h15
def Hg:FA := .mk none none none none none none none none none none none none none none none none
def HM:FB := .mk Hg Hg Hg Hg Hg Hg Hg Hg Hg Hg Hg Hg Hg Hg Hg Hg
theorem SN (d:D):FA.sel d Hg=none := by cases d <;> rfl
theorem TM (d:D):FB.sel d HM=Hg := by cases d <;> rfl
theorem Cm {base:Nat}:Io P ρ B base Hg := fun d => by rw [SN]; exact Aw.no
theorem Bq {base:Nat}:NM P ρ B base HM := fun d => by rw [TM]; exact Cm
theorem ofN_lt {x:Nat} {d:D} (h:D.ofN x=d) (hd:d ≠ .d15):x=d.toN := by
  rcases Nat.lt_or_ge x 15 with hx | hx
  · rw [←h, D.toN_ofN x (by omega)]
  · exfalso
    obtain ⟨y, rfl⟩:∃ y, x=y+15 := ⟨x - 15, by omega⟩
    exact hd h.symm
theorem WS {c0 c1 c2 c3 c4 c5 c6 c7 c8 c9 ca cb cc cd ce:FB} (h0:NM P ρ B (256*0) c0) (h1:NM P ρ B (256*1) c1) (h2:NM P ρ B (256*2) c2) (h3:NM P ρ B (256*3) c3) (h4:NM P ρ B (256*4) c4) (h5:NM P ρ B (256*5) c5) (h6:NM P ρ B (256*6) c6) (h7:NM P ρ B (256*7) c7) (h8:NM P ρ B (256*8) c8) (h9:NM P ρ B (256*9) c9) (h10:NM P ρ B (256*10) ca) (h11:NM P ρ B (256*11) cb) (h12:NM P ρ B (256*12) cc) (h13:NM P ρ B (256*13) cd) (h14:NM P ρ B (256*14) ce):∀ f e, BD (AI f) (.mk c0 c1 c2 c3 c4 c5 c6 c7 c8 c9 ca cb cc cd ce HM)=some e->Nc P ρ B f e := fun f e h => by
  have hc:(D.ofN (f % 16)).toN=f % 16 := D.toN_ofN _ (by omega)
  have hb:(D.ofN (f / 16 % 16)).toN=f / 16 % 16 := D.toN_ofN _ (by omega)
  have key:∀ x:FB, NM P ρ B (256*(f / 256)) x->FA.sel (D.ofN (f % 16)) (FB.sel (D.ofN (f / 16 % 16)) x)=some e->Nc P ρ B f e := fun x hx hs => by
    have := hx (D.ofN (f / 16 % 16)) (D.ofN (f % 16)) e hs
    rw [hc, hb] at this
    have e1:256*(f / 256)+16*(f / 16 % 16)+f % 16=f := by omega
    rw [e1] at this; exact this
  have h:FA.sel (D.ofN (f % 16)) (FB.sel (D.ofN (f / 16 % 16)) (FC.sel (D.ofN (f / 256)) (.mk c0 c1 c2 c3 c4 c5 c6 c7 c8 c9 ca cb cc cd ce HM)))=some e := h
  generalize hd:D.ofN (f / 256)=d at h
  cases d
  · have := ofN_lt hd (by intro h; cases h); rw [show D.toN .d0=0 from rfl] at this; exact key c0 (by rw [this]; exact h0) h
  · have := ofN_lt hd (by intro h; cases h); rw [show D.toN .d1=1 from rfl] at this; exact key c1 (by rw [this]; exact h1) h
  · have := ofN_lt hd (by intro h; cases h); rw [show D.toN .d2=2 from rfl] at this; exact key c2 (by rw [this]; exact h2) h
  · have := ofN_lt hd (by intro h; cases h); rw [show D.toN .d3=3 from rfl] at this; exact key c3 (by rw [this]; exact h3) h
  · have := ofN_lt hd (by intro h; cases h); rw [show D.toN .d4=4 from rfl] at this; exact key c4 (by rw [this]; exact h4) h
  · have := ofN_lt hd (by intro h; cases h); rw [show D.toN .d5=5 from rfl] at this; exact key c5 (by rw [this]; exact h5) h
  · have := ofN_lt hd (by intro h; cases h); rw [show D.toN .d6=6 from rfl] at this; exact key c6 (by rw [this]; exact h6) h
  · have := ofN_lt hd (by intro h; cases h); rw [show D.toN .d7=7 from rfl] at this; exact key c7 (by rw [this]; exact h7) h
  · have := ofN_lt hd (by intro h; cases h); rw [show D.toN .d8=8 from rfl] at this; exact key c8 (by rw [this]; exact h8) h
  · have := ofN_lt hd (by intro h; cases h); rw [show D.toN .d9=9 from rfl] at this; exact key c9 (by rw [this]; exact h9) h
  · have := ofN_lt hd (by intro h; cases h); rw [show D.toN .d10=10 from rfl] at this; exact key ca (by rw [this]; exact h10) h
  · have := ofN_lt hd (by intro h; cases h); rw [show D.toN .d11=11 from rfl] at this; exact key cb (by rw [this]; exact h11) h
  · have := ofN_lt hd (by intro h; cases h); rw [show D.toN .d12=12 from rfl] at this; exact key cc (by rw [this]; exact h12) h
  · have := ofN_lt hd (by intro h; cases h); rw [show D.toN .d13=13 from rfl] at this; exact key cd (by rw [this]; exact h13) h
  · have := ofN_lt hd (by intro h; cases h); rw [show D.toN .d14=14 from rfl] at this; exact key ce (by rw [this]; exact h14) h
  · have h:FA.sel (D.ofN (f % 16)) (FB.sel (D.ofN (f / 16 % 16)) HM)=some e := h
    rw [TM, SN] at h; cases h
/-- The environment of a program in which some functions range over functions. -/
def JE (P:Program) (fs:List Nat):Env := { v := fun _ => .bool true, ap := fun f => @Bool.rec (fun _ => Option ApC) none (ML P f) (fs.contains f) }
def OP (P:Program) (g:FuncId):Bool := match P.funcs[g]? with
  | some fn => fn.body.isSome && !(fn.name == "runtime.NumGoroutine")
  | none => false
theorem Rh {g:FuncId} (h:OP P g=true):Ld P g := by
  unfold OP at h
  split at h
  · rename_i fn hfn
    simp only [Bool.and_eq_true, Bool.not_eq_true'] at h
    obtain ⟨c, hc⟩ := Option.isSome_iff_exists.1 h.1
    exact ⟨fn, c, hfn, hc, h.2⟩
  · cases h
def Adj (P:Program) (f:FuncId):Option Rd := (ML P f).bind (Vs P)
theorem DV.mk {fs:List Nat} {f:FuncId} {its:List Nat} {rd:Rd} (hf:fs.contains f=true) (h:Adj P f=some rd) (hb:its.all (OP P)=true):DV P (JE P fs) f (.ap f its rd) := by
  unfold Adj at h
  cases hA:ML P f with
  | none => rw [hA] at h; cases h
  | some A =>
    rw [hA] at h
    exact ⟨its, rd, A, rfl, by show @Bool.rec (fun _ => Option ApC) none (ML P f) (fs.contains f)=_; rw [hf]; exact hA, hA, h, fun g hg => Rh (List.all_eq_true.1 hb g hg)⟩
theorem Aw.apE {f:FuncId} {e:Ent} (h:DV P ρ f e):Aw P ρ B f (some e) := fun e' h' => by cases h'; exact .inr (.inr (.inl h))
theorem Hq.mk {fs:List Nat} {T:FC} (h:∀ f e, BD (AI f) T=some e->Nc P (JE P fs) B f e) (ha:∀ f∈fs, ∃ e, BD (AI f) T=some e∧DV P (JE P fs) f e):Hq P (JE P fs) B T := by
  refine ⟨h, fun f A hA => ?_⟩
  have hA:@Bool.rec (fun _ => Option ApC) none (ML P f) (fs.contains f)=some A := hA
  cases hc:fs.contains f with
  | false => rw [hc] at hA; cases hA
  | true => exact ha f (List.contains_iff_mem.1 hc)
theorem W1 {Q:Nat->Prop}:∀ f∈([]:List Nat), Q f := fun f h => by cases h
theorem SX {Q:Nat->Prop} {x:Nat} {l:List Nat} (h:Q x) (k:∀ f∈l, Q f):∀ f∈x::l, Q f := fun f hf => by
  rcases List.mem_cons.1 hf with rfl | hf
  · exact h
  · exact k f hf
/-- A call that is evaluated to true, from values that the arguments tell of. -/
theorem NK (hρ:B4 ρ) (hm:P.follows .mixedOrders=true) {T:FC} (hT:∀ B, Hq P ρ B T) {m:Nat} {f:FuncId} {fn:Func} {args:List V}
    (hf:P.funcs[f]? = some fn) (hb:fn.body.isSome=true) (hn:(fn.name == "runtime.NumGoroutine")=false) (hx:V0 (Az T m (AI f) args Aq SA)=true) {xs:Array Value} (hr:Bi ρ (fun _ => none) args xs.toList) (w:World) (hgl:XA ρ w := by intro b c e fr h; have h:(none:Option (Array Value×TypeId×(Nat×Nat)))=some (c, e, fr) := h; cases h) :
    Calls P f xs w fun e w' => e = .returned (.bool true)∧Below w.heap.size w w' := by
  obtain ⟨h1, n1, hx⟩ := UU hx
  obtain ⟨c, hc⟩ := Option.isSome_iff_exists.1 hb
  have := Ir (R := fun x w' => x = .bool true∧Below w.heap.size w w') hf hc (by simpa using hn) (fun o a K Q hK =>
    W7 (B := w.heap.size) hρ hm (hT _) m f args Aq SA _ h1 n1 hx (fun _ => none) w xs (UB w SA hgl) hr o a K Q fun x w' ⟨φ', f1, _, hr⟩ => hK x w' ⟨by simpa only [Aj] using hr, Q5 f1⟩)
  refine this.mono fun e w' he => ?_
  cases e with
  | returned v => exact ⟨by rw [he.1], he.2⟩
  | _ => exact he.elim
end
end Go.Ev

namespace Go.Ev
set_option linter.unusedVariables false
open Go.RowKit
section
variable {P:Program} {ρ:Env} {B:Nat}
end
end Go.Ev

namespace Go.Ev
set_option linter.unusedVariables false
def Rx (r:R) (κ:S->Heap->K4->R):R :=
  @R.rec (fun _ => R) (fun e t h n => @Ex.rec (fun _ => R) (κ t h n) (fun id => .ok (.exit id) t h n) (.ok .ret t h n) e) (By "") (fun w => .fail w) (fun _ _ a b => .both a b) r
def Aat (body:S->Heap->K4->R) (ih:Nat->S->Heap->K4->R) (k:Nat) (t:S) (h:Heap) (n:K4):R :=
  @Nat.rec (fun _ => R) (.fail "") (fun k _ => Rx (body t h n) (ih k)) k
theorem I9 (body:S->Heap->K4->R):∀ (k:Nat) (t:S) (h:Heap) (n:K4), J6 body k t h n=Aat body (J6 body) k t h n
  | 0, _, _, _ => rfl
  | _+1, _, _, _ => rfl
def QX (v:V):Bool :=
  @V.rec (fun _ => Bool) (fun _ => Unit) (fun _ _ => false) (fun b => b) (fun _ _ => false) (fun _ _ _ _ _ _ => false) (fun _ _ => false) (fun _ _ => false) (fun _ => false) (fun _ => false) (fun _ _ _ => false) (fun _ _ => false) (fun _ => false) () (fun _ _ _ _ => ()) v
theorem Fh:∀ {m:Nat} {xs:List V} {v:V} {κ:V->R}, xs[m]? = some v->BK m xs κ=κ v
  | 0, [], _, _, h => by cases h
  | 0, x::_, _, _, h => by cases h; rfl
  | m+1, [], _, _, h => by cases h
  | m+1, x::xs, v, κ, h => Fh (m := m) (xs := xs) h
theorem S7 {v:V} (h:QX v=true):v = .bool true := by
  cases v with
  | bool b => rw [show b=true from h]
  | _ => cases h
theorem MZ {p:K4} {off:Nat} {h:Heap} {xs:List V} {sup:Bool} {prev:Option K4} {v:V} {κ:V->R} (hp:A8 p h=some (.c (.l xs) sup prev)) (hv:xs[off]? = some v):AP (.ptr p off) h κ=κ v := by
  show GD p h (fun cs _ _ => Gt cs off κ)=_
  rw [DC]
  have e:(GW p h fun cs _ _ => Gt cs off κ)=@Option.rec Ob (fun _ => R) (.fail "") (fun o => @Ob.rec (fun _ => R) (fun cs _ _ => Gt cs off κ) (By "") (Fl "") (.fail "") (As "") o) (A8 p h) := Cz _ _ _
  rw [e, hp]
  exact Fh hv
section
variable {G:R->Prop}
end
end Go.Ev

namespace Go.Ev
set_option linter.unusedVariables false
end Go.Ev

namespace Go.Ev
set_option linter.unusedVariables false
theorem IA {P:Program} {f:FuncId} {fn:Func} {c:Code} {xs:Array Value} {w:World} {R:Value->World->Prop} (hf:P.funcs[f]? = some fn) (hb:fn.body=some c) (hn:(fn.name == "runtime.NumGoroutine")=false)
    (h:Calls P f xs w fun e w' => ∃ v, e = .returned v∧R v w'):L3 P f xs w R := by
  intro o a K Q hK
  have hn':fn.name ≠ "runtime.NumGoroutine" := by simpa using hn
  have e:(callFunc f xs).run P w = .ok (.enter f xs) w := by simp [callFunc, hf, hn', hb]
  rw [e]
  show Calls P f xs w _
  refine h.mono fun e w' ⟨v, he, hv⟩ => ?_
  subst he
  exact hK v w' hv
section
variable {P:Program} {ρ:Env} {B:Nat}
end
abbrev iI (n:Nat):V := .int .i64 n
abbrev iW (n:Nat):V := .int .u32 n
abbrev iL (n:Nat):V := .int .u64 n
abbrev nR (t:S) (h:Heap) (n:K4):R := .ok .nrm t h n
abbrev rT (t:S) (h:Heap) (n:K4):R := .ok .ret t h n
def o8 (i:Nat):O8 := @Nat.rec (fun _ => O8) .d0 (fun i _ => @Nat.rec (fun _ => O8) .d1 (fun i _ => @Nat.rec (fun _ => O8) .d2 (fun i _ => @Nat.rec (fun _ => O8) .d3 (fun i _ => @Nat.rec (fun _ => O8) .d4 (fun i _ => @Nat.rec (fun _ => O8) .d5 (fun i _ => @Nat.rec (fun _ => O8) .d6 (fun _ _ => .d7) i) i) i) i) i) i) i
def o4 (i:Nat):O4 := @Nat.rec (fun _ => O4) .d0 (fun i _ => @Nat.rec (fun _ => O4) .d1 (fun i _ => @Nat.rec (fun _ => O4) .d2 (fun _ _ => .d3) i) i) i
def mS (l:List Nat):SM := @List.rec Nat (fun _ => Nat->SM) (fun _ => []) (fun p _ ih i => (⟨D.ofN (Nat.div p 16), D.ofN (Nat.mod p 16)⟩, ⟨o8 (Nat.div i 4), o4 (Nat.mod i 4)⟩)::ih (Nat.succ i)) l 0
end Go.Ev

namespace Go.Ev
set_option linter.unusedVariables false
abbrev JN := Nat->Option (Array Value×TypeId×(Nat×Nat))
/-- The environment of a program whose blocks gl stay as they are. -/
def Zl (P:Program) (fs:List Nat) (gl:JN):Env := { JE P fs with gl := gl }
section
variable {P:Program} {ρ:Env} {B:Nat}
theorem DV.gl {fs:List Nat} {gl:JN} {f:FuncId} {e:Ent} (h:DV P (JE P fs) f e):DV P (Zl P fs gl) f e := h
/-- A table that stays. -/
def XV (P:Program) (gl:JN) (name:String) (k:IntKind) (zs:List Int):Prop := ∃ g e fr, P.globalNamed name=some g∧gl g=some ((zs.map fun z => Value.int k z).toArray, e, fr)
theorem XV.is {gl:JN} {name:String} {k:IntKind} {zs:List Int} {h:Heap} {n:K4} {φ:AF} {w:World} (t:XV P gl name k zs) (hgl:ρ.gl=gl) (g:Gam ρ B h n φ w):Lib.TabIs P w name k zs := by
  obtain ⟨b, e, fr, h1, h2⟩ := t
  obtain ⟨_, h3⟩ := g.glob b _ e fr (by rw [hgl]; exact h2)
  unfold Lib.TabIs World.var?
  rw [h1, Option.bind_some, h3]
/-- The blocks of a world that a list names. -/
def MR (w:World) (l:List Nat):JN := fun b => if b∈l then (match w.heap[b]? with | some (.cells c e fr) => some (c, e, fr) | _ => none) else none
theorem XU {P:Program} {fs:List Nat} {w:World} {l:List Nat}:XA (Zl P fs (MR w l)) w := fun b c e fr h => by
  have h:MR w l b=some (c, e, fr) := h
  unfold MR at h
  split at h
  · split at h
    · rename_i c' e' fr' hw
      cases h
      refine ⟨?_, hw⟩
      rcases Nat.lt_or_ge b w.heap.size with hb | hb
      · exact hb
      · rw [Array.getElem?_eq_none hb] at hw; cases hw
    · cases h
  · cases h
theorem XV.of {w:World} {l:List Nat} {g:Nat} {name:String} {k:IntKind} {zs:List Int} (hg:P.globalNamed name=some g) (hl:g∈l) (h:Lib.TabIs P w name k zs):XV P (MR w l) name k zs := by
  unfold Lib.TabIs World.var? at h
  rw [hg, Option.bind_some] at h
  split at h
  · rename_i c e fr hw
    cases h
    refine ⟨g, e, fr, hg, ?_⟩
    unfold MR
    rw [if_pos hl, hw]
  · cases h
end
end Go.Ev

namespace Go.Ev
set_option linter.unusedVariables false
open Go.RowKit
section
variable {P:Program} {ρ:Env} {B:Nat}
/-- What stands below stays; new blocks are nothing to it. -/
theorem Gam.below {h:Heap} {n:K4} {φ:AF} {w w':World} (g:Gam ρ B h n φ w) (b:Below w.heap.size w w'):Gam ρ B h n φ w'∧Fr h h φ φ n n w w' := by
  obtain ⟨b1, b2, b3, b4, b5⟩ := b
  refine ⟨⟨Nat.le_trans g.base b4, g.dom, fun p b s t hp => ⟨(g.blk p b s t hp).1, Nat.lt_of_lt_of_le (g.blk p b s t hp).2 b4⟩, fun p o b s t ho hp => BN (b5 b (g.blk p b s t hp).2) (g.obj p o b s t ho hp), g.sep, g.sup,
    fun b c e fr hb => ⟨(g.glob b c e fr hb).1, by rw [b5 b (Nat.lt_of_lt_of_le (g.glob b c e fr hb).1 g.base)]; exact (g.glob b c e fr hb).2⟩⟩,
    ⟨AF.le_refl φ, fun _ _ h => .inl h, Nat.le_refl _, b1, b2, b3, b4, fun b hb _ => b5 b hb, fun _ _ _ _ h => .inl h, fun _ _ h => h⟩⟩
end
end Go.Ev

namespace Go.Ev
set_option linter.unusedVariables false
/-- The environment of a program with symbols, whose blocks gl stay as they are. -/
def KP (P:Program) (fs:List Nat) (v:Nat->Value) (gl:JN):Env := { JE P fs with v := v, gl := gl }
theorem Abe {P:Program} {fs:List Nat} {v:Nat->Value} {gl:JN} (h:∀ i, (v i).oneCell'=true):B4 (KP P fs v gl) := h
section
variable {P:Program} {ρ:Env} {B:Nat}
theorem DV.ar {fs:List Nat} {v:Nat->Value} {gl:JN} {f:FuncId} {e:Ent} (h:DV P (JE P fs) f e):DV P (KP P fs v gl) f e := h
theorem Hq.mkA {fs:List Nat} {v:Nat->Value} {gl:JN} {T:FC} (h:∀ f e, BD (AI f) T=some e->Nc P (KP P fs v gl) B f e) (ha:∀ f∈fs, ∃ e, BD (AI f) T=some e∧DV P (KP P fs v gl) f e):Hq P (KP P fs v gl) B T := by
  refine ⟨h, fun f A hA => ?_⟩
  have hA:@Bool.rec (fun _ => Option ApC) none (ML P f) (fs.contains f)=some A := hA
  cases hc:fs.contains f with
  | false => rw [hc] at hA; cases hA
  | true => exact ha f (List.contains_iff_mem.1 hc)
theorem VE {fs:List Nat} {v:Nat->Value} {w:World} {l:List Nat}:XA (KP P fs v (MR w l)) w := fun b c e fr h => XU (P := P) (fs := fs) (w := w) (l := l) b c e fr h
theorem TP {w:World} {l:List Nat} {b:Nat} {c:Array Value} {e:TypeId} {fr:Nat×Nat} (hb:b∈l) (h:w.heap[b]? = some (.cells c e fr)):MR w l b=some (c, e, fr) := by
  unfold MR
  rw [if_pos hb, h]
/-- A cell of a world. -/
theorem Rr {w:World} {a:Addr} {v:Value} (h:w.cell? a=some v):∃ b o c e fr, a=⟨b, o, none⟩∧w.heap[b]? = some (.cells c e fr)∧c[o]? = some v := by
  obtain ⟨b, o, sp⟩ := a
  unfold World.cell? at h
  split at h
  · rename_i c e fr hw
    split at h
    · cases h
    · rename_i hs
      cases sp with
      | none => exact ⟨b, o, c, e, fr, rfl, hw, h⟩
      | some x => exact absurd rfl hs
  · cases h
end
section
variable {ρ:Env} {φ:AF} {b o len cap lo hi hi' i:Nat} {c:Array Value} {e:TypeId} {fr:Nat×Nat}
end
end Go.Ev

namespace Go.Ev
set_option linter.unusedVariables false
theorem Zk (k:IntKind) (a b:Nat) (κ:V->R):FG (.int k a) (.int k b) κ=κ (.int k ((a+b) % Mk k)) := by
  show kM k k (fun M => Ac (Nat.mod (Nat.add a b) M) fun r => κ (.int k r))=_
  rw [Pr, Am.2 rfl, Ab, Aa]; rfl
/-- A difference. -/
def VD (k:IntKind) (a b:Nat):Nat := (a+(Mk k - b)) % Mk k
theorem Zj (k:IntKind) (a b:Nat) (κ:V->R):V9 (.int k a) (.int k b) κ=κ (.int k (VD k a b)) := by
  show kM k k (fun M => Ac (Nat.mod (Nat.add a (Nat.sub M b)) M) fun r => κ (.int k r))=_
  rw [Pr, Am.2 rfl, Ab, Aa]; rfl
theorem Zv (k:IntKind) (a b:Nat) (κ:V->R):Z0 (.int k a) (.int k b) κ=κ (.int k ((a*b) % Mk k)) := by
  show kM k k (fun M => Ac (Nat.mod (Nat.mul a b) M) fun r => κ (.int k r))=_
  rw [Pr, Am.2 rfl, Ab, Aa]; rfl
theorem D8 (a b:Nat):Nat.beq a b=decide (a=b) := by
  rw [Bool.eq_iff_iff, decide_eq_true_iff]
  exact ⟨Nat.eq_of_beq_eq_true, fun h => by rw [h]; exact Nat.beq_refl b⟩
theorem Yy (k:IntKind) (a b:Nat) (κ:V->R):DW (.int k a) (.int k b) κ=κ (.bool (decide (a=b))) := by
  show kM k k (fun _ => Bv (Nat.beq a b) fun r => κ (.bool r))=_
  rw [Pr, Am.2 rfl, Ab, B2, D8]
theorem Z6 (k:IntKind) (a b:Nat) (κ:V->R):G2 (.int k a) (.int k b) κ=κ (.bool (decide (¬ a=b))) := by
  show kM k k (fun _ => br (Nat.beq a b) (κ (.bool false)) (κ (.bool true)))=_
  rw [Pr, Am.2 rfl, Ab, D8]
  by_cases h:a=b
  · rw [decide_eq_true h, decide_eq_false (fun g => g h)]; rfl
  · rw [decide_eq_false h, decide_eq_true h]; rfl
/-- Signed numbers that are not negative, and unsigned ones, by their residues. -/
theorem Wl {k:IntKind} {a b:Nat} (ha:a<Hk k) (hb:b<Hk k):DY k a b=decide (a<b) := by
  unfold DY
  rw [Au ha, Au hb, Ag, Ag, BV]
  exact decide_eq_decide.2 Nat.succ_le_iff
theorem Zr (k:IntKind) (a b:Nat) (κ:V->R):FV (.int k a) (.int k b) κ=κ (.bool (DY k a b)) := by
  show kH k k (fun H => Bv (Yh H a b) fun r => κ (.bool r))=_
  rw [TI, Am.2 rfl, Ab, B2]; rfl
theorem Z4 (k:IntKind) (a b:Nat) (κ:V->R):Pt (.int k a) (.int k b) κ=κ (.bool (DY k b a)) := by
  show kH k k (fun H => Bv (Yh H b a) fun r => κ (.bool r))=_
  rw [TI, Am.2 rfl, Ab, B2]; rfl
theorem ZL (k:IntKind) (a b:Nat) (κ:V->R):YD (.int k a) (.int k b) κ=κ (.bool (!DY k b a)) := by
  show kH k k (fun H => br (Yh H b a) (κ (.bool false)) (κ (.bool true)))=_
  rw [TI, Am.2 rfl, Ab, Vq]; cases DY k b a <;> rfl
theorem ZC (k:IntKind) (a b:Nat) (κ:V->R):Zq (.int k a) (.int k b) κ=κ (.bool (!DY k a b)) := by
  show kH k k (fun H => br (Yh H a b) (κ (.bool false)) (κ (.bool true)))=_
  rw [TI, Am.2 rfl, Ab, Vq]; cases DY k a b <;> rfl
theorem Z8 {k:IntKind} {a b:Nat} (ha:a<Hk k) (hb:b<Hk k) (h0:0<b) (κ:V->R):YL (.int k a) (.int k b) κ=κ (.int k (a / b)) := by
  show br (AQ k k) (br (Nat.ble (Nat.succ a) (Hk k)) (br (Nat.ble (Nat.succ b) (Hk k)) (br (Nat.ble 1 b) (Ac (Nat.div a b) fun r => κ (.int k r)) _) _) _) _=_
  rw [Am.2 rfl, Ab, A9.2 ha, Ab, A9.2 hb, Ab, A9.2 h0, Ab, Aa]; rfl
theorem ZF {k:IntKind} {a b:Nat} (ha:a<Hk k) (hb:b<Hk k) (h0:0<b) (κ:V->R):YA (.int k a) (.int k b) κ=κ (.int k (a % b)) := by
  show br (Nat.ble (Nat.succ a) (Hk k)) (br (AQ k k) (br (Nat.ble (Nat.succ a) (Hk k)) (br (Nat.ble (Nat.succ b) (Hk k)) (br (Nat.ble 1 b) (Ac (Nat.mod a b) fun r => κ (.int k r)) (.fail "")) (.fail "")) (.fail "")) (.fail "")) (Om k a k b κ)=_
  rw [show Nat.ble (Nat.succ a) (Hk k)=true from A9.2 ha, Ab, Am.2 rfl, Ab, Ab, show Nat.ble (Nat.succ b) (Hk k)=true from A9.2 hb, Ab, show Nat.ble 1 b=true from A9.2 h0, Ab, Aa]; rfl
theorem Z2 (k:IntKind) (a b:Nat) (κ:V->R):Zh (.int k a) (.int k b) κ=κ (.int k (a &&& b)) := by
  show br (AQ k k) (Ac (Nat.land a b) fun r => κ (.int k r)) _=_
  rw [Am.2 rfl, Ab, Aa]; rfl
theorem Ad6 (k:IntKind) (a b:Nat) (κ:V->R):Abz (.int k a) (.int k b) κ=κ (.int k (a ||| b)) := by
  show br (AQ k k) (Ac (Nat.lor a b) fun r => κ (.int k r)) _=_
  rw [Am.2 rfl, Ab, Aa]; rfl
theorem YI (k:IntKind) (a b:Nat) (κ:V->R):Zx (.int k a) (.int k b) κ=κ (.int k (a ^^^ b)) := by
  show br (AQ k k) (Ac (Nat.xor a b) fun r => κ (.int k r)) _=_
  rw [Am.2 rfl, Ab, Aa]; rfl
/-- A number turned into one of another kind: not negative. -/
theorem Zt {k j:IntKind} {a:Nat} (h:a<Hk j) (κ:V->R):Yw k (.int j a) κ=κ (.int k (a % Mk k)) := by
  show br (Nat.ble (Nat.succ a) (Hk j)) (Ac (Nat.mod a (Mk k)) fun r => κ (.int k r)) _=_
  rw [A9.2 h, Ab, Aa]; rfl
theorem Abo (b:Bool) (x y:R):Ed (.bool b) x y=bif b then x else y := by cases b <;> rfl
theorem Wm (b:Bool) (x y:V) (κ:V->R):C9 (.bool b) x y κ=bif b then κ x else κ y := by cases b <;> rfl
theorem YU (b:Bool) (κ:V->R):Hy (.bool b) κ=κ (.bool (!b)) := by cases b <;> rfl
theorem Zg (w b:Bool) (h:Heap) (n:K4) (F:KV->R) (κ:KV):Ur w (.bool b) h n F κ=bif b == w then F κ else κ B8 h n := by cases w <;> cases b <;> rfl
theorem YM (w b:Bool) (F:(V->R)->R) (κ:V->R):FJ w (.bool b) F κ=bif b == w then F κ else κ B8 := by cases w <;> cases b <;> rfl
theorem Zd (v:V) (h:Heap) (n:K4) (κ:V->R):AM (.rv v h n) κ=κ v := id rfl
theorem Zu (v:V) (h:Heap) (n:K4) (κ:KV):Ij (.rv v h n) κ=κ v h n := id rfl
theorem VG (v:V) (h:Heap) (n:K4) (κ:KV):AG (.rv v h n) κ=κ v h n := id rfl
theorem Sl (t:S) (h:Heap) (n:K4) (κ:S->Heap->K4->R):CQ (.ok .nrm t h n) κ=κ t h n := id rfl
theorem SC (i:Nat) (t:S) (h:Heap) (n:K4) (κ:S->Heap->K4->R):CQ (.ok (.exit i) t h n) κ = .ok (.exit i) t h n := id rfl
theorem SY (t:S) (h:Heap) (n:K4) (κ:S->Heap->K4->R):CQ (.ok .ret t h n) κ = .ok .ret t h n := id rfl
theorem Pv (i:Nat) (t:S) (h:Heap) (n:K4) (κ:S->Heap->K4->R):AO i (.ok .nrm t h n) κ=κ t h n := id rfl
theorem Pz (i:Nat) (t:S) (h:Heap) (n:K4) (κ:S->Heap->K4->R):AO i (.ok .ret t h n) κ = .ok .ret t h n := id rfl
theorem Ps (i j:Nat) (t:S) (h:Heap) (n:K4) (κ:S->Heap->K4->R):AO i (.ok (.exit j) t h n) κ=bif decide (j=i) then κ t h n else .ok (.exit j) t h n := by
  show br (Nat.beq j i) (κ t h n) (.ok (.exit j) t h n)=_
  rw [D8]; cases decide (j=i) <;> rfl
theorem Sq (b:Bool) (x y:R) (κ:S->Heap->K4->R):CQ (bif b then x else y) κ=bif b then CQ x κ else CQ y κ := by cases b <;> rfl
theorem QR (i:Nat) (b:Bool) (x y:R) (κ:S->Heap->K4->R):AO i (bif b then x else y) κ=bif b then AO i x κ else AO i y κ := by cases b <;> rfl
theorem Vb (b:Bool) (x y:R) (κ:V->R):AM (bif b then x else y) κ=bif b then AM x κ else AM y κ := by cases b <;> rfl
theorem VY (b:Bool) (x y:R) (κ:KV):Ij (bif b then x else y) κ=bif b then Ij x κ else Ij y κ := by cases b <;> rfl
/-- What a cell of an object is. -/
def ZD (o:BX) (off:Nat) (κ:V->R):R := @Option.rec Ob (fun _ => R) (.fail "") (fun o => @Ob.rec (fun _ => R) (fun cs _ _ => Gt cs off κ) (By "") (Fl "") (.fail "") (As "") o) o
theorem Aa6 (p:K4) (off:Nat) (h:Heap) (κ:V->R):AP (.ptr p off) h κ=ZD (A8 p h) off κ := by
  show GD p h (fun cs _ _ => Gt cs off κ)=_
  rw [DC]; unfold GW ZD; rw [Cz]
theorem Qk (xs:List V) (s:Bool) (pr:Option K4) (off:Nat) (κ:V->R):ZD (some (.c (.l xs) s pr)) off κ=BK off xs κ := id rfl
theorem Vv (x:V) (xs:List V) (κ:V->R):BK 0 (x::xs) κ=κ x := id rfl
theorem Xk (m:Nat) (x:V) (xs:List V) (κ:V->R):BK (m+1) (x::xs) κ=BK m xs κ := id rfl
theorem Zw (off o:Nat) (p:K4) (κ:V->R):Ax off (.ptr p o) κ=κ (.ptr p (o+off)) := by
  show Ac (Nat.add o off) (fun o => κ (.ptr p o))=_
  rw [Aa]; rfl
theorem Tj (p:K4) (o:Nat) (κ:V->R):AL (.ptr p o) κ=κ (.ptr p o) := id rfl
end Go.Ev

namespace Go.Ev
set_option linter.unusedVariables false
theorem D.nx_all (d:D):(d.toN=15 ∧ ∀ (k:D->R) (c:R), d.nx k c=c) ∨ ∃ e:D, e.toN=d.toN+1 ∧ ∀ (k:D->R) (c:R), d.nx k c=k e := by
  cases d
  case d0 => exact .inr ⟨.d1, rfl, fun _ _ => rfl⟩
  case d1 => exact .inr ⟨.d2, rfl, fun _ _ => rfl⟩
  case d2 => exact .inr ⟨.d3, rfl, fun _ _ => rfl⟩
  case d3 => exact .inr ⟨.d4, rfl, fun _ _ => rfl⟩
  case d4 => exact .inr ⟨.d5, rfl, fun _ _ => rfl⟩
  case d5 => exact .inr ⟨.d6, rfl, fun _ _ => rfl⟩
  case d6 => exact .inr ⟨.d7, rfl, fun _ _ => rfl⟩
  case d7 => exact .inr ⟨.d8, rfl, fun _ _ => rfl⟩
  case d8 => exact .inr ⟨.d9, rfl, fun _ _ => rfl⟩
  case d9 => exact .inr ⟨.d10, rfl, fun _ _ => rfl⟩
  case d10 => exact .inr ⟨.d11, rfl, fun _ _ => rfl⟩
  case d11 => exact .inr ⟨.d12, rfl, fun _ _ => rfl⟩
  case d12 => exact .inr ⟨.d13, rfl, fun _ _ => rfl⟩
  case d13 => exact .inr ⟨.d14, rfl, fun _ _ => rfl⟩
  case d14 => exact .inr ⟨.d15, rfl, fun _ _ => rfl⟩
  case d15 => exact .inl ⟨rfl, fun _ _ => rfl⟩
theorem K4.nx_all (p:K4) (h:p.toN<65535):∃ q:K4, q.toN=p.toN+1 ∧ ∀ k:K4->R, p.nx k=k q := by
  obtain ⟨a, b, c, d⟩ := p
  simp only [K4.toN] at h
  have hd0:D.d0.toN=0 := id rfl
  have ha := a.toN_lt; have hb := b.toN_lt; have hc := c.toN_lt; have hd := d.toN_lt
  rcases d.nx_all with ⟨d1, d2⟩ | ⟨e, d1, d2⟩
  · rcases c.nx_all with ⟨c1, c2⟩ | ⟨e, c1, c2⟩
    · rcases b.nx_all with ⟨b1, b2⟩ | ⟨e, b1, b2⟩
      · rcases a.nx_all with ⟨a1, a2⟩ | ⟨e, a1, a2⟩
        · omega
        · exact ⟨⟨e, .d0, .d0, .d0⟩, by simp only [K4.toN, hd0]; omega, fun k => by show d.nx _ (c.nx _ (b.nx _ (a.nx _ _)))=_; rw [d2, c2, b2, a2]⟩
      · exact ⟨⟨a, e, .d0, .d0⟩, by simp only [K4.toN, hd0]; omega, fun k => by show d.nx _ (c.nx _ (b.nx _ _))=_; rw [d2, c2, b2]⟩
    · exact ⟨⟨a, b, e, .d0⟩, by simp only [K4.toN, hd0]; omega, fun k => by show d.nx _ (c.nx _ _)=_; rw [d2, c2]⟩
  · exact ⟨⟨a, b, c, e⟩, by simp only [K4.toN]; omega, fun k => by show d.nx _ _=_; rw [d2]⟩
/-- The next place, where there is one. -/
def K4.up (p:K4):K4 := if h:p.toN<65535 then Classical.choose (p.nx_all h) else p
theorem K4.up_toN {p:K4} (h:p.toN<65535):p.up.toN=p.toN+1 := by
  unfold K4.up; rw [dif_pos h]; exact (Classical.choose_spec (p.nx_all h)).1
theorem K4.nx_up {p:K4} (h:p.toN<65535) (k:K4->R):p.nx k=k p.up := by
  unfold K4.up; rw [dif_pos h]; exact (Classical.choose_spec (p.nx_all h)).2 k
theorem K4.ne_of_lt {p q:K4} (h:p.toN<q.toN):p≠q := fun e => by subst e; omega
theorem El {n:K4} (hn:n.toN<65535) (h:Heap) (o:Ob) (κ:Heap->K4->R):DR h n o κ=κ (Af n h (some o)) n.up := by
  rw [I4]
  have e:CY h n o κ=n.nx fun n' => κ (Af n h (some o)) n' := AA _ _ _ _
  rw [e, K4.nx_up hn]
theorem SP {n:K4} (hn:n.toN<65535) (h:Heap) (κ:KV):Lc h n κ=κ (.map n) (Af n h (some (.m [] [] 0))) n.up := El hn _ _ _
theorem Wy {n:K4} (hn:n.toN<65535) (l:List V) (h:Heap) (κ:KV):DT (.agg l) h n κ=κ (.ptr n 0) (Af n h (some (.c (.l l) false none))) n.up := El hn _ _ _
theorem Z5 {n:K4} (hn:n.toN<65535) (cs:Cs) (h:Heap) (κ:KV):FW cs h n κ=κ (.ptr n 0) (Af n h (some (.c cs false none))) n.up := El hn _ _ _
theorem RU {n:K4} (hn:n.toN<65535) (len esz:Nat) (l:List V) (h:Heap) (κ:KV):EE false len esz l h n κ=κ (.sl n 0 len len true esz) (Af n h (some (.c (.l l) false none))) n.up := El hn _ _ _
theorem W3 {n:K4} (hn:n.toN<65535) (esz:Nat) (h:Heap) (κ:KV):EE true 0 esz [] h n κ=κ (.sl n 0 0 0 true esz) (Af n h (some (.c (.b 0 0) false none))) n.up := El hn _ _ _
theorem HQ:∀ {m:Nat} {xs:List V} {k:List V->R}, m≤xs.length->BZ m xs k=k (xs.take m)
  | 0, xs, k, _ => rfl
  | m+1, [], k, h => by simp at h
  | m+1, x::xs, k, h => by
    have := HQ (m := m) (xs := xs) (k := fun zs => k (x::zs)) (by simpa using h)
    exact this
theorem Ht:∀ {m:Nat} {xs:List V} {k:List V->R}, m≤xs.length->CN m xs k=k (xs.drop m)
  | 0, xs, k, _ => rfl
  | m+1, [], k, h => by simp at h
  | m+1, x::xs, k, h => Ht (m := m) (xs := xs) (k := k) (by simpa using h)
theorem SJ:∀ {m:Nat} {xs:List V} {k:V->R} {v:V}, xs[m]? = some v->BK m xs k=k v
  | 0, [], k, v, h => by simp at h
  | 0, x::xs, k, v, h => by simp at h; subst h; rfl
  | m+1, [], k, v, h => by simp at h
  | m+1, x::xs, k, v, h => SJ (m := m) (xs := xs) (k := k) (by simpa using h)
theorem IH {p:K4} {h:Heap} {cs:Cs} {s:Bool} {pr:Option K4} (hp:A8 p h=some (.c cs s pr)) (κ:Cs->Bool->Option K4->R):GW p h κ=κ cs s pr := by
  unfold GW; rw [Cz, hp]
theorem Tq:∀ {off:Nat} {xs:List V} {v:V} {κ:List V->R}, off<xs.length->Br off xs v κ=κ (xs.set off v)
  | 0, [], v, κ, h => by simp at h
  | 0, x::xs, v, κ, h => rfl
  | off+1, [], v, κ, h => by simp at h
  | off+1, x::xs, v, κ, h => Tq (off := off) (xs := xs) (v := v) (κ := fun zs => κ (x::zs)) (by simpa using h)
/-- One cell of a struct. -/
theorem Ae0 {p:K4} {h:Heap} {xs:List V} {off:Nat} (hp:A8 p h=some (.c (.l xs) false none)) (ho:off<xs.length) (v:V) (κ:Heap->R):Jr h p off v κ=κ (Af p h (some (.c (.l (xs.set off v)) false none))) := by
  rw [Jr, Ku, IH hp]
  show Br off xs v (fun zs => JF none h fun h => DQ p h (some (.c (.l zs) false none)) κ)=_
  rw [Tq ho]
  exact AA _ _ _ _
theorem HA.setS_setS (d:D) (p:HA) (x y:BX):HA.setS d (HA.setS d p x) y=HA.setS d p y := by cases d <;> cases p <;> rfl
theorem HB.setS_setS (d:D) (p:HB) (x y:HA):HB.setS d (HB.setS d p x) y=HB.setS d p y := by cases d <;> cases p <;> rfl
theorem HC.setS_setS (d:D) (p:HC) (x y:HB):HC.setS d (HC.setS d p x) y=HC.setS d p y := by cases d <;> cases p <;> rfl
theorem Heap.setS_setS (d:D) (p:Heap) (x y:HC):Heap.setS d (Heap.setS d p x) y=Heap.setS d p y := by cases d <;> cases p <;> rfl
theorem I0 (p:K4) (h:Heap) (x y:BX):Af p (Af p h x) y=Af p h y := by
  cases p
  simp only [Af, DQ, Heap.setK_eq, HC.setK_eq, HB.setK_eq, HA.setK_eq, Heap.selK_eq, HC.selK_eq, HB.selK_eq, id, Heap.sel_setS_same, HC.sel_setS_same, HB.sel_setS_same, Heap.setS_setS, HC.setS_setS, HB.setS_setS, HA.setS_setS]
/-- A store of one cell to a struct. -/
def Xw (o:BX) (h:Heap) (p:K4) (off:Nat) (v:V) (κ:Heap->R):R :=
  match o with
  | some (.c (.l xs) false none) => bif Nat.ble (off+1) xs.length then κ (Af p h (some (.c (.l (xs.set off v)) false none))) else Jr h p off v κ
  | _ => Jr h p off v κ
theorem IU (h:Heap) (p:K4) (off:Nat) (v:V) (κ:Heap->R):Jr h p off v κ=Xw (A8 p h) h p off v κ := by
  unfold Xw
  split
  · rename_i xs hp
    cases hb:Nat.ble (off+1) xs.length with
    | true => exact Ae0 hp (A9.1 hb) v κ
    | false => rfl
  · rfl
theorem YN (xs:List V) (h:Heap) (p:K4) (off:Nat) (v:V) (κ:Heap->R):Xw (some (.c (.l xs) false none)) h p off v κ=bif Nat.ble (off+1) xs.length then κ (Af p h (some (.c (.l (xs.set off v)) false none))) else Jr h p off v κ := id rfl
theorem VZ (p:K4) (off:Nat) (h:Heap) (k:IntKind) (r:Nat) (κ:Heap->R):Dj (.ptr p off) (.int k r) h κ=Xw (A8 p h) h p off (.int k r) κ := IU _ _ _ _ _
theorem Tx (p:K4) (off:Nat) (h:Heap) (b:Bool) (κ:Heap->R):Dj (.ptr p off) (.bool b) h κ=Xw (A8 p h) h p off (.bool b) κ := IU _ _ _ _ _
theorem Vk (p:K4) (off:Nat) (h:Heap) (q:K4) (r:Nat) (κ:Heap->R):Dj (.ptr p off) (.ptr q r) h κ=Xw (A8 p h) h p off (.ptr q r) κ := IU _ _ _ _ _
theorem Xm (p:K4) (off:Nat) (h:Heap) (q:K4) (κ:Heap->R):Dj (.ptr p off) (.map q) h κ=Xw (A8 p h) h p off (.map q) κ := IU _ _ _ _ _
theorem VM (p:K4) (off:Nat) (h:Heap) (w:Nl) (κ:Heap->R):Dj (.ptr p off) (.nil w) h κ=Xw (A8 p h) h p off (.nil w) κ := IU _ _ _ _ _
theorem Ze (p:K4) (off:Nat) (h:Heap) (q:K4) (a b c:Nat) (e:Bool) (z:Nat) (κ:Heap->R):Dj (.ptr p off) (.sl q a b c e z) h κ=Xw (A8 p h) h p off (.sl q a b c e z) κ := IU _ _ _ _ _
theorem WX (p:K4) (off:Nat) (h:Heap) (n c:Nat) (κ:Heap->R):Dj (.ptr p off) (.str n c) h κ=Xw (A8 p h) h p off (.str n c) κ := IU _ _ _ _ _
theorem WH (neg:Bool) (p:K4) (o:Nat) (κ:V->R):Hl neg (.rf .ptr) (.ptr p o) (.nil .ptr) κ=κ (.bool neg) := by cases neg <;> rfl
theorem X2 (neg:Bool) (w:Nl) (κ:V->R):Hl neg (.rf w) (.nil w) (.nil w) κ=κ (.bool (!neg)) := by cases neg <;> cases w <;> rfl
theorem V7 (neg:Bool) (p:K4) (a b c:Nat) (e:Bool) (z:Nat) (κ:V->R):Hl neg (.rf .sl) (.sl p a b c e z) (.nil .sl) κ=κ (.bool neg) := by cases neg <;> rfl
theorem VI (neg:Bool) (n c:Nat) (κ:V->R):Hl neg (.rf .sl) (.oth (.rb n c)) (.nil .sl) κ=κ (.bool neg) := by cases neg <;> rfl
theorem TL {a b:Nat} (ha:a<18446744073709551616) (hb:b<18446744073709551616):(AS (Hk .i64) (Mk .i64) a+1≤AS (Hk .i64) (Mk .i64) b ↔ DY .i64 a b=true)∧(DY .i64 a b=false->AS (Hk .i64) (Mk .i64) b≤AS (Hk .i64) (Mk .i64) a) := by
  have h1:∀ x:Nat, x<18446744073709551616->(Nat.ble (Hk .i64) x=true∧9223372036854775808≤x∧AS (Hk .i64) (Mk .i64) x=x - 9223372036854775808)∨(Nat.ble (Hk .i64) x=false∧x<9223372036854775808∧AS (Hk .i64) (Mk .i64) x=x+9223372036854775808) := fun x hx => by
    unfold AS
    rcases Nat.lt_or_ge x 9223372036854775808 with h | h
    · exact .inr ⟨Au h, h, by rw [Au (show x<Hk .i64 from h), Ag]; rfl⟩
    · exact .inl ⟨A9.2 h, h, by rw [A9.2 (show Hk .i64≤x from h), Ab]; rfl⟩
  have e:DY .i64 a b=br (Nat.ble (Hk .i64) a) (br (Nat.ble (Hk .i64) b) (Nat.ble (Nat.succ a) b) true) (br (Nat.ble (Hk .i64) b) false (Nat.ble (Nat.succ a) b)) := id rfl
  rw [e]
  have h2 := h1 a ha; have h3 := h1 b hb
  clear h1 e
  generalize AS (Hk .i64) (Mk .i64) a=ka at *
  generalize AS (Hk .i64) (Mk .i64) b=kb at *
  rcases h2 with ⟨a1, a2, a3⟩ | ⟨a1, a2, a3⟩ <;> rcases h3 with ⟨b1, b2, b3⟩ | ⟨b1, b2, b3⟩ <;> rw [a1, b1] <;> simp only [Ab, Ag, BV, decide_eq_true_eq, decide_eq_false_iff_not, Bool.true_eq_false, Bool.false_eq_true, iff_false, iff_true, Nat.succ_eq_add_one, false_implies, and_true, true_implies] <;> omega
theorem ZA {a b:Nat} (ha:a<18446744073709551616) (hb:b<18446744073709551616) (κ:V->R):ZE (.int .i64 a) (.int .i64 b) κ=κ (.int .i64 (bif DY .i64 a b then b else a)) := by
  have on:∀ x, Cq (Hk .i64) x x=true := fun x => by
    unfold Cq
    rcases Nat.lt_or_ge x (Hk .i64) with h | h
    · rw [A9.2 h, Ab]
    · rw [A9.2 h]; cases Nat.ble (Nat.succ x) (Hk .i64) <;> rfl
  show br (AQ .i64 .i64) (br (Cq (Hk .i64) a a) (br (Cq (Hk .i64) b b) (Xu (AS (Hk .i64) (Mk .i64) a) (AS (Hk .i64) (Mk .i64) a) (AS (Hk .i64) (Mk .i64) b) (AS (Hk .i64) (Mk .i64) b) (κ (.int .i64 b)) (κ (.int .i64 a))) (.fail "")) (.fail "")) (.fail "")=_
  rw [Am.2 rfl, Ab, on, Ab, on, Ab]
  unfold Xu
  obtain ⟨k1, k2⟩ := TL ha hb
  cases hl:DY .i64 a b with
  | true => rw [A9.2 (k1.2 hl), Ab]; rfl
  | false =>
    have:¬ (AS (Hk .i64) (Mk .i64) a+1≤AS (Hk .i64) (Mk .i64) b) := fun h => by rw [k1.1 h] at hl; cases hl
    rw [Au (by show _<_; omega), Ag, A9.2 (k2 hl), Ab]; rfl
theorem YP {a b:Nat} (ha:a<18446744073709551616) (hb:b<18446744073709551616) (κ:V->R):Zo (.int .i64 a) (.int .i64 b) κ=κ (.int .i64 (bif DY .i64 b a then b else a)) := by
  have on:∀ x, Cq (Hk .i64) x x=true := fun x => by
    unfold Cq
    rcases Nat.lt_or_ge x (Hk .i64) with h | h
    · rw [A9.2 h, Ab]
    · rw [A9.2 h]; cases Nat.ble (Nat.succ x) (Hk .i64) <;> rfl
  show br (AQ .i64 .i64) (br (Cq (Hk .i64) a a) (br (Cq (Hk .i64) b b) (Xu (AS (Hk .i64) (Mk .i64) b) (AS (Hk .i64) (Mk .i64) b) (AS (Hk .i64) (Mk .i64) a) (AS (Hk .i64) (Mk .i64) a) (κ (.int .i64 b)) (κ (.int .i64 a))) (.fail "")) (.fail "")) (.fail "")=_
  rw [Am.2 rfl, Ab, on, Ab, on, Ab]
  unfold Xu
  obtain ⟨k1, k2⟩ := TL hb ha
  cases hl:DY .i64 b a with
  | true => rw [A9.2 (k1.2 hl), Ab]; rfl
  | false =>
    have:¬ (AS (Hk .i64) (Mk .i64) b+1≤AS (Hk .i64) (Mk .i64) a) := fun h => by rw [k1.1 h] at hl; cases hl
    rw [Au (by show _<_; omega), Ag, A9.2 (k2 hl), Ab]; rfl
theorem Ad3 {a b:Nat} (ha:a<9223372036854775808) (hb:b<9223372036854775808):DY .i64 a b=decide (a<b) := Wl ha hb
theorem Z9 {a b:Nat} (ha:9223372036854775808≤a) (hb:b<9223372036854775808):DY .i64 a b=true := by
  unfold DY; rw [A9.2 (show Hk .i64≤a from ha), Au (show b<Hk .i64 from hb)]; rfl
theorem Zn {a b:Nat} (ha:a<9223372036854775808) (hb:9223372036854775808≤b):DY .i64 a b=false := by
  unfold DY; rw [A9.2 (show Hk .i64≤b from hb), Au (show a<Hk .i64 from ha)]; rfl
theorem YJ {a b:Nat} (ha:9223372036854775808≤a) (hb:9223372036854775808≤b):DY .i64 a b=decide (a<b) := by
  unfold DY; rw [A9.2 (show Hk .i64≤a from ha), A9.2 (show Hk .i64≤b from hb), Ab, Ab, BV]; exact decide_eq_decide.2 Nat.succ_le_iff
theorem ltu {k:IntKind} {a b:Nat} (hk:Hk k=Mk k) (ha:a<Mk k) (hb:b<Mk k):DY k a b=decide (a<b) := Wl (by rw [hk]; exact ha) (by rw [hk]; exact hb)
theorem YW {a b:Nat} (ha:a<18446744073709551616) (hb:b<18446744073709551616):DY .u64 a b=decide (a<b) := ltu rfl ha hb
theorem YR {a b:Nat} (h:b≤a) (ha:a<18446744073709551616):VD .i64 a b=a - b := by
  unfold VD
  show (a+(18446744073709551616 - b)) % 18446744073709551616=_
  omega
theorem Sx:VD .i64 0 1=18446744073709551615 := by decide
theorem Tu:VD .i64 18446744073709551615 1=18446744073709551614 := by decide
end Go.Ev

namespace Go.Ev
set_option linter.unusedVariables false
/-- A text, bytes in memory, bytes of memory that stays. -/
def sb (l:List UInt8):V := .str l.length (Al l)
def cb (l:List UInt8):Cs := .b l.length (Al l)
def Ag8 (l:List UInt8):V := .oth (.rb l.length (Al l))
theorem Og (l:List UInt8) (i m:Nat):lo (sh (Al l) i) m=Al ((l.drop i).take m) := by
  rw [FH, HF, Lj, Mb]
theorem ZP (l:List UInt8):lo (Al l) l.length=Al l := by
  rw [FH, Mb, List.take_length]
theorem Y4 (a b:List UInt8):Al a+up (Al b) a.length=Al (a++b) := by
  rw [Tm, HN]
theorem U9 {l:List UInt8} {i m:Nat} (h:i+m≤l.length):((l.drop i).take m).length=m := by
  rw [List.length_take, List.length_drop]; omega
theorem K9 {l:List UInt8} {i m:Nat} (h:i+m≤l.length) (κ:Cs->R):AJ (cb l) i m κ=κ (cb ((l.drop i).take m)) := by
  show br (Nat.ble (Nat.add i m) l.length) (Ac (lo (sh (Al l) i) m) fun r => κ (.b m r)) _=_
  rw [show Nat.ble (Nat.add i m) l.length=true from A9.2 h, Ab, Aa, Og]
  unfold cb; rw [U9 h]
theorem Yo (a b:List UInt8) (κ:Cs->R):QT (cb a) (cb b) κ=κ (cb (a++b)) := by
  show Ac (Nat.add a.length b.length) (fun l => Ac (Nat.add (lo (Al a) a.length) (up (Al b) a.length)) fun r => κ (.b l r))=_
  rw [Aa, Aa, ZP]
  show κ (.b (a.length+b.length) (Al a+up (Al b) a.length))=_
  rw [Y4]; unfold cb; rw [List.length_append]
theorem Abf (l:List UInt8) (h:l.length<9223372036854775808) (κ:V->R):V8 (sb l) κ=κ (.int .i64 l.length) := by
  show br (Nat.ble (Nat.succ l.length) 9223372036854775808) (κ (.int .i64 l.length)) _=_
  rw [A9.2 h, Ab]
theorem Aec {p:K4} {h:Heap} {l:List UInt8} {s:Bool} {pr:Option K4} {off len cap:Nat} {ex:Bool} (hp:A8 p h=some (.c (cb l) s pr)) (hl:off+len≤l.length) (κ:Nat->Cs->R):L5 1 (.sl p off len cap ex 1) h κ=κ len (cb ((l.drop off).take len)) := by
  show br (Nat.beq 1 1) (GW p h fun cs _ _ => Ac (Nat.mul len 1) fun m => AJ cs off m fun y => κ len y) (.fail "")=_
  rw [Nat.beq_refl, Ab, IH hp, Aa, show Nat.mul len 1=len from Nat.mul_one len, K9 hl]
theorem Yg {m:Nat} (hm:0<m) (hm2:m≤1000000000000) {n:K4} (hn:n.toN<65535) (y:Cs) (h:Heap) (κ:KV):Bz 1 1 (.nil .sl) m y h n κ=κ (.sl n 0 m m false 1) (Af n h (some (.c y false none))) n.up := by
  show br (Nat.beq m 0) (κ (.nil .sl) h n) (br (Nat.ble (Nat.mul (Nat.add (Nat.mul 4 m) 4096) 1) 281474976710656) (DR h n (.c y false none) fun h' n' => κ (.sl n 0 m m false 1) h' n') (.fail ""))=_
  rw [D8, decide_eq_false (by omega), Ag, show Nat.ble (Nat.mul (Nat.add (Nat.mul 4 m) 4096) 1) 281474976710656=true from A9.2 (by show (4*m+4096)*1≤_; omega), Ab, El hn]
theorem WV {x:V} (hx:x = .nil .sl ∨ ∃ p off len cap ex, x = .sl p off len cap ex 1) (y:Cs) (h:Heap) (n:K4) (κ:KV):Bz 1 1 x 0 y h n κ=κ x h n := by
  rcases hx with rfl | ⟨p, off, len, cap, ex, rfl⟩ <;> rfl
/-- Bytes of one's own, full: they grow, and lie anew. -/
theorem PN {p:K4} {h:Heap} {a b:List UInt8} {pr:Option K4} (hp:A8 p h=some (.c (cb a) false pr)) {ex:Bool} (hb:0<b.length) (hm2:a.length+b.length≤1000000000000) {n:K4} (hn:n.toN<65535) (κ:KV) :
    Bz 1 1 (.sl p 0 a.length a.length ex 1) b.length (cb b) h n κ=if ex then κ (.sl n 0 (a++b).length (a++b).length false 1) (Af n h (some (.c (cb (a++b)) false none))) n.up
      else κ (.sl n 0 (a++b).length (a++b).length false 1) (Af n (Af p (BS pr h) (some (.c (cb a) true none))) (some (.c (cb (a++b)) false (some p)))) n.up := by
  show br (Nat.beq 1 1) (br (Nat.beq b.length 0) (κ (.sl p 0 a.length a.length ex 1) h n) (Ac (Nat.add a.length b.length) fun need => br (Nat.ble need a.length) (Ac (Nat.add 0 (Nat.mul a.length 1)) fun j => Dt h p j (cb b) fun h' => κ (.sl p 0 need a.length ex 1) h' n)
    (br (Nat.ble (Nat.mul (Nat.add (Nat.mul 4 need) 4096) 1) 281474976710656)
      (GD p h fun cs sup prev => Ac (Nat.mul a.length 1) fun l => AJ cs 0 l fun x => QT x (cb b) fun z =>
        br ex (DR h n (.c z false none) fun h' n' => κ (.sl n 0 need need false 1) h' n')
          (br sup (.fail "") (Ac (Nat.add 0 l) fun j => AJ cs 0 j fun old => JF prev h fun h => DQ p h (some (.c old true none)) fun h =>
            DR h n (.c z false (some p)) fun h' n' => κ (.sl n 0 need need false 1) h' n'))) (.fail "")))) (.fail "")=_
  have e1:∀ l:List UInt8, (l.drop 0).take l.length=l := fun l => by rw [List.drop_zero, List.take_length]
  have e3:Nat.ble (Nat.mul (Nat.add (Nat.mul 4 (Nat.add a.length b.length)) 4096) 1) 281474976710656=true := A9.2 (by show (4*(a.length+b.length)+4096)*1≤_; omega)
  have e4:Nat.ble (Nat.add a.length b.length) a.length=false := Au (by show a.length<a.length+b.length; omega)
  rw [Nat.beq_refl, Ab, D8, decide_eq_false (by omega), Ag, Aa, e4, Ag, e3, Ab, DC, IH hp, Aa, show Nat.mul a.length 1=a.length from Nat.mul_one _, K9 (by omega), e1, Yo]
  have e2:Nat.add a.length b.length=(a++b).length := by rw [List.length_append]; rfl
  rw [e2]
  cases ex with
  | true => rw [Ab, El hn]; rfl
  | false =>
    rw [Ag, Ag, Aa, show Nat.add 0 a.length=a.length from Nat.zero_add _, K9 (by omega), e1, CW, AA, El hn]; rfl
end Go.Ev

namespace Go.Ev
set_option linter.unusedVariables false
theorem Zz (c:FL) (en:List V->(S->R)->R) (bo:FL->S->Heap->K4->R) (re:S->Heap->K4->R) (args:List V) (h:Heap) (n:K4):MM c (some (.code en bo re)) args h n=en args fun t => Kf (bo c t h n) re := id rfl
theorem Abg (v:V) (l:List V) (k:V->List V->R):EB (v::l) k=k v l := id rfl
theorem Ad9 (k:R):J3 [] k=k := id rfl
theorem WZ (t:S) (h:Heap) (n:K4) (res:S->Heap->K4->R):Kf (.ok .ret t h n) res=res t h n := id rfl
theorem Wx (t:S) (h:Heap) (n:K4) (res:S->Heap->K4->R):Kf (.ok .nrm t h n) res=res t h n := id rfl
theorem VW (b:Bool) (x y:R) (res:S->Heap->K4->R):Kf (bif b then x else y) res=bif b then Kf x res else Kf y res := by cases b <;> rfl
theorem Aba (t:S) (h:Heap) (n:K4):rT t h n = .ok .ret t h n := id rfl
theorem Ac0 (t:S) (h:Heap) (n:K4):nR t h n = .ok .nrm t h n := id rfl
theorem Adt (r:Nat):iI r = .int .i64 r := id rfl
theorem Ae6 (v:V) (κ:V->R):AM (AD v) κ=κ v := id rfl
end Go.Ev

namespace Go.Ev
set_option linter.unusedVariables false
def Yr (o:BX) (κ:List (V×V)->List Nat->Nat->R):R :=
  @Option.rec Ob (fun _ => R) (.fail "") (fun o => @Ob.rec (fun _ => R) (By "") κ (Fl "") (.fail "") (As "") o) o
theorem Pm (es:List (V×V)) (bs:List Nat) (c:Nat) (κ:List (V×V)->List Nat->Nat->R):Yr (some (.m es bs c)) κ=κ es bs c := id rfl
theorem Iz (p:K4) (h:Heap) (κ:List (V×V)->List Nat->Nat->R):Qy p h κ=Yr (A8 p h) κ := by unfold Qy; rw [Cz]; rfl
theorem Abw (p:K4) (a c:Nat) (w:V) (h:Heap) (κ:Heap->R):U4 (.sc .s) (.map p) (.str a c) w h κ=Yr (A8 p h) fun es bs k => GF (.sc .s) (.str a c) w es fun es' => Xv es' bs k fun bs' k' => κ (Af p h (some (.m es' bs' k'))) := by
  show PM p h (fun es bs c' k => GF (.sc .s) (.str a c) w es fun es => Xv es bs c' fun bs c => k es bs c) κ=_
  rw [Jx, Iz]
  simp only [AA]
theorem Acr (z:V) (p:K4) (a c:Nat) (h:Heap) (κ:V->R):QL (.sc .s) z false (.map p) (.str a c) h κ=Yr (A8 p h) fun es _ _ => BR (.sc .s) (.str a c) es κ (κ z) := by
  show J5 p h (fun es _ _ => BR (.sc .s) (.str a c) es (fun r => κ r) (κ z))=_
  rw [FD, Iz]
theorem ZG (p:K4) (a c:Nat) (h:Heap) (κ:Heap->R):PQ (.sc .s) (.map p) (.str a c) h κ=Yr (A8 p h) fun es bs k => GV (.sc .s) (.str a c) es fun es2 => GN (.sc .s) (.str a c) es bs fun bs' => κ (Af p h (some (.m es2 bs' k))) := by
  show PM p h (fun es bs c' k => GV (.sc .s) (.str a c) es fun es2 => GN (.sc .s) (.str a c) es bs fun bs => k es2 bs c') κ=_
  rw [Jx, Iz]
  simp only [AA]
theorem Vh (es:List (V×V)) (κ:Nat->R):PL es κ=κ es.length := by
  induction es generalizing κ with
  | nil => rfl
  | cons e es ih => exact (ih fun n => Ac (Nat.succ n) κ).trans (Aa _ _)
theorem CL {m:Nat} (h:m<9223372036854775808) (κ:V->R):DK m κ=κ (.int .i64 m) := by
  show br (Nat.ble (Nat.succ m) 9223372036854775808) (κ (.int .i64 m)) (.fail "")=_
  rw [show Nat.ble (Nat.succ m) 9223372036854775808=true from A9.2 h, Ab]
theorem Yx (p:K4) (h:Heap) (κ:V->R):TD (.map p) h κ=Yr (A8 p h) fun es _ _ => DK es.length κ := by
  show J5 p h (fun es _ _ => PL es fun m => DK m κ)=_
  rw [FD, Iz]
  simp only [Vh]
theorem Oo (k:V) (κf:V->R) (κn:R):BR (.sc .s) k [] κf κn=κn := id rfl
theorem Nx (a c m d:Nat) (w:V) (es:List (V×V)) (κf:V->R) (κn:R):BR (.sc .s) (.str a c) ((.str m d, w)::es) κf κn=bif Dl a c m d then κf w else BR (.sc .s) (.str a c) es κf κn := by
  show Bv (Dl a c m d) (fun r => br r (κf w) (BR (.sc .s) (.str a c) es κf κn))=_
  rw [B2]; cases Dl a c m d <;> rfl
theorem Qj (k v:V) (κ:List (V×V)->R):GF (.sc .s) k v [] κ=κ [(k, v)] := id rfl
theorem PV (a c m d:Nat) (v w:V) (es:List (V×V)) (κ:List (V×V)->R):GF (.sc .s) (.str a c) v ((.str m d, w)::es) κ=bif Dl a c m d then κ ((.str a c, v)::es) else GF (.sc .s) (.str a c) v es fun l => κ ((.str m d, w)::l) := by
  show Bv (Dl a c m d) (fun r => br r (κ ((.str a c, v)::es)) (GF (.sc .s) (.str a c) v es fun l => κ ((.str m d, w)::l)))=_
  rw [B2]; cases Dl a c m d <;> rfl
theorem Qm (k:V) (κ:List (V×V)->R):GV (.sc .s) k [] κ=κ [] := id rfl
theorem Px (a c m d:Nat) (w:V) (es:List (V×V)) (κ:List (V×V)->R):GV (.sc .s) (.str a c) ((.str m d, w)::es) κ=bif Dl a c m d then κ es else GV (.sc .s) (.str a c) es fun l => κ ((.str m d, w)::l) := by
  show Bv (Dl a c m d) (fun r => br r (κ es) (GV (.sc .s) (.str a c) es fun l => κ ((.str m d, w)::l)))=_
  rw [B2]; cases Dl a c m d <;> rfl
theorem QD (k:V) (bs:List Nat) (κ:List Nat->R):GN (.sc .s) k [] bs κ=κ bs := id rfl
theorem PK (a c m d b:Nat) (w:V) (es:List (V×V)) (bs:List Nat) (κ:List Nat->R):GN (.sc .s) (.str a c) ((.str m d, w)::es) (b::bs) κ=bif Dl a c m d then κ bs else GN (.sc .s) (.str a c) es bs fun l => κ (b::l) := by
  show Bv (Dl a c m d) (fun r => br r (κ bs) (GN (.sc .s) (.str a c) es bs fun l => κ (b::l)))=_
  rw [B2]; cases Dl a c m d <;> rfl
theorem Hz (a c m d:Nat):Dl a c m d=(decide (a=m)&&decide (c=d)) := by unfold Dl; rw [D8, D8]
theorem Mc:∀ (es:List (V×V)) (bs:List Nat), Ge es bs=decide (es.length=bs.length)
  | [], [] => rfl
  | [], _::_ => rfl
  | _::_, [] => rfl
  | e::es, b::bs => by
    have := Mc es bs
    show Ge es bs=_
    rw [this]; simp
theorem Yk (bs:List Nat) (c:Nat) (κ:List Nat->R):T4 bs c κ=κ (bs++[c]) := by
  induction bs generalizing κ with
  | nil => rfl
  | cons b bs ih => exact ih fun l => κ (b::l)
theorem T7 (es:List (V×V)) (bs:List Nat) (c:Nat) (κ:List Nat->Nat->R):Xv es bs c κ=bif decide (es.length=bs.length) then κ bs c else κ (bs++[c]) (c+1) := by
  unfold Xv
  rw [Mc]
  cases decide (es.length=bs.length) with
  | true => rfl
  | false =>
    rw [Ag, Yk, Aa]; rfl
theorem W8 (x v:V) (xs:List V) (κ:List V->R):Br 0 (x::xs) v κ=κ (v::xs) := id rfl
theorem WA (m:Nat) (x v:V) (xs:List V) (κ:List V->R):Br (m+1) (x::xs) v κ=Br m xs v fun zs => κ (x::zs) := id rfl
theorem Wz (o:Nat) (k:IntKind) (r:Nat) (z:List V) (κ:List V->R):Bd o (.int k r) z κ=Br o z (.int k r) κ := id rfl
theorem Sv (o:Nat) (b:Bool) (z:List V) (κ:List V->R):Bd o (.bool b) z κ=Br o z (.bool b) κ := id rfl
theorem Wj (o:Nat) (p:K4) (r:Nat) (z:List V) (κ:List V->R):Bd o (.ptr p r) z κ=Br o z (.ptr p r) κ := id rfl
theorem Vi (o:Nat) (p:K4) (z:List V) (κ:List V->R):Bd o (.map p) z κ=Br o z (.map p) κ := id rfl
theorem Vu (o:Nat) (a c:Nat) (z:List V) (κ:List V->R):Bd o (.str a c) z κ=Br o z (.str a c) κ := id rfl
theorem VR (o:Nat) (w:Nl) (z:List V) (κ:List V->R):Bd o (.nil w) z κ=Br o z (.nil w) κ := id rfl
theorem YH (o:Nat) (q:K4) (a b c:Nat) (e:Bool) (x:Nat) (z:List V) (κ:List V->R):Bd o (.sl q a b c e x) z κ=Br o z (.sl q a b c e x) κ := id rfl
def S9 (o:BX) (m off:Nat) (κ:V->R):R := @Option.rec Ob (fun _ => R) (.fail "") (fun o => @Ob.rec (fun _ => R) (fun cs _ _ => AJ cs off m fun y => DJ y fun l => κ (.agg l)) (By "") (Fl "") (.fail "") (As "") o) o
theorem ZB (m:Nat) (p:K4) (off:Nat) (h:Heap) (κ:V->R):BA m (.ptr p off) h κ=S9 (A8 p h) m off κ := by
  show GD p h (fun cs _ _ => AJ cs off m fun y => DJ y fun l => κ (.agg l))=_
  rw [DC]; unfold GW S9; rw [Cz]
theorem X4 {xs:List V} {m off:Nat} (h:off+m≤xs.length) (s:Bool) (pr:Option K4) (κ:V->R):S9 (some (.c (.l xs) s pr)) m off κ=κ (.agg ((xs.drop off).take m)) := by
  show CN off xs (fun ys => BZ m ys fun zs => κ (.agg zs))=_
  rw [Ht (by omega), HQ (by rw [List.length_drop]; omega)]
theorem K4.nx16_all (p:K4) (h:p.toN<65520):∃ q:K4, q.toN=(p.toN / 16+1)*16∧q.d = .d0 ∧ ∀ k:K4->R, p.nx16 k=k q := by
  obtain ⟨a, b, c, d⟩ := p
  simp only [K4.toN] at h
  have hd0:D.d0.toN=0 := rfl
  have ha := a.toN_lt; have hb := b.toN_lt; have hc := c.toN_lt; have hd := d.toN_lt
  rcases c.nx_all with ⟨c1, c2⟩ | ⟨e, c1, c2⟩
  · rcases b.nx_all with ⟨b1, b2⟩ | ⟨e, b1, b2⟩
    · rcases a.nx_all with ⟨a1, a2⟩ | ⟨e, a1, a2⟩
      · omega
      · exact ⟨⟨e, .d0, .d0, .d0⟩, by simp only [K4.toN, hd0]; omega, rfl, fun k => by show c.nx _ (b.nx _ (a.nx _ _))=_; rw [c2, b2, a2]⟩
    · exact ⟨⟨a, e, .d0, .d0⟩, by simp only [K4.toN, hd0]; omega, rfl, fun k => by show c.nx _ (b.nx _ _)=_; rw [c2, b2]⟩
  · exact ⟨⟨a, b, e, .d0⟩, by simp only [K4.toN, hd0]; omega, rfl, fun k => by show c.nx _ _=_; rw [c2]⟩
open Classical in
def K4.up16 (p:K4):K4 := if h:p.toN<65520 then Classical.choose (p.nx16_all h) else p
theorem K4.up16_toN {p:K4} (h:p.toN<65520):p.up16.toN=(p.toN / 16+1)*16 := by
  unfold K4.up16; rw [dif_pos h]; exact (Classical.choose_spec (p.nx16_all h)).1
theorem K4.nx16_up {p:K4} (h:p.toN<65520) (k:K4->R):p.nx16 k=k p.up16 := by
  unfold K4.up16; rw [dif_pos h]; exact (Classical.choose_spec (p.nx16_all h)).2.2 k
def K4.pl (p:K4) (j:D):K4 := ⟨p.a, p.b, p.c, j⟩
theorem K4.pl_toN {p:K4} (h:p.toN<65520) (j:D):(p.up16.pl j).toN=(p.toN / 16+1)*16+j.toN := by
  have h1 := K4.up16_toN h
  have h2:p.up16.d = .d0 := by unfold K4.up16; rw [dif_pos h]; exact (Classical.choose_spec (p.nx16_all h)).2.1
  rw [←h1]
  unfold K4.pl
  simp only [K4.toN, h2]
  show _=_+(D.d0.toN)+_
  rw [show D.d0.toN=0 from rfl, Nat.add_zero]
theorem Wh {n:K4} (h:n.toN<65000) (κ:K4->K4->R):Wu n κ=κ n.up16 n.up16.up16 := by
  show n.nx16 (fun b => b.nx16 fun n => κ b n)=_
  have := K4.up16_toN (p := n) (by omega)
  rw [K4.nx16_up (by omega), K4.nx16_up (by omega)]
/-- What is asked of a place that is to be free. -/
def frO (o:BX) (κ:R):R := Gp o κ
theorem Q7 (κ:R):frO none κ=κ := id rfl
theorem Ae2 (b:K4) (j:D) (h:Heap) (κ:R):noX b j h κ=frO (A8 (b.pl j) h) κ := by
  show b.at j (fun r => AT r h fun x => Gp x κ)=_
  rw [K4.at_eq, AB]; rfl
theorem Ack (b:K4) (j:D) (h:Heap) (F:K4->R) (κ:V->Heap->R):alX b j h F κ=frO (A8 (b.pl j) h) (Ij (F (b.pl j)) fun v h _ => κ v h) := by
  show b.at j (fun r => AT r h fun x => Gp x (Ij (F r) fun v h _ => κ v h))=_
  rw [K4.at_eq, AB]; rfl
theorem FT {p q:K4} (h:q.toN<p.toN) (hp:Heap) (o:Option Ob):A8 q (Af p hp o)=A8 q hp := A6 _ _ fun e => by subst e; omega
theorem C3 {p q:K4} (h:p.toN<q.toN) (hp:Heap) (o:Option Ob):A8 q (Af p hp o)=A8 q hp := A6 _ _ fun e => by subst e; omega
theorem TJ (v:V) (h:Heap) (n:K4) (κ:KV):BY (.rv v h n) κ=κ v h n := id rfl
theorem Zs (p:K4) {h:Heap} {n:K4} (hn:n.toN<65535) (κ:KV):Rj (.map p) h n κ=Yr (A8 p h) fun _ _ c => κ (.ptr n 0) (Af n h (some (.it p c [] c))) n.up := by
  show J5 p h (fun _ _ c => DR h n (.it p c [] c) fun h' n' => κ (.ptr n 0) h' n')=_
  rw [FD, Iz]
  simp only [El hn]
def itO (o:BX) (κ0:R) (κ:K4->Nat->List Nat->Nat->R):R := @Option.rec Ob (fun _ => R) (.fail "") (fun o => @Ob.rec (fun _ => R) (By "") (By "") κ κ0 (As "") o) o
theorem WI (p:K4) (a:Nat) (l:List Nat) (c:Nat) (κ0:R) (κ:K4->Nat->List Nat->Nat->R):itO (some (.it p a l c)) κ0 κ=κ p a l c := id rfl
theorem Yz (q:K4) (h:Heap) (κ0:R) (κ:K4->Nat->List Nat->Nat->R):QK q h κ0 κ=itO (A8 q h) κ0 κ := AB _ _ _
theorem ZH (q:K4) (h:Heap) (n:K4) (κ:KV):IF (.ptr q 0) h n κ=itO (A8 q h) (κ (.tup [.bool false]) h n) fun p since seen c => Yr (A8 p h) fun es bs clk => br (DH since bs) (br (Nat.ble since c)
    (Fn seen (LY q p since seen clk h n κ) es bs (κ (.tup [.bool false]) h n)) (.fail "")) (.fail "") := by
  show br (Nat.beq 0 0) (QK q h (κ (.tup [.bool false]) h n) fun p since seen c => J5 p h fun es bs clk => br (DH since bs) (br (Nat.ble since c) (Fn seen (LY q p since seen clk h n κ) es bs (κ (.tup [.bool false]) h n)) (.fail "")) (.fail "")) (.fail "")=_
  rw [Nat.beq_refl, Ab, Yz, FD]
  simp only [Iz]
theorem Mq (seen:List Nat) (leaf:V×V->Nat->R) (bs:List Nat) (none:R):Fn seen leaf [] bs none=none := id rfl
theorem KN (seen:List Nat) (leaf:V×V->Nat->R) (e:V×V) (es:List (V×V)) (b:Nat) (bs:List Nat) (none:R):Fn seen leaf (e::es) (b::bs) none=br (Ch b seen) (Fn seen leaf es bs none) (DO seen leaf es bs (leaf e b)) := id rfl
theorem LU (seen:List Nat) (leaf:V×V->Nat->R) (bs:List Nat) (acc:R):DO seen leaf [] bs acc=acc := id rfl
theorem PY (b:Nat):Ch b []=false := id rfl
theorem NV (b x:Nat) (l:List Nat):Ch b (x::l)=(decide (x=b) || Ch b l) := by
  show br (Nat.beq x b) true (Ch b l)=_
  rw [D8]; cases decide (x=b) <;> rfl
theorem NZ (s:Nat):DH s []=true := id rfl
theorem IN (s b:Nat) (bs:List Nat):DH s (b::bs)=(decide (b<s)&&DH s bs) := by
  show br (Nat.ble (Nat.succ b) s) (DH s bs) false=_
  rw [BV]
  cases h:decide (Nat.succ b≤s) with
  | true => rw [decide_eq_true (show b<s from of_decide_eq_true h)]; rfl
  | false => rw [decide_eq_false (show ¬ b<s from of_decide_eq_false h)]; rfl
theorem SS (q p:K4) (since:Nat) (seen:List Nat) (clk:Nat) (h:Heap) (n:K4) (κ:KV) (k x:V) (b:Nat):LY q p since seen clk h n κ (k, x) b=κ (.tup [.bool true, k, x]) (Af q h (some (.it p since (b::seen) clk))) n := by
  show AV q h (some (.it p since (b::seen) clk)) (fun h' => κ (.tup [.bool true, k, x]) h' n)=_
  rw [Bf, AA]
theorem Yc (b:Bool) (x y:R):br b x y=bif b then x else y := by cases b <;> rfl
theorem Wp (q:K4) (h:Heap) (n:K4) (κ:KV):JP (.ptr q 0) h n κ=itO (A8 q h) (.fail "") fun p since seen c => Yr (A8 p h) fun es bs clk => bif decide (clk=c) then (@List.rec Nat (fun _ => R) (.fail "") (fun s _ _ => DX s es bs fun k x => κ (.tup [k, x]) h n) seen) else .fail "" := by
  show br (Nat.beq 0 0) (QK q h (.fail "") fun p since seen c => J5 p h fun es bs clk => br (Nat.beq clk c) (@List.rec Nat (fun _ => R) (.fail "") (fun s _ _ => DX s es bs fun k x => κ (.tup [k, x]) h n) seen) (.fail "")) (.fail "")=_
  rw [Nat.beq_refl, Ab, Yz, FD]
  simp only [Iz, D8, Yc]
theorem Mv (s:Nat) (k x:V) (es:List (V×V)) (b:Nat) (bs:List Nat) (κ:V->V->R):DX s ((k, x)::es) (b::bs) κ=bif decide (b=s) then κ k x else DX s es bs κ := by
  show br (Nat.beq b s) (κ k x) (DX s es bs κ)=_
  rw [D8, Yc]
theorem Wn (x:V) (l:List V) (κ:V->R):Do 0 (.tup (x::l)) κ=κ x := id rfl
theorem WC (x y:V) (l:List V) (κ:V->R):Do 1 (.tup (x::y::l)) κ=κ y := id rfl
theorem V5 (x y z:V) (l:List V) (κ:V->R):Do 2 (.tup (x::y::z::l)) κ=κ z := id rfl
def lpO (o:BX) (κ:Nat->K4->R):R := @Option.rec Ob (fun _ => R) (.fail "") (fun o => @Ob.rec (fun _ => R) (By "") (By "") (Fl "") (.fail "") (fun f box => κ f box) o) o
theorem WO (f:Nat) (b:K4) (κ:Nat->K4->R):lpO (some (.lp f b)) κ=κ f b := id rfl
theorem Zi (c:FL) (p:K4) (x:V) (h:Heap) (n:K4) (κ:KV):Uw c (.oth (.yl p)) [x] h n κ=lpO (A8 p h) fun f box => BY (c (AI f) [.oth .no, .ptr box 0, x] (Af p h none) n) fun v h n => κ v (Af p h (some (.lp f box))) n := by
  show AT p h (fun o => @Option.rec Ob (fun _ => R) (.fail "") (fun o => @Ob.rec (fun _ => R) (By "") (By "") (Fl "") (.fail "")
    (fun f box => AV p h none fun h => BY (c (AI f) [.oth .no, .ptr box 0, x] h n) fun v h n => AV p h (some (.lp f box)) fun h => κ v h n) o) o)=_
  rw [AB]
  unfold lpO
  simp only [Bf, AA]
theorem Acj (c:FL) (f:Nat) (its:List Nat) (rd:Rd) (b x:V) (h:Heap) (n:K4):MM c (some (.ap f its rd)) [.oth .no, b, x] h n=rd c b x h n := id rfl
def Pn (o:BX) (off m:Nat) (κ:Cs->R):R := @Option.rec Ob (fun _ => R) (.fail "") (fun o => @Ob.rec (fun _ => R) (fun cs _ _ => AJ cs off m κ) (By "") (Fl "") (.fail "") (As "") o) o
theorem Aa7 {xs:List V} {m off:Nat} (h:off+m≤xs.length) (s:Bool) (pr:Option K4) (κ:Cs->R):Pn (some (.c (.l xs) s pr)) off m κ=κ (.l ((xs.drop off).take m)) := by
  show CN off xs (fun ys => BZ m ys fun zs => κ (.l zs))=_
  rw [Ht (by omega), HQ (by rw [List.length_drop]; omega)]
theorem Sn (z eb:Nat) (u:V) (p:K4) (off len cap:Nat) (ex:Bool) (h:Heap) (n:K4) (κ:KV):Dk z eb u (.sl p off len cap ex z) h n κ=Pn (A8 p h) off (len*z) fun y => Bz z eb u len y h n κ := by
  show br (Nat.beq z z) (GW p h fun cs _ _ => Ac (Nat.mul len z) fun m => AJ cs off m fun y => Bz z eb u len y h n κ) (.fail "")=_
  rw [Nat.beq_refl, Ab]
  unfold GW Pn
  rw [Cz]
  simp only [Aa]; rfl
theorem OW {z eb m:Nat} (hm:0<m) (hs:(4*m+4096)*eb≤281474976710656) {n:K4} (hn:n.toN<65535) (y:Cs) (h:Heap) (κ:KV):Bz z eb (.nil .sl) m y h n κ=κ (.sl n 0 m m false z) (Af n h (some (.c y false none))) n.up := by
  show br (Nat.beq m 0) (κ (.nil .sl) h n) (br (Nat.ble (Nat.mul (Nat.add (Nat.mul 4 m) 4096) eb) 281474976710656) (DR h n (.c y false none) fun h' n' => κ (.sl n 0 m m false z) h' n') (.fail ""))=_
  rw [D8, decide_eq_false (by omega), Ag, show Nat.ble (Nat.mul (Nat.add (Nat.mul 4 m) 4096) eb) 281474976710656=true from A9.2 hs, Ab, El hn]
theorem VF (z:Nat) {p:K4} {off len cap:Nat} {ex:Bool} {k:IntKind} {a:Nat} (ha:a<Hk k) (hl:a<len) (κ:V->R):BP z (.sl p off len cap ex z) (.int k a) κ=κ (.ptr p (off+a*z)) := by
  show br (Nat.ble (Nat.succ a) (Hk k)) (br (Nat.beq z z) (br (Nat.ble (Nat.succ a) len) (Ac (Nat.add off (Nat.mul a z)) fun o => κ (.ptr p o)) (.fail "")) (.fail "")) (.fail "")=_
  rw [show Nat.ble (Nat.succ a) (Hk k)=true from A9.2 ha, Ab, Nat.beq_refl, Ab, show Nat.ble (Nat.succ a) len=true from A9.2 hl, Ab, Aa]; rfl
theorem YY {z:Nat} {p:K4} {off len cap:Nat} {ex:Bool} {a:Nat} (ha:a<9223372036854775808) (hl:a<len) (κ:V->R):BP z (.sl p off len cap ex z) (.int .i64 a) κ=κ (.ptr p (off+a*z)) := VF z (k := .i64) ha hl κ
theorem Xh {n:K4} (hn:n.toN<65535) (p:K4) (h:Heap) (κ:KV):DT (.map p) h n κ=κ (.ptr n 0) (Af n h (some (.c (.l [.map p]) false none))) n.up := El hn _ _ _
theorem Ac4:Hk .i64=9223372036854775808 := rfl
theorem YG {p:K4} {off len cap:Nat} {ex:Bool} {z:Nat} (h:len<9223372036854775808) (κ:V->R):Bx (.sl p off len cap ex z) κ=κ (.int .i64 len) := CL h κ
theorem Vc (κ:V->R):Bx (.nil .sl) κ=κ (.int .i64 0) := id rfl
theorem WG {n c:Nat} (h:n<9223372036854775808) (κ:V->R):Bx (.oth (.rb n c)) κ=κ (.int .i64 n) := CL h κ
theorem P5 {l:List RV} {m z:Nat} (h:m<9223372036854775808) (κ:V->R):Bx (.oth (.rx l m z)) κ=κ (.int .i64 m) := CL h κ
/-- Nothing stands where nothing was MG. -/
def B7 (h:Heap) (n:K4):Prop := ∀ q:K4, n.toN≤q.toN->A8 q h=none
theorem V1 (a b c:V) (s:Bool) (pr:Option K4) (κ:V->R):S9 (some (.c (.l [a, b, c]) s pr)) 3 0 κ=κ (.agg [a, b, c]) := id rfl
theorem WM (a b c:V) (s:Bool) (pr:Option K4) (κ:Cs->R):Pn (some (.c (.l [a, b, c]) s pr)) 0 3 κ=κ (.l [a, b, c]) := id rfl
theorem VJ (a:V) (s:Bool) (pr:Option K4) (κ:Cs->R):Pn (some (.c (.l [a]) s pr)) 0 1 κ=κ (.l [a]) := id rfl
theorem TO (a b c x y z:V) (κ:List V->R):Gg 0 3 (.agg [a, b, c]) [x, y, z] κ=κ [a, b, c] := id rfl
theorem IW (body:S->Heap->K4->R) (t:S) (h:Heap) (n:K4):Fp body t h n=Rx (body t h n) (J6 body 999999999) := id rfl
theorem GI (body:S->Heap->K4->R) (m:Nat) (t:S) (h:Heap) (n:K4):J6 body (m+1) t h n=Rx (body t h n) (J6 body m) := id rfl
theorem Vw (t:S) (h:Heap) (n:K4) (κ:S->Heap->K4->R):Rx (.ok .nrm t h n) κ=κ t h n := id rfl
theorem Z7 (i:Nat) (t:S) (h:Heap) (n:K4) (κ:S->Heap->K4->R):Rx (.ok (.exit i) t h n) κ = .ok (.exit i) t h n := id rfl
theorem YT (t:S) (h:Heap) (n:K4) (κ:S->Heap->K4->R):Rx (.ok .ret t h n) κ = .ok .ret t h n := id rfl
theorem Z3 (b:Bool) (x y:R) (κ:S->Heap->K4->R):Rx (bif b then x else y) κ=bif b then Rx x κ else Rx y κ := by cases b <;> rfl
theorem TA (p:K4) (h:Heap) (i:Nat) (κ:V->R):GD p h (fun cs _ _ => Gt cs i κ)=ZD (A8 p h) i κ := Aa6 p i h κ
theorem Qs (p:K4) (h:Heap) (κ:R):AT p h (fun o => Za o κ)=Za (A8 p h) κ := AB _ _ _
theorem WF (f:Nat) (b:K4) (κ:R):Za (some (.lp f b)) κ=κ := id rfl
theorem Tc (p:K4) (h:Heap) (o:BX) (κ:Heap->R):AV p h o κ=κ (Af p h o) := by rw [Bf, AA]
/-- All that a text is told by. -/
theorem qa:type_of% (And.intro (And.intro (And.intro (And.intro (And.intro (And.intro (And.intro @Zz @Abg) (And.intro @Ad9 (And.intro @WZ @Wx))) (And.intro (And.intro @VW (And.intro @Aba @Ac0)) (And.intro @Adt (And.intro @Ae6 @Zk)))) (And.intro (And.intro (And.intro @Zj (And.intro @Zv @Yy)) (And.intro @Z6 (And.intro @Zr @Z4))) (And.intro (And.intro @ZL (And.intro @ZC @ZA)) (And.intro @YP (And.intro @Abo @Wm))))) (And.intro (And.intro (And.intro (And.intro @YU (And.intro @Zg @YM)) (And.intro @Zd (And.intro @Zu @VG))) (And.intro (And.intro @Sl (And.intro @SC @SY)) (And.intro @Pv (And.intro @Pz @Ps)))) (And.intro (And.intro (And.intro @Sq (And.intro @QR @Vb)) (And.intro @VY (And.intro @Aa6 @Qk))) (And.intro (And.intro @Vv (And.intro @Xk @Zw)) (And.intro @Tj (And.intro @VZ @Tx)))))) (And.intro (And.intro (And.intro (And.intro (And.intro @Vk (And.intro @Xm @VM)) (And.intro @Ze (And.intro @WX @YN))) (And.intro (And.intro @WH (And.intro @X2 @V7)) (And.intro @VI (And.intro @A7 @I0)))) (And.intro (And.intro (And.intro @BV (And.intro @Ad3 @Z9)) (And.intro @Zn (And.intro @YJ @YW))) (And.intro (And.intro @YR (And.intro @Sx @Tu)) (And.intro @Abw (And.intro @Pm @Acr))))) (And.intro (And.intro (And.intro (And.intro @ZG (And.intro @Yx @CL)) (And.intro @Oo (And.intro @Nx @Qj))) (And.intro (And.intro @PV (And.intro @Qm @Px)) (And.intro @QD (And.intro @PK @Hz)))) (And.intro (And.intro (And.intro @T7 (And.intro @W8 @WA)) (And.intro @Wz (And.intro @Sv @Wj))) (And.intro (And.intro @Vi (And.intro @Vu @VR)) (And.intro @YH (And.intro @ZB @Wh))))))) (And.intro (And.intro (And.intro (And.intro (And.intro (And.intro @Ae2 @Ack) (And.intro @Q7 (And.intro @FT @C3))) (And.intro (And.intro @TJ (And.intro @Zs @ZH)) (And.intro @WI (And.intro @Mq @KN)))) (And.intro (And.intro (And.intro @LU (And.intro @PY @NV)) (And.intro @NZ (And.intro @IN @SS))) (And.intro (And.intro @Yc (And.intro @Wp @Mv)) (And.intro @Wn (And.intro @WC @V5))))) (And.intro (And.intro (And.intro (And.intro @WO (And.intro @Zi @Acj)) (And.intro @El (And.intro @SP @Wy))) (And.intro (And.intro @Z5 (And.intro @RU @W3)) (And.intro @Zt (And.intro @Z8 @ZF)))) (And.intro (And.intro (And.intro @Z2 (And.intro @Ad6 @YI)) (And.intro @Sn (And.intro @OW @YY))) (And.intro (And.intro @Xh (And.intro @Ac4 @YG)) (And.intro @Vc (And.intro @WG @P5)))))) (And.intro (And.intro (And.intro (And.intro (And.intro @V1 (And.intro @WM @VJ)) (And.intro @TO (And.intro @Vw @Z7))) (And.intro (And.intro @YT (And.intro @Z3 @TA)) (And.intro @Qs (And.intro @WF @Tc)))) (And.intro (And.intro (And.intro @cond_true.{1} (And.intro @cond_false.{1} @List.set_cons_zero.{0})) (And.intro @List.set_cons_succ.{0} (And.intro @List.length_cons.{0} @List.length_nil.{0}))) (And.intro (And.intro @decide_true (And.intro @decide_false @Nat.zero_add)) (And.intro @beq_self_eq_true.{0} (And.intro @Bool.not_true @Bool.not_false))))) (And.intro (And.intro (And.intro (And.intro @bne_self_eq_false.{0} (And.intro @Nat.mod_eq_of_lt @decide_eq_true)) (And.intro @decide_eq_false (And.intro @List.nil_append.{0} @List.cons_append.{0}))) (And.intro (And.intro @List.take_zero.{0} (And.intro @List.drop_zero.{0} @List.drop_succ_cons.{0})) (And.intro @List.take_succ_cons.{0} (And.intro @List.drop_nil.{0} @List.append_nil.{0})))) (And.intro (And.intro (And.intro @Bool.and_true (And.intro @Bool.true_and @Bool.and_false)) (And.intro @Bool.false_and (And.intro @Bool.or_true @Bool.true_or))) (And.intro (And.intro @Bool.or_false (And.intro @Bool.false_or @Nat.one_mul)) (And.intro @Nat.mul_one (And.intro @not_true_eq_false @not_false_eq_true)))))))) := And.intro (And.intro (And.intro (And.intro (And.intro (And.intro (And.intro @Zz @Abg) (And.intro @Ad9 (And.intro @WZ @Wx))) (And.intro (And.intro @VW (And.intro @Aba @Ac0)) (And.intro @Adt (And.intro @Ae6 @Zk)))) (And.intro (And.intro (And.intro @Zj (And.intro @Zv @Yy)) (And.intro @Z6 (And.intro @Zr @Z4))) (And.intro (And.intro @ZL (And.intro @ZC @ZA)) (And.intro @YP (And.intro @Abo @Wm))))) (And.intro (And.intro (And.intro (And.intro @YU (And.intro @Zg @YM)) (And.intro @Zd (And.intro @Zu @VG))) (And.intro (And.intro @Sl (And.intro @SC @SY)) (And.intro @Pv (And.intro @Pz @Ps)))) (And.intro (And.intro (And.intro @Sq (And.intro @QR @Vb)) (And.intro @VY (And.intro @Aa6 @Qk))) (And.intro (And.intro @Vv (And.intro @Xk @Zw)) (And.intro @Tj (And.intro @VZ @Tx)))))) (And.intro (And.intro (And.intro (And.intro (And.intro @Vk (And.intro @Xm @VM)) (And.intro @Ze (And.intro @WX @YN))) (And.intro (And.intro @WH (And.intro @X2 @V7)) (And.intro @VI (And.intro @A7 @I0)))) (And.intro (And.intro (And.intro @BV (And.intro @Ad3 @Z9)) (And.intro @Zn (And.intro @YJ @YW))) (And.intro (And.intro @YR (And.intro @Sx @Tu)) (And.intro @Abw (And.intro @Pm @Acr))))) (And.intro (And.intro (And.intro (And.intro @ZG (And.intro @Yx @CL)) (And.intro @Oo (And.intro @Nx @Qj))) (And.intro (And.intro @PV (And.intro @Qm @Px)) (And.intro @QD (And.intro @PK @Hz)))) (And.intro (And.intro (And.intro @T7 (And.intro @W8 @WA)) (And.intro @Wz (And.intro @Sv @Wj))) (And.intro (And.intro @Vi (And.intro @Vu @VR)) (And.intro @YH (And.intro @ZB @Wh))))))) (And.intro (And.intro (And.intro (And.intro (And.intro (And.intro @Ae2 @Ack) (And.intro @Q7 (And.intro @FT @C3))) (And.intro (And.intro @TJ (And.intro @Zs @ZH)) (And.intro @WI (And.intro @Mq @KN)))) (And.intro (And.intro (And.intro @LU (And.intro @PY @NV)) (And.intro @NZ (And.intro @IN @SS))) (And.intro (And.intro @Yc (And.intro @Wp @Mv)) (And.intro @Wn (And.intro @WC @V5))))) (And.intro (And.intro (And.intro (And.intro @WO (And.intro @Zi @Acj)) (And.intro @El (And.intro @SP @Wy))) (And.intro (And.intro @Z5 (And.intro @RU @W3)) (And.intro @Zt (And.intro @Z8 @ZF)))) (And.intro (And.intro (And.intro @Z2 (And.intro @Ad6 @YI)) (And.intro @Sn (And.intro @OW @YY))) (And.intro (And.intro @Xh (And.intro @Ac4 @YG)) (And.intro @Vc (And.intro @WG @P5)))))) (And.intro (And.intro (And.intro (And.intro (And.intro @V1 (And.intro @WM @VJ)) (And.intro @TO (And.intro @Vw @Z7))) (And.intro (And.intro @YT (And.intro @Z3 @TA)) (And.intro @Qs (And.intro @WF @Tc)))) (And.intro (And.intro (And.intro @cond_true.{1} (And.intro @cond_false.{1} @List.set_cons_zero.{0})) (And.intro @List.set_cons_succ.{0} (And.intro @List.length_cons.{0} @List.length_nil.{0}))) (And.intro (And.intro @decide_true (And.intro @decide_false @Nat.zero_add)) (And.intro @beq_self_eq_true.{0} (And.intro @Bool.not_true @Bool.not_false))))) (And.intro (And.intro (And.intro (And.intro @bne_self_eq_false.{0} (And.intro @Nat.mod_eq_of_lt @decide_eq_true)) (And.intro @decide_eq_false (And.intro @List.nil_append.{0} @List.cons_append.{0}))) (And.intro (And.intro @List.take_zero.{0} (And.intro @List.drop_zero.{0} @List.drop_succ_cons.{0})) (And.intro @List.take_succ_cons.{0} (And.intro @List.drop_nil.{0} @List.append_nil.{0})))) (And.intro (And.intro (And.intro @Bool.and_true (And.intro @Bool.true_and @Bool.and_false)) (And.intro @Bool.false_and (And.intro @Bool.or_true @Bool.true_or))) (And.intro (And.intro @Bool.or_false (And.intro @Bool.false_or @Nat.one_mul)) (And.intro @Nat.mul_one (And.intro @not_true_eq_false @not_false_eq_true)))))))
end Go.Ev

namespace Go.Ev
set_option linter.unusedVariables false
theorem K4.beq_self (p:K4):p.beq p=true := K4.beq_iff.2 rfl
theorem Ka (k:IntKind) (r:Nat) (κ:R):AN (.int k r) (.int k r) κ=κ := by
  show br (AQ k k) (br (Nat.beq r r) κ _) _=_
  rw [Am.2 rfl, Nat.beq_refl]; rfl
theorem Aak (p:K4) (o:Nat) (κ:R):AN (.ptr p o) (.ptr p o) κ=κ := by
  show br (K4.beq p p) (br (Nat.beq o o) κ _) _=_
  rw [K4.beq_self, Nat.beq_refl]; rfl
theorem Vp (p:K4) (κ:R):AN (.map p) (.map p) κ=κ := by
  show br (K4.beq p p) κ _=_
  rw [K4.beq_self]; rfl
theorem W5 (w:Nl) (κ:R):AN (.nil w) (.nil w) κ=κ := by cases w <;> rfl
theorem RY (p:K4) (a b c:Nat) (e:Bool) (z:Nat) (κ:R):AN (.sl p a b c e z) (.sl p a b c e z) κ=κ := by
  show br (K4.beq p p) (br (and (Nat.beq a a) (and (Nat.beq b b) (and (Nat.beq c c) (and (Bool.rec (Bool.rec true false e) e e) (Nat.beq z z))))) κ _) _=_
  rw [K4.beq_self]; simp only [Nat.beq_refl]; cases e <;> rfl
def IK (es:List (V×V)):Prop := ∀ e∈es, ∃ r w, e=(.int .i64 r, w)
theorem IK.nil:IK [] := fun e h => by cases h
def Own (p:K4) (h:Heap) (c:V) (l:List UInt8):Prop := (c = .nil .sl∧l=[]) ∨ ∃ ex, c = .sl p 0 l.length l.length ex 1∧A8 p h=some (.c (cb l) false none)
theorem Own.frame {p:K4} {h h':Heap} {c:V} {l:List UInt8} (H:Own p h c l) (e:A8 p h'=A8 p h):Own p h' c l := by
  rcases H with H | ⟨ex, h1, h2⟩
  · exact .inl H
  · exact .inr ⟨ex, h1, e.trans h2⟩
theorem Own.len {p:K4} {h:Heap} {c:V} {l:List UInt8} (H:Own p h c l) (hl:l.length<9223372036854775808) (κ:V->R):Bx c κ=κ (.int .i64 l.length) := by
  rcases H with ⟨rfl, rfl⟩ | ⟨ex, rfl, h2⟩
  · rfl
  · exact CL hl κ
/-- Bytes that are copied from. -/
def MS (v:V) (l:List UInt8) (h:Heap):Prop := v=Ag8 l∨(v = .nil .sl∧l=[]) ∨ ∃ p off cap ex L s pr, v = .sl p off l.length cap ex 1∧A8 p h=some (.c (cb L) s pr)∧off+l.length≤L.length∧(L.drop off).take l.length=l
theorem MS.len {v:V} {l:List UInt8} {h:Heap} (H:MS v l h) (hl:l.length<9223372036854775808) (κ:V->R):Bx v κ=κ (.int .i64 l.length) := by
  rcases H with rfl | ⟨rfl, rfl⟩ | ⟨p, off, cap, ex, L, s, pr, rfl, h1, h2, h3⟩
  · exact CL hl κ
  · rfl
  · exact CL hl κ
theorem MS.src {v:V} {l:List UInt8} {h:Heap} (H:MS v l h):∃ y, (∀ κ:Nat->Cs->R, L5 1 v h κ=κ l.length y)∧(0<l.length->y=cb l) := by
  rcases H with rfl | ⟨rfl, rfl⟩ | ⟨p, off, cap, ex, L, s, pr, rfl, h1, h2, h3⟩
  · exact ⟨cb l, fun κ => rfl, fun _ => rfl⟩
  · exact ⟨.l [], fun κ => rfl, fun h => by cases h⟩
  · refine ⟨cb l, fun κ => ?_, fun _ => rfl⟩
    rw [Aec h1 h2, h3]
theorem MS.frame {v:V} {l:List UInt8} {h h':Heap} (H:MS v l h) (e:∀ p:K4, (∃ off cap ex, v = .sl p off l.length cap ex 1)->A8 p h'=A8 p h):MS v l h' := by
  rcases H with H | H | ⟨p, off, cap, ex, L, s, pr, rfl, h1, h2, h3⟩
  · exact .inl H
  · exact .inr (.inl H)
  · exact .inr (.inr ⟨p, off, cap, ex, L, s, pr, rfl, (e p ⟨off, cap, ex, rfl⟩).trans h1, h2, h3⟩)
theorem Own.same {p:K4} {h:Heap} {c:V} {l:List UInt8} (H:Own p h c l) (κ:R):AN c c κ=κ := by
  rcases H with ⟨rfl, rfl⟩ | ⟨ex, rfl, h2⟩
  · exact W5 _ _
  · exact RY _ _ _ _ _ _ _
theorem CH:(false == true)=false := id rfl
theorem CD:(true == true)=true := id rfl
end Go.Ev

namespace Go.Ev
set_option linter.unusedVariables false
/-- Bytes that may still know what they grew from. -/
def LX (lo:Nat) (n:K4) (h:Heap) (c:V) (l:List UInt8):Prop := (c = .nil .sl∧l=[]) ∨ ∃ p ex pr, c = .sl p 0 l.length l.length ex 1∧A8 p h=some (.c (cb l) false pr)∧lo≤p.toN∧p.toN<n.toN∧(pr=none ∨ ∃ q, pr=some q∧lo≤q.toN∧q.toN<n.toN)
theorem LX.frame {lo:Nat} {n n':K4} {h h':Heap} {c:V} {l:List UInt8} (H:LX lo n h c l) (hn:n.toN≤n'.toN) (e:∀ q:K4, lo≤q.toN->q.toN<n.toN->A8 q h'=A8 q h):LX lo n' h' c l := by
  rcases H with H | ⟨p, ex, pr, h1, h2, h3, h4, h5⟩
  · exact .inl H
  · refine .inr ⟨p, ex, pr, h1, (e p h3 h4).trans h2, h3, by omega, ?_⟩
    rcases h5 with h5 | ⟨q, h5, h6, h7⟩
    · exact .inl h5
    · exact .inr ⟨q, h5, h6, by omega⟩
theorem LX.nil {lo:Nat} {n:K4} {h:Heap}:LX lo n h (.nil .sl) [] := .inl ⟨rfl, rfl⟩
theorem LX.len {lo:Nat} {n:K4} {h:Heap} {c:V} {l:List UInt8} (H:LX lo n h c l) (hl:l.length<9223372036854775808) (κ:V->R):Bx c κ=κ (.int .i64 l.length) := by
  rcases H with ⟨rfl, rfl⟩ | ⟨p, ex, pr, rfl, _⟩
  · rfl
  · exact CL hl κ
theorem LX.src {lo:Nat} {n:K4} {h:Heap} {c:V} {l:List UInt8} (H:LX lo n h c l):MS c l h := by
  rcases H with ⟨rfl, rfl⟩ | ⟨p, ex, pr, rfl, h2, _⟩
  · exact .inr (.inl ⟨rfl, rfl⟩)
  · exact .inr (.inr ⟨p, 0, l.length, ex, l, false, pr, rfl, h2, by omega, by rw [List.drop_zero, List.take_length]⟩)
theorem grow {lo:Nat} {n:K4} {h:Heap} {c:V} {l b:List UInt8} (H:LX lo n h c l) (hlo:lo≤n.toN) (hb:l.length+b.length≤1000000000) (hn:n.toN<65000) {y:Cs} (hy:0<b.length->y=cb b) :
    ∃ c' h' n', (∀ κ:KV, Bz 1 1 c b.length y h n κ=κ c' h' n')∧LX lo n' h' c' (l++b)∧n.toN≤n'.toN∧n'.toN≤n.toN+1∧(∀ q:K4, q.toN<lo->A8 q h'=A8 q h)∧(B7 h n->B7 h' n') := by
  have u1 := K4.up_toN (p := n) (by omega)
  rcases Nat.eq_zero_or_pos b.length with h0 | h0
  · obtain rfl := List.length_eq_zero_iff.1 h0
    refine ⟨c, h, n, fun κ => WV ?_ _ _ _ _, by rw [List.append_nil]; exact H, by omega, by omega, fun q _ => rfl, fun h => h⟩
    rcases H with ⟨rfl, _⟩ | ⟨p, ex, pr, rfl, _⟩
    · exact .inl rfl
    · exact .inr ⟨p, _, _, _, ex, rfl⟩
  · obtain rfl := hy h0
    rcases H with ⟨rfl, rfl⟩ | ⟨p, ex, pr, rfl, h2, h3, h4, h5⟩
    · refine ⟨_, _, _, fun κ => Yg h0 (by omega) (by omega) _ _ _, ?_, by omega, by omega, fun q hq => FT (by omega) _ _, fun hf q hq => (C3 (by omega) _ _).trans (hf q (by omega))⟩
      exact .inr ⟨n, false, none, rfl, A7 _ _ _, hlo, by omega, .inl rfl⟩
    · cases ex with
      | true =>
        refine ⟨_, _, _, fun κ => (PN h2 h0 (by omega) (by omega) κ).trans (if_pos rfl), ?_, by omega, by omega, fun q hq => FT (by omega) _ _, fun hf q hq => (C3 (by omega) _ _).trans (hf q (by omega))⟩
        exact .inr ⟨n, false, none, rfl, A7 _ _ _, hlo, by omega, .inl rfl⟩
      | false =>
        refine ⟨_, _, _, fun κ => (PN h2 h0 (by omega) (by omega) κ).trans (if_neg (by decide)), ?_, by omega, by omega, fun q hq => ?_, fun hf q hq => ?_⟩
        · exact .inr ⟨n, false, some p, rfl, A7 _ _ _, hlo, by omega, .inr ⟨p, rfl, h3, by omega⟩⟩
        · rw [FT (by omega), FT (by omega)]
          rcases h5 with rfl | ⟨r, rfl, h6, h7⟩
          · rfl
          · exact A6 _ _ (K4.ne_of_lt (by omega)).symm
        · rw [C3 (by omega), C3 (by omega)]
          rcases h5 with rfl | ⟨r, rfl, h6, h7⟩
          · exact hf q (by omega)
          · exact (A6 _ _ (K4.ne_of_lt (by omega))).trans (hf q (by omega))
end Go.Ev

namespace Go.Ev
set_option linter.unusedVariables false
theorem CI:(true == false)=false := id rfl
theorem CE:(false == false)=true := id rfl
theorem ED (g:Bool) (h:Heap) (n:K4) (F:KV->R) (κ:KV):Ur g B8 h n F κ=κ B8 h n := id rfl
theorem De (g:Bool) (F:(V->R)->R) (κ:V->R):FJ g B8 F κ=κ B8 := id rfl
theorem JJ {xs:List V} {off m:Nat} (h:off+m≤xs.length) (κ:Cs->R):AJ (.l xs) off m κ=κ (.l ((xs.drop off).take m)) := by
  show CN off xs (fun ys => BZ m ys fun zs => κ (.l zs))=_
  rw [Ht (by omega), HQ (by rw [List.length_drop]; omega)]
theorem WJ (a b:List V) (κ:Cs->R):QT (.l a) (.l b) κ=κ (.l (a++b)) := by
  show DS a b (fun zs => κ (.l zs))=_
  rw [Cp]
theorem Aar {a b:List V} {i:Nat} (h:i+b.length≤a.length) (κ:Cs->R):MD (.l a) i (.l b) κ=κ (.l (a.take i++(b++a.drop (i+b.length)))) := by
  show BZ i a (fun x => FM b fun m => Ac (Nat.add i m) fun j => CN j a fun y => DS b y fun t => DS x t fun zs => κ (.l zs))=_
  rw [HQ (by omega), C1, Aa, Ht (by show i+b.length≤_; exact h), Cp, Cp]; rfl
theorem Ael {p:K4} {h:Heap} {a b:List V} {pr:Option K4} {off:Nat} (hp:A8 p h=some (.c (.l a) false pr)) (hl:off+b.length≤a.length) (κ:Heap->R):Dt h p off (.l b) κ=κ (Af p (BS pr h) (some (.c (.l (a.take off++(b++a.drop (off+b.length)))) false none))) := by
  rw [D1]; unfold CZ
  rw [IH hp, Ag, Aar hl, CW, AA]
theorem Ade {m:Nat} {p:K4} {h:Heap} {a b:List V} {pr:Option K4} {off:Nat} (hp:A8 p h=some (.c (.l a) false pr)) (hm:b.length=m) (hl:off+b.length≤a.length) (κ:Heap->R):Gh m (.ptr p off) (.agg b) h κ=κ (Af p (BS pr h) (some (.c (.l (a.take off++(b++a.drop (off+b.length)))) false none))) := by
  show FM b (fun k => br (Nat.beq k m) (Dt h p off (.l b) κ) (.fail ""))=_
  rw [C1, hm, Nat.beq_refl, Ab, Ael hp hl, hm]
/-- A slice that is read: its cells. -/
def LS (h:Heap) (n:K4) (av:List K4) (z:Nat) (v:V) (l:List V) (k:Nat):Prop := (v = .nil .sl∧l=[]∧k=0) ∨ ∃ p off cap ex a s pr, v = .sl p off k cap ex z∧A8 p h=some (.c (.l a) s pr)∧off+k*z≤a.length∧(a.drop off).take (k*z)=l∧p.toN<n.toN ∧ ∀ q∈av, p≠q
theorem LS.len {h:Heap} {n:K4} {av:List K4} {z:Nat} {v:V} {l:List V} {k:Nat} (H:LS h n av z v l k) (hk:k<9223372036854775808) (κ:V->R):Bx v κ=κ (.int .i64 k) := by
  rcases H with ⟨rfl, _, rfl⟩ | ⟨p, off, cap, ex, a, s, pr, rfl, _⟩
  · rfl
  · exact CL hk κ
theorem LS.frame {h h':Heap} {n n':K4} {av av':List K4} {z:Nat} {v:V} {l:List V} {k:Nat} (H:LS h n av z v l k) (hn:n.toN≤n'.toN) (e:∀ p:K4, p.toN<n.toN->(∀ q∈av, p≠q)->A8 p h'=A8 p h ∧ ∀ q∈av', p≠q):LS h' n' av' z v l k := by
  rcases H with H | ⟨p, off, cap, ex, a, s, pr, rfl, h1, h2, h3, h4, h5⟩
  · exact .inl H
  · exact .inr ⟨p, off, cap, ex, a, s, pr, rfl, ((e p h4 h5).1).trans h1, h2, h3, by omega, (e p h4 h5).2⟩
theorem LS.more {h h':Heap} {n n':K4} {av:List K4} {z:Nat} {v:V} {l:List V} {k:Nat} (H:LS h n av z v l k) (hn:n.toN≤n'.toN) (e:∀ p:K4, p.toN<n.toN->A8 p h'=A8 p h):LS h' n' av z v l k := H.frame hn fun p hp hq => ⟨e p hp, hq⟩
theorem LS.src {h:Heap} {n:K4} {av:List K4} {z:Nat} {v:V} {l:List V} {k:Nat} (H:LS h n av z v l k) (κ:Nat->Cs->R):L5 z v h κ=κ k (.l l) := by
  rcases H with ⟨rfl, rfl, rfl⟩ | ⟨p, off, cap, ex, a, s, pr, rfl, h1, h2, rfl, _⟩
  · rfl
  · show br (Nat.beq z z) (GW p h fun cs _ _ => Ac (Nat.mul k z) fun m => AJ cs off m fun y => κ k y) (.fail "")=_
    rw [Nat.beq_refl, Ab, IH h1, Aa, show Nat.mul k z=k*z from rfl, JJ h2]
/-- An element's place, and its cells. -/
theorem LS.ix {h:Heap} {n:K4} {av:List K4} {z:Nat} {v:V} {l:List V} {k i:Nat} (H:LS h n av z v l k) (hi:i<k) (h2:i<9223372036854775808) :
    ∃ p o, (∀ κ:V->R, BP z v (.int .i64 i) κ=κ (.ptr p o))∧(∀ (κ:V->R), S9 (A8 p h) z o κ=κ (.agg ((l.drop (i*z)).take z)))∧(∀ (j:Nat) (x:V) (κ:V->R), l[i*z+j]? = some x->ZD (A8 p h) (o+j) κ=κ x) := by
  rcases H with ⟨rfl, rfl, rfl⟩ | ⟨p, off, cap, ex, a, s, pr, rfl, h1, h3, rfl, _⟩
  · cases hi
  · have hm:i*z+z≤k*z := by rw [←Nat.succ_mul]; exact Nat.mul_le_mul_right z hi
    refine ⟨p, off+i*z, fun κ => VF z (k := .i64) h2 hi κ, fun κ => ?_, fun j x κ hx => ?_⟩
    · rw [h1, X4 (by omega)]
      congr 2
      rw [List.drop_take, List.take_take, List.drop_drop, Nat.min_eq_left (by omega)]
    · rw [h1, Qk]
      rw [List.getElem?_take] at hx
      split at hx
      · rw [List.getElem?_drop, ←Nat.add_assoc] at hx
        exact SJ hx
      · cases hx
theorem LS.at1 {h:Heap} {n:K4} {av:List K4} {v:V} {l:List V} {k i:Nat} (H:LS h n av 1 v l k) (hi:i<k) (h2:i<9223372036854775808) {x:V} (hx:l[i]? = some x) :
    ∃ p o, (∀ κ:V->R, BP 1 v (.int .i64 i) κ=κ (.ptr p o)) ∧ ∀ κ:V->R, ZD (A8 p h) o κ=κ x := by
  obtain ⟨p, o, e1, _, e3⟩ := H.ix hi h2
  exact ⟨p, o, e1, fun κ => e3 0 x κ (by rw [Nat.mul_one]; exact hx)⟩
/-- A slice of one's own. -/
def PS (lo:Nat) (n:K4) (h:Heap) (z:Nat) (v:V) (l:List V) (k:Nat):Prop := (v = .nil .sl∧l=[]∧k=0) ∨ ∃ p ex pr, v = .sl p 0 k k ex z∧A8 p h=some (.c (.l l) false pr)∧l.length=k*z∧lo≤p.toN∧p.toN<n.toN∧(pr=none ∨ ∃ q, pr=some q∧lo≤q.toN∧q.toN<n.toN)
theorem PS.frame {lo:Nat} {n n':K4} {h h':Heap} {z:Nat} {v:V} {l:List V} {k:Nat} (H:PS lo n h z v l k) (hn:n.toN≤n'.toN) (e:∀ q:K4, lo≤q.toN->q.toN<n.toN->A8 q h'=A8 q h):PS lo n' h' z v l k := by
  rcases H with H | ⟨p, ex, pr, h1, h2, h3, h4, h5, h6⟩
  · exact .inl H
  · refine .inr ⟨p, ex, pr, h1, (e p h4 h5).trans h2, h3, h4, by omega, ?_⟩
    rcases h6 with h6 | ⟨q, h6, h7, h8⟩
    · exact .inl h6
    · exact .inr ⟨q, h6, h7, by omega⟩
theorem PS.ls {lo:Nat} {n:K4} {h:Heap} {z:Nat} {v:V} {l:List V} {k:Nat} (H:PS lo n h z v l k) (av:List K4) (hav:∀ q∈av, q.toN<lo∨n.toN≤q.toN):LS h n av z v l k := by
  rcases H with H | ⟨p, ex, pr, h1, h2, h3, h4, h5, h6⟩
  · exact .inl H
  · refine .inr ⟨p, 0, k, ex, l, false, pr, h1, h2, by omega, by rw [List.drop_zero, ←h3, List.take_length], h5, fun q hq e => ?_⟩
    have := hav q hq
    rw [←e] at this
    omega
theorem PS.weak {lo lo':Nat} {n:K4} {h:Heap} {z:Nat} {v:V} {l:List V} {k:Nat} (H:PS lo n h z v l k) (hl:lo'≤lo):PS lo' n h z v l k := by
  rcases H with H | ⟨p, ex, pr, h1, h2, h3, h4, h5, h6⟩
  · exact .inl H
  · refine .inr ⟨p, ex, pr, h1, h2, h3, by omega, h5, ?_⟩
    rcases h6 with h6 | ⟨q, h6, h7, h8⟩
    · exact .inl h6
    · exact .inr ⟨q, h6, by omega, h8⟩
/-- Bytes that may still know what they grew from; where their places may be. -/
def RN (P:K4->Prop) (n:K4) (h:Heap) (c:V) (l:List UInt8):Prop := (c = .nil .sl∧l=[]) ∨ ∃ p ex pr, c = .sl p 0 l.length l.length ex 1∧A8 p h=some (.c (cb l) false pr)∧P p∧p.toN<n.toN∧(pr=none ∨ ∃ q, pr=some q∧P q∧q.toN<n.toN)
theorem RN.frame {P P':K4->Prop} {n n':K4} {h h':Heap} {c:V} {l:List UInt8} (H:RN P n h c l) (hn:n.toN≤n'.toN) (hP:∀ q:K4, q.toN<n.toN->P q->P' q) (e:∀ q:K4, q.toN<n.toN->P q->A8 q h'=A8 q h):RN P' n' h' c l := by
  rcases H with H | ⟨p, ex, pr, h1, h2, h3, h4, h5⟩
  · exact .inl H
  · refine .inr ⟨p, ex, pr, h1, (e p h4 h3).trans h2, hP p h4 h3, by omega, ?_⟩
    rcases h5 with h5 | ⟨q, h5, h6, h7⟩
    · exact .inl h5
    · exact .inr ⟨q, h5, hP q h7 h6, by omega⟩
theorem RN.len {P:K4->Prop} {n:K4} {h:Heap} {c:V} {l:List UInt8} (H:RN P n h c l) (hl:l.length<9223372036854775808) (κ:V->R):Bx c κ=κ (.int .i64 l.length) := by
  rcases H with ⟨rfl, rfl⟩ | ⟨p, ex, pr, rfl, _⟩
  · rfl
  · exact CL hl κ
theorem RN.src {P:K4->Prop} {n:K4} {h:Heap} {c:V} {l:List UInt8} (H:RN P n h c l):MS c l h := by
  rcases H with ⟨rfl, rfl⟩ | ⟨p, ex, pr, rfl, h2, _⟩
  · exact .inr (.inl ⟨rfl, rfl⟩)
  · exact .inr (.inr ⟨p, 0, l.length, ex, l, false, pr, rfl, h2, by omega, by rw [List.drop_zero, List.take_length]⟩)
/-- A slice that is read, out of the way of what grows. -/
def LSQ (P:K4->Prop) (h:Heap) (n:K4) (z:Nat) (v:V) (l:List V) (k:Nat):Prop := (v = .nil .sl∧l=[]∧k=0) ∨ ∃ p off cap ex a s pr, v = .sl p off k cap ex z∧A8 p h=some (.c (.l a) s pr)∧off+k*z≤a.length∧(a.drop off).take (k*z)=l∧p.toN<n.toN ∧ ¬ P p
theorem LSQ.ls {P:K4->Prop} {h:Heap} {n:K4} {z:Nat} {v:V} {l:List V} {k:Nat} (H:LSQ P h n z v l k):LS h n [] z v l k := by
  rcases H with H | ⟨p, off, cap, ex, a, s, pr, h1, h2, h3, h4, h5, _⟩
  · exact .inl H
  · exact .inr ⟨p, off, cap, ex, a, s, pr, h1, h2, h3, h4, h5, fun q hq => by cases hq⟩
theorem LSQ.frame {P P':K4->Prop} {h h':Heap} {n n':K4} {z:Nat} {v:V} {l:List V} {k:Nat} (H:LSQ P h n z v l k) (hn:n.toN≤n'.toN) (e:∀ q:K4, q.toN<n.toN->¬ P q->A8 q h'=A8 q h ∧ ¬ P' q):LSQ P' h' n' z v l k := by
  rcases H with H | ⟨p, off, cap, ex, a, s, pr, h1, h2, h3, h4, h5, h6⟩
  · exact .inl H
  · exact .inr ⟨p, off, cap, ex, a, s, pr, h1, ((e p h5 h6).1).trans h2, h3, h4, by omega, (e p h5 h6).2⟩
theorem ZO {z:Nat} {p:K4} {o len cap a:Nat} {ex:Bool} (ha:a≤len) (hl:len≤cap) (ha2:a<9223372036854775808) (κ:V->R) (hz:z<4294967296 := by decide):H9 z (.sl p o len cap ex z) (some (.int .i64 a)) none κ=κ (.sl p (o+a*z) (len - a) (cap - a) ex z) := by
  have e0:H9 z (.sl p o len cap ex z) (some (.int .i64 a)) none κ=br (Nat.ble (Nat.succ a) 9223372036854775808) (br (Nat.beq z z) (br (Nat.ble a len) (br (Nat.ble len cap) (Ac (Nat.sub len a) fun l => Ac (Nat.sub cap a) fun c => Ac (Nat.add o (Nat.mul a z)) fun o => κ (.sl p o l c ex z)) (.fail "")) (.fail "")) (.fail "")) (.fail "") := by
    first
    | rfl
    | (show br (Nat.ble 4294967296 z) _ _=_; rw [show Nat.ble 4294967296 z=false from Au hz, Ag]; rfl)
  rw [e0]
  rw [show Nat.ble (Nat.succ a) 9223372036854775808=true from A9.2 (by omega), Ab, Nat.beq_refl, Ab, A9.2 ha, Ab, A9.2 hl, Ab, Aa, Aa, Aa]; rfl
theorem NB {z eb k m:Nat} {p n:K4} {h:Heap} {ex:Bool} {l b:List V} {pr:Option K4} (h2:A8 p h=some (.c (.l l) false pr)) (h3:l.length=k*z) (hm:0<m) (hs:(4*(k+m)+4096)*eb≤281474976710656) (hn:n.toN<65000) (κ:KV) :
    Bz z eb (.sl p 0 k k ex z) m (.l b) h n κ=br ex (κ (.sl n 0 (k+m) (k+m) false z) (Af n h (some (.c (.l (l++b)) false none))) n.up) (κ (.sl n 0 (k+m) (k+m) false z) (Af n (Af p (BS pr h) (some (.c (.l l) true none))) (some (.c (.l (l++b)) false (some p)))) n.up) := by
  show br (Nat.beq z z) (br (Nat.beq m 0) (κ (.sl p 0 k k ex z) h n) (Ac (Nat.add k m) fun need => br (Nat.ble need k) (Ac (Nat.add 0 (Nat.mul k z)) fun j => Dt h p j (.l b) fun h' => κ (.sl p 0 need k ex z) h' n)
    (br (Nat.ble (Nat.mul (Nat.add (Nat.mul 4 need) 4096) eb) 281474976710656)
      (GD p h fun cs sup prev => Ac (Nat.mul k z) fun l => AJ cs 0 l fun x => QT x (.l b) fun y =>
        br ex (DR h n (.c y false none) fun h' n' => κ (.sl n 0 need need false z) h' n')
          (br sup (.fail "") (Ac (Nat.add 0 l) fun j => AJ cs 0 j fun old => JF prev h fun h => DQ p h (some (.c old true none)) fun h =>
            DR h n (.c y false (some p)) fun h' n' => κ (.sl n 0 need need false z) h' n'))) (.fail "")))) (.fail "")=_
  have e4:Nat.ble (Nat.add k m) k=false := Au (by show k<k+m; omega)
  have e1:(l.drop 0).take (k*z)=l := by rw [List.drop_zero, ←h3, List.take_length]
  rw [Nat.beq_refl, Ab, D8, decide_eq_false (by omega), Ag, Aa, e4, Ag, show Nat.ble (Nat.mul (Nat.add (Nat.mul 4 (Nat.add k m)) 4096) eb) 281474976710656=true from A9.2 hs, Ab, DC, IH h2, Aa, show Nat.mul k z=k*z from rfl, JJ (by omega), e1, WJ, Ag, Aa, show Nat.add 0 (k*z)=k*z from Nat.zero_add _, JJ (by omega), e1, CW, AA, El (by omega), El (by omega)]
  rfl
end Go.Ev

namespace Go.Ev
open Go.RowKit Go.ChangeShapes
set_option linter.unusedVariables false
/-- The blocks of the list stay. -/
def M8 (ρ:Env) (w:World) (bl:List Nat):Prop := ∀ b∈bl, ∀ c e fr, w.heap[b]? = some (.cells c e fr)->ρ.gl b=some (c, e, fr)
theorem M8.sub {ρ:Env} {w:World} {bl cl:List Nat} (h:M8 ρ w bl) (hs:∀ b∈cl, b∈bl):M8 ρ w cl := fun b hb => h b (hs b hb)
theorem WR {P:Program} {fs:List Nat} {v:Nat->Value} {w:World} {l:List Nat}:M8 (KP P fs v (MR w l)) w l := fun b hb c e fr h => TP hb h
theorem Adq (r:RV) (l:List RV) (h:Heap) (κ:V->R):AP (.oth (.rp (r::l))) h κ=κ r.v := id rfl
end Go.Ev

namespace Go.Ev
set_option linter.unusedVariables false
def Pj (o:BX):Bool := @Option.rec Ob (fun _ => Bool) true (fun _ => false) o
theorem Ej {o:BX} (h:Pj o=true):o=none := by cases o with
  | none => rfl
  | some _ => cases h
theorem Ar {a b:Bool} (h:and a b=true):a=true∧b=true := by cases a <;> cases b <;> first | exact ⟨rfl, rfl⟩ | cases h
def Pk (p:HA):Bool := @HA.rec (fun _ => Bool) (fun A B C E F G I J L M N O P Q T U => and (Pj A) (and (Pj B) (and (Pj C) (and (Pj E) (and (Pj F) (and (Pj G) (and (Pj I) (and (Pj J) (and (Pj L) (and (Pj M) (and (Pj N) (and (Pj O) (and (Pj P) (and (Pj Q) (and (Pj T) (Pj U)))))))))))))))) p
def Im (p:HB):Bool := @HB.rec (fun _ => Bool) (fun A B C E F G I J L M N O P Q T U => and (Pk A) (and (Pk B) (and (Pk C) (and (Pk E) (and (Pk F) (and (Pk G) (and (Pk I) (and (Pk J) (and (Pk L) (and (Pk M) (and (Pk N) (and (Pk O) (and (Pk P) (and (Pk Q) (and (Pk T) (Pk U)))))))))))))))) p
def PE (p:HC):Bool := @HC.rec (fun _ => Bool) (fun A B C E F G I J L M N O P Q T U => and (Im A) (and (Im B) (and (Im C) (and (Im E) (and (Im F) (and (Im G) (and (Im I) (and (Im J) (and (Im L) (and (Im M) (and (Im N) (and (Im O) (and (Im P) (and (Im Q) (and (Im T) (Im U)))))))))))))))) p
theorem EF {p:HA} (h:Pk p=true) (d:D):HA.sel d p=none := by
  cases p with | mk A B C E F G I J L M N O P Q T U =>
  unfold Pk at h
  dsimp only at h
  obtain ⟨a0, h⟩ := Ar h
  obtain ⟨a1, h⟩ := Ar h
  obtain ⟨a2, h⟩ := Ar h
  obtain ⟨a3, h⟩ := Ar h
  obtain ⟨a4, h⟩ := Ar h
  obtain ⟨a5, h⟩ := Ar h
  obtain ⟨a6, h⟩ := Ar h
  obtain ⟨a7, h⟩ := Ar h
  obtain ⟨a8, h⟩ := Ar h
  obtain ⟨a9, h⟩ := Ar h
  obtain ⟨a10, h⟩ := Ar h
  obtain ⟨a11, h⟩ := Ar h
  obtain ⟨a12, h⟩ := Ar h
  obtain ⟨a13, h⟩ := Ar h
  obtain ⟨a14, h⟩ := Ar h
  cases d
  · exact Ej a0
  · exact Ej a1
  · exact Ej a2
  · exact Ej a3
  · exact Ej a4
  · exact Ej a5
  · exact Ej a6
  · exact Ej a7
  · exact Ej a8
  · exact Ej a9
  · exact Ej a10
  · exact Ej a11
  · exact Ej a12
  · exact Ej a13
  · exact Ej a14
  · exact Ej h
theorem BI {p:HB} (h:Im p=true) (c d:D):HA.sel d (HB.sel c p)=none := by
  cases p with | mk A B C E F G I J L M N O P Q T U =>
  unfold Im at h
  dsimp only at h
  obtain ⟨a0, h⟩ := Ar h
  obtain ⟨a1, h⟩ := Ar h
  obtain ⟨a2, h⟩ := Ar h
  obtain ⟨a3, h⟩ := Ar h
  obtain ⟨a4, h⟩ := Ar h
  obtain ⟨a5, h⟩ := Ar h
  obtain ⟨a6, h⟩ := Ar h
  obtain ⟨a7, h⟩ := Ar h
  obtain ⟨a8, h⟩ := Ar h
  obtain ⟨a9, h⟩ := Ar h
  obtain ⟨a10, h⟩ := Ar h
  obtain ⟨a11, h⟩ := Ar h
  obtain ⟨a12, h⟩ := Ar h
  obtain ⟨a13, h⟩ := Ar h
  obtain ⟨a14, h⟩ := Ar h
  cases c
  · exact EF a0 d
  · exact EF a1 d
  · exact EF a2 d
  · exact EF a3 d
  · exact EF a4 d
  · exact EF a5 d
  · exact EF a6 d
  · exact EF a7 d
  · exact EF a8 d
  · exact EF a9 d
  · exact EF a10 d
  · exact EF a11 d
  · exact EF a12 d
  · exact EF a13 d
  · exact EF a14 d
  · exact EF h d
theorem FF {p:HC} (h:PE p=true) (b c d:D):HA.sel d (HB.sel c (HC.sel b p))=none := by
  cases p with | mk A B C E F G I J L M N O P Q T U =>
  unfold PE at h
  dsimp only at h
  obtain ⟨a0, h⟩ := Ar h
  obtain ⟨a1, h⟩ := Ar h
  obtain ⟨a2, h⟩ := Ar h
  obtain ⟨a3, h⟩ := Ar h
  obtain ⟨a4, h⟩ := Ar h
  obtain ⟨a5, h⟩ := Ar h
  obtain ⟨a6, h⟩ := Ar h
  obtain ⟨a7, h⟩ := Ar h
  obtain ⟨a8, h⟩ := Ar h
  obtain ⟨a9, h⟩ := Ar h
  obtain ⟨a10, h⟩ := Ar h
  obtain ⟨a11, h⟩ := Ar h
  obtain ⟨a12, h⟩ := Ar h
  obtain ⟨a13, h⟩ := Ar h
  obtain ⟨a14, h⟩ := Ar h
  cases b
  · exact BI a0 c d
  · exact BI a1 c d
  · exact BI a2 c d
  · exact BI a3 c d
  · exact BI a4 c d
  · exact BI a5 c d
  · exact BI a6 c d
  · exact BI a7 c d
  · exact BI a8 c d
  · exact BI a9 c d
  · exact BI a10 c d
  · exact BI a11 c d
  · exact BI a12 c d
  · exact BI a13 c d
  · exact BI a14 c d
  · exact BI h c d
def XI (f:D->Bool):Bool := and (f .d0) (and (f .d1) (and (f .d2) (and (f .d3) (and (f .d4) (and (f .d5) (and (f .d6) (and (f .d7) (and (f .d8) (and (f .d9) (and (f .d10) (and (f .d11) (and (f .d12) (and (f .d13) (and (f .d14) (f .d15)))))))))))))))
theorem Xb {f:D->Bool} (h:XI f=true) (d:D):f d=true := by
  unfold XI at h
  obtain ⟨a0, h⟩ := Ar h
  obtain ⟨a1, h⟩ := Ar h
  obtain ⟨a2, h⟩ := Ar h
  obtain ⟨a3, h⟩ := Ar h
  obtain ⟨a4, h⟩ := Ar h
  obtain ⟨a5, h⟩ := Ar h
  obtain ⟨a6, h⟩ := Ar h
  obtain ⟨a7, h⟩ := Ar h
  obtain ⟨a8, h⟩ := Ar h
  obtain ⟨a9, h⟩ := Ar h
  obtain ⟨a10, h⟩ := Ar h
  obtain ⟨a11, h⟩ := Ar h
  obtain ⟨a12, h⟩ := Ar h
  obtain ⟨a13, h⟩ := Ar h
  obtain ⟨a14, h⟩ := Ar h
  cases d
  · exact a0
  · exact a1
  · exact a2
  · exact a3
  · exact a4
  · exact a5
  · exact a6
  · exact a7
  · exact a8
  · exact a9
  · exact a10
  · exact a11
  · exact a12
  · exact a13
  · exact a14
  · exact h
def Zb (n:K4) (b:HB):Bool := XI fun c => XI fun d => @Bool.rec (fun _ => Bool) true (Pj (HA.sel d (HB.sel c b))) (Nat.ble n.toN (K4.toN ⟨.d0, .d0, c, d⟩))
def Ab3 (n:K4) (p:HC):Bool := @HC.rec (fun _ => Bool) (fun A B C E F G I J L M N O P Q T U => and (Zb n A) (and (Im B) (and (Im C) (and (Im E) (and (Im F) (and (Im G) (and (Im I) (and (Im J) (and (Im L) (and (Im M) (and (Im N) (and (Im O) (and (Im P) (and (Im Q) (and (Im T) (Im U)))))))))))))))) p
def XM (n:K4) (p:Heap):Bool := @Heap.rec (fun _ => Bool) (fun A B C E F G I J L M N O P Q T U => and (Ab3 n A) (and (PE B) (and (PE C) (and (PE E) (and (PE F) (and (PE G) (and (PE I) (and (PE J) (and (PE L) (and (PE M) (and (PE N) (and (PE O) (and (PE P) (and (PE Q) (and (PE T) (PE U)))))))))))))))) p
theorem XR {n:K4} {b:HB} (h:Zb n b=true) (c d:D) (hn:n.toN≤(K4.toN ⟨.d0, .d0, c, d⟩)):HA.sel d (HB.sel c b)=none := by
  have h1 := Xb (Xb h c) d
  rw [show Nat.ble n.toN (K4.toN ⟨.d0, .d0, c, d⟩)=true from Nat.ble_eq_true_of_le hn] at h1
  exact Ej h1
theorem ZW {n:K4} {p:Heap} (h:XM n p=true):B7 p n := by
  rintro ⟨a, b, c, d⟩ hq
  show HA.sel d (HB.sel c (HC.sel b (Heap.sel a p)))=none
  cases p with | mk y0 y1 y2 y3 y4 y5 y6 y7 y8 y9 ya yb yc yd ye yf =>
  unfold XM at h
  dsimp only at h
  obtain ⟨a0, h⟩ := Ar h
  obtain ⟨a1, h⟩ := Ar h
  obtain ⟨a2, h⟩ := Ar h
  obtain ⟨a3, h⟩ := Ar h
  obtain ⟨a4, h⟩ := Ar h
  obtain ⟨a5, h⟩ := Ar h
  obtain ⟨a6, h⟩ := Ar h
  obtain ⟨a7, h⟩ := Ar h
  obtain ⟨a8, h⟩ := Ar h
  obtain ⟨a9, h⟩ := Ar h
  obtain ⟨a10, h⟩ := Ar h
  obtain ⟨a11, h⟩ := Ar h
  obtain ⟨a12, h⟩ := Ar h
  obtain ⟨a13, h⟩ := Ar h
  obtain ⟨a14, h⟩ := Ar h
  cases a
  · cases y0 with | mk x0 x1 x2 x3 x4 x5 x6 x7 x8 x9 xa xb xc xd xe xf =>
    clear a1 a2 a3 a4 a5 a6 a7 a8 a9 a10 a11 a12 a13 a14 h
    have h := a0
    unfold Ab3 at h
    dsimp only at h
    obtain ⟨b0, h⟩ := Ar h
    obtain ⟨b1, h⟩ := Ar h
    obtain ⟨b2, h⟩ := Ar h
    obtain ⟨b3, h⟩ := Ar h
    obtain ⟨b4, h⟩ := Ar h
    obtain ⟨b5, h⟩ := Ar h
    obtain ⟨b6, h⟩ := Ar h
    obtain ⟨b7, h⟩ := Ar h
    obtain ⟨b8, h⟩ := Ar h
    obtain ⟨b9, h⟩ := Ar h
    obtain ⟨b10, h⟩ := Ar h
    obtain ⟨b11, h⟩ := Ar h
    obtain ⟨b12, h⟩ := Ar h
    obtain ⟨b13, h⟩ := Ar h
    obtain ⟨b14, h⟩ := Ar h
    cases b
    · exact XR b0 c d hq
    · exact BI b1 c d
    · exact BI b2 c d
    · exact BI b3 c d
    · exact BI b4 c d
    · exact BI b5 c d
    · exact BI b6 c d
    · exact BI b7 c d
    · exact BI b8 c d
    · exact BI b9 c d
    · exact BI b10 c d
    · exact BI b11 c d
    · exact BI b12 c d
    · exact BI b13 c d
    · exact BI b14 c d
    · exact BI h c d
  · exact FF a1 b c d
  · exact FF a2 b c d
  · exact FF a3 b c d
  · exact FF a4 b c d
  · exact FF a5 b c d
  · exact FF a6 b c d
  · exact FF a7 b c d
  · exact FF a8 b c d
  · exact FF a9 b c d
  · exact FF a10 b c d
  · exact FF a11 b c d
  · exact FF a12 b c d
  · exact FF a13 b c d
  · exact FF a14 b c d
  · exact FF h b c d
/-- A call gave true, in a state in which nothing lies behind the next place, and that is one of the first places. -/
def Acn (r:R):Bool :=
  @R.rec (fun _ => Bool) (fun _ _ _ _ => false) (fun v h n => and (QX v) (and (Nat.ble n.toN 250) (XM n h))) (fun _ => false) (fun _ _ _ _ => false) r
theorem Aab {r:R} (h:Acn r=true):∃ h n, r = .rv (.bool true) h n∧n.toN≤250∧B7 h n := by
  cases r with
  | rv v hh n =>
    obtain ⟨h1, h2⟩ := Ar (show and (QX v) (and (Nat.ble n.toN 250) (XM n hh))=true from h)
    obtain ⟨h2, h3⟩ := Ar h2
    exact ⟨hh, n, by rw [S7 h1], Nat.le_of_ble_eq_true h2, ZW h3⟩
  | _ => cases h
end Go.Ev

namespace Go.Ev
set_option linter.unusedVariables false
end Go.Ev

namespace Go.Ev
set_option linter.unusedVariables false
/-- Bytes whose places satisfy A. -/
def Mz (A:K4->Prop) (n:K4) (h:Heap) (c:V) (l:List UInt8):Prop := (c = .nil .sl∧l=[]) ∨ ∃ p ex pr, c = .sl p 0 l.length l.length ex 1∧A8 p h=some (.c (cb l) false pr)∧A p∧p.toN<n.toN∧(pr=none ∨ ∃ q, pr=some q∧A q∧q.toN<n.toN)
theorem Mz.frame {A:K4->Prop} {n n':K4} {h h':Heap} {c:V} {l:List UInt8} (H:Mz A n h c l) (hn:n.toN≤n'.toN) (e:∀ q:K4, A q->q.toN<n.toN->A8 q h'=A8 q h):Mz A n' h' c l := by
  rcases H with H | ⟨p, ex, pr, h1, h2, h3, h4, h5⟩
  · exact .inl H
  · refine .inr ⟨p, ex, pr, h1, (e p h3 h4).trans h2, h3, by omega, ?_⟩
    rcases h5 with h5 | ⟨q, h5, h6, h7⟩
    · exact .inl h5
    · exact .inr ⟨q, h5, h6, by omega⟩
theorem Mz.src {A:K4->Prop} {n:K4} {h:Heap} {c:V} {l:List UInt8} (H:Mz A n h c l):MS c l h := by
  rcases H with ⟨rfl, rfl⟩ | ⟨p, ex, pr, rfl, h2, _⟩
  · exact .inr (.inl ⟨rfl, rfl⟩)
  · exact .inr (.inr ⟨p, 0, l.length, ex, l, false, pr, rfl, h2, by omega, by rw [List.drop_zero, List.take_length]⟩)
end Go.Ev

namespace Go.Ev
set_option linter.unusedVariables false
theorem Mz.mono {A A':K4->Prop} {n n':K4} {h h':Heap} {c:V} {l:List UInt8} (H:Mz A n h c l) (hn:n.toN≤n'.toN) (hP:∀ q:K4, q.toN<n.toN->A q->A' q) (e:∀ q:K4, q.toN<n.toN->A q->A8 q h'=A8 q h):Mz A' n' h' c l := by
  rcases H with H | ⟨p, ex, pr, h1, h2, h3, h4, h5⟩
  · exact .inl H
  · refine .inr ⟨p, ex, pr, h1, (e p h4 h3).trans h2, hP p h4 h3, by omega, ?_⟩
    rcases h5 with h5 | ⟨q, h5, h6, h7⟩
    · exact .inl h5
    · exact .inr ⟨q, h5, hP q h7 h6, by omega⟩
theorem Mz.len {A:K4->Prop} {n:K4} {h:Heap} {c:V} {l:List UInt8} (H:Mz A n h c l) (hl:l.length<9223372036854775808) (κ:V->R):Bx c κ=κ (.int .i64 l.length) := by
  rcases H with ⟨rfl, rfl⟩ | ⟨p, ex, pr, rfl, _⟩
  · rfl
  · exact CL hl κ
/-- A slice of cells whose places satisfy A. -/
def DU (A:K4->Prop) (n:K4) (h:Heap) (z:Nat) (v:V) (l:List V) (k:Nat):Prop := (v = .nil .sl∧l=[]∧k=0) ∨ ∃ p ex pr, v = .sl p 0 k k ex z∧A8 p h=some (.c (.l l) false pr)∧l.length=k*z∧A p∧p.toN<n.toN∧(pr=none ∨ ∃ q, pr=some q∧A q∧q.toN<n.toN)
theorem DU.mono {A A':K4->Prop} {n n':K4} {h h':Heap} {z:Nat} {v:V} {l:List V} {k:Nat} (H:DU A n h z v l k) (hn:n.toN≤n'.toN) (hP:∀ q:K4, q.toN<n.toN->A q->A' q) (e:∀ q:K4, q.toN<n.toN->A q->A8 q h'=A8 q h):DU A' n' h' z v l k := by
  rcases H with H | ⟨p, ex, pr, h1, h2, h3, h4, h5, h6⟩
  · exact .inl H
  · refine .inr ⟨p, ex, pr, h1, (e p h5 h4).trans h2, h3, hP p h5 h4, by omega, ?_⟩
    rcases h6 with h6 | ⟨q, h6, h7, h8⟩
    · exact .inl h6
    · exact .inr ⟨q, h6, hP q h8 h7, by omega⟩
theorem DU.len {A:K4->Prop} {n:K4} {h:Heap} {z:Nat} {v:V} {l:List V} {k:Nat} (H:DU A n h z v l k) (hl:k<9223372036854775808) (κ:V->R):Bx v κ=κ (.int .i64 k) := by
  rcases H with ⟨rfl, rfl, rfl⟩ | ⟨p, ex, pr, rfl, _⟩
  · rfl
  · exact CL hl κ
theorem DU.ls {A:K4->Prop} {n:K4} {h:Heap} {z:Nat} {v:V} {l:List V} {k:Nat} (H:DU A n h z v l k) (av:List K4) (hav:∀ q∈av, ¬ A q):LS h n av z v l k := by
  rcases H with H | ⟨p, ex, pr, h1, h2, h3, h4, h5, h6⟩
  · exact .inl H
  · exact .inr ⟨p, 0, k, ex, l, false, pr, h1, h2, by omega, by rw [List.drop_zero, ←h3, List.take_length], h5, fun q hq e => hav q hq (e ▸ h4)⟩
theorem Vx {A:K4->Prop} {n:K4} {h:Heap} {z eb:Nat} {v:V} {l b:List V} {k m:Nat} (H:DU A n h z v l k) (hA:∀ q:K4, n.toN≤q.toN->A q) (hb:b.length=m*z) (hm:0<m) (hs:(4*(k+m)+4096)*eb≤281474976710656) (hn:n.toN<65000) :
    ∃ h', (∀ κ:KV, Bz z eb v m (.l b) h n κ=κ (.sl n 0 (k+m) (k+m) false z) h' n.up)∧DU A n.up h' z (.sl n 0 (k+m) (k+m) false z) (l++b) (k+m)∧(∀ q:K4, ¬ A q->A8 q h'=A8 q h)∧(B7 h n->B7 h' n.up) := by
  have u1 := K4.up_toN (p := n) (by omega)
  have hAn:A n := hA n (Nat.le_refl _)
  have hne:∀ q:K4, ¬ A q->q≠n := fun q hq e => hq (e ▸ hAn)
  rcases H with ⟨rfl, rfl, rfl⟩ | ⟨p, ex, pr, rfl, h2, h3, h4, h5, h6⟩
  · refine ⟨_, fun κ => ?_, .inr ⟨n, false, none, rfl, A7 _ _ _, by rw [List.nil_append, hb, Nat.zero_add], hAn, by omega, .inl rfl⟩, fun q hq => A6 _ _ (hne q hq).symm, fun hf q hq => (C3 (by omega) _ _).trans (hf q (by omega))⟩
    rw [OW hm (by rw [Nat.zero_add] at hs; exact hs) (by omega)]; simp only [List.nil_append, Nat.zero_add]
  · have e0 := fun κ => NB (eb := eb) (ex := ex) (b := b) (m := m) h2 h3 hm hs hn κ
    have hll:(l++b).length=(k+m)*z := by rw [List.length_append, h3, hb, Nat.add_mul]
    cases ex with
    | true =>
      exact ⟨_, fun κ => (e0 κ).trans (Ab _ _), .inr ⟨n, false, none, rfl, A7 _ _ _, hll, hAn, by omega, .inl rfl⟩, fun q hq => A6 _ _ (hne q hq).symm, fun hf q hq => (C3 (by omega) _ _).trans (hf q (by omega))⟩
    | false =>
      refine ⟨_, fun κ => (e0 κ).trans (Ag _ _), .inr ⟨n, false, some p, rfl, A7 _ _ _, hll, hAn, by omega, .inr ⟨p, rfl, h4, by omega⟩⟩, fun q hq => ?_, fun hf q hq => ?_⟩
      · rw [A6 _ _ (hne q hq).symm, A6 _ _ (show p≠q from fun e => hq (e ▸ h4))]
        rcases h6 with rfl | ⟨r, rfl, h7, h8⟩
        · rfl
        · exact A6 _ _ (show r≠q from fun e => hq (e ▸ h7))
      · rw [C3 (by omega), C3 (by omega)]
        rcases h6 with rfl | ⟨r, rfl, h7, h8⟩
        · exact hf q (by omega)
        · exact (A6 _ _ (K4.ne_of_lt (by omega))).trans (hf q (by omega))
end Go.Ev

namespace Go.Ev
set_option linter.unusedVariables false
open Go.RowKit
theorem AU {r:R} {v:V} {h:Heap} {n:K4} (e:r = .rv v h n):r.good := by rw [e]; trivial
section
/-- The text of some bytes. -/
def vS (s:List UInt8):V := .str s.length (Al s)
theorem Y9 {x:V} {s:String} {κ:K4->Nat->Nat->Nat->Bool->Nat->R} {v:V} {h:Heap} {n:K4} (hx:D0 x (.fail s) κ = .rv v h n):∃ p off len cap ex esz, x = .sl p off len cap ex esz∧κ p off len cap ex esz = .rv v h n := by
  rcases C7 (v := x) (κn := .fail s) (κ := κ) (AU hx) with ⟨_, e⟩ | ⟨p, off, len, cap, ex, esz, rfl, e⟩
  · rw [e] at hx; cases hx
  · exact ⟨p, off, len, cap, ex, esz, rfl, e ▸ hx⟩
theorem Jo {x:V} {s:String} {κ:K4->R} {v:V} {h:Heap} {n:K4} (hx:CX x (.fail s) κ = .rv v h n):∃ p, x = .map p∧κ p = .rv v h n := by
  rcases Dv (v := x) (κn := .fail s) (κ := κ) (AU hx) with ⟨_, e⟩ | ⟨p, rfl, e⟩
  · rw [e] at hx; cases hx
  · exact ⟨p, rfl, e ▸ hx⟩
end
section
variable {P:Program} {ρ:Env} {B:Nat}
end
end Go.Ev

namespace Go.Ev
set_option linter.unusedVariables false
open Go.RowKit
open Go.Proofs (encStr)
section
/-- Does a text stand at or ahead of another one? -/
def leN (m:Nat):Nat->Nat->Nat->Bool :=
  @Nat.rec (fun _ => Nat->Nat->Nat->Bool) (fun _ _ _ => true)
    (fun _ ih c n d => br (Nat.beq n 0) false (Ac (lo c 1) fun x => Ac (lo d 1) fun y => br (Nat.beq x y) (Ac (sh c 1) fun c => Ac (Nat.pred n) fun n => Ac (sh d 1) fun d => ih c n d) (Nat.ble (Nat.succ x) y))) m
theorem SD (x:UInt8) (a:List UInt8):lo (Al (x::a)) 1=x.toNat := by
  have := x.toNat_lt
  rw [FH]; simp only [Al]; omega
theorem Si (x:UInt8) (a:List UInt8):sh (Al (x::a)) 1=Al a := by
  have := x.toNat_lt
  rw [HF]; simp only [Al]; omega
theorem WE:∀ a b:List UInt8, leN a.length (Al a) b.length (Al b)=decide (a≤b)
  | [], b => by
    show true=_
    simp
  | x::a, [] => by
    show false=_
    simp
  | x::a, y::b => by
    have e:leN (x::a).length (Al (x::a)) (y::b).length (Al (y::b))=br (Nat.beq x.toNat y.toNat) (leN a.length (Al a) b.length (Al b)) (Nat.ble (Nat.succ x.toNat) y.toNat) := by
      have:leN (x::a).length (Al (x::a)) (y::b).length (Al (y::b))=br (Nat.beq (y::b).length 0) false (Ac (lo (Al (x::a)) 1) fun p => Ac (lo (Al (y::b)) 1) fun q => br (Nat.beq p q) (Ac (sh (Al (x::a)) 1) fun c => Ac (Nat.pred (y::b).length) fun n => Ac (sh (Al (y::b)) 1) fun d => leN a.length c n d) (Nat.ble (Nat.succ p) q)) := rfl
      rw [this, SD, SD, Si, Si]
      simp only [Aa]
      rfl
    rw [e, WE a b]
    by_cases h:x=y
    · subst h
      rw [Nat.beq_refl, Ab]
      refine decide_eq_decide.2 ⟨fun h => List.cons_le_cons_iff.2 (.inr ⟨rfl, h⟩), fun h => ?_⟩
      rcases List.cons_le_cons_iff.1 h with h | ⟨_, h⟩
      · exact absurd h (by rw [UInt8.lt_iff_toNat_lt]; omega)
      · exact h
    · have h1:Nat.beq x.toNat y.toNat=false := by
        cases h2:Nat.beq x.toNat y.toNat with
        | false => rfl
        | true => exact absurd (UInt8.toNat_inj.1 (Nat.eq_of_beq_eq_true h2)) h
      rw [h1, Ag]
      have h3:(x::a≤y::b) ↔ x<y := by
        rw [List.cons_le_cons_iff]
        constructor
        · rintro (h' | ⟨h', _⟩)
          · exact h'
          · exact absurd h' h
        · exact fun h' => .inl h'
      rw [BV]
      exact decide_eq_decide.2 (by rw [h3, UInt8.lt_iff_toNat_lt]; exact Iff.rfl)
def XZ (x:V) (l:List V):(List V->R)->R :=
  @List.rec V (fun _ => (List V->R)->R) (fun κ => κ [x]) (fun y ys ih κ => AR x fun m c => AR y fun n d => br (leN m c n d) (κ (x::y::ys)) (ih fun zs => κ (y::zs))) l
def Pp (l:List V):(List V->R)->R :=
  @List.rec V (fun _ => (List V->R)->R) (fun κ => κ []) (fun x _ ih κ => AR x fun _ _ => ih fun zs => XZ x zs κ) l
def Ph (x:List UInt8):List (List UInt8)->List (List UInt8)
  | [] => [x]
  | y::ys => if x≤y then x::y::ys else y::Ph x ys
def Gn:List (List UInt8)->List (List UInt8)
  | [] => []
  | x::l => Ph x (Gn l)
theorem Tz (x:List UInt8):∀ (l:List (List UInt8)) (κ:List V->R), XZ (vS x) (l.map vS) κ=κ ((Ph x l).map vS)
  | [], κ => rfl
  | y::ys, κ => by
    show br (leN x.length (Al x) y.length (Al y)) (κ (vS x::vS y::ys.map vS)) (XZ (vS x) (ys.map vS) fun zs => κ (vS y::zs))=_
    rw [WE, Tz x ys]
    show _=κ ((if x≤y then x::y::ys else y::Ph x ys).map vS)
    by_cases h:x≤y
    · rw [if_pos h, decide_eq_true h]; rfl
    · rw [if_neg h, decide_eq_false h]; rfl
theorem LQ:∀ (l:List (List UInt8)) (κ:List V->R), Pp (l.map vS) κ=κ ((Gn l).map vS)
  | [], κ => rfl
  | x::l, κ => by
    show Pp (l.map vS) (fun zs => XZ (vS x) zs κ)=_
    rw [LQ l, Tz]; rfl
theorem Kp (x:List UInt8):∀ l, (Ph x l).Perm (x::l)
  | [] => List.Perm.refl _
  | y::ys => by
    unfold Ph
    split
    · exact List.Perm.refl _
    · exact ((Kp x ys).cons y).trans (List.Perm.swap x y ys)
theorem Fu:∀ l, (Gn l).Perm l
  | [] => List.Perm.refl _
  | x::l => (Kp x _).trans ((Fu l).cons x)
theorem KM (x:List UInt8):∀ l:List (List UInt8), l.Pairwise (· ≤ ·)->(Ph x l).Pairwise (· ≤ ·)
  | [], _ => by simp [Ph]
  | y::ys, h => by
    obtain ⟨h1, h2⟩ := List.pairwise_cons.1 h
    unfold Ph
    split
    · rename_i hxy
      refine List.pairwise_cons.2 ⟨fun z hz => ?_, h⟩
      rcases List.mem_cons.1 hz with e | hz
      · subst e; exact hxy
      · exact List.le_trans hxy (h1 z hz)
    · rename_i hxy
      have hyx:y≤x := (List.le_total x y).resolve_left hxy
      refine List.pairwise_cons.2 ⟨fun z hz => ?_, KM x ys h2⟩
      rcases List.mem_cons.1 ((Kp x ys).mem_iff.1 hz) with e | hz
      · subst e; exact hyx
      · exact h1 z hz
theorem H6:∀ l, (Gn l).Pairwise (· ≤ ·)
  | [] => List.Pairwise.nil
  | x::l => KM x _ (H6 l)
/-- One list, in whatever order it comes. -/
theorem MQ {l l':List (List UInt8)} (h:l.Perm l'):Gn l=Gn l' :=
  List.Perm.eq_of_pairwise (le := (· ≤ ·)) (fun a b _ _ h1 h2 => List.le_antisymm h1 h2) (H6 l) (H6 l') (((Fu l).trans h).trans (Fu l').symm)
def OV:Ma := fun args h n =>
  EB args fun x l => J3 l (D0 x (.rv (.tup []) h n) fun p off len cap ex esz => br (Nat.beq esz 1) (br (Nat.beq len 0) (.rv (.tup []) h n) (br (Nat.ble len 1000000) (GD p h fun cs _ _ => AJ cs off len fun z => DJ z fun xs => Pp xs fun ys => Dt h p off (.l ys) fun h => .rv (.tup []) h n) (.fail ""))) (.fail ""))
end
section
variable {P:Program} {ρ:Env} {B:Nat}
theorem Qd {φ:AF}:Aj ρ φ (.tup []) (.tuple #[]) := by
  simp only [Aj]
  exact ⟨#[], rfl, Ao.2 rfl⟩
end
end Go.Ev

namespace Go.Ev
set_option linter.unusedVariables false
set_option maxRecDepth 100000
def Vd (r:R) (κ:V->Heap->K4->R):R := @R.rec (fun _ => R) (Fl "") (fun v h n => κ v h n) (fun w => .fail w) (Fl "") r
theorem Sd {r:R} {κ:V->Heap->K4->R} (hg:(Vd r κ).good):∃ v h n, r = .rv v h n∧Vd r κ=κ v h n := by
  cases r with
  | rv v h n => exact ⟨v, h, n, rfl, rfl⟩
  | _ => exact hg.elim
def Xc (n:K4) (h:Heap) (acc:List K4) (r:R):R :=
  Vd r fun v1 h1 m1 => GM n v1 h1 v1 h1 (D7 n h1 h1 acc (MH m1 n fun m => G5 h h1 acc fun hf => Q8 n v1 h1 hf m))
def XE (k:Nat) (canon:Heap->List K4->R) (args:List V) (h:Heap) (n:K4):R :=
  Bb h k (Xi args []) Aq [] fun hs acc => Xc n h acc (canon hs acc)
section
variable {P:Program} {ρ:Env} {B:Nat}
theorem SB {f:FuncId} {canon:Heap->List K4->R} {k:Nat} {args:List V} {h:Heap} {n:K4} {v:V} {h1:Heap} {n1:K4} (hr:XE k canon args h n = .rv v h1 n1) {φ:AF} {w:World} {xs:Array Value} (g:Gam ρ B h n φ w)
    (H:∀ (hs:Heap) (acc:List K4) (v1:V) (hh1:Heap) (m1 m:K4), Sub h hs acc->canon hs acc = .rv v1 hh1 m1->Su n v1 hh1 v1 hh1->(∀ p∈acc, ∀ o, A8 p hh1=some o->Kc n o)->m1.toN≤m.toN->Gam ρ B hs n φ w →
      L3 P f xs w fun x w' => ∃ v h' n' φ', Wa n v1 hh1 acc m (.rv v h' n')∧Fr hs h' φ φ' n n' w w'∧Gam ρ B h' n' φ' w'∧Aj ρ φ' v x) :
    L3 P f xs w fun x w' => ∃ φ', Fr h h1 φ φ' n n1 w w'∧Gam ρ B h1 n1 φ' w'∧Aj ρ φ' v x := by
  unfold XE at hr
  obtain ⟨hs, acc, sub, e1⟩ := Fc k (todo := Xi args []) (κ := fun hs acc => Xc n h acc (canon hs acc)) (Sub.nil (h := h))
  rw [e1] at hr
  unfold Xc at hr
  obtain ⟨v1, hh1, m1, hc, e2⟩ := Sd (AU hr)
  rw [e2] at hr
  obtain ⟨res, e3⟩ := J9 (AU hr)
  rw [e3] at hr
  obtain ⟨all, e4⟩ := GO (AU hr)
  rw [e4] at hr
  obtain ⟨m, e5, l1, l2⟩ := T8 m1 n fun m => G5 h hh1 acc fun hf => Q8 n v1 hh1 hf m
  rw [e5] at hr
  obtain ⟨hf, put, e6⟩ := IG (AU hr)
  rw [e6] at hr
  have gs:Gam ρ B hs n φ w := by
    refine ⟨g.base, g.dom, g.blk, fun p o b s tot hp hx => ?_, fun p q o o' b s tot s' tot' hne hp hq hx hy => ?_, fun p q o o' b s tot s' tot' hp hpr hq hx hy => ?_, g.glob⟩
    · obtain ⟨o0, e0, rfl, _⟩ := sub.sub p o hp
      exact Tt (g.obj p o0 b s tot e0 hx)
    · exfalso
      obtain ⟨o0, e0, _, g0, _⟩ := sub.sub p o hp
      obtain ⟨o1, e1, _, g1, _⟩ := sub.sub q o' hq
      have no:∀ (ob:Ob), Ez ob=true->Js ob=true->False := fun ob h1 h2 => by
        cases ob with
        | c cs sup prev =>
          cases sup with
          | true => cases h1
          | false => cases h2
        | _ => cases h2
      rcases g.sep p q o0 o1 b s tot s' tot' hne e0 e1 hx hy with h | h
      · exact no o1 g1 (g.sup p q o0 o1 b s tot s' tot' e0 h e1 hx hy)
      · exact no o0 g0 (g.sup q p o1 o0 b s' tot' s tot e1 h e0 hy hx)
    · obtain ⟨o0, e0, rfl, _⟩ := sub.sub p o hp
      rw [N2] at hpr; cases hpr
  intro o a K Q hK
  refine H hs acc v1 hh1 m1 m sub hc res (fun p hp => (all p hp).2) l1 gs o a K Q fun x w' ⟨v', h', n', φ', way, f1, g1, r1⟩ => hK x w' ?_
  exact WT sub put g f1 g1 r1 way l2 hr
end
theorem D.nx_u (d:D):d.toN=15 ∨ ∃ e:D, e.toN=d.toN+1 ∧ ∀ {β:Type} (k:D->β) (c:β), d.nx k c=k e := by
  cases d
  case d15 => exact .inl rfl
  all_goals exact .inr ⟨_, rfl, fun _ _ => rfl⟩
theorem D.nx_f {d:D} (h:d.toN=15) {β:Type} (k:D->β) (c:β):d.nx k c=c := by
  rcases d.nx_eq k c with ⟨e, _⟩ | ⟨e, he, _⟩
  · exact e
  · have := e.toN_lt; omega
theorem K4.nx_u (p:K4) (h:p.toN<65535):∃ q:K4, q.toN=p.toN+1 ∧ ∀ k:K4->R, p.nx k=k q := by
  obtain ⟨a, b, c, d⟩ := p
  simp only [K4.nx, K4.toN] at h ⊢
  have hd0:D.d0.toN=0 := rfl
  rcases d.nx_u with hd | ⟨e, he, hd⟩
  · rcases c.nx_u with hc | ⟨e, he, hc⟩
    · rcases b.nx_u with hb | ⟨e, he, hb⟩
      · rcases a.nx_u with ha | ⟨e, he, ha⟩
        · omega
        · exact ⟨⟨e, .d0, .d0, .d0⟩, by simp only [hd0]; omega, fun k => by rw [D.nx_f hd, D.nx_f hc, D.nx_f hb, ha]⟩
      · exact ⟨⟨a, e, .d0, .d0⟩, by simp only [hd0]; omega, fun k => by rw [D.nx_f hd, D.nx_f hc, hb]⟩
    · exact ⟨⟨a, b, e, .d0⟩, by simp only [hd0]; omega, fun k => by rw [D.nx_f hd, hc]⟩
  · exact ⟨⟨a, b, c, e⟩, by simp only; omega, fun k => by rw [hd]⟩
/-- So many places further on. -/
def ZJ (j:Nat):K4->(K4->R)->R := @Nat.rec (fun _ => K4->(K4->R)->R) (fun p κ => κ p) (fun _ ih p κ => p.nx fun p => ih p κ) j
theorem Lv:∀ {j:Nat} {p:K4} {κ:K4->R}, (ZJ j p κ).good->∃ q:K4, q.toN=p.toN+j∧ZJ j p κ=κ q
  | 0, p, κ, _ => ⟨p, rfl, rfl⟩
  | j+1, p, κ, h => by
    replace h:R.good (p.nx fun p => ZJ j p κ) := h
    rcases p.nx_eq (fun p => ZJ j p κ) with ⟨w, e⟩ | ⟨q, hq, e⟩
    · rw [e] at h; exact h.elim
    · rw [e] at h
      obtain ⟨r, hr, e2⟩ := Lv h
      exact ⟨r, by omega, Eq.trans e e2⟩
theorem K4.toN_max (p:K4):p.toN≤65535 := by
  obtain ⟨a, b, c, d⟩ := p
  have := a.toN_lt; have := b.toN_lt; have := c.toN_lt; have := d.toN_lt
  simp only [K4.toN]; omega
section
variable {h:Heap} {n n' p:K4}
theorem FP {o:Ob} {κ:Heap->K4->R} (hn:∀ k:K4->R, n.nx k=k n'):DR h n o κ=κ (Af n h (some o)) n' := by
  rw [I4]
  show DQ n h (some o) (fun h' => n.nx fun n' => κ h' n')=_
  rw [AA, hn]
theorem Ew {cs:Cs} {sup:Bool} {prev:Option K4} {κ:Cs->Bool->Option K4->R} (hp:A8 p h=some (.c cs sup prev)):GD p h κ=κ cs sup prev := by
  unfold GD
  rw [AB, hp]
theorem FR {cs:Cs} {sup:Bool} {prev:Option K4} {κ:Cs->Bool->Option K4->R} (hp:A8 p h=some (.c cs sup prev)):GW p h κ=κ cs sup prev := by
  rw [←DC, Ew hp]
theorem Fw {es:List (V×V)} {bs:List Nat} {c:Nat} {κ:List (V×V)->List Nat->Nat->R} (hp:A8 p h=some (.m es bs c)):J5 p h κ=κ es bs c := by
  unfold J5
  rw [AB, hp]
theorem Ks {q:K4} {s:Nat} {l:List Nat} {c:Nat} {κ0:R} {κ:K4->Nat->List Nat->Nat->R} (hp:A8 p h=some (.it q s l c)):QK p h κ0 κ=κ q s l c := by
  unfold QK
  rw [AB, hp]
theorem Cx {o:BX} {κ:Heap->R}:AV p h o κ=κ (Af p h o) := by rw [Bf, AA]
theorem M7 {cs:Cs} {κ:KV} (hn:∀ k:K4->R, n.nx k=k n'):FW cs h n κ=κ (.ptr n 0) (Af n h (some (.c cs false none))) n' := FP hn
theorem Pw {len esz:Nat} {l:List V} {κ:KV} (hn:∀ k:K4->R, n.nx k=k n'):EE false len esz l h n κ=κ (.sl n 0 len len true esz) (Af n h (some (.c (.l l) false none))) n' :=
  FP (κ := fun h' n' => κ (.sl n 0 len len true esz) h' n') hn
theorem LG {x y a b:V} {κ:Heap->R} (hp:A8 p h=some (.c (.l [x, y]) false none)):Gh 2 (.ptr p 0) (.agg [a, b]) h κ=κ (Af p h (some (.c (.l [a, b]) false none))) := by
  show Dt h p 0 (.l [a, b]) κ=_
  rw [D1]
  unfold CZ
  rw [FR hp]
  show DQ p h (some (.c (.l [a, b]) false none)) κ=_
  rw [AA]
theorem Kn {a b:V} {sup:Bool} {prev:Option K4} {κ:V->R} (hp:A8 p h=some (.c (.l [a, b]) sup prev)):BA 2 (.ptr p 0) h κ=κ (.agg [a, b]) := by
  show GD p h (fun cs _ _ => AJ cs 0 2 fun y => DJ y fun l => κ (.agg l))=_
  rw [Ew hp]; rfl
theorem JW {a b:Nat} {κ:V->R}:Ax b (.ptr p a) κ=κ (.ptr p (a+b)) := by
  show Ac (Nat.add a b) (fun o => κ (.ptr p o))=_
  rw [Aa]; rfl
theorem NR:∀ {xs:List V} {κ:List V->R}, BZ xs.length xs κ=κ xs
  | [], κ => rfl
  | x::xs, κ => by
    show BZ xs.length xs (fun zs => κ (x::zs))=_
    rw [NR]
theorem Fe {xs:List V} {κ:Cs->R}:AJ (.l xs) 0 xs.length κ=κ (.l xs) := by
  show BZ xs.length xs (fun zs => κ (.l zs))=_
  rw [NR]
/-- One element more. -/
theorem RE {s:V} {κ:KV} (hn:∀ k:K4->R, n.nx k=k n') (hp:A8 p h=some (.c (.l [s]) false none)) :
    Dk 1 16 (.nil .sl) (.sl p 0 1 1 true 1) h n κ=κ (.sl n 0 1 1 false 1) (Af n h (some (.c (.l [s]) false none))) n' := by
  show GW p h (fun cs _ _ => Ac (Nat.mul 1 1) fun m => AJ cs 0 m fun y => Bz 1 16 (.nil .sl) 1 y h n κ)=_
  rw [FR hp, Aa]
  show DR h n (.c (.l [s]) false none) (fun h' n' => κ (.sl n 0 1 1 false 1) h' n')=_
  rw [FP hn]
theorem U3 {q:K4} {xs:List V} {prev:Option K4} {s:V} {κ:KV} (hn:∀ k:K4->R, n.nx k=k n') (hp:A8 p h=some (.c (.l [s]) false none)) (hq:A8 q h=some (.c (.l xs) false prev)) (hl:xs.length≤1000000000) :
    Dk 1 16 (.sl q 0 xs.length xs.length false 1) (.sl p 0 1 1 true 1) h n κ =
      κ (.sl n 0 (xs.length+1) (xs.length+1) false 1) (Af n (Af q (BS prev h) (some (.c (.l xs) true none))) (some (.c (.l (xs++[s])) false (some q)))) n' := by
  show GW p h (fun cs _ _ => Ac (Nat.mul 1 1) fun m => AJ cs 0 m fun y => Bz 1 16 (.sl q 0 xs.length xs.length false 1) 1 y h n κ)=_
  rw [FR hp, Aa]
  show Ac (Nat.add xs.length 1) (fun need => br (Nat.ble need xs.length) _ _)=_
  rw [Aa]
  have h1:Nat.ble (Nat.add xs.length 1) xs.length=false := Au (by show xs.length<xs.length+1; omega)
  have h2:Nat.ble (Nat.mul (Nat.add (Nat.mul 4 (Nat.add xs.length 1)) 4096) 16) 281474976710656=true := A9.2 (by show (4*(xs.length+1)+4096)*16≤281474976710656; omega)
  rw [h1, h2]
  show GD q h _=_
  rw [Ew hq, Aa]
  show AJ (.l xs) 0 (xs.length*1) _=_
  rw [Nat.mul_one, Fe]
  show DS xs [s] (fun zs => _)=_
  rw [Cp]
  show Ac (Nat.add 0 (Nat.mul xs.length 1)) (fun j => AJ (.l xs) 0 j _)=_
  rw [Aa, show Nat.add 0 (Nat.mul xs.length 1)=xs.length by show 0+xs.length*1=_; omega, Fe, CW]
  show DQ q (BS prev h) (some (.c (.l xs) true none)) _=_
  rw [AA, FP hn]
end
theorem X3 {x:V} {l:List V} {κ:V->R}:Do 0 (.tup (x::l)) κ=κ x := rfl
theorem Qp {m c:Nat} {κ:List V->R}:Bd 0 (.str m c) [.str 0 0] κ=κ [.str m c] := rfl
theorem Lr {xs ys:List V} {κ:Cs->R} (h:ys.length=xs.length):MD (.l xs) 0 (.l ys) κ=κ (.l ys) := by
  have hd:∀ (xs:List V) (κ:List V->R), CN xs.length xs κ=κ [] := fun xs => by
    induction xs with
    | nil => exact fun _ => rfl
    | cons x xs ih => exact fun κ => ih κ
  show FM ys (fun m => Ac (Nat.add 0 m) fun j => CN j xs fun b => DS ys b fun t => κ (.l t))=_
  rw [C1, Aa, show Nat.add 0 ys.length=xs.length by show 0+ys.length=_; omega, hd, Cp, List.append_nil]
theorem RZ {p:K4} {h:Heap} {κ:List (V×V)->List Nat->Nat->R} {v:V} {h':Heap} {n:K4} (hx:J5 p h κ = .rv v h' n):∃ es bs c, A8 p h=some (.m es bs c)∧κ es bs c = .rv v h' n := by
  rw [FD] at hx
  obtain ⟨es, bs, c, hp, e⟩ := Eo (AU hx)
  exact ⟨es, bs, c, hp, by rw [←e]; exact hx⟩
theorem IR {p:K4} {h:Heap} {κ:Cs->Bool->Option K4->R} {v:V} {h':Heap} {n:K4} (hx:GD p h κ = .rv v h' n):∃ cs sup prev, A8 p h=some (.c cs sup prev)∧κ cs sup prev = .rv v h' n := by
  rw [DC] at hx
  obtain ⟨cs, sup, prev, hp, e⟩ := Cu (AU hx)
  exact ⟨cs, sup, prev, hp, by rw [←e]; exact hx⟩
theorem If {i:Nat} {l:List V} {κ:V->R} {v:V} {h':Heap} {n:K4} (hx:BK i l κ = .rv v h' n):∃ u, l[i]? = some u∧κ u = .rv v h' n := by
  obtain ⟨u, hu, e⟩ := Dy (AU hx)
  exact ⟨u, hu, by rw [←e]; exact hx⟩
theorem KQ {α β γ:Type} (g:α->List γ):∀ (es:List α) (bs:List β), es.length=bs.length->(es.zip bs).flatMap (fun y => g y.1)=es.flatMap g
  | [], bs, _ => by simp
  | e::es, [], h => by simp at h
  | e::es, b::bs, h => by
    rw [List.zip_cons_cons, List.flatMap_cons, List.flatMap_cons, KQ g es bs (by simpa using h)]
theorem Kl {κ:S->Heap->K4->R} {Φ:R->Prop}:∀ {r:R}, r.sat (fun x => (Rx x κ).sat Φ)->(Rx r κ).sat Φ
  | .fail _, h => h.elim
  | .both a b, h => ⟨Kl h.1, Kl h.2⟩
  | .ok _ _ _ _, h => h
  | .rv _ _ _, h => h
theorem Ic {id:Nat} {κ:S->Heap->K4->R} {Φ:R->Prop}:∀ {r:R}, r.sat (fun x => (AO id x κ).sat Φ)->(AO id r κ).sat Φ
  | .fail _, h => h.elim
  | .both a b, h => ⟨Ic h.1, Ic h.2⟩
  | .ok _ _ _ _, h => h
  | .rv _ _ _, h => h
theorem I7 {re:S->Heap->K4->R} {Φ:R->Prop}:∀ {r:R}, r.sat (fun x => (Kf x re).sat Φ)->(Kf r re).sat Φ
  | .fail _, h => h.elim
  | .both a b, h => ⟨I7 h.1, I7 h.2⟩
  | .ok _ _ _ _, h => h
  | .rv _ _ _, h => h
section
variable {seen:List Nat} {leaf:V×V->Nat->R} {Φ:R->Prop}
theorem Ke:∀ {es:List (V×V)} {bs:List Nat} {acc:R}, es.length=bs.length->acc.sat Φ->(∀ (i:Nat) (e:V×V) (b:Nat), es[i]? = some e->bs[i]? = some b->Ch b seen=false->(leaf e b).sat Φ)->(DO seen leaf es bs acc).sat Φ
  | [], bs, acc, _, h, _ => h
  | e0::es, [], acc, hl, _, _ => by simp at hl
  | e0::es, b0::bs, acc, hl, h, H => by
    show (br (Ch b0 seen) (DO seen leaf es bs acc) (DO seen leaf es bs (.both acc (leaf e0 b0)))).sat Φ
    have H':∀ (i:Nat) (e:V×V) (b:Nat), es[i]? = some e->bs[i]? = some b->Ch b seen=false->(leaf e b).sat Φ := fun i e b he hb hn => H (i+1) e b (by simpa using he) (by simpa using hb) hn
    cases hm:Ch b0 seen with
    | true => exact Ke (by simpa using hl) h H'
    | false => exact Ke (by simpa using hl) ⟨h, H 0 e0 b0 rfl rfl hm⟩ H'
theorem Gq:∀ {es:List (V×V)} {bs:List Nat} {z:R}, es.length=bs.length->((∀ b∈bs, Ch b seen=true)->z.sat Φ)->(∀ (i:Nat) (e:V×V) (b:Nat), es[i]? = some e->bs[i]? = some b->Ch b seen=false->(leaf e b).sat Φ)->(Fn seen leaf es bs z).sat Φ
  | [], bs, z, hl, h, _ => h fun b hb => by cases bs with | nil => simp at hb | cons => simp at hl
  | e0::es, [], z, hl, _, _ => by simp at hl
  | e0::es, b0::bs, z, hl, h, H => by
    show (br (Ch b0 seen) (Fn seen leaf es bs z) (DO seen leaf es bs (leaf e0 b0))).sat Φ
    have H':∀ (i:Nat) (e:V×V) (b:Nat), es[i]? = some e->bs[i]? = some b->Ch b seen=false->(leaf e b).sat Φ := fun i e b he hb hn => H (i+1) e b (by simpa using he) (by simpa using hb) hn
    cases hm:Ch b0 seen with
    | true =>
      refine Gq (by simpa using hl) (fun hb => h fun b hb' => ?_) H'
      rcases List.mem_cons.1 hb' with e | hb'
      · subst e; exact hm
      · exact hb b hb'
    | false => exact Ke (by simpa using hl) (H 0 e0 b0 rfl rfl hm) H'
end
theorem LC {s:Nat}:∀ {es:List (V×V)} {bs:List Nat} {i:Nat} {e:V×V} {κ:V->V->R}, es[i]? = some e->bs[i]? = some s->(∀ j, j<i->bs[j]? ≠ some s)->DX s es bs κ=κ e.1 e.2
  | [], bs, i, e, κ, h, _, _ => by simp at h
  | e0::es, [], i, e, κ, _, h, _ => by simp at h
  | (k, x)::es, b::bs, 0, e, κ, h, h2, _ => by
    simp at h h2
    subst h h2
    show br (Nat.beq b b) (κ k x) (DX b es bs κ)=_
    rw [Nat.beq_refl]; rfl
  | (k, x)::es, b::bs, i+1, e, κ, h, h2, h3 => by
    have hb:Nat.beq b s=false := by
      cases hx:Nat.beq b s with
      | false => rfl
      | true => exact absurd (by rw [Nat.eq_of_beq_eq_true hx]; rfl) (h3 0 (by omega))
    show br (Nat.beq b s) (κ k x) (DX s es bs κ)=_
    rw [hb]
    exact LC (by simpa using h) (by simpa using h2) fun j hj => by have := h3 (j+1) (by omega); simpa using this
def Ri (bs:List Nat):Bool := @List.rec Nat (fun _ => Bool) true (fun b tl ih => br (Ch b tl) false ih) bs
theorem LN:∀ {bs:List Nat}, Ri bs=true->bs.Nodup
  | [], _ => List.nodup_nil
  | b::tl, h => by
    replace h:br (Ch b tl) false (Ri tl)=true := h
    cases hm:Ch b tl with
    | true => rw [hm] at h; cases h
    | false =>
      rw [hm] at h
      rw [OM] at hm
      exact List.nodup_cons.2 ⟨(fun hb => by rw [List.contains_iff_mem.2 hb] at hm; cases hm), LN h⟩
abbrev Aau:V := .agg [(iL 0), (iL 0), (iL 0), (iI 0), (iI 0), (.nil .sl), (iI 0), (.bool false)]
abbrev mW (a:V) (k:V->R):R := AM (AD a) k
abbrev gW (a:V) (r:R) (k:V->R):R := FJ true a (fun k => AM r k) k
def Qe (zc:V) (t:S) (h:Heap) (n:K4):R :=
  g3 t fun zs => Ax 1 zc fun zt => AP zt h fun zu => Bd 0 zu [(.str 0 0)] fun zv => EE false 1 1 zv h n fun zw h n => Dk 1 16 zs zw h n fun zx h n => w3 t zx fun t => nR t h n
def TE (zc zi:V) (t:S) (h:Heap) (n:K4) (κ:V->R):R :=
  g0 t fun zj => gW zi (AD zj) fun zk => gW zi (AL zk AD) fun zl => gW zi (Ax 0 zl AD) fun zm => gW zi (AP zm h AD) fun zn => gW zi (BA 2 zc h AD) fun zo => gW zi (QL (.ks [.i, .s]) Aau false zn zo h AD) fun zp => gW zi (Zf 7 1 false zp AD) κ
def HH (z7:V) (t:S) (h:Heap) (n:K4):R :=
  JP z7 h n fun za h n => Do 0 za fun zb => FW (.l [(iW 0), (.str 0 0)]) h n fun zc h n => Gh 2 zc zb h fun h => AM (Ax 0 zc AD) fun zd => AM (AP zd h AD) fun ze => g1 t fun zf => mW zf fun zg => AM (DW ze zg AD) fun zh => mW zh fun zi => TE zc zi t h n fun zq => AM (C9 zi zq (.bool false) AD) fun zr => CQ (Ed zr (Qe zc t h n) (nR t h n)) fun t h n => nR t h n
def KR:S->Heap->K4->R := fun t h n => g4 t fun z7 => IF z7 h n fun z8 h n => Do 0 z8 fun z9 => Ed z9 (AO 1 (HH z7 t h n) fun t h n => nR t h n) <| .ok (.exit 0) t h n
def ZK (ks:K3):Ent := .code (fun l k => EB l fun a0 l => EB l fun a1 l => J3 l <| k (.mk (.mk a0 a1 U U) Q0 Q0 Q0 Q0 Q0 Q0 Q0))
  (fun c t h n => g0 t fun z1 => Hl false (.rf .ptr) z1 (.nil .ptr) fun z2 => Ed z2 (w2 t (.nil .sl) fun t => rT t h n) <| AL z1 fun z3 => Ax 0 z3 fun z4 => AP z4 h fun z5 => Rj z5 h n fun z6 h n => AO 0 (w2 t (.nil .sl) fun t => w3 t (.nil .sl) fun t => w4 t z6 fun t => Fp KR t h n) fun t h n => g3 t fun zy => AG (c ks [zy] h n) fun zz h n => w2 t zy fun t => rT t h n)
  (fun t h n => g2 t fun a0 => .rv a0 h n)
def IY:Nat->Nat->List UInt8
  | 0, _ => []
  | m+1, c => UInt8.ofNat (c % 256)::IY m (c / 256)
theorem JV:∀ (m c:Nat), (IY m c).length=m
  | 0, _ => rfl
  | m+1, c => by simp [IY, JV m]
theorem Jh:∀ (m c:Nat), c<256 ^ m->Al (IY m c)=c
  | 0, c, h => by simp at h; subst h; rfl
  | m+1, c, h => by
    have h2:c / 256<256 ^ m := by rw [Nat.pow_succ] at h; omega
    simp only [IY, Al]
    rw [Jh m _ h2, UInt8.toNat_ofNat_of_lt' (by show c % 256<2 ^ 8; omega)]
    omega
theorem Vy {m c:Nat} (h:c<256 ^ m):vS (IY m c) = .str m c := by unfold vS; rw [JV, Jh m c h]
/-- The keys' form. -/
def GQ (es:List (V×V)) (κ:R):R :=
  @List.rec (V×V) (fun _ => R) κ (fun e _ ih => @Prod.rec V V (fun _ => R) (fun k _ => asAgg k fun l => EB l fun a l => EB l fun b l => J3 l (Ey a fun kd t => br (AQ kd .u32) (AR b fun m c => br (Nat.ble (Nat.succ c) (Nat.pow 256 m)) ih (.fail "")) (.fail ""))) e) es
def Cn (e:V×V):Prop := ∃ t m c, c<256 ^ m∧e.1 = .agg [.int .u32 t, .str m c]
theorem Hr {x:V} {κ:List V->R} (hg:(asAgg x κ).good):∃ l, x = .agg l∧asAgg x κ=κ l := by
  cases x with
  | agg l => exact ⟨l, rfl, rfl⟩
  | _ => exact hg.elim
theorem Fd {x:V} {κ:IntKind->Nat->R} (hg:(Ey x κ).good):∃ k r, x = .int k r∧Ey x κ=κ k r := by
  cases x with
  | int k r => exact ⟨k, r, rfl, rfl⟩
  | _ => exact hg.elim
theorem HD:∀ {es:List (V×V)} {κ:R}, (GQ es κ).good->(∀ e∈es, Cn e)∧GQ es κ=κ
  | [], κ, _ => ⟨fun e he => by simp at he, rfl⟩
  | (k, x)::es, κ, h => by
    replace h:R.good (asAgg k fun l => EB l fun a l => EB l fun b l => J3 l (Ey a fun kd t => br (AQ kd .u32) (AR b fun m c => br (Nat.ble (Nat.succ c) (Nat.pow 256 m)) (GQ es κ) (.fail "")) (.fail ""))) := h
    have e0:GQ ((k, x)::es) κ=asAgg k fun l => EB l fun a l => EB l fun b l => J3 l (Ey a fun kd t => br (AQ kd .u32) (AR b fun m c => br (Nat.ble (Nat.succ c) (Nat.pow 256 m)) (GQ es κ) (.fail "")) (.fail "")) := rfl
    rw [e0]
    obtain ⟨l, rfl, e1⟩ := Hr h
    rw [e1] at h ⊢
    obtain ⟨a, l, rfl, e2⟩ := Bt h
    rw [e2] at h ⊢
    obtain ⟨b, l, rfl, e3⟩ := Bt h
    rw [e3] at h ⊢
    obtain ⟨rfl, e4⟩ := DF h
    rw [e4] at h ⊢
    obtain ⟨kd, t, rfl, e5⟩ := Fd h
    rw [e5] at h ⊢
    obtain ⟨hk, e6⟩ := Ad h
    rw [e6] at h ⊢
    obtain rfl := Am.1 hk
    obtain ⟨m, c, rfl, e7⟩ := Bk h
    rw [e7] at h ⊢
    obtain ⟨hc, e8⟩ := Ad h
    rw [e8] at h ⊢
    obtain ⟨hs, e9⟩ := HD h
    refine ⟨fun e he => ?_, e9⟩
    rcases List.mem_cons.1 he with rfl | he
    · exact ⟨t, m, c, A9.1 hc, rfl⟩
    · exact hs e he
/-- A look-up. -/
def Em (t m c:Nat):List (V×V)->Option V
  | [] => none
  | (.agg [.int .u32 t', .str m' c'], x)::es => if t=t'∧m=m'∧c=c' then some x else Em t m c es
  | _::es => Em t m c es
theorem JA {t m c t' m' c':Nat} {κ:Bool->R}:K0 (.ks [.i, .s]) (.agg [.int .u32 t, .str m c]) (.agg [.int .u32 t', .str m' c']) κ=κ (decide (t=t'∧m=m'∧c=c')) := by
  show br (AQ .u32 .u32) (Bv (Nat.beq t t') fun r => br r (Bv (Dl m c m' c') fun r => br r (κ true) (κ false)) (κ false)) (.fail "")=_
  rw [Am.2 rfl, Ab, B2, B2]
  have e1:Nat.beq t t'=decide (t=t') := by
    cases h:Nat.beq t t' with
    | true => rw [decide_eq_true (Nat.eq_of_beq_eq_true h)]
    | false => rw [decide_eq_false (fun e => by subst e; rw [Nat.beq_refl] at h; cases h)]
  have e2:Dl m c m' c'=decide (m=m'∧c=c') := by
    unfold Dl
    cases h:Nat.beq m m' with
    | true =>
      have := Nat.eq_of_beq_eq_true h
      subst this
      cases h2:Nat.beq c c' with
      | true => rw [decide_eq_true ⟨rfl, Nat.eq_of_beq_eq_true h2⟩]; rfl
      | false => rw [decide_eq_false (fun e => by rw [e.2, Nat.beq_refl] at h2; cases h2)]; rfl
    | false => rw [decide_eq_false (fun e => by rw [e.1, Nat.beq_refl] at h; cases h)]; rfl
  rw [e1, e2]
  by_cases h1:t=t'
  · by_cases h2:m=m'∧c=c'
    · rw [decide_eq_true h1, decide_eq_true h2, decide_eq_true ⟨h1, h2⟩]; rfl
    · rw [decide_eq_true h1, decide_eq_false h2, decide_eq_false (p := t=t'∧m=m'∧c=c') fun h => h2 h.2]; rfl
  · rw [decide_eq_false h1, decide_eq_false (p := t=t'∧m=m'∧c=c') fun h => h1 h.1]; cases decide (m=m'∧c=c') <;> rfl
theorem Gk {t m c:Nat} {κf:V->R} {κn:R}:∀ {es:List (V×V)}, (∀ e∈es, Cn e)->BR (.ks [.i, .s]) (.agg [.int .u32 t, .str m c]) es κf κn=(match Em t m c es with | some x => κf x | none => κn)
  | [], _ => rfl
  | (k, x)::es, h => by
    obtain ⟨t', m', c', _, hk⟩ := h (k, x) (List.mem_cons_self ..)
    have hk:k = .agg [.int .u32 t', .str m' c'] := hk
    subst hk
    show K0 (.ks [.i, .s]) (.agg [.int .u32 t, .str m c]) (.agg [.int .u32 t', .str m' c']) (fun r => br r (κf x) (BR (.ks [.i, .s]) (.agg [.int .u32 t, .str m c]) es κf κn))=_
    rw [JA, Gk fun e he => h e (List.mem_cons_of_mem _ he)]
    rw [show Em t m c ((.agg [.int .u32 t', .str m' c'], x)::es)=if t=t'∧m=m'∧c=c' then some x else Em t m c es from rfl]
    by_cases hc:t=t'∧m=m'∧c=c'
    · rw [decide_eq_true hc, if_pos hc]; rfl
    · rw [decide_eq_false hc, if_neg hc]; rfl
/-- Is a key on? -/
def onF (o:Option V):Bool := match o with
  | some (.agg l) => match (l[7]? : Option V) with
    | some (.bool q) => q
    | _ => false
  | _ => false
/-- Does it tell whether? -/
def Ab8 (o:Option V):Prop := ∃ l q, o=some (.agg l)∧l[7]? = some (.bool q)
/-- What a key gives. -/
def Cg (tn:Nat) (es:List (V×V)) (e:V×V):List (List UInt8) := match e.1 with
  | .agg [.int .u32 t, .str m c] => if t=tn then (if onF (Em t m c es) then [IY m c] else []) else []
  | _ => []
def Ty (tn:Nat) (es:List (V×V)) (e:V×V):Prop := ∃ t m c, c<256 ^ m∧e.1 = .agg [.int .u32 t, .str m c]∧(t=tn->Ab8 (Em t m c es))
def DN (tn:Nat) (es0:List (V×V)) (es:List (V×V)):(List V->R)->R :=
  @List.rec (V×V) (fun _ => (List V->R)->R) (fun κ => κ []) (fun e _ ih κ => @Prod.rec V V (fun _ => R) (fun k _ => asAgg k fun l => EB l fun a l => EB l fun b l => J3 l (Ey a fun kd t => br (Nat.beq t tn)
    (BR (.ks [.i, .s]) k es0 (fun r => asAgg r fun l => BK 7 l fun q => Ls q fun q => br q (ih fun zs => κ (b::zs)) (ih κ)) (.fail "")) (ih κ))) e) es
theorem UK {x:V} {κ:Bool->R} (hg:(Ls x κ).good):∃ q, x = .bool q∧Ls x κ=κ q := by
  cases x with
  | bool q => exact ⟨q, rfl, rfl⟩
  | _ => exact hg.elim
theorem GK {tn:Nat} {es0:List (V×V)} (hs:∀ e∈es0, Cn e):∀ {es:List (V×V)} {κ:List V->R}, (∀ e∈es, Cn e)->(DN tn es0 es κ).good->(∀ e∈es, Ty tn es0 e)∧DN tn es0 es κ=κ ((es.flatMap (Cg tn es0)).map vS)
  | [], κ, _, _ => ⟨fun e he => by simp at he, rfl⟩
  | (k, x)::es, κ, hse, h => by
    obtain ⟨t, m, c, hc, hk⟩ := hse (k, x) (List.mem_cons_self ..)
    have hk:k = .agg [.int .u32 t, .str m c] := hk
    subst hk
    have hse':∀ e∈es, Cn e := fun e he => hse e (List.mem_cons_of_mem _ he)
    have e0:DN tn es0 ((.agg [.int .u32 t, .str m c], x)::es) κ=br (Nat.beq t tn) (match Em t m c es0 with | some r => (asAgg r fun l => BK 7 l fun q => Ls q fun q => br q (DN tn es0 es fun zs => κ (.str m c::zs)) (DN tn es0 es κ)) | none => .fail "") (DN tn es0 es κ) := by
      show br (Nat.beq t tn) (BR (.ks [.i, .s]) (.agg [.int .u32 t, .str m c]) es0 (fun r => asAgg r fun l => BK 7 l fun q => Ls q fun q => br q (DN tn es0 es fun zs => κ (.str m c::zs)) (DN tn es0 es κ)) (.fail "")) (DN tn es0 es κ)=_
      rw [Gk hs]
    rw [e0] at h ⊢
    have hfm:(((.agg [.int .u32 t, .str m c], x)::es:List (V×V)).flatMap (Cg tn es0))=Cg tn es0 (.agg [.int .u32 t, .str m c], x)++es.flatMap (Cg tn es0) := rfl
    cases hb:Nat.beq t tn with
    | false =>
      have ht:t≠tn := fun e => by rw [e, Nat.beq_refl] at hb; cases hb
      rw [hb] at h
      obtain ⟨h1, h2⟩ := GK hs hse' (show R.good (DN tn es0 es κ) from h)
      refine ⟨fun e he => ?_, ?_⟩
      · rcases List.mem_cons.1 he with rfl | he
        · exact ⟨t, m, c, hc, rfl, fun e => absurd e ht⟩
        · exact h1 e he
      · rw [Ag, h2, hfm]
        have:Cg tn es0 (.agg [.int .u32 t, .str m c], x)=[] := by simp [Cg, ht]
        rw [this, List.nil_append]
    | true =>
      have ht := Nat.eq_of_beq_eq_true hb
      rw [hb, Ab] at h
      rw [Ab]
      cases hl:Em t m c es0 with
      | none => rw [hl] at h; exact h.elim
      | some r =>
        rw [hl] at h
        replace h:R.good (asAgg r fun l => BK 7 l fun q => Ls q fun q => br q (DN tn es0 es fun zs => κ (.str m c::zs)) (DN tn es0 es κ)) := h
        show _∧(asAgg r fun l => BK 7 l fun q => Ls q fun q => br q (DN tn es0 es fun zs => κ (.str m c::zs)) (DN tn es0 es κ))=_
        obtain ⟨l, rfl, e1⟩ := Hr h
        rw [e1] at h ⊢
        obtain ⟨q, hq, e2⟩ := Dy h
        rw [e2] at h ⊢
        obtain ⟨q, rfl, e3⟩ := UK h
        rw [e3] at h ⊢
        have hon:Ab8 (Em t m c es0) := ⟨l, q, hl, hq⟩
        have hcon:Cg tn es0 (.agg [.int .u32 t, .str m c], x)=if q then [IY m c] else [] := by subst ht; simp [Cg, onF, hl, hq]
        cases q with
        | true =>
          replace h:R.good (DN tn es0 es fun zs => κ (.str m c::zs)) := h
          show _∧(DN tn es0 es fun zs => κ (.str m c::zs))=_
          obtain ⟨h1, h2⟩ := GK hs hse' h
          refine ⟨fun e he => ?_, ?_⟩
          · rcases List.mem_cons.1 he with rfl | he
            · exact ⟨t, m, c, hc, rfl, fun _ => hon⟩
            · exact h1 e he
          · rw [h2, hfm, hcon, if_pos rfl, List.map_append, List.map_cons, List.map_nil, Vy hc]; rfl
        | false =>
          replace h:R.good (DN tn es0 es κ) := h
          show _∧DN tn es0 es κ=_
          obtain ⟨h1, h2⟩ := GK hs hse' h
          refine ⟨fun e he => ?_, ?_⟩
          · rcases List.mem_cons.1 he with rfl | he
            · exact ⟨t, m, c, hc, rfl, fun _ => hon⟩
            · exact h1 e he
          · rw [h2, hfm, hcon]; rfl
end Go.Ev

namespace Go.Ev
set_option linter.unusedVariables false
set_option maxRecDepth 100000
/-- The registers of the range. -/
def kT (px:K4) (off tn:Nat) (it:K4) (L:V):S := .mk (.mk (.ptr px off) (.int .u32 tn) (.nil .sl) L) (.mk (.ptr it 0) U U U) Q0 Q0 Q0 Q0 Q0 Q0
/-- What has been gathered. -/
def XW (n0:K4) (h:Heap) (n it:K4) (ss:List (List UInt8)) (L:V):Prop :=
  (ss=[]∧L = .nil .sl)∨(ss≠[] ∧ ∃ q prev, L = .sl q 0 (ss.map vS).length (ss.map vS).length false 1∧A8 q h=some (.c (.l (ss.map vS)) false prev)∧n0.toN≤q.toN∧q.toN<n.toN∧q≠it ∧ ∀ r, prev=some r->n0.toN≤r.toN∧r≠it∧r≠q)
theorem XW.mono {n0 n n' it:K4} {h h':Heap} {ss:List (List UInt8)} {L:V} (l:XW n0 h n it ss L) (hn:n.toN≤n'.toN) (hh:∀ p, p.toN<n.toN->n0.toN≤p.toN->A8 p h'=A8 p h):XW n0 h' n' it ss L := by
  rcases l with l | ⟨h0, q, prev, h1, h2, h3, h4, h5, h6⟩
  · exact .inl l
  · exact .inr ⟨h0, q, prev, h1, by rw [hh q h4 h3]; exact h2, h3, by omega, h5, h6⟩
theorem ne_of_lt {p q:K4} (h:p.toN<q.toN):p≠q := fun e => by rw [e] at h; omega
theorem TZ {k:IntKind} {a b:Nat} {κ:V->R}:DW (.int k a) (.int k b) κ=κ (.bool (Nat.beq a b)) := by
  show kM k k (fun _ => Bv (Nat.beq a b) fun r => κ (.bool r))=_
  have:∀ F:Nat->R, kM k k F=F (Mk k) := fun F => by cases k <;> rfl
  rw [this, B2]
section
variable {hs h:Heap} {n0 n px pm it:K4} {off tn clk:Nat} {es:List (V×V)} {bs:List Nat} {xs0:List V} {sup0:Bool} {prev0:Option K4}
theorem Rc {L:V} {ss:List (List UInt8)} {seen:List Nat} {e:V×V} {b i:Nat} (hit:A8 it h=some (.it pm clk (b::seen) clk)) (hm:A8 pm h=some (.m es bs clk)) (hx:A8 px h=some (.c (.l xs0) sup0 prev0)) (hxo:xs0[off]? = some (.map pm))
    (he:es[i]? = some e) (hb:bs[i]? = some b) (hnd:bs.Nodup) (hS:∀ e∈es, Cn e) (hC:Ty tn es e) (hpm:pm.toN<n0.toN) (hpx:px.toN<n0.toN) (hi0:n0.toN≤it.toN) (hin:it.toN<n.toN) (hl:XW n0 h n it ss L) (hss:ss.length≤1000000000) (hN:n.toN+3≤65535) :
    ∃ h' L' n', HH (.ptr it 0) (kT px off tn it L) h n=nR (kT px off tn it L') h' n'∧n.toN≤n'.toN∧n'.toN≤n.toN+3∧(∀ p, p.toN<n0.toN∨p=it->A8 p h'=A8 p h)∧XW n0 h' n' it (ss++Cg tn es e) L' := by
  obtain ⟨n1, hn1, hx1⟩ := K4.nx_u n (by omega)
  obtain ⟨n2, hn2, hx2⟩ := K4.nx_u n1 (by omega)
  obtain ⟨n3, hn3, hx3⟩ := K4.nx_u n2 (by omega)
  obtain ⟨t, m, c, hc, hk, hon⟩ := hC
  obtain ⟨k, x⟩ := e
  have hk:k = .agg [.int .u32 t, .str m c] := hk
  subst hk
  have hfirst:∀ j, j<i->bs[j]? ≠ some b := fun j hj e => by
    have h1 := (List.getElem?_eq_some_iff.1 e)
    have h2 := (List.getElem?_eq_some_iff.1 hb)
    obtain ⟨l1, e1⟩ := h1
    obtain ⟨l2, e2⟩ := h2
    exact List.pairwise_iff_getElem.1 hnd j i l1 l2 hj (e1.trans e2.symm)
  -- the key in a box
  obtain ⟨h1, eh1⟩:∃ h1, h1=Af n (Af n h (some (.c (.l [iW 0, .str 0 0]) false none))) (some (.c (.l [.int .u32 t, .str m c]) false none)) := ⟨_, rfl⟩
  have g1:A8 n h1=some (.c (.l [.int .u32 t, .str m c]) false none) := by rw [eh1, A7]
  have g1':∀ p, p≠n->A8 p h1=A8 p h := fun p hp => by rw [eh1, A6 _ _ hp.symm, A6 _ _ hp.symm]
  have ent:∀ κ:KV, JP (.ptr it 0) h n κ=κ (.tup [.agg [.int .u32 t, .str m c], x]) h n := fun κ => by
    show QK it h (.fail "") _=_
    rw [Ks hit]
    show J5 pm h _=_
    rw [Fw hm]
    show br (Nat.beq clk clk) (DX b es bs fun k x => κ (.tup [k, x]) h n) (.fail "")=_
    rw [Nat.beq_refl, Ab, LC he hb hfirst]
  have step1:HH (.ptr it 0) (kT px off tn it L) h n=AM (AD (.bool (Nat.beq t tn))) fun zh => mW zh fun zi => TE (.ptr n 0) zi (kT px off tn it L) h1 n1 fun zq => AM (C9 zi zq (.bool false) AD) fun zr => CQ (Ed zr (Qe (.ptr n 0) (kT px off tn it L) h1 n1) (nR (kT px off tn it L) h1 n1)) fun t h n => nR t h n := by
    unfold HH
    rw [ent, X3]
    show FW (.l [iW 0, .str 0 0]) h n _=_
    rw [M7 hx1]
    show Gh 2 (.ptr n 0) (.agg [.int .u32 t, .str m c]) (Af n h (some (.c (.l [iW 0, .str 0 0]) false none))) _=_
    rw [LG (A7 _ _ _), ←eh1]
    show AM (Ax 0 (.ptr n 0) AD) _=_
    rw [JW]
    show AM (AP (.ptr n (0+0)) h1 AD) _=_
    rw [MZ g1 (v := .int .u32 t) rfl]
    show AM (DW (.int .u32 t) (.int .u32 tn) AD) _=_
    rw [TZ]
  have nothing:Cg tn es (.agg [.int .u32 t, .str m c], x)=[]->HH (.ptr it 0) (kT px off tn it L) h n=nR (kT px off tn it L) h1 n1 →
      ∃ h' L' n', HH (.ptr it 0) (kT px off tn it L) h n=nR (kT px off tn it L') h' n'∧n.toN≤n'.toN∧n'.toN≤n.toN+3∧(∀ p, p.toN<n0.toN∨p=it->A8 p h'=A8 p h)∧XW n0 h' n' it (ss++Cg tn es (.agg [.int .u32 t, .str m c], x)) L' := fun e1 e2 =>
    ⟨h1, L, n1, e2, by omega, by omega, fun p hp => g1' p (by rcases hp with hp | rfl <;> exact ne_of_lt (by omega)), by
      rw [e1, List.append_nil]
      exact hl.mono (by omega) fun p hp _ => g1' p (ne_of_lt hp)⟩
  cases hb2:Nat.beq t tn with
  | false =>
    have ht:t≠tn := fun e => by rw [e, Nat.beq_refl] at hb2; cases hb2
    refine nothing (by simp [Cg, ht]) ?_
    rw [step1, hb2]; rfl
  | true =>
    have ht := Nat.eq_of_beq_eq_true hb2
    obtain ⟨l, q, hlk, hq⟩ := hon ht
    have hpmn:pm≠n := ne_of_lt (by omega)
    have hpxn:px≠n := ne_of_lt (by omega)
    have step2:HH (.ptr it 0) (kT px off tn it L) h n=CQ (Ed (.bool q) (Qe (.ptr n 0) (kT px off tn it L) h1 n1) (nR (kT px off tn it L) h1 n1)) fun t h n => nR t h n := by
      rw [step1, hb2]
      show TE (.ptr n 0) (.bool true) (kT px off tn it L) h1 n1 _=_
      unfold TE
      show AM (Ax 0 (.ptr px off) AD) _=_
      rw [JW]
      show AM (AP (.ptr px off) h1 AD) _=_
      rw [MZ (by rw [g1' px hpxn]; exact hx) (v := .map pm) hxo]
      show AM (BA 2 (.ptr n 0) h1 AD) _=_
      rw [Kn g1]
      show AM (J5 pm h1 fun es _ _ => BR (.ks [.i, .s]) (.agg [.int .u32 t, .str m c]) es (fun r => br false (AD (.tup [r, .bool true])) (AD r)) (br false (AD (.tup [Aau, .bool false])) (AD Aau))) _=_
      rw [Fw (by rw [g1' pm hpmn]; exact hm), Gk hS, hlk]
      show AM (BK 7 l AD) _=_
      rw [Fh hq]; rfl
    cases q with
    | false =>
      refine nothing (by subst ht; simp [Cg, onF, hlk, hq]) ?_
      rw [step2]; rfl
    | true =>
      have hcon:Cg tn es (.agg [.int .u32 t, .str m c], x)=[IY m c] := by subst ht; simp [Cg, onF, hlk, hq]
      have hv:vS (IY m c) = .str m c := Vy hc
      obtain ⟨h2, eh2⟩:∃ h2, h2=Af n1 h1 (some (.c (.l [.str m c]) false none)) := ⟨_, rfl⟩
      have g2:A8 n1 h2=some (.c (.l [.str m c]) false none) := by rw [eh2, A7]
      have g2':∀ p, p≠n1->A8 p h2=A8 p h1 := fun p hp => by rw [eh2, A6 _ _ hp.symm]
      have step3:∀ κ:S->Heap->K4->R, CQ (Qe (.ptr n 0) (kT px off tn it L) h1 n1) κ=CQ (Dk 1 16 L (.sl n1 0 1 1 true 1) h2 n2 fun zx h n => w3 (kT px off tn it L) zx fun t => nR t h n) κ := fun κ => by
        unfold Qe
        show CQ (Ax 1 (.ptr n 0) _) κ=_
        rw [JW]
        show CQ (AP (.ptr n (0+1)) h1 _) κ=_
        rw [MZ g1 (v := .str m c) rfl]
        rw [Qp, Pw hx2, ←eh2]
      have step4:HH (.ptr it 0) (kT px off tn it L) h n=CQ (Dk 1 16 L (.sl n1 0 1 1 true 1) h2 n2 fun zx h n => w3 (kT px off tn it L) zx fun t => nR t h n) fun t h n => nR t h n := by
        rw [step2]
        exact step3 _
      rcases hl with ⟨h0, hL⟩ | ⟨h0, q, prev, hL, hq', hq0, hqn, hqi, hpr⟩
      · subst h0 hL
        refine ⟨_, .sl n2 0 1 1 false 1, n3, by rw [step4, RE hx3 g2]; rfl, by omega, by omega, fun p hp => ?_, ?_⟩
        · have:p.toN<n.toN := by rcases hp with hp | rfl <;> omega
          rw [A6 _ _ (ne_of_lt (by omega:p.toN<n2.toN)).symm, g2' p (ne_of_lt (by omega)), g1' p (ne_of_lt this)]
        · rw [hcon]
          refine .inr ⟨by simp, n2, none, by simp, by rw [A7]; simp [hv], by omega, by omega, fun e => by rw [e] at hn2; omega, fun r hr => by cases hr⟩
      · subst hL
        have gq:A8 q h2=some (.c (.l (ss.map vS)) false prev) := by rw [g2' q (ne_of_lt (by omega)), g1' q (ne_of_lt hqn)]; exact hq'
        have hk:∀ p r, prev=some r->p≠r->A8 p (BS prev h2)=A8 p h2 := fun p r e hne => by rw [e]; exact A6 _ _ hne.symm
        have hk0:prev=none->BS prev h2=h2 := fun e => by rw [e]; rfl
        have hkk:∀ p, (p.toN<n0.toN∨p=it)->A8 p (BS prev h2)=A8 p h2 := fun p hp => by
          cases hprev:prev with
          | none => rfl
          | some r =>
            obtain ⟨r1, r2, r3⟩ := hpr r hprev
            refine A6 _ _ ?_
            rcases hp with hp | rfl
            · exact (ne_of_lt (by omega)).symm
            · exact r2
        refine ⟨_, .sl n2 0 ((ss.map vS).length+1) ((ss.map vS).length+1) false 1, n3, by rw [step4, U3 hx3 g2 gq (by rw [List.length_map]; exact hss)]; rfl, by omega, by omega, fun p hp => ?_, ?_⟩
        · have:p.toN<n.toN := by rcases hp with hp | rfl <;> omega
          have hpq:q≠p := by
            rcases hp with hp | rfl
            · exact (ne_of_lt (by omega)).symm
            · exact hqi
          rw [A6 _ _ (ne_of_lt (by omega:p.toN<n2.toN)).symm, A6 _ _ hpq, hkk p hp, g2' p (ne_of_lt (by omega)), g1' p (ne_of_lt this)]
        · rw [hcon]
          refine .inr ⟨by simp, n2, some q, by simp, by rw [A7]; simp [hv], by omega, by omega, fun e => by rw [e] at hn2; omega, fun r hr => ?_⟩
          cases hr
          exact ⟨hq0, hqi, ne_of_lt (by omega)⟩
/-- THE RANGE. -/
theorem Ul (hm:A8 pm hs=some (.m es bs clk)) (hx:A8 px hs=some (.c (.l xs0) sup0 prev0)) (hxo:xs0[off]? = some (.map pm)) (hlen:es.length=bs.length) (hnd:bs.Nodup) (hlt:DH clk bs=true) (hS:∀ e∈es, Cn e) (hC:∀ e∈es, Ty tn es e)
    (hpm:pm.toN<n0.toN) (hpx:px.toN<n0.toN) (hi0:n0.toN≤it.toN) {N:Nat} (hN:N≤65535) {all:List (List UInt8)} (hbig:es.length≤1000000) :
    ∀ (j k:Nat) (left:List ((V×V)×Nat)) (L:V) (h:Heap) (n:K4) (seen:List Nat) (ss:List (List UInt8)), left.length=j->j<k->(∀ p, p.toN<n0.toN->A8 p h=A8 p hs)->A8 it h=some (.it pm clk seen clk)->it.toN<n.toN->XW n0 h n it ss L →
      n.toN+3*j≤N->ss.length+j≤es.length->(left.map (·.2)).Nodup->(∀ y∈left, Ch y.2 seen=false∧y.2∈bs)->(∀ (i:Nat) e b, es[i]? = some e->bs[i]? = some b->Ch b seen=false->(e, b)∈left)->(ss++left.flatMap fun y => Cg tn es y.1).Perm all →
      (J6 KR k (kT px off tn it L) h n).sat fun r => ∃ L' h' n' ss', r = .ok (.exit 0) (kT px off tn it L') h' n'∧(∀ p, p.toN<n0.toN->A8 p h'=A8 p hs)∧XW n0 h' n' it ss' L'∧n'.toN≤N∧ss'.Perm all := by
  intro j
  induction j with
  | zero =>
    intro k left L h n seen ss hlj hk hold hit hin hl hnN hsl hI1 hI2 hI3 hI5
    obtain ⟨k, rfl⟩:∃ k', k=k'+1 := ⟨k - 1, by omega⟩
    obtain rfl := List.eq_nil_of_length_eq_zero hlj
    rw [I9]
    show R.sat _ (Rx (KR (kT px off tn it L) h n) (J6 KR k))
    apply Kl
    show R.sat _ (IF (.ptr it 0) h n fun z8 h n => Do 0 z8 fun z9 => Ed z9 (AO 1 (HH (.ptr it 0) (kT px off tn it L) h n) fun t h n => nR t h n) <| .ok (.exit 0) (kT px off tn it L) h n)
    unfold IF
    show R.sat _ (QK it h _ _)
    rw [Ks hit]
    show R.sat _ (J5 pm h _)
    rw [Fw (by rw [hold pm hpm]; exact hm), hlt, Ab, show Nat.ble clk clk=true from A9.2 (Nat.le_refl _), Ab]
    refine Gq hlen (fun _ => ?_) fun i e b he hb hn => by have := hI3 i e b he hb hn; simp at this
    refine ⟨L, h, n, ss, rfl, hold, hl, by omega, ?_⟩
    simpa using hI5
  | succ j ih =>
    intro k left L h n seen ss hlj hk hold hit hin hl hnN hsl hI1 hI2 hI3 hI5
    obtain ⟨k, rfl⟩:∃ k', k=k'+1 := ⟨k - 1, by omega⟩
    rw [I9]
    show R.sat _ (Rx (KR (kT px off tn it L) h n) (J6 KR k))
    apply Kl
    show R.sat _ (IF (.ptr it 0) h n fun z8 h n => Do 0 z8 fun z9 => Ed z9 (AO 1 (HH (.ptr it 0) (kT px off tn it L) h n) fun t h n => nR t h n) <| .ok (.exit 0) (kT px off tn it L) h n)
    unfold IF
    show R.sat _ (QK it h _ _)
    rw [Ks hit]
    show R.sat _ (J5 pm h _)
    rw [Fw (by rw [hold pm hpm]; exact hm), hlt, Ab, show Nat.ble clk clk=true from A9.2 (Nat.le_refl _), Ab]
    refine Gq hlen (fun hall => ?_) fun i e b he hb hn => ?_
    · exfalso
      cases left with
      | nil => simp at hlj
      | cons y left =>
        obtain ⟨h1, h2⟩ := hI2 y (List.mem_cons_self ..)
        rw [hall _ h2] at h1; cases h1
    · have hmem := hI3 i e b he hb hn
      obtain ⟨l1, l2, rfl⟩ := List.append_of_mem hmem
      have hee:e∈es := List.mem_of_getElem? he
      unfold LY
      rw [Cx]
      obtain ⟨h1, eh1⟩:∃ h1, h1=Af it h (some (.it pm clk (b::seen) clk)) := ⟨_, rfl⟩
      rw [←eh1]
      have g1:A8 it h1=some (.it pm clk (b::seen) clk) := by rw [eh1, A7]
      have g1':∀ p, p≠it->A8 p h1=A8 p h := fun p hp => by rw [eh1, A6 _ _ hp.symm]
      have hold1:∀ p, p.toN<n0.toN->A8 p h1=A8 p hs := fun p hp => by rw [g1' p (ne_of_lt (by omega)), hold p hp]
      have hl1:XW n0 h1 n it ss L := by
        rcases hl with hl | ⟨h0, q, prev, hL, hq', hq0, hqn, hqi, hpr⟩
        · exact .inl hl
        · exact .inr ⟨h0, q, prev, hL, by rw [g1' q hqi]; exact hq', hq0, hqn, hqi, hpr⟩
      obtain ⟨h', L', n', hR, hn1, hn2, hfr, hl'⟩ := Rc (n := n) (L := L) (ss := ss) (e := e) g1 (by rw [hold1 pm hpm]; exact hm) (by rw [hold1 px hpx]; exact hx) hxo he hb hnd hS (hC e hee) hpm hpx hi0 hin hl1 (by omega) (by omega)
      obtain ⟨ek, ex⟩ := e
      show R.sat _ (AO 1 (HH (.ptr it 0) (kT px off tn it L) h1 n) fun t h n => nR t h n)
      rw [hR]
      show R.sat _ (J6 KR k (kT px off tn it L') h' n')
      have hcl:(Cg tn es (ek, ex)).length≤1 := by
        unfold Cg
        split
        · split
          · split <;> simp
          · simp
        · simp
      have hI1':(l1.map (·.2)++b::l2.map (·.2)).Nodup := by simpa using hI1
      have hI1'':b ∉ l1.map (·.2)∧b ∉ l2.map (·.2)∧(l1.map (·.2)++l2.map (·.2)).Nodup := by
        have hp:(b::(l1.map (·.2)++l2.map (·.2))).Nodup := (List.perm_middle.nodup_iff).1 hI1'
        obtain ⟨q1, q2⟩ := List.nodup_cons.1 hp
        exact ⟨fun h => q1 (List.mem_append_left _ h), fun h => q1 (List.mem_append_right _ h), q2⟩
      refine ih k (l1++l2) L' h' n' (b::seen) (ss++Cg tn es (ek, ex)) (by simp at hlj ⊢; omega) (by omega) (fun p hp => by rw [hfr p (.inl hp), hold1 p hp]) (by rw [hfr it (.inr rfl)]; exact g1) (by omega) hl' (by omega) (by rw [List.length_append]; omega) (by simpa using hI1''.2.2)
        (fun y hy => ?_) (fun i' e' b' he' hb' hn' => ?_) ?_
      · have hy':y∈l1++((ek, ex), b)::l2 := by
          rcases List.mem_append.1 hy with h | h
          · exact List.mem_append_left _ h
          · exact List.mem_append_right _ (List.mem_cons_of_mem _ h)
        obtain ⟨y1, y2⟩ := hI2 y hy'
        refine ⟨?_, y2⟩
        show br (Nat.beq b y.2) true (Ch y.2 seen)=false
        have hne:b≠y.2 := fun e => by
          rcases List.mem_append.1 hy with h | h
          · exact hI1''.1 (List.mem_map.2 ⟨y, h, e.symm⟩)
          · exact hI1''.2.1 (List.mem_map.2 ⟨y, h, e.symm⟩)
        have:Nat.beq b y.2=false := by
          cases hx:Nat.beq b y.2 with
          | false => rfl
          | true => exact absurd (Nat.eq_of_beq_eq_true hx) hne
        rw [this]; exact y1
      · have hn':br (Nat.beq b b') true (Ch b' seen)=false := hn'
        cases hx:Nat.beq b b' with
        | true => rw [hx] at hn'; cases hn'
        | false =>
          rw [hx] at hn'
          have := hI3 i' e' b' he' hb' hn'
          rcases List.mem_append.1 this with h | h
          · exact List.mem_append_left _ h
          · rcases List.mem_cons.1 h with h | h
            · cases h; rw [Nat.beq_refl] at hx; cases hx
            · exact List.mem_append_right _ h
      · refine List.Perm.trans ?_ hI5
        rw [List.flatMap_append, List.flatMap_append, List.flatMap_cons, List.append_assoc]
        refine List.Perm.append_left _ ?_
        rw [←List.append_assoc, ←List.append_assoc]
        exact List.Perm.append_right _ List.perm_append_comm
end
theorem Uv {h:Heap} {n q:K4} {ss:List (List UInt8)} {prev:Option K4} (h0:ss≠[]) (hq:A8 q h=some (.c (.l (ss.map vS)) false prev)) (hbig:ss.length≤1000000) :
    OV [.sl q 0 (ss.map vS).length (ss.map vS).length false 1] h n = .rv (.tup []) (Af q (BS prev h) (some (.c (.l ((Gn ss).map vS)) false none))) n := by
  have hne:Nat.beq (ss.map vS).length 0=false := by
    cases ss with
    | nil => exact absurd rfl h0
    | cons s ss => rfl
  show br (Nat.beq (ss.map vS).length 0) _ (br (Nat.ble (ss.map vS).length 1000000) (GD q h _) _)=_
  rw [hne, show Nat.ble (ss.map vS).length 1000000=true from A9.2 (by rw [List.length_map]; exact hbig)]
  show GD q h _=_
  rw [Ew hq, Fe]
  show Pp (ss.map vS) _=_
  rw [LQ, D1]
  have hl:(((Gn ss).map vS)).length=(ss.map vS).length := by rw [List.length_map, List.length_map, (Fu ss).length_eq]
  unfold CZ
  rw [FR hq]
  rw [Ag, Lr hl, CW, AA]
theorem B0 (T:FC) (m:Nat) (k:K3) (args:List V) (h:Heap) (n:K4):Az T (m+1) k args h n=MM (Az T m) (BD k T) args h n := Pa k T fun o => MM (Az T m) o args h n
section
variable {hs:Heap} {n0 px pm:K4} {off tn clk:Nat} {es:List (V×V)} {bs:List Nat} {xs0:List V} {sup0:Bool} {prev0:Option K4}
theorem UN {T:FC} {f:FuncId} {ks:K3} {m:Nat} (hf:BD (AI f) T=some (ZK ks)) (hks:BD ks T=some (.prim OV)) (hm:A8 pm hs=some (.m es bs clk)) (hx:A8 px hs=some (.c (.l xs0) sup0 prev0)) (hxo:xs0[off]? = some (.map pm)) (hlen:es.length=bs.length) (hnd:bs.Nodup) (hlt:DH clk bs=true) (hS:∀ e∈es, Cn e) (hC:∀ e∈es, Ty tn es e)
    (hpm:pm.toN<n0.toN) (hpx:px.toN<n0.toN) {N:Nat} (hN:N≤65535) (hn:n0.toN+1+3*es.length≤N) (hbig:es.length≤1000000) :
    (Az T (m+2) (AI f) [.ptr px off, .int .u32 tn] hs n0).sat fun r => ∃ v h' n', r = .rv v h' n'∧(∀ p, p.toN<n0.toN->A8 p h'=A8 p hs)∧n'.toN≤N ∧
      ((es.flatMap (Cg tn es)=[]∧v = .nil .sl)∨(es.flatMap (Cg tn es)≠[] ∧ ∃ q, v = .sl q 0 (es.flatMap (Cg tn es)).length (es.flatMap (Cg tn es)).length false 1∧A8 q h'=some (.c (.l ((Gn (es.flatMap (Cg tn es))).map vS)) false none)∧n0.toN≤q.toN)) := by
  obtain ⟨n1, hn1, hx1⟩ := K4.nx_u n0 (by omega)
  rw [B0, hf]
  apply I7
  show R.sat _ (Ax 0 (.ptr px off) _)
  rw [JW]
  show R.sat _ (AP (.ptr px off) hs _)
  rw [MZ hx (v := .map pm) hxo]
  show R.sat _ (J5 pm hs _)
  rw [Fw hm]
  show R.sat _ (DR hs n0 (.it pm clk [] clk) _)
  rw [FP hx1]
  obtain ⟨h1, eh1⟩:∃ h1, h1=Af n0 hs (some (.it pm clk [] clk)) := ⟨_, rfl⟩
  rw [←eh1]
  have g1':∀ p, p.toN<n0.toN->A8 p h1=A8 p hs := fun p hp => by rw [eh1, A6 _ _ (ne_of_lt hp).symm]
  show R.sat _ (AO 0 (J6 KR 1000000000 (kT px off tn n0 (.nil .sl)) h1 n1) _)
  apply Ic
  have key := Ul (n0 := n0) (it := n0) (N := N) (all := es.flatMap (Cg tn es)) hm hx hxo hlen hnd hlt hS hC hpm hpx (Nat.le_refl _) hN hbig es.length 1000000000 (es.zip bs) (.nil .sl) h1 n1 [] [] (by rw [List.length_zip]; omega) (by omega) g1' (by rw [eh1, A7]) (by omega) (.inl ⟨rfl, rfl⟩) (by omega) (by simp)
    (by rw [List.map_snd_zip (by omega)]; exact hnd) (fun y hy => ⟨rfl, (List.of_mem_zip hy).2⟩) (fun i e b he hb _ => List.mem_of_getElem? (List.getElem?_zip_eq_some.2 ⟨he, hb⟩)) (by
      have e1 := KQ (Cg tn es) es bs (by omega)
      rw [List.nil_append, e1])
  refine R.sat_mono ?_ key
  rintro r ⟨L', h', n', ss', rfl, hold, hl, hn', hperm⟩
  show R.sat _ (AG (Az T (m+1) ks [L'] h' n') _)
  rw [B0, hks]
  rcases hl with ⟨h0, hL⟩ | ⟨h0, q, prev, hL, hq, hq0, hqn, hqi, hpr⟩
  · subst h0 hL
    exact ⟨.nil .sl, h', n', rfl, hold, hn', .inl ⟨List.perm_nil.1 hperm.symm, rfl⟩⟩
  · subst hL
    have hlen':ss'.length=(es.flatMap (Cg tn es)).length := hperm.length_eq
    have hcl:∀ e, (Cg tn es e).length≤1 := fun e => by
      unfold Cg
      split
      · split
        · split <;> simp
        · simp
      · simp
    have hle:(es.flatMap (Cg tn es)).length≤es.length := by
      have:∀ l:List (V×V), (l.flatMap (Cg tn es)).length≤l.length := fun l => by
        induction l with
        | nil => simp
        | cons e l ih =>
          rw [List.flatMap_cons, List.length_append, List.length_cons]
          have := hcl e
          omega
      exact this es
    show R.sat _ (AG (KC (OV [.sl q 0 (ss'.map vS).length (ss'.map vS).length false 1] h' n')) _)
    rw [Uv h0 hq (by omega)]
    refine ⟨.sl q 0 (ss'.map vS).length (ss'.map vS).length false 1, _, n', rfl, fun p hp => ?_, hn', .inr ⟨fun e => h0 (by rw [e] at hperm; exact List.perm_nil.1 hperm), q, by rw [List.length_map, hlen'], by rw [A7, MQ hperm], hq0⟩⟩
    rw [A6 _ _ (ne_of_lt (by omega:p.toN<q.toN)).symm]
    cases hprev:prev with
    | none => exact hold p hp
    | some r =>
      obtain ⟨r1, _, _⟩ := hpr r hprev
      show A8 p (Af r h' none)=_
      rw [A6 _ _ (ne_of_lt (by omega:p.toN<r.toN)).symm]
      exact hold p hp
end
def Hw (n:K4) (acc:List K4) (κ:R):R := @List.rec K4 (fun _ => R) κ (fun p _ ih => br (FK p n) ih (.fail "")) acc
theorem HV {n:K4}:∀ {acc:List K4} {κ:R}, (Hw n acc κ).good->(∀ p∈acc, p.toN<n.toN)∧Hw n acc κ=κ
  | [], κ, _ => ⟨fun p hp => by simp at hp, rfl⟩
  | q::acc, κ, h => by
    replace h:R.good (br (FK q n) (Hw n acc κ) (.fail "")) := h
    obtain ⟨h1, e1⟩ := Ad h
    rw [e1] at h
    obtain ⟨h2, e2⟩ := HV h
    refine ⟨fun p hp => ?_, Eq.trans e1 e2⟩
    rcases List.mem_cons.1 hp with rfl | hp
    · exact Bj.1 h1
    · exact h2 p hp
def Xx (cs:Cs) (κ:List V->R):R := @Cs.rec (fun _ => R) κ (As "") cs
theorem HO {cs:Cs} {κ:List V->R} (h:(Xx cs κ).good):∃ xs, cs = .l xs∧Xx cs κ=κ xs := by
  cases cs with
  | l xs => exact ⟨xs, rfl, rfl⟩
  | b _ _ => exact h.elim
/-- The sorted texts in a new slice, or none. -/
def Ace (hs:Heap) (n M:K4) (ys:List V):R :=
  @List.rec V (fun _ => R) (.rv (.nil .sl) hs M) (fun _ _ _ => FM ys fun k => AV n hs (some (.c (.l ys) false none)) fun hf => .rv (.sl n 0 k k false 1) hf M) ys
def Xd (n:K4) (args:List V) (hs:Heap) (acc:List K4):R :=
  EB args fun x l => EB l fun y l => J3 l (J7 x fun px off => Ey y fun kd tn => br (AQ kd .u32) (Hw n acc (GD px hs fun cs _ _ => Xx cs fun xs0 => BK off xs0 fun u => CX u (.fail "") fun pm => J5 pm hs fun es bs clk =>
    br (FK px n) (br (FK pm n) (br (DH clk bs) (br (Ge es bs) (br (Ri bs) (PL es fun j => br (Nat.ble j 1000000) (GQ es (DN tn es es fun xs => Ac (Nat.succ (Nat.mul 3 j)) fun j => ZJ j n fun M => Pp xs fun ys => Ace hs n M ys)) (.fail ""))
      (.fail "")) (.fail "")) (.fail "")) (.fail "")) (.fail ""))) (.fail ""))
def Acs:Ma := fun args h n => XE 400 (Xd n args) args h n
theorem IZ:∀ {es:List (V×V)} {bs:List Nat}, Ge es bs=true->es.length=bs.length
  | [], [], _ => rfl
  | [], _::_, h => by cases h
  | _::_, [], h => by cases h
  | e::es, b::bs, h => by rw [List.length_cons, List.length_cons, IZ (show Ge es bs=true from h)]
section
variable {P:Program} {ρ:Env} {B:Nat}
/-- index.Keys IS SO. -/
theorem SZ (hρ:B4 ρ) (hmix:P.follows .mixedOrders=true) {T:FC} (hT:Hq P ρ B T) {f:FuncId} {ks:K3} (hf:BD (AI f) T=some (ZK ks)) (hks:BD ks T=some (.prim OV)):Ko P ρ B f Acs := by
  intro args h n v h1 n1 hx φ w xs g hr
  refine SB (hr := hx) g ?_
  intro hs acc v1 hh1 m1 m sub hc res hOld hm1 gs
  have hg:(Xd n args hs acc).good := AU hc
  unfold Xd at hc hg
  obtain ⟨x, l, rfl, q1⟩ := Bt hg
  rw [q1] at hc hg
  obtain ⟨y, l, rfl, q2⟩ := Bt hg
  rw [q2] at hc hg
  obtain ⟨rfl, q3⟩ := DF hg
  rw [q3] at hc hg
  obtain ⟨px, off, rfl, q4⟩ := Ct hg
  rw [q4] at hc hg
  obtain ⟨kd, tn, rfl, q5⟩ := Fd hg
  rw [q5] at hc hg
  obtain ⟨hk, q6⟩ := Ad hg
  rw [q6] at hc hg
  obtain rfl := Am.1 hk
  obtain ⟨hacc, q7⟩ := HV hg
  rw [q7] at hc
  obtain ⟨cs, sup0, prev0, hpx, hc⟩ := IR hc
  obtain ⟨xs0, rfl, q9⟩ := HO (AU hc)
  rw [q9] at hc
  obtain ⟨u, hu, hc⟩ := If hc
  obtain ⟨pm, rfl, hc⟩ := Jo hc
  obtain ⟨es, bs, clk, hpm, hc⟩ := RZ hc
  obtain ⟨l1, hc⟩ := CK hc
  obtain ⟨l2, hc⟩ := CK hc
  obtain ⟨l3, hc⟩ := CK hc
  obtain ⟨l4, hc⟩ := CK hc
  obtain ⟨l5, hc⟩ := CK hc
  rw [OR] at hc
  obtain ⟨l6, hc⟩ := CK hc
  have l1 := Bj.1 l1
  have l2 := Bj.1 l2
  have l4 := IZ l4
  have l5 := LN l5
  have l6 := A9.1 l6
  obtain ⟨hS, q13⟩ := HD (AU hc)
  rw [q13] at hc
  obtain ⟨hC, q14⟩ := GK hS hS (AU hc)
  rw [q14, Aa] at hc
  obtain ⟨M, hM, q15⟩ := Lv (AU hc)
  rw [q15, LQ] at hc
  clear q1 q2 q3 q4 q5 q6 q7 q9 q13 q14 q15 hg
  have hM:M.toN=n.toN+(3*es.length+1) := hM
  have key := UN (m := 98) hf hks hpm hpx hu l4 l5 l3 hS hC l2 l1 (M.toN_max) (by omega) l6
  refine (Kh hρ hmix hT 100).1 f _ hs n _ (R.sat_mono ?_ key) φ w xs gs hr
  rintro r ⟨v', h', n', rfl, hold, hn', hres⟩
  rcases hres with ⟨h0, rfl⟩ | ⟨h0, q, rfl, hq, hqn⟩
  · rw [h0] at hc
    replace hc:R.rv (.nil .sl) hs M = .rv v1 hh1 m1 := hc
    cases hc
    exact ⟨.inl ⟨rfl, rfl⟩, fun p hp => ⟨(hold p (hacc p hp)).symm, hOld p hp⟩, by omega⟩
  · have hc:Ace hs n M ((Gn (es.flatMap (Cg tn es))).map vS) = .rv v1 hh1 m1 := hc
    have hll:(Gn (es.flatMap (Cg tn es))).length=(es.flatMap (Cg tn es)).length := (Fu _).length_eq
    have hc:R.rv (.sl n 0 (es.flatMap (Cg tn es)).length (es.flatMap (Cg tn es)).length false 1) (Af n hs (some (.c (.l ((Gn (es.flatMap (Cg tn es))).map vS)) false none))) M = .rv v1 hh1 m1 := by
      rw [←hc]
      generalize hsl:Gn (es.flatMap (Cg tn es))=sl at hll ⊢
      cases sl with
      | nil => exact absurd (List.eq_nil_of_length_eq_zero hll.symm) h0
      | cons s sl =>
        show _=FM ((s::sl).map vS) fun k => AV n hs (some (.c (.l ((s::sl).map vS)) false none)) fun hf => .rv (.sl n 0 k k false 1) hf M
        rw [C1, Cx, List.length_map, hll]
    cases hc
    have hno:EI n (.sl n 0 (es.flatMap (Cg tn es)).length (es.flatMap (Cg tn es)).length false 1)=false := by
      show FK n n=false
      cases hl:FK n n with
      | false => rfl
      | true => have := Bj.1 hl; omega
    rcases res with ⟨ho, _⟩ | ⟨_, p, p', off', len', cap', ex', esz', e1, e2, hp1, hp2, hcl, hob⟩
    · rw [hno] at ho; cases ho
    · cases e1
      refine ⟨.inr ⟨hno, n, q, 0, _, _, false, 1, rfl, rfl, Nat.le_refl _, hqn, by rw [A7, hq], hob⟩, fun p hp => ⟨?_, hOld p hp⟩, by omega⟩
      rw [A6 _ _ (ne_of_lt (hacc p hp)).symm]
      exact (hold p (hacc p hp)).symm
end
end Go.Ev

namespace Go.Ev
set_option linter.unusedVariables false
set_option maxRecDepth 100000
section
variable {h:Heap} {n n' p:K4}
end
section
variable {hs h:Heap} {n0 n pm it zb:K4} {zo tn clk:Nat} {es:List (V×V)} {bs:List Nat} {bx:List V} {supb:Bool} {prevb:Option K4} {T:FC} {g:FuncId} {mm:Nat}
end
section
variable {P:Program} {ρ:Env} {B:Nat}
end
end Go.Ev

namespace Go.Ev
set_option linter.unusedVariables false
set_option maxRecDepth 100000
open Go.RowKit
/-- A key, and what the map says of it. -/
structure Itm where
  u:Nat
  t:Nat
  m:Nat
  c:Nat
section
/-- Its cells. -/
def Itm.cells (x:Itm):List V := [.int .u32 x.t, .str x.m x.c]
def AE (l:List Itm):List V := l.flatMap Itm.cells
theorem Ii:∀ {l:List Itm} {i:Nat} {x:Itm}, l[i]? = some x->(AE l)[2*i]? = some (.int .u32 x.t)∧(AE l)[2*i+1]? = some (.str x.m x.c)
  | [], i, x, h => by simp at h
  | y::l, 0, x, h => by simp at h; subst h; exact ⟨rfl, rfl⟩
  | y::l, i+1, x, h => by
    have := Ii (l := l) (i := i) (x := x) (by simpa using h)
    have e:AE (y::l) = .int .u32 y.t :: .str y.m y.c::AE l := rfl
    rw [e, show 2*(i+1)=2*i+1+1 by omega]
    exact this
theorem D9:∀ l:List Itm, (AE l).length=2*l.length
  | [] => rfl
  | y::l => by
    have e:AE (y::l) = .int .u32 y.t :: .str y.m y.c::AE l := rfl
    rw [e, List.length_cons, List.length_cons, List.length_cons, D9 l]; omega
/-- The keys in a row, with what the map says. -/
def Hp (es:List (V×V)) (j:Nat):List V->(List Itm->R)->R :=
  @Nat.rec (fun _ => List V->(List Itm->R)->R) (fun l κ => J3 l (κ [])) (fun _ ih l κ => EB l fun a l => EB l fun b l => Ey a fun kd t => br (AQ kd .u32) (br (Nat.ble (Nat.succ t) 4294967296) (AR b fun m c => br (Nat.ble (Nat.succ c) (Nat.pow 256 m))
    (BR (.ks [.i, .s]) (.agg [a, b]) es (fun r => Ey r fun k u => br (AQ k .i64) (br (Nat.ble (Nat.succ u) 4611686018427387904) (ih l fun zs => κ (⟨u, t, m, c⟩::zs)) (.fail "")) (.fail "")) (.fail "")) (.fail "")) (.fail "")) (.fail "")) j
def PC (es:List (V×V)) (x:Itm):Prop := x.t<4294967296∧x.c<256 ^ x.m∧x.u<4611686018427387904∧Em x.t x.m x.c es=some (.int .i64 x.u)
theorem M2 {es:List (V×V)} (hS:∀ e∈es, Cn e):∀ {j:Nat} {l:List V} {κ:List Itm->R}, (Hp es j l κ).good->∃ its, l=AE its∧its.length=j∧(∀ x∈its, PC es x)∧Hp es j l κ=κ its
  | 0, l, κ, h => by
    obtain ⟨rfl, e⟩ := DF (show R.good (J3 l (κ [])) from h)
    exact ⟨[], rfl, rfl, fun x hx => by simp at hx, e⟩
  | j+1, l, κ, h => by
    have e0:Hp es (j+1) l κ=EB l fun a l => EB l fun b l => Ey a fun kd t => br (AQ kd .u32) (br (Nat.ble (Nat.succ t) 4294967296) (AR b fun m c => br (Nat.ble (Nat.succ c) (Nat.pow 256 m))
      (BR (.ks [.i, .s]) (.agg [a, b]) es (fun r => Ey r fun k u => br (AQ k .i64) (br (Nat.ble (Nat.succ u) 4611686018427387904) (Hp es j l fun zs => κ (⟨u, t, m, c⟩::zs)) (.fail "")) (.fail "")) (.fail "")) (.fail "")) (.fail "")) (.fail "") := rfl
    rw [e0] at h ⊢
    obtain ⟨a, l, rfl, e1⟩ := Bt h
    rw [e1] at h ⊢
    obtain ⟨b, l, rfl, e2⟩ := Bt h
    rw [e2] at h ⊢
    obtain ⟨kd, t, rfl, e3⟩ := Fd h
    rw [e3] at h ⊢
    obtain ⟨hk, e4⟩ := Ad h
    rw [e4] at h ⊢
    obtain ⟨ht, e5⟩ := Ad h
    rw [e5] at h ⊢
    obtain ⟨m, c, rfl, e6⟩ := Bk h
    rw [e6] at h ⊢
    obtain ⟨hc, e7⟩ := Ad h
    rw [e7] at h ⊢
    have := Am.1 hk
    subst this
    rw [Gk hS] at h ⊢
    cases hl:Em t m c es with
    | none => rw [hl] at h; exact h.elim
    | some r =>
      rw [hl] at h
      replace h:R.good (Ey r fun k u => br (AQ k .i64) (br (Nat.ble (Nat.succ u) 4611686018427387904) (Hp es j l fun zs => κ (⟨u, t, m, c⟩::zs)) (.fail "")) (.fail "")) := h
      show ∃ its, _∧_∧_∧(Ey r fun k u => br (AQ k .i64) (br (Nat.ble (Nat.succ u) 4611686018427387904) (Hp es j l fun zs => κ (⟨u, t, m, c⟩::zs)) (.fail "")) (.fail ""))=κ its
      obtain ⟨k, u, rfl, e8⟩ := Fd h
      rw [e8] at h ⊢
      obtain ⟨hk2, e9⟩ := Ad h
      rw [e9] at h ⊢
      obtain ⟨hu, e10⟩ := Ad h
      rw [e10] at h ⊢
      have := Am.1 hk2
      subst this
      obtain ⟨its, rfl, hlen, hok, e11⟩ := M2 hS h
      refine ⟨⟨u, t, m, c⟩::its, rfl, by rw [List.length_cons, hlen], fun x hx => ?_, e11⟩
      rcases List.mem_cons.1 hx with rfl | hx
      · exact ⟨A9.1 ht, A9.1 hc, A9.1 hu, hl⟩
      · exact hok x hx
/-- Sorted by that. -/
def Y5 (x:Itm) (l:List Itm):(List Itm->R)->R :=
  @List.rec Itm (fun _ => (List Itm->R)->R) (fun κ => κ [x]) (fun y ys ih κ => br (Nat.ble x.u y.u) (κ (x::y::ys)) (ih fun zs => κ (y::zs))) l
def Ts (l:List Itm):(List Itm->R)->R :=
  @List.rec Itm (fun _ => (List Itm->R)->R) (fun κ => κ []) (fun x _ ih κ => ih fun zs => Y5 x zs κ) l
def Jn (x:Itm):List Itm->List Itm
  | [] => [x]
  | y::ys => if x.u≤y.u then x::y::ys else y::Jn x ys
def Cd:List Itm->List Itm
  | [] => []
  | x::l => Jn x (Cd l)
theorem Ss (x:Itm):∀ (l:List Itm) (κ:List Itm->R), Y5 x l κ=κ (Jn x l)
  | [], κ => rfl
  | y::ys, κ => by
    show br (Nat.ble x.u y.u) (κ (x::y::ys)) (Y5 x ys fun zs => κ (y::zs))=κ (if x.u≤y.u then x::y::ys else y::Jn x ys)
    rw [Ss x ys]
    by_cases h:x.u≤y.u
    · rw [if_pos h, A9.2 h]; rfl
    · rw [if_neg h, Au (by omega)]; rfl
theorem HE:∀ (l:List Itm) (κ:List Itm->R), Ts l κ=κ (Cd l)
  | [], κ => rfl
  | x::l, κ => by
    show Ts l (fun zs => Y5 x zs κ)=_
    rw [HE l, Ss]; rfl
theorem IJ (x:Itm):∀ l, (Jn x l).Perm (x::l)
  | [] => List.Perm.refl _
  | y::ys => by
    unfold Jn
    split
    · exact List.Perm.refl _
    · exact ((IJ x ys).cons y).trans (List.Perm.swap x y ys)
theorem Cj:∀ l, (Cd l).Perm l
  | [] => List.Perm.refl _
  | x::l => (IJ x _).trans ((Cj l).cons x)
theorem JI (x:Itm):∀ l:List Itm, l.Pairwise (fun a b => a.u≤b.u)->(Jn x l).Pairwise (fun a b => a.u≤b.u)
  | [], _ => by simp [Jn]
  | y::ys, h => by
    obtain ⟨h1, h2⟩ := List.pairwise_cons.1 h
    unfold Jn
    split
    · rename_i hxy
      refine List.pairwise_cons.2 ⟨fun z hz => ?_, h⟩
      rcases List.mem_cons.1 hz with e | hz
      · subst e; exact hxy
      · exact Nat.le_trans hxy (h1 z hz)
    · rename_i hxy
      refine List.pairwise_cons.2 ⟨fun z hz => ?_, JI x ys h2⟩
      rcases List.mem_cons.1 ((IJ x ys).mem_iff.1 hz) with e | hz
      · subst e; omega
      · exact h1 z hz
theorem Gf:∀ l, (Cd l).Pairwise (fun a b => a.u≤b.u)
  | [] => List.Pairwise.nil
  | x::l => JI x _ (Gf l)
/-- No two are said the same of. -/
def FO (l:List Itm) (κ:R):R :=
  @List.rec Itm (fun _ => R) κ (fun x tl ih => @List.rec Itm (fun _ => R) ih (fun y _ _ => br (Nat.ble (Nat.succ x.u) y.u) ih (.fail "")) tl) l
theorem GG:∀ {l:List Itm} {κ:R}, (FO l κ).good->l.Pairwise (fun a b => a.u<b.u)∧FO l κ=κ
  | [], κ, _ => ⟨List.Pairwise.nil, rfl⟩
  | [x], κ, h => ⟨by simp, rfl⟩
  | x::y::l, κ, h => by
    have e0:FO (x::y::l) κ=br (Nat.ble (Nat.succ x.u) y.u) (FO (y::l) κ) (.fail "") := rfl
    rw [e0] at h ⊢
    obtain ⟨h1, e1⟩ := Ad h
    rw [e1] at h ⊢
    obtain ⟨h2, e2⟩ := GG h
    have h1:x.u<y.u := A9.1 h1
    refine ⟨List.pairwise_cons.2 ⟨fun z hz => ?_, h2⟩, e2⟩
    rcases List.mem_cons.1 hz with rfl | hz
    · exact h1
    · exact Nat.lt_trans h1 ((List.pairwise_cons.1 h2).1 z hz)
theorem IX:∀ {l:List Itm} {κ:R}, l.Pairwise (fun a b => a.u<b.u)->FO l κ=κ
  | [], κ, _ => rfl
  | [x], κ, _ => rfl
  | x::y::l, κ, h => by
    obtain ⟨h1, h2⟩ := List.pairwise_cons.1 h
    show br (Nat.ble (Nat.succ x.u) y.u) (FO (y::l) κ) (.fail "")=κ
    rw [A9.2 (h1 y (List.mem_cons_self ..)), Ab]
    exact IX h2
/-- One list, in whatever order it comes. -/
theorem IV {l l' s:List Itm} (hs:s.Pairwise (fun a b => a.u<b.u)) (h1:s.Perm l) (h2:l'.Perm l) (h3:l'.Pairwise (fun a b => a.u≤b.u)):l'=s := by
  have hinj:∀ a b:Itm, a∈l'->b∈s->a.u≤b.u->b.u≤a.u->a=b := fun a b ha hb h h' => by
    have ha':a∈s := h1.mem_iff.2 (h2.mem_iff.1 ha)
    obtain ⟨i, hi, rfl⟩ := List.mem_iff_getElem.1 ha'
    obtain ⟨j, hj, rfl⟩ := List.mem_iff_getElem.1 hb
    rcases Nat.lt_trichotomy i j with hlt | rfl | hlt
    · have := List.pairwise_iff_getElem.1 hs i j hi hj hlt; omega
    · rfl
    · have := List.pairwise_iff_getElem.1 hs j i hj hi hlt; omega
  exact List.Perm.eq_of_pairwise (le := fun a b => a.u≤b.u) hinj h3 (hs.imp fun h => Nat.le_of_lt h) (h2.trans h1.symm)
def OQ (l:List Itm):(List V->R)->R := @List.rec Itm (fun _ => (List V->R)->R) (fun κ => κ []) (fun x _ ih κ => @Itm.rec (fun _ => R) (fun _ t m c => ih fun zs => κ (.int .u32 t :: .str m c::zs)) x) l
theorem Gr:∀ (l:List Itm) (κ:List V->R), OQ l κ=κ (AE l)
  | [], κ => rfl
  | ⟨u, t, m, c⟩::l, κ => by
    show OQ l (fun zs => κ (.int .u32 t :: .str m c::zs))=_
    rw [Gr l]; rfl
def P1 (o:Option K4) (p:K4):Bool := @Option.rec K4 (fun _ => Bool) true (fun r => br (K4.beq r p) false true) o
theorem JK {o:Option K4} {p:K4} (h:P1 o p=true):o≠some p := fun e => by
  subst e
  have h:br (K4.beq p p) false true=true := h
  rw [K4.beq_iff.2 rfl] at h; cases h
/-- slices.SortFunc with that closure. -/
def Kv (g:Nat):Ma := fun args h n =>
  EB args fun x l => EB l fun y l => J3 l (Lz y fun g' caps => br (Nat.beq g' g) (EB caps fun cb l => J3 l (J7 cb fun zb zo => GD zb h fun cs _ pv => Xx cs fun bx => BK zo bx fun u => J7 u fun lp lo => GD lp h fun cs _ pv2 => Xx cs fun lx => BK lo lx fun u => CX u (.fail "") fun pm => J5 pm h fun es bs clk =>
    D0 x (.fail "") fun p off len cap ex esz => br (Nat.beq esz 2) (br (Nat.ble 1 len) (br (Nat.ble len 1000000) (GD p h fun cs _ pv3 => br (P1 pv p) (br (P1 pv2 p) (br (P1 pv3 zb) (br (P1 pv3 lp) (br (K4.beq p zb) (.fail "") (br (K4.beq p lp) (.fail "") (GQ es
      (Ac (Nat.mul len 2) fun m => AJ cs off m fun z => Xx z fun xs => Hp es len xs fun its => Ts its fun ys => FO ys (OQ ys fun zs => Dt h p off (.l zs) fun h => .rv (.tup []) h n)))))
      (.fail "")) (.fail "")) (.fail "")) (.fail "")) (.fail "")) (.fail "")) (.fail ""))) (.fail ""))
end
section
variable {P:Program} {ρ:Env} {B:Nat}
/-- A look-up of the model's. -/
def R4 (P:Program) (ty:TypeId) (bm:Nat) (O:Obj) (key v:Value):Prop := ∀ W:World, W.heap[bm]? = some O->(Instr.lookup ty (.map (some bm)) key false).run P W = .ok v W
/-- What the closure does. -/
def Rq (P:Program) (g:FuncId) (ty:TypeId):Prop := ∀ (bz oz bl ol bm:Nat) (O:Obj) (ta tb:Int) (sa sb:ByteArray) (ua ub:Nat) (W:World), W.cell? ⟨bz, oz, none⟩=some (.pointer (some ⟨bl, ol, none⟩))->W.cell? ⟨bl, ol, none⟩=some (.map (some bm))->W.heap[bm]? = some O →
  bz<W.heap.size->bl<W.heap.size->bm<W.heap.size->R4 P ty bm O (.agg #[.int .u32 ta, .string sa]) (.int .i64 ua)->R4 P ty bm O (.agg #[.int .u32 tb, .string sb]) (.int .i64 ub)->ua<4611686018427387904->ub<4611686018427387904 →
  Calls P g #[.agg #[.int .u32 ta, .string sa], .agg #[.int .u32 tb, .string sb], .pointer (some ⟨bz, oz, none⟩)] W fun e w' => e = .returned (.int .i64 ((ua:Int) - ub)) ∧ ∃ q os', w'=Go.Sort.grow (W.drewN q) os'
def OU (P:Program) (f:FuncId):Prop := ∀ (α:Type) [Inhabited α] (enc:α->List Value) (hk:∀ x, (enc x).length=2) (h1:∀ x, ∀ v∈enc x, v.oneCell'=true) (cf:α->α->Int) (hO:Go.Sort.SWO (Go.Proofs.ltOf cf)) (g:Nat) (cb:Array Value) (blk off cap:Nat) (d:Array α) (w:World),
  (∀ args w, (callFunc g args).run P w = .ok (.enter g args) w)->Go.Proofs.CmpLays P g cb enc 2 cf blk off d.size w->Go.Sort.HoldsK enc 2 w blk off d->blk<w.heap.size->d.size<4611686018427387904 →
  Calls P f #[.slice (some ⟨blk, off, none⟩) d.size cap, .func (.func g) #[] cb] w fun e w' => e = .returned (.tuple #[]) ∧ ∃ d' n os, Go.Sort.PermIn 0 d.size d d'∧Go.Sort.SortedIn (Go.Proofs.ltOf cf) 0 d.size d'∧w'=Go.Proofs.sortWorldK enc 2 w blk off n d' os
theorem TK {ty kt et:TypeId} (ht:P.underlying ty=some (.map kt et)) (hp:GT P kt=some (.ks [.i, .s])) {es:List (V×V)} (hS:∀ e∈es, Cn e) {t m c u:Nat} (hl:Em t m c es=some (.int .i64 u)) {φ:AF} {key:Value} (hk:Aj ρ φ (.agg [.int .u32 t, .str m c]) key)
    {ents:Array MapEntry} {clk bm:Nat} (hE:Hh ρ φ es ents.toList):R4 P ty bm (.map ents clk) key (.int .i64 (dec .i64 u)) := by
  intro W hW
  have e0:BR (.ks [.i, .s]) (.agg [.int .u32 t, .str m c]) es (fun r => R.rv r Aq SA) (.rv (.tup []) Aq SA) = .rv (.int .i64 u) Aq SA := by rw [Gk hS, hl]
  obtain ⟨r, hf, hr⟩ := J0 hp (k := .agg [.int .u32 t, .str m c]) (κf := fun r => R.rv r Aq SA) (κn := .rv (.tup []) Aq SA) (es := es) (by rw [e0]; trivial)
  have hck := D4 (P := P) (b := ents.isEmpty) (d := 9998) hp (E6 hp hk (by exact ⟨_, rfl, rfl⟩)).1 W (E6 hp hk (by exact ⟨_, rfl, rfl⟩)).2
  cases r with
  | none =>
    have hr:BR (.ks [.i, .s]) (.agg [.int .u32 t, .str m c]) es (fun r => R.rv r Aq SA) (.rv (.tup []) Aq SA) = .rv (.tup []) Aq SA := hr
    rw [e0] at hr; cases hr
  | some i =>
    obtain ⟨ee, hee, hr⟩ := hr
    rw [e0] at hr
    simp only [R.rv.injEq] at hr
    obtain ⟨mm, hmm, _, hval⟩ := JT hE hee
    rw [←hr.1] at hval
    obtain ⟨_, hval⟩ := BJ hval
    have hfk := (Et (P := P) (w := W) hp hk hf hE).1
    have hgo:(getObj bm).run P W = .ok (.map ents clk) W := by simp [getObj, Sem.run, hW]
    have hmm':ents[i]? = some mm := by simpa using hmm
    simp only [Instr.lookup, Sem.run_bind, run_underlying ht, Result.andThen_ok, Sem.run_pure, hgo, hck, hfk]
    simp [hmm', hval]
/-- A row that is put anew, and new blocks. -/
theorem VH {h:Heap} {n:K4} {φ:AF} {w:World} (g:Gam ρ B h n φ w) {p:K4} {off:Nat} {cs y z:Cs} {prev:Option K4} {b s tot:Nat} (hp:A8 p h=some (.c cs false prev)) (hφ:φ p=some (b, s, tot)) (hz:QC cs off y z)
    {d:Array Value} (hl:d.size=y.len) (hv:∀ i v, y.at i=some v->Aj ρ φ v d[i]! ∧ (d[i]!).oneCell'=true) (k:Nat) (os:Array Obj) :
    Gam ρ B (Af p (BS prev h) (some (.c z false none))) n φ (Go.Sort.grow (Go.Sort.putRow id (Go.Sort.ahead w k) b (s+off) d) os) ∧
    Fr h (Af p (BS prev h) (some (.c z false none))) φ φ n n w (Go.Sort.grow (Go.Sort.putRow id (Go.Sort.ahead w k) b (s+off) d) os) := by
  obtain ⟨c, e, fr, k1, k2, k3, k4, k5⟩ := g.obj p _ b s tot hp hφ
  obtain ⟨z1, z2, z3, z4, z5⟩ := hz
  have hb := (g.blk p b s tot hφ).2
  have hat:∀ i, (Go.Sort.putCells id (s+off) d c)[i]? = if s+off≤i∧i<s+off+d.size then (c[i]?).map (fun _ => d[i - (s+off)]!) else c[i]? := fun i => by
    unfold Go.Sort.putCells
    rw [Array.getElem?_mapIdx]
    split
    · rename_i hi
      cases c[i]? <;> simp
    · rename_i hi
      cases c[i]? <;> simp
  have hG:Gam ρ B (Af p (BS prev h) (some (.c z false none))) n φ (Cf w b (.cells (Go.Sort.putCells id (s+off) d c) e fr)) := by
    refine g.write (o := .c cs false prev) (o' := .c z false none) hp hφ rfl rfl ⟨_, e, fr, CA hb, by unfold Go.Sort.putCells; rw [Array.size_mapIdx, k2], by rw [z2]; exact k3, k4, fun i v hi => ?_⟩
    by_cases ha:i<off
    · rw [z3 i ha] at hi
      obtain ⟨x, hx, hr⟩ := k5 i v hi
      exact ⟨x, by show (Go.Sort.putCells id (s+off) d c)[s+i]? = some x; rw [hat, if_neg (by omega)]; exact hx, hr⟩
    · by_cases hb':i<off+y.len
      · obtain ⟨j, rfl⟩:∃ j, i=off+j := ⟨i - off, by omega⟩
        have hin:s+(off+j)<c.size := by omega
        rw [z4 j (by omega)] at hi
        refine ⟨d[j]!, ?_, (hv j v hi).1, (hv j v hi).2⟩
        show (Go.Sort.putCells id (s+off) d c)[s+(off+j)]? = some _
        rw [hat, if_pos (by omega), Array.getElem?_eq_getElem hin]
        simp only [Option.map_some]
        rw [show s+(off+j) - (s+off)=j by omega]
      · rw [z5 i (by omega)] at hi
        obtain ⟨x, hx, hr⟩ := k5 i v hi
        exact ⟨x, by show (Go.Sort.putCells id (s+off) d c)[s+i]? = some x; rw [hat, if_neg (by omega)]; exact hx, hr⟩
  have hF:Fr h (Af p (BS prev h) (some (.c z false none))) φ φ n n w (Cf w b (.cells (Go.Sort.putCells id (s+off) d c) e fr)) := Fr.write (o := .c cs false prev) hp hφ
  have hheap:∀ i, i<w.heap.size->(Go.Sort.grow (Go.Sort.putRow id (Go.Sort.ahead w k) b (s+off) d) os).heap[i]? = (Cf w b (.cells (Go.Sort.putCells id (s+off) d c) e fr)).heap[i]? := fun i hi => by
    show ((w.heap.modify b (Go.Sort.onCells (Go.Sort.putCells id (s+off) d)))++os)[i]? = _
    rw [Array.getElem?_append_left (by rw [Array.size_modify]; exact hi), Array.getElem?_modify]
    by_cases e':b=i
    · subst e'
      rw [if_pos rfl, CA hi, k1]; rfl
    · rw [if_neg e', H8 e']
  have hbel:Below (Cf w b (.cells (Go.Sort.putCells id (s+off) d c) e fr)).heap.size (Cf w b (.cells (Go.Sort.putCells id (s+off) d c) e fr)) (Go.Sort.grow (Go.Sort.putRow id (Go.Sort.ahead w k) b (s+off) d) os) := by
    refine ⟨rfl, rfl, rfl, ?_, fun i hi => ?_⟩
    · rw [Da]
      show _≤((w.heap.modify b (Go.Sort.onCells (Go.Sort.putCells id (s+off) d)))++os).size
      rw [Array.size_append, Array.size_modify]; omega
    · rw [Da] at hi
      exact hheap i hi
  obtain ⟨g2, f2⟩ := hG.below hbel
  exact ⟨g2, hF.trans f2⟩
/-- An item's values. -/
def Itm.vals (x:Itm):List Value := [.int .u32 (x.t:Int), .string ⟨(IY x.m x.c).toArray⟩]
theorem Itm.rel_t {φ:AF} {x:Itm} (h:x.t<4294967296) {X:Value} (hr:Aj ρ φ (.int .u32 x.t) X):X = .int .u32 (x.t:Int) := by
  obtain ⟨_, rfl⟩ := BJ hr
  rw [Ai (by simp only [Hk]; exact h)]
theorem Itm.rel_s {φ:AF} {x:Itm} (h:x.c<256 ^ x.m) {X:Value} (hr:Aj ρ φ (.str x.m x.c) X):X = .string ⟨(IY x.m x.c).toArray⟩ := by
  obtain ⟨s, rfl, hsz, hc⟩ := (by simpa only [Aj] using hr:∃ s:ByteArray, X = .string s∧s.size=x.m∧Al s.data.toList=x.c)
  have:s.data.toList=IY x.m x.c := Jl (by rw [JV, ←hsz]; rfl) (by rw [hc, Jh _ _ h])
  rw [←this]
theorem Itm.rel_t' {φ:AF} {x:Itm} (h:x.t<4294967296):Aj ρ φ (.int .u32 x.t) (.int .u32 (x.t:Int)) := by
  simp only [Aj]
  exact ⟨by simp only [Mk]; exact h, by rw [Ai (by simp only [Hk]; exact h)]⟩
theorem Itm.rel_s' {φ:AF} {x:Itm} (h:x.c<256 ^ x.m):Aj ρ φ (.str x.m x.c) (.string ⟨(IY x.m x.c).toArray⟩) := by
  simp only [Aj]
  exact ⟨_, rfl, JV _ _, Jh _ _ h⟩
theorem Itm.rel_key {φ:AF} {x:Itm} (h1:x.t<4294967296) (h2:x.c<256 ^ x.m):Aj ρ φ (.agg [.int .u32 x.t, .str x.m x.c]) (.agg x.vals.toArray) := by
  simp only [Aj]
  exact ⟨x.vals.toArray, rfl, Ak.2 ⟨_, _, rfl, Itm.rel_t' h1, Ak.2 ⟨_, _, rfl, Itm.rel_s' h2, Ao.2 rfl⟩⟩, fun y hy => by
    simp [Itm.vals] at hy
    rcases hy with rfl | rfl <;> rfl⟩
theorem L0 {α:Type} [Inhabited α] {enc:α->List Value} {w:World} {blk off m b:Nat} {dk:Array α} {os:Array Obj} (hb:b<w.heap.size) (hne:blk≠b):(Go.Proofs.sortWorldK enc 2 w blk off m dk os).heap[b]? = w.heap[b]? := by
  show ((w.heap.modify blk (Go.Sort.onCells (Go.Sort.putCells id off (Go.Sort.flatK enc 2 dk))))++os)[b]? = _
  rw [Array.getElem?_append_left (by rw [Array.size_modify]; exact hb), Array.getElem?_modify, if_neg hne]
theorem L6 {α:Type} [Inhabited α] {enc:α->List Value} {w:World} {blk off m:Nat} {dk:Array α} {os:Array Obj}:w.heap.size≤(Go.Proofs.sortWorldK enc 2 w blk off m dk os).heap.size := by
  show _≤((w.heap.modify blk (Go.Sort.onCells (Go.Sort.putCells id off (Go.Sort.flatK enc 2 dk))))++os).size
  rw [Array.size_append, Array.size_modify]; omega
theorem Ms {x:V} {κ:K4->Nat->R} {v:V} {h:Heap} {n:K4} (hx:J7 x κ = .rv v h n):∃ p o, x = .ptr p o∧κ p o = .rv v h n := by
  obtain ⟨p, o, rfl, e⟩ := Ct (v := x) (κ := κ) (AU hx)
  exact ⟨p, o, rfl, by rw [←e]; exact hx⟩
theorem Xq {c:Bool} {s:String} {r:R} {v:V} {h:Heap} {n:K4} (hx:br c (.fail s) r = .rv v h n):c=false∧r = .rv v h n := by
  cases c with
  | true => cases hx
  | false => exact ⟨rfl, hx⟩
/-- slices.SortFunc IS SO. -/
theorem VN {f g:FuncId} {fn gn:Func} {ty kt et:TypeId} (hf:P.funcs[f]? = some fn) (hb:fn.body.isSome=true) (hn:(fn.name == "runtime.NumGoroutine")=false) (hS:OU P f) (hgf:P.funcs[g]? = some gn) (hgb:gn.body.isSome=true) (hgn:(gn.name == "runtime.NumGoroutine")=false) (hC:Rq P g ty)
    (ht:P.underlying ty=some (.map kt et)) (hp:GT P kt=some (.ks [.i, .s])):Ko P ρ B f (Kv g) := by
  intro args h n v h1 n1 hx φ w xs gm hr
  have hg:(Kv g args h n).good := AU hx
  unfold Kv at hx hg
  obtain ⟨x, l, rfl, q1⟩ := Bt hg
  rw [q1] at hx hg
  obtain ⟨y, l, rfl, q2⟩ := Bt hg
  rw [q2] at hx hg
  obtain ⟨rfl, q3⟩ := DF hg
  rw [q3] at hx hg
  obtain ⟨g', caps, rfl, q4⟩ := Ig hg
  rw [q4] at hx hg
  obtain ⟨hgg, q5⟩ := Ad hg
  rw [q5] at hx hg
  have hgg := Nat.eq_of_beq_eq_true hgg
  subst hgg
  obtain ⟨cb, l, rfl, q6⟩ := Bt hg
  rw [q6] at hx hg
  obtain ⟨rfl, q7⟩ := DF hg
  rw [q7] at hx
  clear q1 q2 q3 q4 q5 q6 q7 hg
  obtain ⟨zb, zo, rfl, hx⟩ := Ms hx
  obtain ⟨cs, sup1, pv1, hzb, hx⟩ := IR hx
  obtain ⟨bx, rfl, q⟩ := HO (AU hx)
  rw [q] at hx; clear q
  obtain ⟨u, hu1, hx⟩ := If hx
  obtain ⟨lp, lo, rfl, hx⟩ := Ms hx
  obtain ⟨cs, sup2, pv2, hlp, hx⟩ := IR hx
  obtain ⟨lx, rfl, q⟩ := HO (AU hx)
  rw [q] at hx; clear q
  obtain ⟨u, hu2, hx⟩ := If hx
  obtain ⟨pm, rfl, hx⟩ := Jo hx
  obtain ⟨es, bs, clk, hpm, hx⟩ := RZ hx
  obtain ⟨p, off, len, cap, ex, esz, rfl, hx⟩ := Y9 hx
  obtain ⟨hz, hx⟩ := CK hx
  obtain ⟨hlen1, hx⟩ := CK hx
  obtain ⟨hlen2, hx⟩ := CK hx
  obtain ⟨cs3, sup3, pv3, hpp, hx⟩ := IR hx
  obtain ⟨t1, hx⟩ := CK hx
  obtain ⟨t2, hx⟩ := CK hx
  obtain ⟨t3, hx⟩ := CK hx
  obtain ⟨t4, hx⟩ := CK hx
  obtain ⟨t5, hx⟩ := Xq hx
  obtain ⟨t6, hx⟩ := Xq hx
  obtain ⟨hSh, q⟩ := HD (AU hx)
  rw [q] at hx; clear q
  rw [Aa] at hx
  obtain ⟨hrg, z, hzl, hza, q⟩ := BT (AU hx)
  rw [q] at hx; clear q
  obtain ⟨zs, rfl, q⟩ := HO (AU hx)
  rw [q] at hx; clear q
  obtain ⟨its, rfl, hil, hok, q⟩ := M2 hSh (AU hx)
  rw [q] at hx; clear q
  rw [HE] at hx
  obtain ⟨hst, q⟩ := GG (AU hx)
  rw [q] at hx; clear q
  rw [Gr, D1] at hx
  obtain ⟨cs4, prev4, zz, hp4, hzz, q⟩ := Er (AU hx)
  rw [hpp] at hp4
  cases hp4
  rw [q] at hx; clear q
  cases hx
  have hz := Nat.eq_of_beq_eq_true hz
  subst hz
  have hlen1 := A9.1 hlen1
  have hlen2 := A9.1 hlen2
  have hne1:zb≠p := fun e => by rw [K4.beq_iff.2 e.symm] at t5; cases t5
  have hne2:lp≠p := fun e => by rw [K4.beq_iff.2 e.symm] at t6; cases t6
  obtain ⟨X, ys, hX, r0, hr⟩ := Ak.1 hr
  obtain ⟨Y, ys, rfl, r1, hr⟩ := Ak.1 hr
  obtain rfl := Ao.1 hr
  obtain ⟨b, s, tot, o, cap', hφ, rfl, c1, c2, _, c4⟩ := C6 r0
  obtain ⟨cbs, rfl, hcb⟩ := ID r1
  obtain ⟨Z, ys, hZ, r2, hcb⟩ := Ak.1 hcb
  obtain rfl := Ao.1 hcb
  obtain ⟨bz, sz, tz, hφz, rfl⟩ := C0 r2
  have hcbs:cbs = #[.pointer (some ⟨bz, sz+zo, none⟩)] := by cases cbs; simp at hZ; simp [hZ]
  subst hcbs
  obtain rfl:xs = #[.slice (some ⟨b, o, none⟩) len cap', .func (.func g') #[] #[.pointer (some ⟨bz, sz+zo, none⟩)]] := by cases xs; simp at hX; simp [hX]
  have ho := c4 (by omega)
  obtain ⟨cz, ez, fz, hwz, _, _, _, hcz⟩ := gm.obj zb _ bz sz tz hzb hφz
  obtain ⟨vz, hvz, rz, _⟩ := hcz zo _ hu1
  obtain ⟨bl, sl, tl, hφl, rfl⟩ := C0 rz
  obtain ⟨cl, el, fl, hwl, _, _, _, hcl⟩ := gm.obj lp _ bl sl tl hlp hφl
  obtain ⟨vl, hvl, rl, _⟩ := hcl lo _ hu2
  obtain ⟨bm, sm, tm, hφm, rfl⟩ := G1 rl
  obtain ⟨ents, hwm, hE, _⟩ := gm.obj pm _ bm sm tm hpm hφm
  obtain ⟨cc, e, fr, hw, htot, hstt, hfr, hcs⟩ := gm.obj p _ b s tot hpp hφ
  have hbw := (gm.blk p b s tot hφ).2
  have hbz := (gm.blk zb bz sz tz hφz).2
  have hbl := (gm.blk lp bl sl tl hφl).2
  have hbm := (gm.blk pm bm sm tm hφm).2
  have dz:b≠bz := fun e => by
    subst e
    rcases gm.sep zb p _ _ b sz tz s tot hne1 hzb hpp hφz hφ with h | h
    · exact JK t1 h
    · exact JK t3 h
  have dl:b≠bl := fun e => by
    subst e
    rcases gm.sep lp p _ _ b sl tl s tot hne2 hlp hpp hφl hφ with h | h
    · exact JK t2 h
    · exact JK t4 h
  have dm:b≠bm := fun e => by subst e; rw [hw] at hwm; cases hwm
  -- the elements
  have hit:its≠[] := fun e => by rw [e] at hil; simp at hil; omega
  obtain ⟨x0, hx0⟩ := List.exists_mem_of_ne_nil its hit
  let α := { x:Itm // x∈its }
  haveI:Inhabited α := ⟨⟨x0, hx0⟩⟩
  let enc:α->List Value := fun x => x.1.vals
  let cf:α->α->Int := fun x y => (x.1.u:Int) - y.1.u
  let d:Array α := its.attach.toArray
  have hdsz:d.size=len := by show its.attach.toArray.size=len; simp [hil]
  have hdget:∀ i (hi:i<its.length), d[i]! = ⟨its[i], List.getElem_mem hi⟩ := fun i hi => by
    show its.attach.toArray[i]! = _
    rw [getElem!_pos _ i (by simpa using hi)]
    simp
  have hO:Go.Sort.SWO (Go.Proofs.ltOf cf) := by
    have e:∀ x y:α, Go.Proofs.ltOf cf x y=decide (x.1.u<y.1.u) := fun x y => by
      show decide ((x.1.u:Int) - y.1.u<0)=_
      exact decide_eq_decide.2 (by omega)
    exact ⟨fun x => by rw [e]; simp, fun x y z h1 h2 => by rw [e] at *; simp at *; omega, fun x y z h1 h2 => by rw [e] at *; simp at *; omega⟩
  have hcell:∀ j, j<2*len->∃ V', (AE its)[j]? = some V' := fun j hj => by
    have:j<(AE its).length := by rw [D9, hil]; exact hj
    exact ⟨_, List.getElem?_eq_getElem this⟩
  have hval:∀ i, i<len->cc[s+(off+2*i)]? = some (.int .u32 ((d[i]!).1.t:Int))∧cc[s+(off+(2*i+1))]? = some (.string ⟨(IY (d[i]!).1.m (d[i]!).1.c).toArray⟩) := fun i hi => by
    have hi':i<its.length := by omega
    have hxi:its[i]? = some its[i] := List.getElem?_eq_getElem hi'
    have hm:its[i]∈its := List.getElem_mem hi'
    obtain ⟨k1, k2, k3, k4⟩ := hok _ hm
    obtain ⟨f1, f2⟩ := Ii hxi
    rw [hdget i hi']
    have a1:(Cs.l (AE its)).at (2*i)=some (.int .u32 its[i].t) := f1
    have a2:(Cs.l (AE its)).at (2*i+1)=some (.str its[i].m its[i].c) := f2
    rw [hza _ (by show 2*i<len*2; omega)] at a1
    rw [hza _ (by show 2*i+1<len*2; omega)] at a2
    obtain ⟨v1, g1, g2, _⟩ := hcs _ _ a1
    obtain ⟨v2, g3, g4, _⟩ := hcs _ _ a2
    exact ⟨by rw [Itm.rel_t k1 g2] at g1; exact g1, by rw [Itm.rel_s k2 g4] at g3; exact g3⟩
  have hH:Go.Sort.HoldsK enc 2 w b o d := by
    intro j hj
    rw [Go.Sort.size_flatK, hdsz] at hj
    have hj2:j / 2<len := by omega
    rw [Go.Sort.get_flatK enc 2 d j (by rw [hdsz]; exact hj)]
    obtain ⟨v1, v2⟩ := hval (j / 2) hj2
    refine ⟨?_, ?_⟩
    · simp only [World.cell?, hw]
      show cc[o+j]? = some (id ((d[j / 2]!).1.vals[j % 2]!))
      rw [ho.1]
      rcases (by omega:j % 2=0∨j % 2=1) with hm | hm
      · rw [hm, show s+off+j=s+(off+2*(j / 2)) by omega, v1]; rfl
      · rw [hm, show s+off+j=s+(off+(2*(j / 2)+1)) by omega, v2]; rfl
    · simp only [World.frozen?, hw]
      rcases hfr with e | e
      · cases fr; simp only at e; subst e; simp
      · cases fr; simp only at e; simp; omega
  have hcmp:Go.Proofs.CmpLays P g' #[.pointer (some ⟨bz, sz+zo, none⟩)] enc 2 cf b o d.size w := by
    intro m os dk hdk x y
    obtain ⟨k1, k2, k3, k4⟩ := hok x.1 x.2
    obtain ⟨j1, j2, j3, j4⟩ := hok y.1 y.2
    have lx := TK (P := P) ht hp hSh k4 (ρ := ρ) (φ := φ) (Itm.rel_key k1 k2) (clk := clk) (bm := bm) hE
    have ly := TK (P := P) ht hp hSh j4 (ρ := ρ) (φ := φ) (Itm.rel_key j1 j2) (clk := clk) (bm := bm) hE
    rw [Ai (by simp only [Hk]; omega)] at lx ly
    have hW:∀ b', b'<w.heap.size->b≠b'->(Go.Proofs.sortWorldK enc 2 w b o m dk os).heap[b']? = w.heap[b']? := fun b' h1 h2 => L0 h1 h2
    have hsz := L6 (enc := enc) (w := w) (blk := b) (off := o) (m := m) (dk := dk) (os := os)
    exact hC bz (sz+zo) bl (sl+lo) bm (.map ents clk) _ _ _ _ x.1.u y.1.u _ (by simp only [World.cell?, hW bz hbz dz, hwz]; exact hvz) (by simp only [World.cell?, hW bl hbl dl, hwl]; exact hvl) (by rw [hW bm hbm dm]; exact hwm)
      (by omega) (by omega) (by omega) lx ly k3 j3
  obtain ⟨cd, hcd⟩ := Option.isSome_iff_exists.1 hb
  obtain ⟨gd, hgd⟩ := Option.isSome_iff_exists.1 hgb
  have eg:∀ args w, (callFunc g' args).run P w = .ok (.enter g' args) w := fun args w => by
    have hn':gn.name ≠ "runtime.NumGoroutine" := by simpa using hgn
    simp [callFunc, hgf, hn', hgd]
  have HS := hS α enc (fun x => rfl) (fun x v hv => by
    have hv:v∈x.1.vals := hv
    simp [Itm.vals] at hv
    rcases hv with rfl | rfl <;> rfl) cf hO g' #[.pointer (some ⟨bz, sz+zo, none⟩)] b o cap' d w eg hcmp hH hbw (by rw [hdsz]; omega)
  rw [hdsz] at HS
  refine IA hf hcd hn (HS.mono fun e w' ⟨he, d', k, os, hperm, hsort, hw'⟩ => ⟨_, he, φ, ?_⟩)
  subst hw'
  -- what is there now
  have hd'sz:d'.size=len := by rw [hperm.1, hdsz]
  have hys:d'.toList.map (·.1)=Cd its := by
    have p1:(d'.toList.map (·.1)).Perm its := by
      have h3 := hperm.2.2
      have e1:(d'.extract 0 len)=d' := by rw [←hd'sz]; simp
      have e2:(d.extract 0 len)=d := by rw [←hdsz]; simp
      rw [e1, e2] at h3
      have := h3.map (·.1)
      have e3:d.toList.map (·.1)=its := by show its.attach.toArray.toList.map (·.1)=its; simp
      rw [e3] at this; exact this
    refine IV hst (Cj its) p1 ?_
    refine List.pairwise_map.2 (List.pairwise_iff_getElem.2 fun i j hi hj hij => ?_)
    have hi':i<d'.size := by simpa using hi
    have hj':j<d'.size := by simpa using hj
    have := hsort i j (Nat.zero_le _) hij (by omega)
    rw [getElem!_pos _ i hi', getElem!_pos _ j hj'] at this
    have this:decide ((d'[j].1.u:Int) - d'[i].1.u<0)=false := this
    simp at this
    simp only [Array.getElem_toList]
    omega
  have hd'get:∀ i (hi:i<len), ∃ x, (Cd its)[i]? = some x∧(d'[i]!).1=x∧x∈its := fun i hi => by
    have hi':i<d'.size := by omega
    refine ⟨(d'[i]!).1, ?_, rfl, (d'[i]!).2⟩
    rw [←hys, List.getElem?_map, Array.getElem?_toList, Array.getElem?_eq_getElem hi', getElem!_pos _ i hi']; rfl
  have hsl:(Cd its).length=len := by rw [(Cj its).length_eq, hil]
  rw [show o=s+off from ho.1]
  obtain ⟨g2, f2⟩ := VH gm hpp hφ hzz (d := Go.Sort.flatK enc 2 d') (by rw [Go.Sort.size_flatK, hd'sz]; show len*2=(AE (Cd its)).length; rw [D9, hsl]; omega) (fun j u hu => by
    have hu:(AE (Cd its))[j]? = some u := hu
    have hj:j<2*len := by
      have := (List.getElem?_eq_some_iff.1 hu).1
      rw [D9, hsl] at this; exact this
    rw [Go.Sort.get_flatK enc 2 d' j (by rw [hd'sz]; omega)]
    obtain ⟨x, hx1, hx2, hx3⟩ := hd'get (j / 2) (by omega)
    obtain ⟨k1, k2, _, _⟩ := hok x hx3
    obtain ⟨f1, f2⟩ := Ii hx1
    show Aj ρ φ u ((d'[j / 2]!).1.vals[j % 2]!)∧((d'[j / 2]!).1.vals[j % 2]!).oneCell'=true
    rw [hx2]
    rcases (by omega:j % 2=0∨j % 2=1) with hm | hm
    · rw [show 2*(j / 2)=j by omega] at f1
      rw [f1] at hu
      cases hu
      rw [hm]
      exact ⟨Itm.rel_t' k1, rfl⟩
    · rw [show 2*(j / 2)+1=j by omega] at f2
      rw [f2] at hu
      cases hu
      rw [hm]
      exact ⟨Itm.rel_s' k2, rfl⟩) k os
  exact ⟨f2, g2, Qd⟩
end
end Go.Ev
