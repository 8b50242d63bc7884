/- AN EVALUATOR OF THE MODEL OF Go, PROVED SOUND, PART 5: what it says of a call holds in every world, on every tape. Conditions: none of its own; each theorem bears its premises. -/
import Derived.Test.YtdgefeadbcbglaaREv4
import Derived.ChangeSame
import Derived.Deep.Slices
import Derived.Shelf.Strconv.Itoa1
import GoSem.ClaimGoes
noncomputable section
set_option linter.unusedSimpArgs false
set_option linter.unusedVariables false
namespace Go.Ev
set_option linter.unusedVariables false
/-- What a function is: code, or a step of the evaluator's own. -/
inductive Ent where
  | code (entry:List V->(S->R)->R) (body:Jn->S->Heap->K4->R) (res:S->Heap->K4->R)
  | prim (p:Rv)
  | br (k:Nat) (entry:List V->(S->R)->R) (body:Jn->S->Heap->K4->R) (res:S->Heap->K4->R)
  | ap (f:Nat) (its:List Nat) (rd:Rd)
  | tree (p:Rv)
abbrev G5 := Option Ent
/-- Sixteen functions. -/
inductive FA where
  | mk (A B C E F G I J L M N O P Q T U:G5)
def FA.sel (d:D) (p:FA):G5 :=
  @FA.rec (fun _ => G5) (fun A B C E F G I J L M N O P Q T U => @D.rec (fun _ => G5) A B C E F G I J L M N O P Q T U d) p
def Abs (p:FA) (k:G5->R):R := @FA.rec (fun _ => R) (fun A B C E F G I J L M N O P Q T U => k A) p
def Abf (p:FA) (k:G5->R):R := @FA.rec (fun _ => R) (fun A B C E F G I J L M N O P Q T U => k B) p
def Ae9 (p:FA) (k:G5->R):R := @FA.rec (fun _ => R) (fun A B C E F G I J L M N O P Q T U => k C) p
def Abo (p:FA) (k:G5->R):R := @FA.rec (fun _ => R) (fun A B C E F G I J L M N O P Q T U => k E) p
def Abg (p:FA) (k:G5->R):R := @FA.rec (fun _ => R) (fun A B C E F G I J L M N O P Q T U => k F) p
def Afc (p:FA) (k:G5->R):R := @FA.rec (fun _ => R) (fun A B C E F G I J L M N O P Q T U => k G) p
def Af7 (p:FA) (k:G5->R):R := @FA.rec (fun _ => R) (fun A B C E F G I J L M N O P Q T U => k I) p
def Abq (p:FA) (k:G5->R):R := @FA.rec (fun _ => R) (fun A B C E F G I J L M N O P Q T U => k J) p
def Aea (p:FA) (k:G5->R):R := @FA.rec (fun _ => R) (fun A B C E F G I J L M N O P Q T U => k L) p
def Ael (p:FA) (k:G5->R):R := @FA.rec (fun _ => R) (fun A B C E F G I J L M N O P Q T U => k M) p
def ZT (p:FA) (k:G5->R):R := @FA.rec (fun _ => R) (fun A B C E F G I J L M N O P Q T U => k N) p
def Aa8 (p:FA) (k:G5->R):R := @FA.rec (fun _ => R) (fun A B C E F G I J L M N O P Q T U => k O) p
def Aa9 (p:FA) (k:G5->R):R := @FA.rec (fun _ => R) (fun A B C E F G I J L M N O P Q T U => k P) p
def Z9 (p:FA) (k:G5->R):R := @FA.rec (fun _ => R) (fun A B C E F G I J L M N O P Q T U => k Q) p
def Aax (p:FA) (k:G5->R):R := @FA.rec (fun _ => R) (fun A B C E F G I J L M N O P Q T U => k T) p
def Aaf (p:FA) (k:G5->R):R := @FA.rec (fun _ => R) (fun A B C E F G I J L M N O P Q T U => k U) p
def FA.selK (d:D):FA->(G5->R)->R :=
  @D.rec (fun _ => FA->(G5->R)->R) Abs Abf Ae9 Abo Abg Afc Af7 Abq Aea Ael ZT Aa8 Aa9 Z9 Aax Aaf d
theorem FA.selK_eq (d:D) (p:FA) (k:G5->R):FA.selK d p k=k (FA.sel d p) := by
  cases d <;> cases p <;> rfl
/-- Of those sixteen. -/
inductive FB where
  | mk (A B C E F G I J L M N O P Q T U:FA)
def FB.sel (d:D) (p:FB):FA :=
  @FB.rec (fun _ => FA) (fun A B C E F G I J L M N O P Q T U => @D.rec (fun _ => FA) A B C E F G I J L M N O P Q T U d) p
def Afr (p:FB) (k:FA->R):R := @FB.rec (fun _ => R) (fun A B C E F G I J L M N O P Q T U => k A) p
def Aby (p:FB) (k:FA->R):R := @FB.rec (fun _ => R) (fun A B C E F G I J L M N O P Q T U => k B) p
def Adv (p:FB) (k:FA->R):R := @FB.rec (fun _ => R) (fun A B C E F G I J L M N O P Q T U => k C) p
def Ae6 (p:FB) (k:FA->R):R := @FB.rec (fun _ => R) (fun A B C E F G I J L M N O P Q T U => k E) p
def Aeg (p:FB) (k:FA->R):R := @FB.rec (fun _ => R) (fun A B C E F G I J L M N O P Q T U => k F) p
def Af8 (p:FB) (k:FA->R):R := @FB.rec (fun _ => R) (fun A B C E F G I J L M N O P Q T U => k G) p
def Adh (p:FB) (k:FA->R):R := @FB.rec (fun _ => R) (fun A B C E F G I J L M N O P Q T U => k I) p
def Adg (p:FB) (k:FA->R):R := @FB.rec (fun _ => R) (fun A B C E F G I J L M N O P Q T U => k J) p
def Afj (p:FB) (k:FA->R):R := @FB.rec (fun _ => R) (fun A B C E F G I J L M N O P Q T U => k L) p
def Adk (p:FB) (k:FA->R):R := @FB.rec (fun _ => R) (fun A B C E F G I J L M N O P Q T U => k M) p
def Zk (p:FB) (k:FA->R):R := @FB.rec (fun _ => R) (fun A B C E F G I J L M N O P Q T U => k N) p
def Zs (p:FB) (k:FA->R):R := @FB.rec (fun _ => R) (fun A B C E F G I J L M N O P Q T U => k O) p
def Aay (p:FB) (k:FA->R):R := @FB.rec (fun _ => R) (fun A B C E F G I J L M N O P Q T U => k P) p
def ZS (p:FB) (k:FA->R):R := @FB.rec (fun _ => R) (fun A B C E F G I J L M N O P Q T U => k Q) p
def Aav (p:FB) (k:FA->R):R := @FB.rec (fun _ => R) (fun A B C E F G I J L M N O P Q T U => k T) p
def ZM (p:FB) (k:FA->R):R := @FB.rec (fun _ => R) (fun A B C E F G I J L M N O P Q T U => k U) p
def FB.selK (d:D):FB->(FA->R)->R :=
  @D.rec (fun _ => FB->(FA->R)->R) Afr Aby Adv Ae6 Aeg Af8 Adh Adg Afj Adk Zk Zs Aay ZS Aav ZM d
theorem FB.selK_eq (d:D) (p:FB) (k:FA->R):FB.selK d p k=k (FB.sel d p) := by
  cases d <;> cases p <;> rfl
/-- The table of the functions. -/
inductive FC where
  | mk (A B C E F G I J L M N O P Q T U:FB)
def FC.sel (d:D) (p:FC):FB :=
  @FC.rec (fun _ => FB) (fun A B C E F G I J L M N O P Q T U => @D.rec (fun _ => FB) A B C E F G I J L M N O P Q T U d) p
def Abd (p:FC) (k:FB->R):R := @FC.rec (fun _ => R) (fun A B C E F G I J L M N O P Q T U => k A) p
def Afz (p:FC) (k:FB->R):R := @FC.rec (fun _ => R) (fun A B C E F G I J L M N O P Q T U => k B) p
def Aec (p:FC) (k:FB->R):R := @FC.rec (fun _ => R) (fun A B C E F G I J L M N O P Q T U => k C) p
def Abw (p:FC) (k:FB->R):R := @FC.rec (fun _ => R) (fun A B C E F G I J L M N O P Q T U => k E) p
def Adx (p:FC) (k:FB->R):R := @FC.rec (fun _ => R) (fun A B C E F G I J L M N O P Q T U => k F) p
def Afn (p:FC) (k:FB->R):R := @FC.rec (fun _ => R) (fun A B C E F G I J L M N O P Q T U => k G) p
def Afk (p:FC) (k:FB->R):R := @FC.rec (fun _ => R) (fun A B C E F G I J L M N O P Q T U => k I) p
def Acg (p:FC) (k:FB->R):R := @FC.rec (fun _ => R) (fun A B C E F G I J L M N O P Q T U => k J) p
def Adq (p:FC) (k:FB->R):R := @FC.rec (fun _ => R) (fun A B C E F G I J L M N O P Q T U => k L) p
def Aft (p:FC) (k:FB->R):R := @FC.rec (fun _ => R) (fun A B C E F G I J L M N O P Q T U => k M) p
def Zv (p:FC) (k:FB->R):R := @FC.rec (fun _ => R) (fun A B C E F G I J L M N O P Q T U => k N) p
def ZD (p:FC) (k:FB->R):R := @FC.rec (fun _ => R) (fun A B C E F G I J L M N O P Q T U => k O) p
def Zf (p:FC) (k:FB->R):R := @FC.rec (fun _ => R) (fun A B C E F G I J L M N O P Q T U => k P) p
def ZB (p:FC) (k:FB->R):R := @FC.rec (fun _ => R) (fun A B C E F G I J L M N O P Q T U => k Q) p
def Aag (p:FC) (k:FB->R):R := @FC.rec (fun _ => R) (fun A B C E F G I J L M N O P Q T U => k T) p
def Abb (p:FC) (k:FB->R):R := @FC.rec (fun _ => R) (fun A B C E F G I J L M N O P Q T U => k U) p
def FC.selK (d:D):FC->(FB->R)->R :=
  @D.rec (fun _ => FC->(FB->R)->R) Abd Afz Aec Abw Adx Afn Afk Acg Adq Aft Zv ZD Zf ZB Aag Abb d
theorem FC.selK_eq (d:D) (p:FC) (k:FB->R):FC.selK d p k=k (FC.sel d p) := by
  cases d <;> cases p <;> rfl
def DB (k:K3) (T:FC):G5 := FA.sel k.c (FB.sel k.b (FC.sel k.a T))
def Xn (k:K3) (T:FC) (κ:G5->R):R := @K3.rec (fun _ => R) (fun a b c => FC.selK a T fun x => FB.selK b x fun y => FA.selK c y κ) k
theorem Tf (k:K3) (T:FC) (κ:G5->R):Xn k T κ=κ (DB k T) := by
  cases k; simp only [Xn, DB, FC.selK_eq, FB.selK_eq, FA.selK_eq]
abbrev QA (ps:List K2):List V->Regs->(Regs->R)->R :=
  @List.rec K2 (fun _ => List V->Regs->(Regs->R)->R) (fun l t κ => UR l (κ t)) (fun p _ ih l t κ => P7 l fun v l => Qe p t v fun t => ih l t κ) ps
theorem RA:∀ (ps:List K2) (l:List V) (t:Regs) (κ:Regs->R), QA ps l t κ=Uq l ps t κ
  | [], l, t, κ => by cases l <;> rfl
  | p::ps, l, t, κ => by
    cases l with
    | nil => rfl
    | cons v l =>
      show Qe p t v (fun t => QA ps l t κ)=Qe p t v fun t => Uq l ps t κ
      rw [Qh, Qh, RA]
def Nk (r:R) (res:S->Heap->K4->R):R :=
  @R.rec (fun _ => R) (fun e t h n => @Ex.rec (fun _ => R) (res t h n) (Di "") (res t h n) e) (Ey "") (fun w => .fail w) (fun _ _ a b => .both a b) r
def OT (r:R):R := @R.rec (fun _ => R) (HO "") (fun v h n => .rv v h n) (fun w => .fail w) (HO "") r
def XH (v:V) (yes no:R):R :=
  @V.rec (fun _ => R) (fun _ => Unit) (fun _ _ => no) (fun _ => no) (fun _ _ => no) (fun _ _ _ _ _ _ => no) (fun _ _ => no) (fun _ _ => no) (fun _ => no) (fun _ => no) (fun _ _ _ => no) (fun _ _ => no)
    (fun o => @Ot.rec (fun _ => R) no (fun _ => no) (fun _ => no) yes (fun _ _ _ => no) (fun _ _ => no) no (fun _ _ => no) (fun _ _ _ _ => no) (fun _ _ _ _ => no) (fun _ _ _ => no) (fun _ _ => no) (fun _ _ => no) (fun _ _ _ => no) (fun _ => no) o) () (fun _ _ _ _ => ()) v
def apX (f:Nat) (its:List Nat) (rd:Rd) (cf:Jn) (args:List V) (h:Heap) (n:K4):R :=
  P7 args fun v l => XH v (P7 l fun b l => P7 l fun x l => UR l (rd cf b x h n)) (Y4 f its cf args h n)
def PY (cf:Jn) (o:G5) (args:List V) (h:Heap) (n:K4):R :=
  @Option.rec Ent (fun _ => R) (.fail "") (fun e => @Ent.rec (fun _ => R) (fun entry body res => entry args fun t => Nk (body cf t h n) res) (fun p => OT (p args h n)) (fun k entry body res => OT (brK k (fun hs => entry args fun t => Nk (body cf t hs n) res) args h n)) (fun f its rd => apX f its rd cf args h n) (fun p => p args h n) e) o
/-- What a call comes to. -/
def CE (T:FC) (m:Nat):Jn :=
  @Nat.rec (fun _ => Jn) (HO "") (fun _ ih f args h n => Xn f T fun o => PY ih o args h n) m
/-- The kept registers out of all of them. -/
abbrev YY (sm:SM) (t:Regs):S := @List.rec (K2×SL) (fun _ => S) HU (fun x _ ih => S.put x.2 ih (Dx x.1 t)) sm
theorem TF {t:Regs}:∀ {sm:SM}, RU sm=true->∀ {p:K2} {s:SL}, F4 p sm=some s->S.get s (YY sm t)=Dx p t
  | [], _, p, s, h => by cases h
  | x::l, hok, p, s, h => by
    simp only [RU, Bool.and_eq_true] at hok
    have e1:YY (x::l) t=S.put x.2 (YY l t) (Dx x.1 t) := rfl
    rw [e1]
    simp only [F4] at h
    cases hb:K2.beq x.1 p with
    | true =>
      rw [hb] at h
      have h:some x.2=some s := h
      cases h
      rw [S.get_put_same, K2.beq_iff.1 hb]
    | false =>
      rw [hb] at h
      have h:F4 p l=some s := h
      have hne:x.2≠s := fun e => by
        have := List.all_eq_true.1 hok.1 _ (K9 h)
        rw [←e] at this
        simp [SL.beq, O8.beq_self, O4.beq_self] at this
      rw [S.get_put_ne _ _ hne]
      exact TF hok.2 h
abbrev Va (sm:SM) (r:ARes) (t:S) (h:Heap) (κ:V->R):R :=
  @ARes.rec (fun _ => R) (fun p => DD sm [] t (.t p) κ) (fun p m => DD sm [] t (.t p) fun v => MT v fun q off => NN q h fun cs _ _ =>
    @Option.rec Nat (fun _ => R) (Ht cs off κ) (fun m => Dt cs off m fun y => GX y fun l => κ (.agg l)) m) r
abbrev Tr (sm:SM) (rs:List ARes) (t:S) (h:Heap):(List V->R)->R :=
  @List.rec ARes (fun _ => (List V->R)->R) (fun κ => κ []) (fun r _ ih κ => Va sm r t h fun v => ih fun vs => κ (v::vs)) rs
abbrev QX (sm:SM) (rs:List ARes) (t:S) (h:Heap) (n:K4):R :=
  Tr sm rs t h fun l => @List.rec V (fun _ => R) (.rv (.tup []) h n) (fun v vs _ => @List.rec V (fun _ => R) (.rv v h n) (fun _ _ _ => .rv (.tup l) h n) vs) l
/-- A function as it is run. -/
abbrev Ae7 (sm:SM) (a:AFn):Ent := @AFn.rec (fun _ => Ent) (fun ps c rs => .code (fun l κ => QA ps l ME fun t => κ (YY sm t)) (fun cf t h n => Kj sm cf c r0 [] t h n) (fun t h n => QX sm rs t h n)) a
def ARes.reg (r:ARes):K2 := @ARes.rec (fun _ => K2) (fun p => p) (fun p _ => p) r
def okF (sm:SM) (a:AFn):Bool := RU sm&&(Ms sm a.code (fun _ => true) []&&a.rs.all fun r => Ko sm r.reg)
abbrev Aac (sm:SM) (o:Option AFn):G5 := @Option.rec AFn (fun _ => G5) none (fun a => some (Ae7 sm a)) o
def okO (sm:SM) (o:Option AFn):Bool := @Option.rec AFn (fun _ => Bool) false (fun a => okF sm a) o
section
variable {P:Program} {ρ:Env} {B:Nat}
/-- It is that function. -/
def Dl (P:Program) (f:FuncId) (e:Ent):Prop := ∃ sm:SM, Aac sm (N7 P f)=some e∧okO sm (N7 P f)=true
theorem Dl.mk {f:FuncId} {e:Ent} (sm:SM) (h:Aac sm (N7 P f)=some e) (k:okO sm (N7 P f)=true):Dl P f e := ⟨sm, h, k⟩
/-- It is that function, run on what it can reach. -/
def Acr (P:Program) (f:FuncId) (e:Ent):Prop := ∃ k en bo re, e = .br k en bo re∧Dl P f (.code en bo re)
/-- It ranges over a function. -/
def Gl (P:Program) (ρ:Env) (f:FuncId) (e:Ent):Prop := ∃ its rd A, e = .ap f its rd∧ρ.ap f=some A∧NX P f=some A∧Vt P A=some rd ∧ ∀ g∈its, Mz P g
/-- A step of the evaluator's own that may come to many ways. -/
def Vx (P:Program) (ρ:Env) (B:Nat) (f:FuncId) (p:Rv):Prop :=
  ∀ args h n (Φ:R->Prop), (p args h n).sat Φ->∀ φ w (xs:Array Value), Gam ρ B h n φ w->E5 ρ φ args xs.toList →
    Qb P f xs w fun x w' => ∃ v h1 n1 φ', Φ (.rv v h1 n1)∧Fr h h1 φ φ' n n1 w w'∧Gam ρ B h1 n1 φ' w'∧CD ρ φ' v x
def Om (P:Program) (ρ:Env) (B:Nat) (f:FuncId) (e:Ent):Prop := (Dl P f e∨Acr P f e)∨((∃ p, e = .prim p∧Sb P ρ B f p)∨(Gl P ρ f e ∨ ∃ p, e = .tree p∧Vx P ρ B f p))
def M7 (P:Program) (ρ:Env) (B:Nat) (T:FC):Prop := (∀ f e, DB (DH f) T=some e->Om P ρ B f e) ∧ ∀ f A, ρ.ap f=some A->∃ e, DB (DH f) T=some e∧Gl P ρ f e
theorem Ps {r:R} {Φ:R->Prop} (h:(OT r).sat Φ):∃ v h1 n1, r = .rv v h1 n1∧Φ (.rv v h1 n1) := by
  cases r with
  | rv v h1 n1 => exact ⟨v, h1, n1, rfl, h⟩
  | _ => exact h.elim
theorem Vh {sm:SM} {r:ARes} {t:Regs} {t':S} (ri:RI sm [] [] t t') (hk:Ko sm r.reg=true) (hp:Heap) (κ:V->R):Va sm r t' hp κ=MG r t hp κ := by
  have kn:∀ p, Ko sm p=true->Gz sm [] p=true := fun p h => by unfold Gz; rw [h, Bool.or_true]
  cases r with
  | tmp p => show DD sm [] t' (.t p) κ=Kn p t κ; rw [ri.tell (kn p hk), Fh]
  | cel p m =>
    show DD sm [] t' (.t p) _=Kn p t _
    rw [ri.tell (kn p hk), Fh, Gk]
theorem QM {sm:SM} {t:Regs} {t':S} (ri:RI sm [] [] t t') {hp:Heap}:∀ {rs:List ARes} {κ:List V->R}, (∀ r∈rs, Ko sm r.reg=true)->Tr sm rs t' hp κ=Mq rs t hp κ
  | [], κ, _ => rfl
  | r::rs, κ, h => by
    have e1:Tr sm (r::rs) t' hp κ=Va sm r t' hp fun v => Tr sm rs t' hp fun vs => κ (v::vs) := rfl
    have e2:Mq (r::rs) t hp κ=MG r t hp fun v => Mq rs t hp fun vs => κ (v::vs) := rfl
    rw [e1, e2, Vh ri (h r (List.mem_cons_self ..))]
    congr 1; funext v
    exact QM ri fun r hr => h r (List.mem_cons_of_mem _ hr)
theorem V7 {sm:SM} {t:Regs} {t':S} (ri:RI sm [] [] t t') {hp:Heap} {n:K4} {rs:List ARes} (h:∀ r∈rs, Ko sm r.reg=true):QX sm rs t' hp n=RQ rs t hp n := QM ri h
/-- What is asked behind a body. -/
def Aap (res:S->Heap->K4->R) (Φ:R->Prop):R->Prop
  | .ok .nrm t h n => (res t h n).sat Φ
  | .ok .ret t h n => (res t h n).sat Φ
  | _ => False
theorem Nq {res:S->Heap->K4->R} {Φ:R->Prop}:∀ {r:R}, (Nk r res).sat Φ->r.sat (Aap res Φ)
  | .ok e t h n, hs => by
    cases e with
    | nrm => exact hs
    | ret => exact hs
    | exit j => exact hs.elim
  | .rv _ _ _, hs => hs.elim
  | .fail _, hs => hs.elim
  | .both a b, hs => ⟨Nq (r := a) hs.1, Nq (r := b) hs.2⟩
theorem X3 {r:ARes} {t:Regs} {h:Heap} {κ:V->R} (hg:(MG r t h κ).good):∃ v, MG r t h κ=κ v := by
  cases r with
  | tmp p => exact ⟨_, Fh p t κ⟩
  | cel p m =>
    have e1:MG (.cel p m) t h κ=MT (Dx p t) fun q off => Kd q h fun cs _ _ =>
        @Option.rec Nat (fun _ => R) (Ht cs off κ) (fun m => Dt cs off m fun y => GX y fun l => κ (.agg l)) m := Fh p t _
    rw [e1] at hg
    obtain ⟨q, off, hv, e2⟩ := FW hg
    rw [e2] at hg
    obtain ⟨cs, sup, prev, hq, e3⟩ := Fx hg
    rw [e3] at hg
    cases m with
    | none =>
      obtain ⟨v, _, e4⟩ := JY (show R.good (Ht cs off κ) from hg)
      exact ⟨v, e1.trans (e2.trans (e3.trans e4))⟩
    | some m =>
      obtain ⟨hle, y, hyl, hya, e4⟩ := Fb (show R.good (Dt cs off m fun y => GX y fun l => κ (.agg l)) from hg)
      obtain ⟨l, e5, _, _⟩ := IF y fun l => κ (.agg l)
      exact ⟨.agg l, e1.trans (e2.trans (e3.trans (Eq.trans e4 e5)))⟩
theorem Ts:∀ {rs:List ARes} {t:Regs} {h:Heap} {κ:List V->R}, (Mq rs t h κ).good->∃ vs, Mq rs t h κ=κ vs
  | [], t, h, κ, _ => ⟨[], rfl⟩
  | r::rs, t, h, κ, hg => by
    have hg:R.good (MG r t h fun v => Mq rs t h fun vs => κ (v::vs)) := hg
    obtain ⟨v, e1⟩ := X3 hg
    rw [e1] at hg
    obtain ⟨vs, e2⟩ := Ts hg
    exact ⟨v::vs, Eq.trans e1 e2⟩
theorem WO {rs:List ARes} {t:Regs} {h:Heap} {n:K4} (hg:(RQ rs t h n).good):∃ v, RQ rs t h n = .rv v h n := by
  obtain ⟨vs, e⟩ := Ts (show R.good (Mq rs t h _) from hg)
  have e:RQ rs t h n=_ := e
  match vs, e with
  | [], e => exact ⟨_, e⟩
  | [u], e => exact ⟨_, e⟩
  | u::u'::us, e => exact ⟨_, e⟩
theorem Pi (hρ:DK ρ) (hm:P.follows .mixedOrders=true) {cf:CF} {cf2:Jn} (hct:LA P ρ B cf) (hR:KZ P ρ B cf) (h2:∀ f, cf2 (DH f)=cf f) {f:FuncId} {e:Ent} (he:Dl P f e) {args:List V} {h:Heap} {n:K4} {Φ:R->Prop}
    (hr:(PY cf2 (some e) args h n).sat Φ) {φ:Dh} {w:World} {xs:Array Value} (g:Gam ρ B h n φ w) (hxs:E5 ρ φ args xs.toList) :
    Qb P f xs w fun x w' => ∃ v h1 n1 φ', Φ (.rv v h1 n1)∧Fr h h1 φ φ' n n1 w w'∧Gam ρ B h1 n1 φ' w'∧CD ρ φ' v x := by
  obtain ⟨sm, hd, hok⟩ := he
  cases hf:N7 P f with
  | none => rw [hf] at hd; cases hd
  | some a =>
    rw [hf] at hd hok
    obtain ⟨fn, c, ps, rs, hfn, hb, hps, hrs, hname, rfl⟩ := RL hf
    have hd:some (Ent.code (fun l κ => QA ps l ME fun t => κ (YY sm t)) (fun cf t h n => Kj sm cf (Dq P fn.ntmps c) r0 [] t h n) (fun t h n => QX sm rs t h n))=some e := hd
    cases hd
    have hok:(RU sm&&(Ms sm (Dq P fn.ntmps c) (fun _ => true) []&&rs.all fun r => Ko sm r.reg))=true := hok
    rw [Bool.and_eq_true, Bool.and_eq_true] at hok
    obtain ⟨hsm, hok⟩ := hok
    have inj:∀ {p q s}, F4 p sm=some s->F4 q sm=some s->p=q := fun h h' => Rp hsm h h'
    have hr:(QA ps args ME (fun t => Nk (Kj sm cf2 (Dq P fn.ntmps c) r0 [] (YY sm t) h n) fun t h n => QX sm rs t h n)).sat Φ := hr
    rw [RA] at hr
    obtain ⟨hlen, t0, e2, H0⟩ := Ol (k := 0) (fun i s hi => by
      obtain ⟨hi', hi2⟩ := List.getElem?_eq_some_iff.1 hi
      simp at hi2; omega) hps (R.sat_good hr)
    rw [e2] at hr
    simp only [List.length_range] at hlen
    have hxl:xs.size=args.length := by have := Do hxs; simpa using this
    have hxN:xs.size≤fn.ntmps := by
      rcases Nat.eq_zero_or_pos xs.size with h0 | h0
      · omega
      · have := Py hps (xs.size - 1) (List.mem_range.2 (by omega)); omega
    have hT:TR ρ fn.ntmps φ t0 { tmps := xs++Array.replicate (fn.ntmps - xs.size) undef, defers := [] } := {
      size := by simp; omega
      defers := rfl
      at_ := fun s p hs hp => by
        rw [H0 s p hp, if_pos (Nat.zero_le _), Nat.sub_zero, Rz]
        show CD ρ φ _ ((xs++Array.replicate (fn.ntmps - xs.size) undef).getD s undef)
        rw [Array.getD_eq_getD_getElem?]
        by_cases hsx:s<xs.size
        · rw [Array.getElem?_append_left hsx]
          have hsa:s<args.length := by omega
          rw [List.getElem?_eq_getElem hsa]
          obtain ⟨x, hx, hrx⟩ := (ER.1 hxs).2 s _ (List.getElem?_eq_getElem hsa)
          rw [Array.getElem?_toList] at hx
          rw [hx]; exact hrx
        · rw [Array.getElem?_append_right (by omega), Array.getElem?_replicate, if_pos (by omega), List.getElem?_eq_none (by omega)]
          exact Hy }
    have hx := Nq hr
    have hOK := (YG (N := fn.ntmps) (sm := sm) hρ hm hct hR h2 c).join hok.1 (RI.start inj fun p s hs => TF hsm hs) hx
    intro o a K Q hK
    have hcf':(callFunc f xs).run P w = .ok (.enter f xs) w := by
      have hname':fn.name ≠ "runtime.NumGoroutine" := by simpa using hname
      simp [callFunc, hfn, hname', hb]
    rw [hcf']
    refine calls_of_wp hfn hb (hOK φ _ w hT g _ fun e t1 h2' n2 hres φ' a' w' tf f1 g1 T1 hk => ?_)
    have fin:(QX sm rs t1 h2' n2).sat Φ->∃ X, (results fn a'.tmps).run P w' = .ok X w'∧K (a.put o.dst X) w' := fun hres => by
      rw [V7 (RI.start inj hk) fun r hr => List.all_eq_true.1 hok.2 r hr] at hres
      obtain ⟨v, hv⟩ := WO (R.sat_good hres)
      obtain ⟨_, _, Hres⟩ := TY (ρ := ρ) (B := B) hrs hv
      rw [hv] at hres
      obtain ⟨X, hX, hrX⟩ := Hres φ' a' w' T1 g1
      exact ⟨X, hX, hK X w' ⟨v, h2', n2, φ', hres, f1, g1, hrX⟩⟩
    cases e with
    | nrm => obtain ⟨X, hX, hKX⟩ := fin hres; exact ⟨T1.defers, X, hX, hKX⟩
    | exit id => exact hres.elim
    | ret => obtain ⟨X, hX, hKX⟩ := fin hres; exact ⟨T1.defers, X, hX, hKX⟩
/-- THE CALL IS SOUND. -/
theorem Ut (hρ:DK ρ) (hm:P.follows .mixedOrders=true) {T:FC} (hT:M7 P ρ B T):∀ m, LA P ρ B (fun f => CE T m (DH f))∧KZ P ρ B (fun f => CE T m (DH f)) := by
  intro m
  induction m with
  | zero => exact ⟨fun f args h n Φ hr => hr.elim, fun f A fn hA box x h n Φ hr => hr.elim⟩
  | succ m ih =>
    obtain ⟨hct, hR⟩ := ih
    have e1:∀ f args h n, CE T (m+1) (DH f) args h n=PY (CE T m) (DB (DH f) T) args h n := fun f args h n => Tf (DH f) T fun o => PY (CE T m) o args h n
    refine ⟨fun f args h n Φ hr φ w xs g hxs => ?_, fun f A fn hA box x h n Φ hr φ w tmps X l D g hrec unc hsz hbox hX => ?_⟩
    · have hr:(CE T (m+1) (DH f) args h n).sat Φ := hr
      rw [e1] at hr
      cases ho:DB (DH f) T with
      | none => rw [ho] at hr; exact hr.elim
      | some e =>
        rw [ho] at hr
        rcases hT.1 f e ho with (he | ⟨k, en, bo, re, rfl, he⟩) | (⟨p, rfl, hp⟩ | (⟨its, rd, A, rfl, hA, h1, h2, h3⟩ | ⟨p, rfl, hp⟩))
        · exact Pi hρ hm hct hR (fun _ => rfl) he hr g hxs
        · obtain ⟨v, h1, n1, hr, hΦ⟩ := Ps (show (OT (brK k (fun hs => en args fun t => Nk (bo (CE T m) t hs n) re) args h n)).sat Φ from hr)
          intro o a K Q hK
          exact Y6 hr g hxs (fun hs Φ hsat gs => Pi hρ hm hct hR (fun _ => rfl) he (h := hs) hsat gs hxs) o a K Q fun x w' ⟨φ', f1, g1, r1⟩ => hK x w' ⟨v, h1, n1, φ', hΦ, f1, g1, r1⟩
        · obtain ⟨v, h1, n1, hr, hΦ⟩ := Ps (show (OT (p args h n)).sat Φ from hr)
          intro o a K Q hK
          exact hp args h n v h1 n1 hr φ w xs g hxs o a K Q fun x w' ⟨φ', f1, g1, r1⟩ => hK x w' ⟨v, h1, n1, φ', hΦ, f1, g1, r1⟩
        · have hr:(apX f its rd (CE T m) args h n).sat Φ := hr
          unfold apX at hr
          obtain ⟨v, l, hl, q1⟩ := KS (R.sat_good hr)
          rw [q1] at hr
          subst hl
          by_cases hv:v = .oth .no
          · subst hv
            obtain ⟨y, ys, _, hy, _⟩ := CG.1 hxs
            simp only [CD] at hy
          · have e2:∀ A C:R, XH v A C=C := fun A C => by
              cases v with
              | oth o => cases o with
                | no => exact absurd rfl hv
                | _ => rfl
              | _ => rfl
            rw [e2] at hr
            exact Aai hA h1 h3 hct (fun _ => rfl) hr g hxs
        · exact hp args h n Φ hr φ w xs g hxs
    · obtain ⟨e, ho, its, rd, A', rfl, hA', h1, h2, h3⟩ := hT.2 f A hA
      rw [hA] at hA'; cases hA'
      have hr:(CE T (m+1) (DH f) [.oth .no, .ptr box 0, x] h n).sat Φ := hr
      rw [e1, ho] at hr
      have hr:(rd (CE T m) (.ptr box 0) x h n).sat Φ := hr
      exact Z8 hρ hct.ok (fun _ => rfl) h2 hr g hrec unc hsz hbox hX
theorem Wm (hρ:DK ρ) (hm:P.follows .mixedOrders=true) {T:FC} (hT:M7 P ρ B T) (m:Nat):GG P ρ B fun f => CE T m (DH f) := (Ut hρ hm hT m).1.ok
end
end Go.Ev

namespace Go.Ev
open Go.RowKit
set_option linter.unusedVariables false
abbrev F8 (w:Bool) (v:V) (h:Heap) (n:K4) (F:KV->R) (κ:KV):R := gd w v F κ h n
abbrev Du (v:V):R := .rv v Dd ⟨.d0, .d0, .d0, .d0⟩
abbrev alY (b:K4) (j:D) (h:Heap) (F:K4->R) (κ:KV):R := b.at j fun r => Dz r h fun x => II x (Iu (F r) κ)
abbrev Zj (b:K4) (j:D) (h:Heap) (F:K4->R) (κ:V->Heap->R):R := alY b j h F fun v h _ => κ v h
abbrev XN (b:K4) (j:D) (h:Heap) (κ:R):R := b.at j fun r => Dz r h fun x => II x κ
abbrev U:V := Ec
abbrev Q0:SQ := .mk U U U U
abbrev g0 (t:S) (k:V->R):R := @S.rec (fun _ => R) (fun c0 c1 c2 c3 c4 c5 c6 c7 => @SQ.rec (fun _ => R) (fun d0 d1 d2 d3 => k d0) c0) t
abbrev w0 (t:S) (v:V) (k:S->R):R := @S.rec (fun _ => R) (fun c0 c1 c2 c3 c4 c5 c6 c7 => @SQ.rec (fun _ => R) (fun d0 d1 d2 d3 => k (.mk (.mk v d1 d2 d3) c1 c2 c3 c4 c5 c6 c7)) c0) t
abbrev g1 (t:S) (k:V->R):R := @S.rec (fun _ => R) (fun c0 c1 c2 c3 c4 c5 c6 c7 => @SQ.rec (fun _ => R) (fun d0 d1 d2 d3 => k d1) c0) t
abbrev w1 (t:S) (v:V) (k:S->R):R := @S.rec (fun _ => R) (fun c0 c1 c2 c3 c4 c5 c6 c7 => @SQ.rec (fun _ => R) (fun d0 d1 d2 d3 => k (.mk (.mk d0 v d2 d3) c1 c2 c3 c4 c5 c6 c7)) c0) t
abbrev g2 (t:S) (k:V->R):R := @S.rec (fun _ => R) (fun c0 c1 c2 c3 c4 c5 c6 c7 => @SQ.rec (fun _ => R) (fun d0 d1 d2 d3 => k d2) c0) t
abbrev w2 (t:S) (v:V) (k:S->R):R := @S.rec (fun _ => R) (fun c0 c1 c2 c3 c4 c5 c6 c7 => @SQ.rec (fun _ => R) (fun d0 d1 d2 d3 => k (.mk (.mk d0 d1 v d3) c1 c2 c3 c4 c5 c6 c7)) c0) t
abbrev g3 (t:S) (k:V->R):R := @S.rec (fun _ => R) (fun c0 c1 c2 c3 c4 c5 c6 c7 => @SQ.rec (fun _ => R) (fun d0 d1 d2 d3 => k d3) c0) t
abbrev w3 (t:S) (v:V) (k:S->R):R := @S.rec (fun _ => R) (fun c0 c1 c2 c3 c4 c5 c6 c7 => @SQ.rec (fun _ => R) (fun d0 d1 d2 d3 => k (.mk (.mk d0 d1 d2 v) c1 c2 c3 c4 c5 c6 c7)) c0) t
abbrev g4 (t:S) (k:V->R):R := @S.rec (fun _ => R) (fun c0 c1 c2 c3 c4 c5 c6 c7 => @SQ.rec (fun _ => R) (fun d0 d1 d2 d3 => k d0) c1) t
abbrev w4 (t:S) (v:V) (k:S->R):R := @S.rec (fun _ => R) (fun c0 c1 c2 c3 c4 c5 c6 c7 => @SQ.rec (fun _ => R) (fun d0 d1 d2 d3 => k (.mk c0 (.mk v d1 d2 d3) c2 c3 c4 c5 c6 c7)) c1) t
abbrev g5 (t:S) (k:V->R):R := @S.rec (fun _ => R) (fun c0 c1 c2 c3 c4 c5 c6 c7 => @SQ.rec (fun _ => R) (fun d0 d1 d2 d3 => k d1) c1) t
abbrev w5 (t:S) (v:V) (k:S->R):R := @S.rec (fun _ => R) (fun c0 c1 c2 c3 c4 c5 c6 c7 => @SQ.rec (fun _ => R) (fun d0 d1 d2 d3 => k (.mk c0 (.mk d0 v d2 d3) c2 c3 c4 c5 c6 c7)) c1) t
abbrev g6 (t:S) (k:V->R):R := @S.rec (fun _ => R) (fun c0 c1 c2 c3 c4 c5 c6 c7 => @SQ.rec (fun _ => R) (fun d0 d1 d2 d3 => k d2) c1) t
abbrev w6 (t:S) (v:V) (k:S->R):R := @S.rec (fun _ => R) (fun c0 c1 c2 c3 c4 c5 c6 c7 => @SQ.rec (fun _ => R) (fun d0 d1 d2 d3 => k (.mk c0 (.mk d0 d1 v d3) c2 c3 c4 c5 c6 c7)) c1) t
abbrev g7 (t:S) (k:V->R):R := @S.rec (fun _ => R) (fun c0 c1 c2 c3 c4 c5 c6 c7 => @SQ.rec (fun _ => R) (fun d0 d1 d2 d3 => k d3) c1) t
abbrev w7 (t:S) (v:V) (k:S->R):R := @S.rec (fun _ => R) (fun c0 c1 c2 c3 c4 c5 c6 c7 => @SQ.rec (fun _ => R) (fun d0 d1 d2 d3 => k (.mk c0 (.mk d0 d1 d2 v) c2 c3 c4 c5 c6 c7)) c1) t
abbrev g8 (t:S) (k:V->R):R := @S.rec (fun _ => R) (fun c0 c1 c2 c3 c4 c5 c6 c7 => @SQ.rec (fun _ => R) (fun d0 d1 d2 d3 => k d0) c2) t
abbrev w8 (t:S) (v:V) (k:S->R):R := @S.rec (fun _ => R) (fun c0 c1 c2 c3 c4 c5 c6 c7 => @SQ.rec (fun _ => R) (fun d0 d1 d2 d3 => k (.mk c0 c1 (.mk v d1 d2 d3) c3 c4 c5 c6 c7)) c2) t
abbrev g9 (t:S) (k:V->R):R := @S.rec (fun _ => R) (fun c0 c1 c2 c3 c4 c5 c6 c7 => @SQ.rec (fun _ => R) (fun d0 d1 d2 d3 => k d1) c2) t
abbrev w9 (t:S) (v:V) (k:S->R):R := @S.rec (fun _ => R) (fun c0 c1 c2 c3 c4 c5 c6 c7 => @SQ.rec (fun _ => R) (fun d0 d1 d2 d3 => k (.mk c0 c1 (.mk d0 v d2 d3) c3 c4 c5 c6 c7)) c2) t
abbrev E1 (t:S) (k:V->R):R := @S.rec (fun _ => R) (fun c0 c1 c2 c3 c4 c5 c6 c7 => @SQ.rec (fun _ => R) (fun d0 d1 d2 d3 => k d2) c2) t
abbrev E2 (t:S) (v:V) (k:S->R):R := @S.rec (fun _ => R) (fun c0 c1 c2 c3 c4 c5 c6 c7 => @SQ.rec (fun _ => R) (fun d0 d1 d2 d3 => k (.mk c0 c1 (.mk d0 d1 v d3) c3 c4 c5 c6 c7)) c2) t
abbrev DZ (t:S) (k:V->R):R := @S.rec (fun _ => R) (fun c0 c1 c2 c3 c4 c5 c6 c7 => @SQ.rec (fun _ => R) (fun d0 d1 d2 d3 => k d3) c2) t
abbrev DT (t:S) (v:V) (k:S->R):R := @S.rec (fun _ => R) (fun c0 c1 c2 c3 c4 c5 c6 c7 => @SQ.rec (fun _ => R) (fun d0 d1 d2 d3 => k (.mk c0 c1 (.mk d0 d1 d2 v) c3 c4 c5 c6 c7)) c2) t
abbrev DO (t:S) (k:V->R):R := @S.rec (fun _ => R) (fun c0 c1 c2 c3 c4 c5 c6 c7 => @SQ.rec (fun _ => R) (fun d0 d1 d2 d3 => k d0) c3) t
abbrev DR (t:S) (v:V) (k:S->R):R := @S.rec (fun _ => R) (fun c0 c1 c2 c3 c4 c5 c6 c7 => @SQ.rec (fun _ => R) (fun d0 d1 d2 d3 => k (.mk c0 c1 c2 (.mk v d1 d2 d3) c4 c5 c6 c7)) c3) t
abbrev E0 (t:S) (k:V->R):R := @S.rec (fun _ => R) (fun c0 c1 c2 c3 c4 c5 c6 c7 => @SQ.rec (fun _ => R) (fun d0 d1 d2 d3 => k d1) c3) t
abbrev DY (t:S) (v:V) (k:S->R):R := @S.rec (fun _ => R) (fun c0 c1 c2 c3 c4 c5 c6 c7 => @SQ.rec (fun _ => R) (fun d0 d1 d2 d3 => k (.mk c0 c1 c2 (.mk d0 v d2 d3) c4 c5 c6 c7)) c3) t
abbrev DX (t:S) (k:V->R):R := @S.rec (fun _ => R) (fun c0 c1 c2 c3 c4 c5 c6 c7 => @SQ.rec (fun _ => R) (fun d0 d1 d2 d3 => k d2) c3) t
abbrev DU (t:S) (v:V) (k:S->R):R := @S.rec (fun _ => R) (fun c0 c1 c2 c3 c4 c5 c6 c7 => @SQ.rec (fun _ => R) (fun d0 d1 d2 d3 => k (.mk c0 c1 c2 (.mk d0 d1 v d3) c4 c5 c6 c7)) c3) t
abbrev DM (t:S) (k:V->R):R := @S.rec (fun _ => R) (fun c0 c1 c2 c3 c4 c5 c6 c7 => @SQ.rec (fun _ => R) (fun d0 d1 d2 d3 => k d3) c3) t
abbrev DN (t:S) (v:V) (k:S->R):R := @S.rec (fun _ => R) (fun c0 c1 c2 c3 c4 c5 c6 c7 => @SQ.rec (fun _ => R) (fun d0 d1 d2 d3 => k (.mk c0 c1 c2 (.mk d0 d1 d2 v) c4 c5 c6 c7)) c3) t
abbrev DS (t:S) (k:V->R):R := @S.rec (fun _ => R) (fun c0 c1 c2 c3 c4 c5 c6 c7 => @SQ.rec (fun _ => R) (fun d0 d1 d2 d3 => k d0) c4) t
abbrev DV (t:S) (v:V) (k:S->R):R := @S.rec (fun _ => R) (fun c0 c1 c2 c3 c4 c5 c6 c7 => @SQ.rec (fun _ => R) (fun d0 d1 d2 d3 => k (.mk c0 c1 c2 c3 (.mk v d1 d2 d3) c5 c6 c7)) c4) t
abbrev DW (t:S) (k:V->R):R := @S.rec (fun _ => R) (fun c0 c1 c2 c3 c4 c5 c6 c7 => @SQ.rec (fun _ => R) (fun d0 d1 d2 d3 => k d1) c4) t
abbrev E3 (t:S) (v:V) (k:S->R):R := @S.rec (fun _ => R) (fun c0 c1 c2 c3 c4 c5 c6 c7 => @SQ.rec (fun _ => R) (fun d0 d1 d2 d3 => k (.mk c0 c1 c2 c3 (.mk d0 v d2 d3) c5 c6 c7)) c4) t
abbrev DP (t:S) (k:V->R):R := @S.rec (fun _ => R) (fun c0 c1 c2 c3 c4 c5 c6 c7 => @SQ.rec (fun _ => R) (fun d0 d1 d2 d3 => k d2) c4) t
abbrev DQ (t:S) (v:V) (k:S->R):R := @S.rec (fun _ => R) (fun c0 c1 c2 c3 c4 c5 c6 c7 => @SQ.rec (fun _ => R) (fun d0 d1 d2 d3 => k (.mk c0 c1 c2 c3 (.mk d0 d1 v d3) c5 c6 c7)) c4) t
abbrev E4 (t:S) (k:V->R):R := @S.rec (fun _ => R) (fun c0 c1 c2 c3 c4 c5 c6 c7 => @SQ.rec (fun _ => R) (fun d0 d1 d2 d3 => k d3) c4) t
abbrev E7 (t:S) (v:V) (k:S->R):R := @S.rec (fun _ => R) (fun c0 c1 c2 c3 c4 c5 c6 c7 => @SQ.rec (fun _ => R) (fun d0 d1 d2 d3 => k (.mk c0 c1 c2 c3 (.mk d0 d1 d2 v) c5 c6 c7)) c4) t
section
variable {P:Program} {ρ:Env} {B:Nat}
/-- What stands at a function's place in the table. -/
def Dj (P:Program) (ρ:Env) (B:Nat) (f:FuncId) (o:G5):Prop := ∀ e, o=some e->Om P ρ B f e
theorem Dj.no {f:FuncId}:Dj P ρ B f none := fun e h => by cases h
theorem Dj.fn {f:FuncId} {e:Ent} (h:Dl P f e):Dj P ρ B f (some e) := fun e' h' => by cases h'; exact .inl (.inl h)
theorem Dj.br {f:FuncId} {k:Nat} {en:List V->(S->R)->R} {bo:Jn->S->Heap->K4->R} {re:S->Heap->K4->R} (h:Dl P f (.code en bo re)):Dj P ρ B f (some (.br k en bo re)) := fun e' h' => by cases h'; exact .inl (.inr ⟨k, en, bo, re, rfl, h⟩)
theorem Dj.pr {f:FuncId} {p:Rv} (h:Sb P ρ B f p):Dj P ρ B f (some (.prim p)) := fun e' h' => by cases h'; exact .inr (.inl ⟨p, rfl, h⟩)
def KL (s:String):Rv := fun _ _ _ => .fail s
theorem Dj.noP {f:FuncId} (s:String):Dj P ρ B f (some (.prim (KL s))) := Dj.pr fun args h n v h1 n1 hx => by cases hx
theorem Dj.ap {f:FuncId} {its:List Nat} {rd:Rd} {A:ApC} (hA:ρ.ap f=some A) (h1:NX P f=some A) (h2:Vt P A=some rd) (h3:∀ g∈its, Mz P g):Dj P ρ B f (some (.ap f its rd)) := fun e' h' => by cases h'; exact .inr (.inr (.inl ⟨its, rd, A, rfl, hA, h1, h2, h3⟩))
theorem Dj.tr {f:FuncId} {p:Rv} (h:Vx P ρ B f p):Dj P ρ B f (some (.tree p)) := fun e' h' => by cases h'; exact .inr (.inr (.inr ⟨p, rfl, h⟩))
def KR (P:Program) (ρ:Env) (B:Nat) (base:Nat) (x:FA):Prop := ∀ d, Dj P ρ B (base+d.toN) (FA.sel d x)
def Q5 (P:Program) (ρ:Env) (B:Nat) (base:Nat) (x:FB):Prop := ∀ d, KR P ρ B (base+16*d.toN) (FB.sel d x)
theorem Ir {base:Nat} {c0 c1 c2 c3 c4 c5 c6 c7 c8 c9 ca cb cc cd ce cf:G5} (h0:Dj P ρ B (base+0) c0) (h1:Dj P ρ B (base+1) c1) (h2:Dj P ρ B (base+2) c2) (h3:Dj P ρ B (base+3) c3) (h4:Dj P ρ B (base+4) c4) (h5:Dj P ρ B (base+5) c5) (h6:Dj P ρ B (base+6) c6) (h7:Dj P ρ B (base+7) c7) (h8:Dj P ρ B (base+8) c8) (h9:Dj P ρ B (base+9) c9) (h10:Dj P ρ B (base+10) ca) (h11:Dj P ρ B (base+11) cb) (h12:Dj P ρ B (base+12) cc) (h13:Dj P ρ B (base+13) cd) (h14:Dj P ρ B (base+14) ce) (h15:Dj P ρ B (base+15) cf):KR P ρ B base (.mk c0 c1 c2 c3 c4 c5 c6 c7 c8 c9 ca cb cc cd ce cf) := fun d => by
  cases d
  · exact h0
  · exact h1
  · exact h2
  · exact h3
  · exact h4
  · exact h5
  · exact h6
  · exact h7
  · exact h8
  · exact h9
  · exact h10
  · exact h11
  · exact h12
  · exact h13
  · exact h14
  · exact h15
theorem Yt {base:Nat} {c0 c1 c2 c3 c4 c5 c6 c7 c8 c9 ca cb cc cd ce cf:FA} (h0:KR P ρ B (base+16*0) c0) (h1:KR P ρ B (base+16*1) c1) (h2:KR P ρ B (base+16*2) c2) (h3:KR P ρ B (base+16*3) c3) (h4:KR P ρ B (base+16*4) c4) (h5:KR P ρ B (base+16*5) c5) (h6:KR P ρ B (base+16*6) c6) (h7:KR P ρ B (base+16*7) c7) (h8:KR P ρ B (base+16*8) c8) (h9:KR P ρ B (base+16*9) c9) (h10:KR P ρ B (base+16*10) ca) (h11:KR P ρ B (base+16*11) cb) (h12:KR P ρ B (base+16*12) cc) (h13:KR P ρ B (base+16*13) cd) (h14:KR P ρ B (base+16*14) ce) (h15:KR P ρ B (base+16*15) cf):Q5 P ρ B base (.mk c0 c1 c2 c3 c4 c5 c6 c7 c8 c9 ca cb cc cd ce cf) := fun d => by
  cases d
  · exact h0
  · exact h1
  · exact h2
  · exact h3
  · exact h4
  · exact h5
  · exact h6
  · exact h7
  · exact h8
  · exact h9
  · exact h10
  · exact h11
  · exact h12
  · exact h13
  · exact h14
  · exact h15
def Ml:FA := .mk none none none none none none none none none none none none none none none none
def P2:FB := .mk Ml Ml Ml Ml Ml Ml Ml Ml Ml Ml Ml Ml Ml Ml Ml Ml
theorem Tg (d:D):FA.sel d Ml=none := by cases d <;> rfl
theorem Tv (d:D):FB.sel d P2=Ml := by cases d <;> rfl
theorem KJ {base:Nat}:KR P ρ B base Ml := fun d => by rw [Tg]; exact Dj.no
theorem Gi {base:Nat}:Q5 P ρ B base P2 := fun d => by rw [Tv]; exact KJ
theorem ofN_lt {x:Nat} {d:D} (h:D.ofN x=d) (hd:d ≠ .d15):x=d.toN := by
  rcases Nat.lt_or_ge x 15 with hx | hx
  · rw [←h, D.toN_ofN x (by omega)]
  · exfalso
    obtain ⟨y, rfl⟩:∃ y, x=y+15 := ⟨x - 15, by omega⟩
    exact hd h.symm
theorem YQ {c0 c1 c2 c3 c4 c5 c6 c7 c8 c9 ca cb cc cd ce:FB} (h0:Q5 P ρ B (256*0) c0) (h1:Q5 P ρ B (256*1) c1) (h2:Q5 P ρ B (256*2) c2) (h3:Q5 P ρ B (256*3) c3) (h4:Q5 P ρ B (256*4) c4) (h5:Q5 P ρ B (256*5) c5) (h6:Q5 P ρ B (256*6) c6) (h7:Q5 P ρ B (256*7) c7) (h8:Q5 P ρ B (256*8) c8) (h9:Q5 P ρ B (256*9) c9) (h10:Q5 P ρ B (256*10) ca) (h11:Q5 P ρ B (256*11) cb) (h12:Q5 P ρ B (256*12) cc) (h13:Q5 P ρ B (256*13) cd) (h14:Q5 P ρ B (256*14) ce):∀ f e, DB (DH f) (.mk c0 c1 c2 c3 c4 c5 c6 c7 c8 c9 ca cb cc cd ce P2)=some e->Om P ρ B f e := fun f e h => by
  have hc:(D.ofN (f % 16)).toN=f % 16 := D.toN_ofN _ (by omega)
  have hb:(D.ofN (f / 16 % 16)).toN=f / 16 % 16 := D.toN_ofN _ (by omega)
  have key:∀ x:FB, Q5 P ρ B (256*(f / 256)) x->FA.sel (D.ofN (f % 16)) (FB.sel (D.ofN (f / 16 % 16)) x)=some e->Om P ρ B f e := fun x hx hs => by
    have := hx (D.ofN (f / 16 % 16)) (D.ofN (f % 16)) e hs
    rw [hc, hb] at this
    have e1:256*(f / 256)+16*(f / 16 % 16)+f % 16=f := by omega
    rw [e1] at this; exact this
  have h:FA.sel (D.ofN (f % 16)) (FB.sel (D.ofN (f / 16 % 16)) (FC.sel (D.ofN (f / 256)) (.mk c0 c1 c2 c3 c4 c5 c6 c7 c8 c9 ca cb cc cd ce P2)))=some e := h
  generalize hd:D.ofN (f / 256)=d at h
  cases d
  · have := ofN_lt hd (by intro h; cases h); rw [show D.toN .d0=0 from rfl] at this; exact key c0 (by rw [this]; exact h0) h
  · have := ofN_lt hd (by intro h; cases h); rw [show D.toN .d1=1 from rfl] at this; exact key c1 (by rw [this]; exact h1) h
  · have := ofN_lt hd (by intro h; cases h); rw [show D.toN .d2=2 from rfl] at this; exact key c2 (by rw [this]; exact h2) h
  · have := ofN_lt hd (by intro h; cases h); rw [show D.toN .d3=3 from rfl] at this; exact key c3 (by rw [this]; exact h3) h
  · have := ofN_lt hd (by intro h; cases h); rw [show D.toN .d4=4 from rfl] at this; exact key c4 (by rw [this]; exact h4) h
  · have := ofN_lt hd (by intro h; cases h); rw [show D.toN .d5=5 from rfl] at this; exact key c5 (by rw [this]; exact h5) h
  · have := ofN_lt hd (by intro h; cases h); rw [show D.toN .d6=6 from rfl] at this; exact key c6 (by rw [this]; exact h6) h
  · have := ofN_lt hd (by intro h; cases h); rw [show D.toN .d7=7 from rfl] at this; exact key c7 (by rw [this]; exact h7) h
  · have := ofN_lt hd (by intro h; cases h); rw [show D.toN .d8=8 from rfl] at this; exact key c8 (by rw [this]; exact h8) h
  · have := ofN_lt hd (by intro h; cases h); rw [show D.toN .d9=9 from rfl] at this; exact key c9 (by rw [this]; exact h9) h
  · have := ofN_lt hd (by intro h; cases h); rw [show D.toN .d10=10 from rfl] at this; exact key ca (by rw [this]; exact h10) h
  · have := ofN_lt hd (by intro h; cases h); rw [show D.toN .d11=11 from rfl] at this; exact key cb (by rw [this]; exact h11) h
  · have := ofN_lt hd (by intro h; cases h); rw [show D.toN .d12=12 from rfl] at this; exact key cc (by rw [this]; exact h12) h
  · have := ofN_lt hd (by intro h; cases h); rw [show D.toN .d13=13 from rfl] at this; exact key cd (by rw [this]; exact h13) h
  · have := ofN_lt hd (by intro h; cases h); rw [show D.toN .d14=14 from rfl] at this; exact key ce (by rw [this]; exact h14) h
  · have h:FA.sel (D.ofN (f % 16)) (FB.sel (D.ofN (f / 16 % 16)) P2)=some e := h
    rw [Tv, Tg] at h; cases h
/-- The environment of a program in which some functions range over functions. -/
def Kr (P:Program) (fs:List Nat):Env := { v := fun _ => .bool true, ap := fun f => @Bool.rec (fun _ => Option ApC) none (NX P f) (fs.contains f) }
def Q1 (P:Program) (g:FuncId):Bool := match P.funcs[g]? with
  | some fn => fn.body.isSome && !(fn.name == "runtime.NumGoroutine")
  | none => false
theorem Sq {g:FuncId} (h:Q1 P g=true):Mz P g := by
  unfold Q1 at h
  split at h
  · rename_i fn hfn
    simp only [Bool.and_eq_true, Bool.not_eq_true'] at h
    obtain ⟨c, hc⟩ := Option.isSome_iff_exists.1 h.1
    exact ⟨fn, c, hfn, hc, h.2⟩
  · cases h
def Zb (P:Program) (f:FuncId):Option Rd := (NX P f).bind (Vt P)
theorem Gl.mk {fs:List Nat} {f:FuncId} {its:List Nat} {rd:Rd} (hf:fs.contains f=true) (h:Zb P f=some rd) (hb:its.all (Q1 P)=true):Gl P (Kr P fs) f (.ap f its rd) := by
  unfold Zb at h
  cases hA:NX P f with
  | none => rw [hA] at h; cases h
  | some A =>
    rw [hA] at h
    exact ⟨its, rd, A, rfl, by show @Bool.rec (fun _ => Option ApC) none (NX P f) (fs.contains f)=_; rw [hf]; exact hA, hA, h, fun g hg => Sq (List.all_eq_true.1 hb g hg)⟩
theorem Dj.apE {f:FuncId} {e:Ent} (h:Gl P ρ f e):Dj P ρ B f (some e) := fun e' h' => by cases h'; exact .inr (.inr (.inl h))
theorem M7.mk {fs:List Nat} {T:FC} (h:∀ f e, DB (DH f) T=some e->Om P (Kr P fs) B f e) (ha:∀ f∈fs, ∃ e, DB (DH f) T=some e∧Gl P (Kr P fs) f e):M7 P (Kr P fs) B T := by
  refine ⟨h, fun f A hA => ?_⟩
  have hA:@Bool.rec (fun _ => Option ApC) none (NX P f) (fs.contains f)=some A := hA
  cases hc:fs.contains f with
  | false => rw [hc] at hA; cases hA
  | true => exact ha f (List.contains_iff_mem.1 hc)
theorem YK {Q:Nat->Prop}:∀ f∈([]:List Nat), Q f := fun f h => by cases h
theorem T5 {Q:Nat->Prop} {x:Nat} {l:List Nat} (h:Q x) (k:∀ f∈l, Q f):∀ f∈x::l, Q f := fun f hf => by
  rcases List.mem_cons.1 hf with rfl | hf
  · exact h
  · exact k f hf
/-- A call that is evaluated to true, from values that the arguments tell of. -/
theorem LF (hρ:DK ρ) (hm:P.follows .mixedOrders=true) {T:FC} (hT:∀ B, M7 P ρ B T) {m:Nat} {f:FuncId} {fn:Func} {args:List V}
    (hf:P.funcs[f]? = some fn) (hb:fn.body.isSome=true) (hn:(fn.name == "runtime.NumGoroutine")=false) (hx:SU (CE T m (DH f) args Dd YI)=true) {xs:Array Value} (hr:E5 ρ (fun _ => none) args xs.toList) (w:World) (hgl:Xb ρ w := by intro b c e fr h; have h:(none:Option (Array Value×TypeId×(Nat×Nat)))=some (c, e, fr) := h; cases h) :
    Calls P f xs w fun e w' => e = .returned (.bool true)∧Below w.heap.size w w' := by
  obtain ⟨h1, n1, hx⟩ := VL hx
  obtain ⟨c, hc⟩ := Option.isSome_iff_exists.1 hb
  have := Kq (R := fun x w' => x = .bool true∧Below w.heap.size w w') hf hc (by simpa using hn) (fun o a K Q hK =>
    Wm (B := w.heap.size) hρ hm (hT _) m f args Dd YI _ h1 n1 hx (fun _ => none) w xs (TM w YI hgl) hr o a K Q fun x w' ⟨φ', f1, _, hr⟩ => hK x w' ⟨by simpa only [CD] using hr, QD f1⟩)
  refine this.mono fun e w' he => ?_
  cases e with
  | returned v => exact ⟨by rw [he.1], he.2⟩
  | _ => exact he.elim
end
end Go.Ev

namespace Go.Ev
set_option linter.unusedVariables false
open Go.RowKit
def MU:Rv := fun args h n =>
  P7 args fun v l => UR l (Gs v (.fail "") fun p => TI p h fun es bs c => Gm h n (.m es bs c) fun h n' => .rv (.map n) h n')
/-- It is maps.Clone: the function that it calls. -/
def SN (P:Program) (f:FuncId):Option FuncId :=
  match P.funcs[f]? with
  | some fn => match fn.body with
    | some (.seq (.region _ r0 false) (.seq (.seq (.region _ r1 false) (.cond (.tmp 4) _ .skip)) (.seq (.region _ r3 false) .ret))) =>
      match r0.toList, r1.toList, r3.toList, fn.results.toList with
      | [o1], [o2, o3], [o4, o5, o6, o7, o8], [.tmp s2] => match o1.op, o2.op, o3.op, o4.op, o5.op, o6.op, o7.op, o8.op with
        | .assign (.const c1), .move (.tmp s0), .binOp .eql t3 (.tmp s3) (.const (.map none)) _, .move (.tmp s0'), .makeInterface t5 (.tmp s5), .call ct, .typeAssert (.tmp s7) _ t7 false, .assign (.tmp s8) =>
          match ct.callee, ct.args.toList, P.underlying t5 with
          | .value (.func g), [.tmp s6], some (.map _ _) =>
            if (fn.name == "runtime.NumGoroutine")=false∧fn.ntmps=9∧s2=2∧s0=0∧s0'=0∧s3=3∧s5=5∧s6=6∧s7=7∧s8=8∧t3=t5∧t7=t5∧o1.dst=some 2∧o2.dst=some 3∧o3.dst=some 4∧o4.dst=some 5∧o5.dst=some 6∧o6.dst=some 7∧o7.dst=some 8∧o8.dst=some 2 ∧
              o1.guard=none∧o2.guard=none∧o3.guard=none∧o4.guard=none∧o5.guard=none∧o6.guard=none∧o7.guard=none∧o8.guard=none then some g else none
          | _, _, _ => none
        | _, _, _, _, _, _, _, _ => none
      | _, _, _, _ => none
    | _ => none
  | none => none
section
variable {P:Program} {ρ:Env} {B:Nat}
theorem Ry (w:World) (t k e:TypeId) (p:Option Nat) (h:P.underlying t=some (.map k e)):(binOp .eql t (.map p) (.map none)).run P w = .ok (.bool p.isNone) w := by
  have key:∀ d, (Op.equalIn (d+1) t (.map p) (.map none)).run P w = .ok p.isNone w := fun d => by cases p <;> simp [Op.equalIn, run_underlying h]
  simp only [binOp]
  simp [show Op.equal t (.map p) (.map none)=Op.equalIn (9999+1) t (.map p) (.map none) from rfl, key 9999]
theorem Ng (w:World) (t xT k e:TypeId) (v:Value) (h:P.underlying t=some (.map k e)):(Instr.typeAssert (.iface t v) xT t false).run P w = .ok v w := by
  simp [Instr.typeAssert, run_underlying h, go_sem, Result.andThen]
theorem U5 {w:World} {r:Nat} {es:Array MapEntry} {c:Nat} (t:TypeId) (hb:w.heap[r]? = some (.map es c)) :
    (Extern.MapsClone.clone #[.iface t (.map (some r))]).run P w = .ok (.iface t (.map (some w.heap.size))) (w.alloc (.map es c)) := by
  have e:Extern.MapsClone.clone #[.iface t (.map (some r))]=(getObj r >>= fun o => match o with
      | .map entries clock => (newObj (.map entries clock) >>= fun n => pure (.iface t (.map (some n))))
      | _ => stuck "maps.clone: a map expected") := rfl
  rw [e]
  have hg:(getObj r).run P w = .ok (.map es c) w := by simp [getObj, Sem.run, hb]
  simp [hg, Result.andThen, go_sem]
theorem W1 {f g:FuncId} (hc:SN P f=some g) (b:Bare P g Extern.MapsClone.clone):Sb P ρ B f MU := by
  intro args h n v h1 n1 hx φ w xs gm hr
  have hg:(MU args h n).good := by rw [hx]; trivial
  unfold MU at hx hg
  obtain ⟨m, l, rfl, q1⟩ := KS hg
  rw [q1] at hx hg
  obtain ⟨rfl, q2⟩ := Rq hg
  rw [q2] at hx hg
  rcases G6 hg with ⟨_, q3⟩ | ⟨p, rfl, q3⟩
  · rw [q3] at hg; exact hg.elim
  rw [q3, HV] at hx hg
  obtain ⟨es, bs, c, hp, q4⟩ := GZ hg
  rw [q4, JU] at hx hg
  obtain ⟨n', hn, q5⟩ := DC hg
  rw [q5] at hx
  cases hx
  obtain ⟨X, l0, hX, r0, hl0⟩ := CG.1 hr
  have hl0 := CM.1 hl0
  subst hl0
  obtain ⟨bk, s, tot, hφ, rfl⟩ := Ii r0
  obtain ⟨ents, k1, k2, k3⟩ := gm.obj p _ bk s tot hp hφ
  have hxe:xs = #[.map (some bk)] := by cases xs; simp at hX; rw [hX]
  subst hxe
  unfold SN at hc
  split at hc
  next fn hfn =>
    split at hc
    next i0 r0 i1 r1 cthen i3 r3 hbody =>
      split at hc
      next o1 o2 o3 o4 o5 o6 o7 o8 s2 e0 e1 e3 ers =>
        split at hc
        next c1 s0 t3 s3 t3' s0' t5 s5 ct s7 t7' t7 s8 p1 p2 p3 p4 p5 p6 p7 p8 =>
          split at hc
          next g' s6 kt et hcal hargs hu =>
            split at hc
            next hc' =>
              cases hc
              obtain ⟨hname, hnt, rfl, rfl, rfl, rfl, rfl, rfl, rfl, rfl, rfl, rfl, d1, d2, d3, d4, d5, d6, d7, d8, g1, g2, g3, g4, g5, g6, g7, g8⟩ := hc'
              have hres:fn.results = #[.tmp 2] := by cases hh:fn.results with | mk l => rw [hh] at ers; simp at ers; rw [ers]
              have hcargs:ct.args = #[.tmp 6] := by cases hh:ct.args with | mk l => rw [hh] at hargs; simp at hargs; rw [hargs]
              have e1':(callFunc f #[.map (some bk)]).run P w = .ok (.enter f #[.map (some bk)]) w := by
                have hname':fn.name ≠ "runtime.NumGoroutine" := by simpa using hname
                simp [callFunc, hfn, hname', hbody]
              intro o a K Q hK
              rw [e1']
              refine (callsIn_wide (n := 0)).1 (callsIn_of_wp_marks hfn hbody trivial ?_ rfl)
              rw [hnt]
              simp only [List.size_toArray, List.length_cons, List.length_nil, Nat.reduceAdd, Nat.reduceSub, Array.replicate_succ, Array.replicate_zero, List.push_toArray, List.append_toArray, List.nil_append, List.cons_append]
              refine wpIn_seq (wpIn_region_list ?_)
              rw [e0]
              refine wpListIn_plain g1 fun K1 hK1 => Eu (x := c1) (w' := w) (by simp [execOp, p1, Act.eval]) (hK1 _ _ ?_)
              refine wpListIn_nil ?_
              refine wpIn_seq (wpIn_seq (wpIn_region_list ?_))
              rw [e1, d1]
              refine wpListIn_plain g2 fun K2 hK2 => Eu (x := .map (some bk)) (w' := w) (by simp [execOp, p2, Act.eval, Act.put]) (hK2 _ _ ?_)
              rw [d2]
              refine wpListIn_plain g3 fun K3 hK3 => Eu (x := .bool false) (w' := w) (by simp [execOp, p3, Act.eval, Act.put, eqGuard, Ry w _ _ _ _ hu]) (hK3 _ _ ?_)
              rw [d3]
              refine wpListIn_nil (wpIn_cond_false (by simp [Act.eval, Act.put]) (wpIn_skip ?_))
              refine wpIn_seq (wpIn_region_list ?_)
              rw [e3]
              refine wpListIn_plain g4 fun K4 hK4 => Eu (x := .map (some bk)) (w' := w) (by simp [execOp, p4, Act.eval, Act.put]) (hK4 _ _ ?_)
              rw [d4]
              refine wpListIn_plain g5 fun K5 hK5 => Eu (x := .iface t7 (.map (some bk))) (w' := w) (by simp [execOp, p5, Act.eval, Act.put, Instr.makeInterface, run_underlying hu]) (hK5 _ _ ?_)
              rw [d5]
              refine wpListIn_plain g6 fun K6 hK6 => Eu (x := .iface t7 (.map (some w.heap.size))) (w' := w.alloc (.map ents c)) (by
                simp only [execOp, p6, resolve, hcal, hcargs, Deferred.ofValue, Act.eval, Act.put]
                have := b.run (U5 (P := P) t7 k1)
                simp [invoke, Act.eval, this]) (hK6 _ _ ?_)
              rw [d6]
              refine wpListIn_plain g7 fun K7 hK7 => Eu (x := .map (some w.heap.size)) (w' := w.alloc (.map ents c)) (by simp [execOp, p7, Act.eval, Act.put, Ng _ _ _ _ _ _ hu]) (hK7 _ _ ?_)
              rw [d7]
              refine wpListIn_plain g8 fun K8 hK8 => Eu (x := .map (some w.heap.size)) (w' := w.alloc (.map ents c)) (by simp [execOp, p8, Act.eval, Act.put]) (hK8 _ _ ?_)
              rw [d8]
              refine wpListIn_nil (wpIn_ret ?_)
              show LeavesInM Fence.wide 0 P fn _ _ [] .returning (w.alloc (.map ents c))
              unfold LeavesInM LeavesIn
              refine ⟨.map (some w.heap.size), by simp [results, hres, Act.put], ?_⟩
              refine hK _ _ ⟨H7 φ n (w.heap.size, 0, 0), Fr.alloc gm.at_n (by omega) (Nat.le_refl _) (by omega) _ _ 0, gm.alloc gm.at_n (by omega) (by omega) (.m es bs c) rfl _ 0 fun φ' hle w' hw' => ⟨ents, hw', Ok hle k2, k3⟩, ?_⟩
              simp only [CD]
              exact ⟨w.heap.size, 0, 0, Ez _ _ _, rfl⟩
            next => cases hc
          next => cases hc
        next => cases hc
      next => cases hc
    next => cases hc
  next => cases hc
end
end Go.Ev

namespace Go.Ev
set_option linter.unusedVariables false
theorem HA.setS_sel (d:D) (p:HA):HA.setS d p (HA.sel d p)=p := by cases d <;> cases p <;> rfl
theorem HB.setS_sel (d:D) (p:HB):HB.setS d p (HB.sel d p)=p := by cases d <;> cases p <;> rfl
theorem HC.setS_sel (d:D) (p:HC):HC.setS d p (HC.sel d p)=p := by cases d <;> cases p <;> rfl
theorem Heap.setS_sel (d:D) (p:Heap):Heap.setS d p (Heap.sel d p)=p := by cases d <;> cases p <;> rfl
theorem RZ (p:K4) (h:Heap):B0 p h (Ag p h)=h := by
  cases p
  simp only [Ag, B0, H6, Heap.setK_eq, HC.setK_eq, HB.setK_eq, HA.setK_eq, Heap.selK_eq, HC.selK_eq, HB.selK_eq, id, HA.setS_sel, HB.setS_sel, HC.setS_sel, Heap.setS_sel]
def QW (r:R) (κ:S->Heap->K4->R):R :=
  @R.rec (fun _ => R) (fun e t h n => @Ex.rec (fun _ => R) (κ t h n) (fun id => .ok (.exit id) t h n) (.ok .ret t h n) e) (Ey "") (fun w => .fail w) (fun _ _ a b => .both a b) r
abbrev RB := S->Heap->(Nat->S->R)->R->R
def JK (body:S->Heap->K4->R) (ih:Nat->S->Heap->K4->R) (k:Nat) (t:S) (h:Heap) (n:K4):R :=
  @Nat.rec (fun _ => R) (.fail "") (fun k _ => QW (body t h n) (ih k)) k
def PC (body:S->Heap->K4->R) (J:RB) (r:Nat):Nat->S->Heap->K4->R :=
  @Nat.rec (fun _ => Nat->S->Heap->K4->R) (fun k => Gw body k)
    (fun _ ih k t h n => J t h (fun j t' => br (Nat.ble j k) (Ah (Nat.sub k j) fun k => JK body ih k t' h n) (Gw body k t h n)) (JK body ih k t h n)) r
def L7 (body:S->Heap->K4->R) (J:RB):S->Heap->K4->R := PC body J 1000000 1000000000
def MR (body:S->Heap->K4->R) (J:RB):Prop :=
  ∀ t h κ κ0, J t h κ κ0=κ0 ∨ ∃ j t', J t h κ κ0=κ j t' ∧ ∀ k n, Gw body (j+k) t h n=Gw body k t' h n
theorem Gf (body:S->Heap->K4->R):∀ (k:Nat) (t:S) (h:Heap) (n:K4), Gw body k t h n=JK body (Gw body) k t h n
  | 0, _, _, _ => rfl
  | _+1, _, _, _ => rfl
theorem WL {body:S->Heap->K4->R} {J:RB} (H:MR body J):∀ (r k:Nat), PC body J r k=Gw body k := by
  intro r
  induction r with
  | zero => exact fun _ => rfl
  | succ r ih =>
    intro k
    funext t h n
    have e0:PC body J (r+1) k t h n=J t h (fun j t' => br (Nat.ble j k) (Ah (Nat.sub k j) fun k => JK body (PC body J r) k t' h n) (Gw body k t h n)) (JK body (PC body J r) k t h n) := rfl
    have ih:PC body J r=Gw body := funext ih
    rw [e0, ih]
    rcases H t h (fun j t' => br (Nat.ble j k) (Ah (Nat.sub k j) fun k => JK body (Gw body) k t' h n) (Gw body k t h n)) (JK body (Gw body) k t h n) with e | ⟨j, t', e, hj⟩
    · rw [e, ←Gf]
    · rw [e]
      cases hb:Nat.ble j k with
      | false => rfl
      | true =>
        have hb := Nat.le_of_ble_eq_true hb
        show Ah (Nat.sub k j) (fun k => JK body (Gw body) k t' h n)=_
        rw [A9, ←Gf, show Nat.sub k j=k - j from rfl, ←hj (k - j) n, show j+(k - j)=k by omega]
theorem LW {body:S->Heap->K4->R} {J:RB} (H:MR body J):EJ body=L7 body J := (WL H 1000000 1000000000).symm
def Fe:S->Heap->K4->R := fun t h n => g7 t fun z20 => g6 t fun z21 => DF z20 z21 fun z22 => Ed z22 (CH 2 (g5 t fun z23 => BM z23 fun z24 => CK 2 z24 fun z25 => Dc z25 h fun z26 => g2 t fun z27 => Dv z27 z20 fun z28 => NE z28 (.int .i64 64) fun z29 => Q7 (.sc .i) z26 z29 (.bool true) h fun h => .ok .nrm t h n) fun t h n => g7 t fun z2a => Dv z2a (.int .i64 1) fun z2b => w7 t z2b fun t => .ok .nrm t h n) <| .ok (.exit 1) t h n
def NU (v:V) (κ0:R) (κ:Nat->R):R :=
  @V.rec (fun _ => R) (fun _ => Unit) (fun k r => br (Ds k .i64) (κ r) κ0) (fun _ => κ0) (fun _ _ => κ0) (fun _ _ _ _ _ _ => κ0) (fun _ _ => κ0) (fun _ _ => κ0) (fun _ => κ0) (fun _ => κ0) (fun _ _ _ => κ0) (fun _ _ => κ0) (fun _ => κ0) () (fun _ _ _ _ => ()) v
def Xd (v:V) (κ0:R) (κ:K4->Nat->R):R :=
  @V.rec (fun _ => R) (fun _ => Unit) (fun _ _ => κ0) (fun _ => κ0) (fun p o => κ p o) (fun _ _ _ _ _ _ => κ0) (fun _ _ => κ0) (fun _ _ => κ0) (fun _ => κ0) (fun _ => κ0) (fun _ _ _ => κ0) (fun _ _ => κ0) (fun _ => κ0) () (fun _ _ _ _ => ()) v
def X5 (v:V) (κ0:R) (κ:K4->R):R :=
  @V.rec (fun _ => R) (fun _ => Unit) (fun _ _ => κ0) (fun _ => κ0) (fun _ _ => κ0) (fun _ _ _ _ _ _ => κ0) (fun _ _ => κ0) (fun _ _ => κ0) (fun _ => κ0) (fun p => κ p) (fun _ _ _ => κ0) (fun _ _ => κ0) (fun _ => κ0) () (fun _ _ _ _ => ()) v
def KP (v:V):Bool :=
  @V.rec (fun _ => Bool) (fun _ => Unit) (fun _ _ => false) (fun b => b) (fun _ _ => false) (fun _ _ _ _ _ _ => false) (fun _ _ => false) (fun _ _ => false) (fun _ => false) (fun _ => false) (fun _ _ _ => false) (fun _ _ => false) (fun _ => false) () (fun _ _ _ _ => ()) v
def YN (m:Nat):List V->R->(V->R)->R :=
  @Nat.rec (fun _ => List V->R->(V->R)->R) (fun xs κ0 k => @List.rec V (fun _ => R) κ0 (fun x _ _ => k x) xs)
    (fun _ ih xs κ0 k => @List.rec V (fun _ => R) κ0 (fun _ ys _ => ih ys κ0 k) xs) m
def TH (o:EM) (i:Nat) (κ0:R) (κ:V->R):R :=
  @Option.rec Ob (fun _ => R) κ0 (fun o => @Ob.rec (fun _ => R) (fun cs _ _ => @Cs.rec (fun _ => R) (fun xs => YN i xs κ0 κ) (fun _ _ => κ0) cs) (fun _ _ _ => κ0) (fun _ _ _ _ => κ0) κ0 (fun _ _ => κ0) o) o
def T7 (o:EM) (κ0:R) (κ:List (V×V)->List Nat->R):R :=
  @Option.rec Ob (fun _ => R) κ0 (fun o => @Ob.rec (fun _ => R) (fun _ _ _ => κ0) (fun es bs _ => κ es bs) (fun _ _ _ _ => κ0) κ0 (fun _ _ => κ0) o) o
/-- Is the key there, and true? -/
def R4 (k:Nat) (es:List (V×V)):Bool :=
  @List.rec (V×V) (fun _ => Bool) false (fun e _ ih => @Prod.rec V V (fun _ => Bool) (fun a b => @V.rec (fun _ => Bool) (fun _ => Unit) (fun kd r => br (Ds kd .i64) (br (Nat.beq k r) (KP b) ih) false) (fun _ => false) (fun _ _ => false) (fun _ _ _ _ _ _ => false) (fun _ _ => false) (fun _ _ => false) (fun _ => false) (fun _ => false) (fun _ _ _ => false) (fun _ _ => false) (fun _ => false) () (fun _ _ _ _ => ()) a) e) es
def PR:RB := fun t h κ κ0 => g7 t fun i => g6 t fun m => g2 t fun a => g5 t fun x =>
  NU i κ0 fun i0 => NU m κ0 fun m0 => NU a κ0 fun a0 => Xd x κ0 fun p off => Dz p h fun o => TH o (Nat.add off 2) κ0 fun u => X5 u κ0 fun q => Dz q h fun o => T7 o κ0 fun es bs =>
    br (Nat.ble m0 4611686018427387904) (br (Nat.ble a0 4611686018427387904) (br (Nat.ble i0 m0) (br (J0 es bs) (Ah (Nat.div (Nat.add a0 i0) 64) fun k => br (R4 k es)
      (Ah (Nat.sub m0 i0) fun j1 => Ah (Nat.sub (Nat.mul 64 (Nat.succ k)) (Nat.add a0 i0)) fun j2 => br (Nat.ble j1 j2) (Ah (Nat.add i0 j1) fun i => w7 t (.int .i64 i) fun t => κ j1 t) (Ah (Nat.add i0 j2) fun i => w7 t (.int .i64 i) fun t => κ j2 t))
      κ0) κ0) κ0) κ0) κ0
theorem Vj (v:V) (κ0:R) (κ:Nat->R):NU v κ0 κ=κ0 ∨ ∃ r, v = .int .i64 r∧NU v κ0 κ=κ r := by
  cases v with
  | int k r =>
    show br (Ds k .i64) (κ r) κ0=κ0 ∨ ∃ r', V.int k r = .int .i64 r'∧br (Ds k .i64) (κ r) κ0=κ r'
    cases hb:Ds k .i64 with
    | false => exact .inl rfl
    | true => exact .inr ⟨r, by rw [Db.1 hb], rfl⟩
  | _ => exact .inl rfl
theorem VW (v:V) (κ0:R) (κ:K4->Nat->R):Xd v κ0 κ=κ0 ∨ ∃ p o, v = .ptr p o∧Xd v κ0 κ=κ p o := by
  cases v with
  | ptr p o => exact .inr ⟨p, o, rfl, rfl⟩
  | _ => exact .inl rfl
theorem V8 (v:V) (κ0:R) (κ:K4->R):X5 v κ0 κ=κ0 ∨ ∃ p, v = .map p∧X5 v κ0 κ=κ p := by
  cases v with
  | map p => exact .inr ⟨p, rfl, rfl⟩
  | _ => exact .inl rfl
theorem Qv:∀ (m:Nat) (xs:List V) (κ0:R) (κ:V->R), YN m xs κ0 κ=κ0 ∨ ∃ v, xs[m]? = some v∧YN m xs κ0 κ=κ v
  | 0, [], _, _ => .inl rfl
  | 0, x::_, _, _ => .inr ⟨x, rfl, rfl⟩
  | m+1, [], _, _ => .inl rfl
  | m+1, x::xs, κ0, κ => Qv m xs κ0 κ
theorem Pn:∀ {m:Nat} {xs:List V} {v:V} {κ:V->R}, xs[m]? = some v->Gv m xs κ=κ v
  | 0, [], _, _, h => by cases h
  | 0, x::_, _, _, h => by cases h; rfl
  | m+1, [], _, _, h => by cases h
  | m+1, x::xs, v, κ, h => Pn (m := m) (xs := xs) h
theorem UN (o:EM) (i:Nat) (κ0:R) (κ:V->R):TH o i κ0 κ=κ0 ∨ ∃ xs sup prev v, o=some (.c (.l xs) sup prev)∧xs[i]? = some v∧TH o i κ0 κ=κ v := by
  cases o with
  | none => exact .inl rfl
  | some o => cases o with
    | c cs sup prev => cases cs with
      | l xs =>
        rcases Qv i xs κ0 κ with e | ⟨v, h, e⟩
        · exact .inl e
        · exact .inr ⟨xs, sup, prev, v, rfl, h, e⟩
      | b _ _ => exact .inl rfl
    | _ => exact .inl rfl
theorem UF (o:EM) (κ0:R) (κ:List (V×V)->List Nat->R):T7 o κ0 κ=κ0 ∨ ∃ es bs c, o=some (.m es bs c)∧T7 o κ0 κ=κ es bs := by
  cases o with
  | none => exact .inl rfl
  | some o => cases o with
    | m es bs c => exact .inr ⟨es, bs, c, rfl, rfl⟩
    | _ => exact .inl rfl
theorem N4 {v:V} (h:KP v=true):v = .bool true := by
  cases v with
  | bool b => rw [show b=true from h]
  | _ => cases h
theorem Tz {k:Nat}:∀ {es:List (V×V)} {κ:List (V×V)->R}, R4 k es=true->Hd (.sc .i) (.int .i64 k) (.bool true) es κ=κ es
  | [], κ, h => by cases h
  | (a, b)::es, κ, h => by
    cases a with
    | int kd r =>
      have h:br (Ds kd .i64) (br (Nat.beq k r) (KP b) (R4 k es)) false=true := h
      cases hk:Ds kd .i64 with
      | false => rw [hk] at h; cases h
      | true =>
        have hkd := Db.1 hk
        subst hkd
        have hx:br (Nat.beq k r) (KP b) (R4 k es)=true := h
        have e0:Hd (.sc .i) (.int .i64 k) (.bool true) ((.int .i64 r, b)::es) κ=Er (Nat.beq k r) fun q => br q (κ ((.int .i64 k, .bool true)::es)) (Hd (.sc .i) (.int .i64 k) (.bool true) es fun l => κ ((.int .i64 r, b)::l)) := rfl
        rw [e0, Dr]
        cases hb:Nat.beq k r with
        | true =>
          rw [hb] at hx
          rw [N4 (show KP b=true from hx), Nat.eq_of_beq_eq_true hb]; rfl
        | false =>
          rw [hb] at hx
          exact Tz (κ := fun l => κ ((.int .i64 r, b)::l)) (show R4 k es=true from hx)
    | _ => cases h
theorem QS {a b:Nat} {κ:V->R} (h:a<b) (hb:b≤4611686018427387904):DF (.int .i64 a) (.int .i64 b) κ=κ (.bool true) := by
  have e0:DF (.int .i64 a) (.int .i64 b) κ=Er (br (Nat.ble 9223372036854775808 a) (br (Nat.ble 9223372036854775808 b) (Nat.ble (Nat.succ a) b) true) (br (Nat.ble 9223372036854775808 b) false (Nat.ble (Nat.succ a) b))) fun r => κ (.bool r) := rfl
  have h1:Nat.ble 9223372036854775808 a=false := Bool.eq_false_iff.2 fun h => by have := Nat.le_of_ble_eq_true h; omega
  have h2:Nat.ble 9223372036854775808 b=false := Bool.eq_false_iff.2 fun h => by have := Nat.le_of_ble_eq_true h; omega
  have h3:Nat.ble (Nat.succ a) b=true := Nat.ble_eq_true_of_le h
  rw [e0, Dr, h1, h2, h3]; rfl
theorem LO {a b:Nat} {κ:V->R} (h:a+b<18446744073709551616):Dv (.int .i64 a) (.int .i64 b) κ=κ (.int .i64 (a+b)) := by
  have e0:Dv (.int .i64 a) (.int .i64 b) κ=Ah (Nat.mod (Nat.add a b) 18446744073709551616) fun r => κ (.int .i64 r) := rfl
  rw [e0, A9, show Nat.mod (Nat.add a b) 18446744073709551616=a+b from Nat.mod_eq_of_lt h]
theorem W6 {a:Nat} {κ:V->R} (h:a<9223372036854775808):NE (.int .i64 a) (.int .i64 64) κ=κ (.int .i64 (a / 64)) := by
  have e0:NE (.int .i64 a) (.int .i64 64) κ=br (Nat.ble (Nat.succ a) 9223372036854775808) (Ah (Nat.div a 64) fun r => κ (.int .i64 r)) (.fail "") := rfl
  rw [e0, show Nat.ble (Nat.succ a) 9223372036854775808=true from Nat.ble_eq_true_of_le h]
  show Ah (Nat.div a 64) (fun r => κ (V.int .i64 r))=κ (V.int .i64 (a / 64))
  rw [A9]; rfl
theorem HT {id:Nat} {t:S} {h:Heap} {n:K4} {κ:S->Heap->K4->R}:CH id (.ok .nrm t h n) κ=κ t h n := rfl
theorem Ab6 {p:K4} {off:Nat} {h:Heap} {xs:List V} {sup:Bool} {prev:Option K4} {v:V} {κ:V->R} (hp:Ag p h=some (.c (.l xs) sup prev)) (hv:xs[off]? = some v):Dc (.ptr p off) h κ=κ v := by
  show NN p h (fun cs _ _ => Ht cs off κ)=_
  rw [Gk]
  have e:(Kd p h fun cs _ _ => Ht cs off κ)=@Option.rec Ob (fun _ => R) (.fail "") (fun o => @Ob.rec (fun _ => R) (fun cs _ _ => Ht cs off κ) (Ey "") (HO "") (.fail "") (CN "") o) (Ag p h) := EI _ _ _
  rw [e, hp]
  exact Pn hv
theorem Z0 {q:K4} {h:Heap} {es:List (V×V)} {bs:List Nat} {c k:Nat} {κ:Heap->R} (hq:Ag q h=some (.m es bs c)) (hs:J0 es bs=true) (hh:R4 k es=true):Q7 (.sc .i) (.map q) (.int .i64 k) (.bool true) h κ=κ h := by
  show R7 q h (fun es bs c k' => Hd (.sc .i) (.int .i64 k) (.bool true) es fun es => UQ es bs c fun bs c => k' es bs c) κ=κ h
  rw [L5]
  have e:∀ F, Oh q h F=@Option.rec Ob (fun _ => R) (.fail "") (fun o => @Ob.rec (fun _ => R) (Ey "") F (HO "") (.fail "") (CN "") o) (Ag q h) := fun F => EI _ _ _
  rw [e, hq]
  show Hd (.sc .i) (.int .i64 k) (.bool true) es (fun es' => UQ es' bs c fun bs c => H6 q h (some (.m es' bs c)) κ)=κ h
  rw [Tz hh]
  unfold UQ
  rw [hs]
  show H6 q h (some (.m es bs c)) κ=κ h
  rw [Dm, ←hq, RZ]
theorem Ra {d0 d1 d3 d4:V} {c2 c3 c4 c5 c6 c7:SQ} {h:Heap} {n p q:K4} {off i0 m0 a0 c:Nat} {xs:List V} {sup:Bool} {prev:Option K4} {es:List (V×V)} {bs:List Nat}
    (hp:Ag p h=some (.c (.l xs) sup prev)) (hv:xs[off+2]? = some (.map q)) (hq:Ag q h=some (.m es bs c)) (hs:J0 es bs=true) (hm:m0≤4611686018427387904) (ha:a0≤4611686018427387904) (hi:i0<m0) (hh:R4 ((a0+i0) / 64) es=true) :
    Fe (.mk (.mk d0 d1 (.int .i64 a0) d3) (.mk d4 (.ptr p off) (.int .i64 m0) (.int .i64 i0)) c2 c3 c4 c5 c6 c7) h n = .ok .nrm (.mk (.mk d0 d1 (.int .i64 a0) d3) (.mk d4 (.ptr p off) (.int .i64 m0) (.int .i64 (i0+1))) c2 c3 c4 c5 c6 c7) h n := by
  have e1:∀ κ:V->R, BM (.ptr p off) κ=κ (.ptr p off) := fun κ => rfl
  have e2:∀ κ:V->R, CK 2 (.ptr p off) κ=κ (.ptr p (off+2)) := fun κ => by
    show Ah (Nat.add off 2) (fun o => κ (.ptr p o))=_
    rw [A9]
  unfold Fe
  show DF (.int .i64 i0) (.int .i64 m0) _=_
  rw [QS hi hm]
  show CH 2 (BM (.ptr p off) _) _=_
  rw [e1, e2, Ab6 hp hv]
  show CH 2 (Dv (.int .i64 a0) (.int .i64 i0) _) _=_
  rw [LO (by omega), W6 (by omega), Z0 hq hs hh, HT]
  show Dv (.int .i64 i0) (.int .i64 1) _=_
  rw [LO (by omega)]
theorem Lv {d0 d1 d3 d4:V} {c2 c3 c4 c5 c6 c7:SQ} {h:Heap} {n p q:K4} {off m0 a0 c k:Nat} {xs:List V} {sup:Bool} {prev:Option K4} {es:List (V×V)} {bs:List Nat}
    (hp:Ag p h=some (.c (.l xs) sup prev)) (hv:xs[off+2]? = some (.map q)) (hq:Ag q h=some (.m es bs c)) (hs:J0 es bs=true) (hm:m0≤4611686018427387904) (ha:a0≤4611686018427387904) (hh:R4 k es=true) :
    ∀ (j i0:Nat), i0+j≤m0->(∀ r, r<j->(a0+(i0+r)) / 64=k)->∀ K, Gw Fe (j+K) (.mk (.mk d0 d1 (.int .i64 a0) d3) (.mk d4 (.ptr p off) (.int .i64 m0) (.int .i64 i0)) c2 c3 c4 c5 c6 c7) h n
      = Gw Fe K (.mk (.mk d0 d1 (.int .i64 a0) d3) (.mk d4 (.ptr p off) (.int .i64 m0) (.int .i64 (i0+j))) c2 c3 c4 c5 c6 c7) h n
  | 0, i0, _, _, K => by rw [Nat.zero_add]; rfl
  | j+1, i0, hj, hr, K => by
    have h0 := hr 0 (by omega)
    rw [show j+1+K=(j+K)+1 by omega, Gf]
    show QW (Fe _ h n) (Gw Fe (j+K))=_
    rw [Ra hp hv hq hs hm ha (by omega) (by rw [show a0+i0=a0+(i0+0) by omega, h0]; exact hh)]
    show Gw Fe (j+K) _ h n=_
    rw [Lv hp hv hq hs hm ha hh j (i0+1) (by omega) (fun r hr' => by have := hr (r+1) (by omega); rw [←this]; congr 2; omega) K, show i0+1+j=i0+(j+1) by omega]
section
variable {G:R->Prop}
theorem HQ {v:V} {κ0:R} {κ:Nat->R} (g0:G κ0) (g1:∀ r, v = .int .i64 r->G (κ r)):G (NU v κ0 κ) := by
  rcases Vj v κ0 κ with e | ⟨r, h, e⟩ <;> rw [e]
  · exact g0
  · exact g1 r h
theorem Vm {v:V} {κ0:R} {κ:K4->Nat->R} (g0:G κ0) (g1:∀ p o, v = .ptr p o->G (κ p o)):G (Xd v κ0 κ) := by
  rcases VW v κ0 κ with e | ⟨p, o, h, e⟩ <;> rw [e]
  · exact g0
  · exact g1 p o h
theorem Vw {v:V} {κ0:R} {κ:K4->R} (g0:G κ0) (g1:∀ p, v = .map p->G (κ p)):G (X5 v κ0 κ) := by
  rcases V8 v κ0 κ with e | ⟨p, h, e⟩ <;> rw [e]
  · exact g0
  · exact g1 p h
theorem U2 {o:EM} {i:Nat} {κ0:R} {κ:V->R} (g0:G κ0) (g1:∀ xs sup prev v, o=some (.c (.l xs) sup prev)->xs[i]? = some v->G (κ v)):G (TH o i κ0 κ) := by
  rcases UN o i κ0 κ with e | ⟨xs, sup, prev, v, h, h', e⟩ <;> rw [e]
  · exact g0
  · exact g1 xs sup prev v h h'
theorem Uu {o:EM} {κ0:R} {κ:List (V×V)->List Nat->R} (g0:G κ0) (g1:∀ es bs c, o=some (.m es bs c)->G (κ es bs)):G (T7 o κ0 κ) := by
  rcases UF o κ0 κ with e | ⟨es, bs, c, h, e⟩ <;> rw [e]
  · exact g0
  · exact g1 es bs c h
theorem FP {b:Bool} {x y:R} (g0:G y) (g1:b=true->G x):G (br b x y) := by
  cases b with
  | false => exact g0
  | true => exact g1 rfl
theorem JR {p:K4} {h:Heap} {κ:EM->R} (g:G (κ (Ag p h))):G (Dz p h κ) := by rw [DI]; exact g
theorem Kz {m:Nat} {κ:Nat->R} (g:G (κ m)):G (Ah m κ) := by rw [A9]; exact g
end
theorem Sk:MR Fe PR := by
  intro t h κ κ0
  cases t with
  | mk c0 c1 c2 c3 c4 c5 c6 c7 =>
    cases c0 with
    | mk d0 d1 a d3 =>
      cases c1 with
      | mk d4 x m i =>
        obtain ⟨T, hT⟩:∃ T:S, T = .mk (.mk d0 d1 a d3) (.mk d4 x m i) c2 c3 c4 c5 c6 c7 := ⟨_, rfl⟩
        obtain ⟨G, hG⟩:∃ G:R->Prop, ∀ r, G r ↔ (r=κ0 ∨ ∃ j t', r=κ j t' ∧ ∀ k n, Gw Fe (j+k) T h n=Gw Fe k t' h n) := ⟨_, fun r => Iff.rfl⟩
        have g0:G κ0 := (hG _).2 (.inl rfl)
        rw [←hT]
        refine (hG _).1 ?_
        rw [hT]
        refine HQ (G := G) g0 fun i0 hi => HQ (G := G) g0 fun m0 hm => HQ (G := G) g0 fun a0 ha => Vm (G := G) g0 fun p off hx => JR (G := G) (U2 (G := G) g0 fun xs sup prev u hp hv => Vw (G := G) g0 fun q hu => ?_)
        subst hi hm ha hx hu
        refine JR (G := G) (Uu (G := G) g0 fun es bs c hq => FP (G := G) g0 fun b1 => FP (G := G) g0 fun b2 => FP (G := G) g0 fun b3 => FP (G := G) g0 fun b4 => Kz (G := G) (FP (G := G) g0 fun b5 => Kz (G := G) (Kz (G := G) ?_)))
        have b1 := Nat.le_of_ble_eq_true b1
        have b2 := Nat.le_of_ble_eq_true b2
        have b3 := Nat.le_of_ble_eq_true b3
        have e1:Nat.sub m0 i0=m0 - i0 := rfl
        have e2:Nat.sub (Nat.mul 64 (Nat.succ (Nat.div (Nat.add a0 i0) 64))) (Nat.add a0 i0)=64*((a0+i0) / 64+1) - (a0+i0) := rfl
        have e3:Nat.div (Nat.add a0 i0) 64=(a0+i0) / 64 := rfl
        rw [e1, e2]
        rw [e3] at b5
        have key:∀ j, j≤m0 - i0->j≤64*((a0+i0) / 64+1) - (a0+i0)->∀ K n, Gw Fe (j+K) (.mk (.mk d0 d1 (.int .i64 a0) d3) (.mk d4 (.ptr p off) (.int .i64 m0) (.int .i64 i0)) c2 c3 c4 c5 c6 c7) h n
            = Gw Fe K (.mk (.mk d0 d1 (.int .i64 a0) d3) (.mk d4 (.ptr p off) (.int .i64 m0) (.int .i64 (i0+j))) c2 c3 c4 c5 c6 c7) h n := fun j hj1 hj2 K n =>
          Lv hp hv hq b4 b1 b2 b5 j i0 (by omega) (fun r hr => by omega) K
        cases hb:Nat.ble (m0 - i0) (64*((a0+i0) / 64+1) - (a0+i0)) with
        | true =>
          rw [show ∀ x y:R, br true x y=x from fun _ _ => rfl, A9]
          refine (hG _).2 (.inr ⟨m0 - i0, _, rfl, fun K n => ?_⟩)
          rw [hT]
          exact key _ (Nat.le_refl _) (Nat.le_of_ble_eq_true hb) K n
        | false =>
          rw [show ∀ x y:R, br false x y=y from fun _ _ => rfl, A9]
          refine (hG _).2 (.inr ⟨64*((a0+i0) / 64+1) - (a0+i0), _, rfl, fun K n => ?_⟩)
          rw [hT]
          refine key _ ?_ (Nat.le_refl _) K n
          rcases Nat.lt_or_ge (64*((a0+i0) / 64+1) - (a0+i0)) (m0 - i0) with h' | h'
          · omega
          · rw [Nat.ble_eq_true_of_le h'] at hb; cases hb
theorem QI:EJ Fe=L7 Fe PR := LW Sk
def Ly:S->Heap->K4->R := fun t h n => g7 t fun ze => DF ze (.int .i64 8) fun zf => Ed zf (CH 3 (g3 t fun zg => IR zg (.int .u64 1) fun zh => Ox zg (.int .u32 1) fun zi => To zi fun zj => Ox (.int .u32 2197175160) zj fun zk => Ku zh zk fun zl => w3 t zl fun t => .ok .nrm t h n) fun t h n => g7 t fun zm => Dv zm (.int .i64 1) fun zn => w7 t zn fun t => .ok .nrm t h n) <| .ok (.exit 2) t h n
def Aa0 (v:V) (κ0:R) (κ:Nat->R):R :=
  @V.rec (fun _ => R) (fun _ => Unit) (fun k r => br (Ds k .u32) (κ r) κ0) (fun _ => κ0) (fun _ _ => κ0) (fun _ _ _ _ _ _ => κ0) (fun _ _ => κ0) (fun _ _ => κ0) (fun _ => κ0) (fun _ => κ0) (fun _ _ _ => κ0) (fun _ _ => κ0) (fun _ => κ0) () (fun _ _ _ _ => ()) v
def Lx (x:Nat):Nat := Nat.xor (Nat.shiftRight x 1) (Nat.land 2197175160 (Nat.mod (Nat.add 0 (Nat.sub 4294967296 (Nat.land x 1))) 4294967296))
def IN (j:Nat):Nat->Nat := @Nat.rec (fun _ => Nat->Nat) (fun x => x) (fun _ ih x => ih (Lx x)) j
theorem V3 {G:R->Prop} {v:V} {κ0:R} {κ:Nat->R} (g0:G κ0) (g1:∀ r, v = .int .u32 r->G (κ r)):G (Aa0 v κ0 κ) := by
  cases v with
  | int k r =>
    show G (br (Ds k .u32) (κ r) κ0)
    cases hb:Ds k .u32 with
    | false => exact g0
    | true => exact g1 r (by rw [Db.1 hb])
  | _ => exact g0
theorem SK {x:Nat} (h:x<4294967296):Lx x<4294967296 := by
  have h1:x >>> 1<2 ^ 32 := by rw [Nat.shiftRight_eq_div_pow]; omega
  have h2:2197175160 &&& ((0+(4294967296 - (x &&& 1))) % 4294967296)<2 ^ 32 := Nat.lt_of_le_of_lt Nat.and_le_left (by decide)
  exact Nat.xor_lt_two_pow h1 h2
theorem Ub {d0 d1 d2 d4 d5 d6:V} {c2 c3 c4 c5 c6 c7:SQ} {h:Heap} {n:K4} {i x:Nat} (hi:i<8) (hx:x<4294967296) :
    Ly (.mk (.mk d0 d1 d2 (.int .u32 x)) (.mk d4 d5 d6 (.int .i64 i)) c2 c3 c4 c5 c6 c7) h n = .ok .nrm (.mk (.mk d0 d1 d2 (.int .u32 (Lx x))) (.mk d4 d5 d6 (.int .i64 (i+1))) c2 c3 c4 c5 c6 c7) h n := by
  have e1:∀ κ:V->R, IR (.int .u32 x) (.int .u64 1) κ=κ (.int .u32 (Nat.shiftRight x 1)) := fun κ => by
    have e0:IR (.int .u32 x) (.int .u64 1) κ=br (Nat.ble (Nat.succ x) 4294967296) (Ah (Nat.shiftRight x 1) fun r => κ (.int .u32 r)) (.fail "") := rfl
    rw [e0, show Nat.ble (Nat.succ x) 4294967296=true from Nat.ble_eq_true_of_le hx]
    show Ah (Nat.shiftRight x 1) (fun r => κ (V.int .u32 r))=_
    rw [A9]
  have e2:∀ (a b:Nat) (κ:V->R), Ox (.int .u32 a) (.int .u32 b) κ=κ (.int .u32 (Nat.land a b)) := fun a b κ => by
    have e0:Ox (.int .u32 a) (.int .u32 b) κ=Ah (Nat.land a b) fun r => κ (.int .u32 r) := rfl
    rw [e0, A9]
  have e3:∀ (a b:Nat) (κ:V->R), Ku (.int .u32 a) (.int .u32 b) κ=κ (.int .u32 (Nat.xor a b)) := fun a b κ => by
    have e0:Ku (.int .u32 a) (.int .u32 b) κ=Ah (Nat.xor a b) fun r => κ (.int .u32 r) := rfl
    rw [e0, A9]
  have e4:∀ (a:Nat) (κ:V->R), To (.int .u32 a) κ=κ (.int .u32 (Nat.mod (Nat.add 0 (Nat.sub 4294967296 a)) 4294967296)) := fun a κ => by
    have e0:To (.int .u32 a) κ=Ah (Nat.mod (Nat.add 0 (Nat.sub 4294967296 a)) 4294967296) fun r => κ (.int .u32 r) := rfl
    rw [e0, A9]
  unfold Ly
  show DF (.int .i64 i) (.int .i64 8) _=_
  rw [QS hi (by omega)]
  show CH 3 (IR (.int .u32 x) (.int .u64 1) _) _=_
  rw [e1, e2, e4, e2, e3, HT]
  show Dv (.int .i64 i) (.int .i64 1) _=_
  rw [LO (by omega)]; rfl
theorem NL {d0 d1 d2 d4 d5 d6:V} {c2 c3 c4 c5 c6 c7:SQ} {h:Heap} {n:K4} :
    ∀ (j i x:Nat), i+j≤8->x<4294967296->∀ K, Gw Ly (j+K) (.mk (.mk d0 d1 d2 (.int .u32 x)) (.mk d4 d5 d6 (.int .i64 i)) c2 c3 c4 c5 c6 c7) h n
      = Gw Ly K (.mk (.mk d0 d1 d2 (.int .u32 (IN j x))) (.mk d4 d5 d6 (.int .i64 (i+j))) c2 c3 c4 c5 c6 c7) h n
  | 0, i, x, _, _, K => by rw [Nat.zero_add]; rfl
  | j+1, i, x, hj, hx, K => by
    rw [show j+1+K=(j+K)+1 by omega, Gf]
    show QW (Ly _ h n) (Gw Ly (j+K))=_
    rw [Ub (by omega) hx]
    show Gw Ly (j+K) _ h n=_
    rw [NL j (i+1) (Lx x) (by omega) (SK hx) K, show i+1+j=i+(j+1) by omega]; rfl
end Go.Ev

namespace Go.Ev
set_option linter.unusedVariables false
theorem My (x:Nat):Lx x=(x >>> 1) ^^^ (if x % 2=1 then 2197175160 else 0) := by
  show (x >>> 1) ^^^ (2197175160 &&& ((0+(4294967296 - (x &&& 1))) % 4294967296))=_
  rw [Nat.and_one_is_mod]
  rcases Nat.mod_two_eq_zero_or_one x with h | h <;> rw [h] <;> rfl
theorem VF (a b:Nat):Lx (a ^^^ b)=Lx a ^^^ Lx b := by
  rw [My, My, My, Nat.shiftRight_xor_distrib]
  have h:(a ^^^ b) % 2=(a+b) % 2 := by
    have e := Nat.xor_mod_two_pow (a := a) (b := b) (n := 1)
    rw [Nat.pow_one] at e
    rw [e]
    rcases Nat.mod_two_eq_zero_or_one a with ha | ha <;> rcases Nat.mod_two_eq_zero_or_one b with hb | hb <;> rw [ha, hb, Nat.add_mod, ha, hb] <;> rfl
  rcases Nat.mod_two_eq_zero_or_one a with ha | ha <;> rcases Nat.mod_two_eq_zero_or_one b with hb | hb
  · have:(a ^^^ b) % 2=0 := by omega
    simp [ha, hb, this]
  · have:(a ^^^ b) % 2=1 := by omega
    simp [ha, hb, this, Nat.xor_assoc]
  · have:(a ^^^ b) % 2=1 := by omega
    simp only [ha, hb, this, if_true, if_false, Nat.xor_zero, reduceIte, Nat.zero_ne_one]
    simp only [Nat.xor_assoc, Nat.xor_comm (b >>> 1)]
  · have:(a ^^^ b) % 2=0 := by omega
    simp only [ha, hb, this, reduceIte, Nat.xor_zero, Nat.zero_ne_one]
    generalize a >>> 1=p
    generalize b >>> 1=q
    apply Nat.eq_of_testBit_eq
    intro i
    simp only [Nat.testBit_xor]
    cases p.testBit i <;> cases q.testBit i <;> cases (2197175160:Nat).testBit i <;> rfl
theorem RC:∀ (j a b:Nat), IN j (a ^^^ b)=IN j a ^^^ IN j b
  | 0, _, _ => rfl
  | j+1, a, b => by
    show IN j (Lx (a ^^^ b))=IN j (Lx a) ^^^ IN j (Lx b)
    rw [VF, RC]
theorem TT (m:Nat):Lx (2*m)=m := by
  rw [My, Nat.mul_mod_right, Nat.shiftRight_eq_div_pow]; simp
theorem QE:∀ (j q:Nat), IN j (2 ^ j*q)=q
  | 0, q => by show 2 ^ 0*q=q; omega
  | j+1, q => by
    show IN j (Lx (2 ^ (j+1)*q))=q
    rw [show 2 ^ (j+1)*q=2*(2 ^ j*q) by rw [Nat.pow_succ, Nat.mul_comm (2 ^ j) 2, Nat.mul_assoc], TT, QE]
theorem Uw (y:Nat):y=(2 ^ 8*(y / 2 ^ 8)) ^^^ (y % 2 ^ 8) := by
  apply Nat.eq_of_testBit_eq
  intro i
  rw [Nat.testBit_xor, Nat.testBit_two_pow_mul, Nat.testBit_mod_two_pow, Nat.testBit_div_two_pow]
  by_cases h:8≤i
  · have h2:¬ i<8 := by omega
    simp [h, h2, show i - 8+8=i by omega]
  · have h2:i<8 := by omega
    simp [h, h2]
theorem Mu:∀ (j:Nat) {x:Nat}, x<4294967296->IN j x<4294967296
  | 0, _, h => h
  | j+1, x, h => by show IN j (Lx x)<_; exact Mu j (SK h)
def PO:Nat := 739192992287711479272199505450802174180944935565270117958735211195864883404034321072575759094604862722103638970562105654534965976895685875045062592379112792078985738769595739548904202597956689934399229134939183684703714920378025961387270778473281346239181994539903784708069763525514523240966634758967547723819948093640238732618841930738396489733218495472825776362786651876001733504161834172818020394346043168775838788836904094212573134772649703407841545716218812283123984658267516726659948613643534969466376019494666614718815429190684246327365394372519258139400530706807260825564948901732507176286259752944669944548605679086391305931301222988237278526118373278492307487107474296386730408839343753629123128283572704772544098648517013212824233746728729854273945055038163572363387039908578405517982904131040319505009390255243990278860523606265815895619710957563380635837315129012976704357344131429050367435482781212454439427280336740616644805562249867251859340971513883299426874200217165290071196282711253218164865174241416073419876796213293517950780480733835793334181716730049909888366296838117288969681076010175182486226749959458237712061794030512295298309798453151350168298336411933176330063767835252143862258384197256040876755067274410026075604127347481305827849130625987059819492849891529288490451730106428376839488665315100810248841715739596040091270955624355315201462555945279029196416991040143682248153287045556144390819759753283690710943841433520922330785319143598322120010359670046292912296136999474302691355293324886616216537430761212949134977443278613456733727644009057088654822989287437792990360527449046917776586498554113667460252688333953726837853077886002223252717428049737186417130969568838070377296274375688487884511950345697105344492065413654582468965021167618282726469469929715764674333614324035309623813703284835732759643444816186743644084768553800456975483023122915759126937036001171360984116527371042249105866775992680472790331893395027602898497596949565462107432141452181910127216554936352241472142685417685618824675396402282974391037184848625305334079832924861339728594832024687877422901193159812755254516361032103358958860399075665489958680801135040793967932263797765198140728704255468134266160630916650637156666977854355604551105352627939572551570066195951258251545213658746024110892771407706843609824354401912642345941057507434795836161327506684973593222243082074173577446865175872619707633030268690896528048779238513612740446475572226293760
abbrev LJ (y:Nat):Nat := Nat.xor (Nat.shiftRight y 8) (Nat.land (Nat.shiftRight PO (Nat.mul 32 (Nat.land y 255))) 4294967295)
theorem Xh:Yw (fun b => Nat.beq (IN 8 b) (Nat.land (Nat.shiftRight PO (Nat.mul 32 b)) 4294967295)) 256=true := by kernel_rfl
theorem Lr (y:Nat):LJ y=IN 8 y := by
  have h255:Nat.land y 255=y % 2 ^ 8 := Nat.and_two_pow_sub_one_eq_mod y 8
  have hb:y % 2 ^ 8<256 := Nat.mod_lt _ (by decide)
  have key:IN 8 (y % 2 ^ 8)=Nat.land (Nat.shiftRight PO (Nat.mul 32 (y % 2 ^ 8))) 4294967295 := Nat.eq_of_beq_eq_true (Xj Xh _ hb)
  have e:IN 8 y=IN 8 (2 ^ 8*(y / 2 ^ 8)) ^^^ IN 8 (y % 2 ^ 8) := by rw [←RC, ←Uw]
  rw [e, QE, key]
  show Nat.xor (Nat.shiftRight y 8) (Nat.land (Nat.shiftRight PO (Nat.mul 32 (Nat.land y 255))) 4294967295)=_
  rw [h255]
  show (y >>> 8) ^^^ _=_
  rw [Nat.shiftRight_eq_div_pow]
theorem Ab1 {a b:Nat} {κ:V->R} (h:b≤a) (ha:a≤4611686018427387904):DF (.int .i64 a) (.int .i64 b) κ=κ (.bool false) := by
  have e0:DF (.int .i64 a) (.int .i64 b) κ=Er (br (Nat.ble 9223372036854775808 a) (br (Nat.ble 9223372036854775808 b) (Nat.ble (Nat.succ a) b) true) (br (Nat.ble 9223372036854775808 b) false (Nat.ble (Nat.succ a) b))) fun r => κ (.bool r) := rfl
  have h1:Nat.ble 9223372036854775808 a=false := Bool.eq_false_iff.2 fun h => by have := Nat.le_of_ble_eq_true h; omega
  have h2:Nat.ble 9223372036854775808 b=false := Bool.eq_false_iff.2 fun h => by have := Nat.le_of_ble_eq_true h; omega
  have h3:Nat.ble (Nat.succ a) b=false := Bool.eq_false_iff.2 fun h => by have := Nat.le_of_ble_eq_true h; omega
  rw [e0, Dr, h1, h2, h3]; rfl
theorem VR {p:K4} {off len cap esz i:Nat} {ex:Bool} {κ:V->R} (h:i<len) (hi:i<9223372036854775808):Ei esz (.sl p off len cap ex esz) (.int .i64 i) κ=κ (.ptr p (off+i*esz)) := by
  have e0:Ei esz (.sl p off len cap ex esz) (.int .i64 i) κ=br (Nat.ble (Nat.succ i) 9223372036854775808) (br (Nat.beq esz esz) (br (Nat.ble (Nat.succ i) len) (Ah (Nat.add off (Nat.mul i esz)) fun o => κ (.ptr p o)) (.fail "")) (.fail "")) (.fail "") := rfl
  rw [e0, show Nat.ble (Nat.succ i) 9223372036854775808=true from Nat.ble_eq_true_of_le hi, show Nat.ble (Nat.succ i) len=true from Nat.ble_eq_true_of_le h, show Nat.beq esz esz=true from Nat.beq_refl _]
  show Ah (Nat.add off (Nat.mul i esz)) (fun o => κ (.ptr p o))=_
  rw [A9]; rfl
theorem Vu {p:K4} {off m c:Nat} {h:Heap} {sup:Bool} {prev:Option K4} {κ:V->R} (hp:Ag p h=some (.c (.b m c) sup prev)) (hv:off<m):Dc (.ptr p off) h κ=κ (.int .u8 (lo (sh c off) 1)) := by
  show NN p h (fun cs _ _ => Ht cs off κ)=_
  rw [Gk]
  have e:(Kd p h fun cs _ _ => Ht cs off κ)=@Option.rec Ob (fun _ => R) (.fail "") (fun o => @Ob.rec (fun _ => R) (fun cs _ _ => Ht cs off κ) (Ey "") (HO "") (.fail "") (CN "") o) (Ag p h) := EI _ _ _
  rw [e, hp]
  show br (Nat.ble (Nat.succ off) m) (Ah (lo (sh c off) 1) fun r => κ (.int .u8 r)) (.fail "")=_
  rw [show Nat.ble (Nat.succ off) m=true from Nat.ble_eq_true_of_le hv]
  show Ah (lo (sh c off) 1) (fun r => κ (V.int .u8 r))=_
  rw [A9]
theorem Lw (c:Nat):lo c 1<256 := by rw [FX]; exact Nat.mod_lt _ (by decide)
theorem PI (c a:Nat):sh (sh c a) 1=sh c (a+1) := by
  rw [GA, GA, GA, Nat.div_div_eq_div_mul, ←Nat.pow_add]
def slE (v:V) (κ0:R) (κ:K4->Nat->Nat->Nat->R):R :=
  @V.rec (fun _ => R) (fun _ => Unit) (fun _ _ => κ0) (fun _ => κ0) (fun _ _ => κ0) (fun p off len _ _ esz => κ p off len esz) (fun _ _ => κ0) (fun _ _ => κ0) (fun _ => κ0) (fun _ => κ0) (fun _ _ _ => κ0) (fun _ _ => κ0) (fun _ => κ0) () (fun _ _ _ _ => ()) v
theorem SP {G:R->Prop} {v:V} {κ0:R} {κ:K4->Nat->Nat->Nat->R} (g0:G κ0) (g1:∀ p off len cap ex esz, v = .sl p off len cap ex esz->G (κ p off len esz)):G (slE v κ0 κ) := by
  cases v with
  | sl p off len cap ex esz => exact g1 p off len cap ex esz rfl
  | _ => exact g0
def XY (o:EM) (κ0:R) (κ:Nat->Nat->R):R :=
  @Option.rec Ob (fun _ => R) κ0 (fun o => @Ob.rec (fun _ => R) (fun cs _ _ => @Cs.rec (fun _ => R) (fun _ => κ0) κ cs) (fun _ _ _ => κ0) (fun _ _ _ _ => κ0) κ0 (fun _ _ => κ0) o) o
theorem QK {G:R->Prop} {o:EM} {κ0:R} {κ:Nat->Nat->R} (g0:G κ0) (g1:∀ n c sup prev, o=some (.c (.b n c) sup prev)->G (κ n c)):G (XY o κ0 κ) := by
  cases o with
  | none => exact g0
  | some o => cases o with
    | c cs sup prev => cases cs with
      | l xs => exact g0
      | b n c => exact g1 n c sup prev rfl
    | _ => exact g0
def Aah (v:V) (κ0:R) (κ:Nat->R):R :=
  @V.rec (fun _ => R) (fun _ => Unit) (fun k r => br (Ds k .u64) (κ r) κ0) (fun _ => κ0) (fun _ _ => κ0) (fun _ _ _ _ _ _ => κ0) (fun _ _ => κ0) (fun _ _ => κ0) (fun _ => κ0) (fun _ => κ0) (fun _ _ _ => κ0) (fun _ _ => κ0) (fun _ => κ0) () (fun _ _ _ _ => ()) v
theorem VB {G:R->Prop} {v:V} {κ0:R} {κ:Nat->R} (g0:G κ0) (g1:∀ r, v = .int .u64 r->G (κ r)):G (Aah v κ0 κ) := by
  cases v with
  | int k r =>
    show G (br (Ds k .u64) (κ r) κ0)
    cases hb:Ds k .u64 with
    | false => exact g0
    | true => exact g1 r (by rw [Db.1 hb])
  | _ => exact g0
def FI:S->Heap->K4->R := fun t h n => g6 t fun z5 => g5 t fun z6 => DF z5 z6 fun z7 => Ed z7 (CH 1 (g4 t fun z8 => Ei 1 z8 z5 fun z9 => Dc z9 h fun za => g3 t fun zb => F5 .u32 za fun zc => Ku zb zc fun zd => CH 2 (w3 t zd fun t => w7 t (.int .i64 0) fun t => EJ Ly t h n) fun t h n => .ok .nrm t h n) fun t h n => g6 t fun zo => Dv zo (.int .i64 1) fun zp => w6 t zp fun t => .ok .nrm t h n) <| .ok (.exit 0) t h n
def Kh (j:Nat):Nat->Nat->Nat := @Nat.rec (fun _ => Nat->Nat->Nat) (fun _ x => x) (fun _ ih d x => ih (sh d 1) (LJ (Nat.xor x (lo d 1)))) j
def Yh (j:Nat):Nat->Nat->(Nat->R)->R := @Nat.rec (fun _ => Nat->Nat->(Nat->R)->R) (fun _ x κ => κ x) (fun _ ih d x κ => Ah (Nat.xor x (lo d 1)) fun y => Ah (LJ y) fun x => Ah (sh d 1) fun d => ih d x κ) j
theorem T0:∀ (j d x:Nat) (κ:Nat->R), Yh j d x κ=κ (Kh j d x)
  | 0, _, _, _ => rfl
  | j+1, d, x, κ => by
    show Ah (Nat.xor x (lo d 1)) (fun y => Ah (LJ y) fun x => Ah (sh d 1) fun d => Yh j d x κ)=κ (Kh j (sh d 1) (LJ (Nat.xor x (lo d 1))))
    rw [A9, A9, A9, T0]
theorem XP (d j:Nat):lo (lo d (j+1)) 1=lo d 1 := by
  rw [FX, FX, FX, Nat.pow_succ, Nat.mod_mul_left_mod]
theorem XM (d j:Nat):sh (lo d (j+1)) 1=lo (sh d 1) j := by
  rw [FX, FX, GA, GA, Nat.pow_succ, Nat.pow_one, Nat.mul_comm, Nat.mod_mul_right_div_self]
theorem PX:∀ (j d x:Nat), Kh j (lo d j) x=Kh j d x
  | 0, _, _ => rfl
  | j+1, d, x => by
    show Kh j (sh (lo d (j+1)) 1) (LJ (Nat.xor x (lo (lo d (j+1)) 1)))=Kh j (sh d 1) (LJ (Nat.xor x (lo d 1)))
    rw [XP, XM, PX]
def Th:RB := fun t h κ κ0 => g6 t fun i => g5 t fun m => g4 t fun s => g3 t fun x => NU i κ0 fun i0 => NU m κ0 fun m0 => slE s κ0 fun p off len esz => Aa0 x κ0 fun x0 => Dz p h fun o => XY o κ0 fun nb c =>
  br (Nat.ble (Nat.succ i0) m0) (br (Nat.ble m0 len) (br (Nat.ble (Nat.add off len) nb) (br (Nat.beq esz 1) (br (Nat.ble (Nat.succ x0) 4294967296) (br (Nat.ble m0 4611686018427387904)
    (Ah (Nat.sub m0 i0) fun j => Ah (lo (sh c (Nat.add off i0)) j) fun d => Yh j d x0 fun x => w3 t (.int .u32 x) fun t => w6 t (.int .i64 m0) fun t => w7 t (.int .i64 8) fun t => κ j t) κ0) κ0) κ0) κ0) κ0) κ0
theorem VJ (body:S->Heap->K4->R) (k:Nat) (t:S) (h:Heap) (n:K4):Gw body (k+1) t h n=QW (body t h n) (Gw body k) := Gf body (k+1) t h n
theorem M3 {id:Nat} {t:S} {h:Heap} {n:K4} {κ:S->Heap->K4->R}:CH id (.ok (.exit id) t h n) κ=κ t h n := by
  show br (Nat.beq id id) (κ t h n) (.ok (.exit id) t h n)=κ t h n
  rw [Nat.beq_refl]; rfl
theorem Od {d0 d1 d2 d4 d5 d6:V} {c2 c3 c4 c5 c6 c7:SQ} {h:Heap} {n:K4} {x:Nat} (hx:x<4294967296) :
    EJ Ly (.mk (.mk d0 d1 d2 (.int .u32 x)) (.mk d4 d5 d6 (.int .i64 0)) c2 c3 c4 c5 c6 c7) h n = .ok (.exit 2) (.mk (.mk d0 d1 d2 (.int .u32 (IN 8 x))) (.mk d4 d5 d6 (.int .i64 8)) c2 c3 c4 c5 c6 c7) h n := by
  show Gw Ly 1000000000 _ _ _=_
  rw [show (1000000000:Nat)=8+(999999991+1) from rfl, NL 8 0 x (by omega) hx, VJ]
  have e:Ly (.mk (.mk d0 d1 d2 (.int .u32 (IN 8 x))) (.mk d4 d5 d6 (.int .i64 (0+8))) c2 c3 c4 c5 c6 c7) h n = .ok (.exit 2) (.mk (.mk d0 d1 d2 (.int .u32 (IN 8 x))) (.mk d4 d5 d6 (.int .i64 (0+8))) c2 c3 c4 c5 c6 c7) h n := by
    unfold Ly
    show DF (.int .i64 (0+8)) (.int .i64 8) _=_
    rw [Ab1 (by omega) (by omega)]; rfl
  rw [e]; rfl
theorem SE {k:IntKind} {r:Nat} {κ:V->R} (h:r<256) (hk:256≤Mk k):F5 k (.int .u8 r) κ=κ (.int k r) := by
  have e0:F5 k (.int .u8 r) κ=br (Nat.ble (Nat.succ r) 256) (Ah (Nat.mod r (Mk k)) fun r => κ (.int k r)) (br (Nat.ble (Mk k) 256) (Ah (Nat.mod r (Mk k)) fun r => κ (.int k r)) (Ah (Nat.sub (Mk k) (Nat.sub 256 r)) fun r => κ (.int k r))) := rfl
  rw [e0, show Nat.ble (Nat.succ r) 256=true from Nat.ble_eq_true_of_le h]
  show Ah (Nat.mod r (Mk k)) (fun r => κ (V.int k r))=_
  rw [A9, show Nat.mod r (Mk k)=r from Nat.mod_eq_of_lt (by omega)]
theorem MX {d0 d1 d2 d7:V} {c2 c3 c4 c5 c6 c7:SQ} {h:Heap} {n p:K4} {off len cap m i x nb c:Nat} {ex sup:Bool} {prev:Option K4}
    (hp:Ag p h=some (.c (.b nb c) sup prev)) (hi:i<m) (hm:m≤len) (hl:off+len≤nb) (hb:m≤4611686018427387904) (hx:x<4294967296) :
    FI (.mk (.mk d0 d1 d2 (.int .u32 x)) (.mk (.sl p off len cap ex 1) (.int .i64 m) (.int .i64 i) d7) c2 c3 c4 c5 c6 c7) h n
      = .ok .nrm (.mk (.mk d0 d1 d2 (.int .u32 (LJ (Nat.xor x (lo (sh c (off+i)) 1))))) (.mk (.sl p off len cap ex 1) (.int .i64 m) (.int .i64 (i+1)) (.int .i64 8)) c2 c3 c4 c5 c6 c7) h n := by
  unfold FI
  show DF (.int .i64 i) (.int .i64 m) _=_
  rw [QS hi hb]
  show CH 1 (Ei 1 (.sl p off len cap ex 1) (.int .i64 i) _) _=_
  rw [VR (by omega) (by omega), Vu hp (by omega)]
  show CH 1 (F5 .u32 (.int .u8 (lo (sh c (off+i*1)) 1)) _) _=_
  rw [SE (Lw _) (by decide), Nat.mul_one]
  have e3:∀ (a b:Nat) (κ:V->R), Ku (.int .u32 a) (.int .u32 b) κ=κ (.int .u32 (Nat.xor a b)) := fun a b κ => by
    have e0:Ku (.int .u32 a) (.int .u32 b) κ=Ah (Nat.xor a b) fun r => κ (.int .u32 r) := rfl
    rw [e0, A9]
  rw [e3]
  have hx2:Nat.xor x (lo (sh c (off+i)) 1)<4294967296 := Nat.xor_lt_two_pow (n := 32) hx (Nat.lt_trans (Lw _) (by decide))
  rw [Lr]
  generalize Nat.xor x (lo (sh c (off+i)) 1)=y at hx2
  show CH 1 (CH 2 (EJ Ly (.mk (.mk d0 d1 d2 (.int .u32 y)) (.mk (.sl p off len cap ex 1) (.int .i64 m) (.int .i64 i) (.int .i64 0)) c2 c3 c4 c5 c6 c7) h n) _) _=_
  rw [Od hx2, M3, HT]
  show Dv (.int .i64 i) (.int .i64 1) _=_
  rw [LO (by omega)]
theorem Jp {d0 d1 d2:V} {c2 c3 c4 c5 c6 c7:SQ} {h:Heap} {n p:K4} {off len cap m nb c:Nat} {ex sup:Bool} {prev:Option K4}
    (hp:Ag p h=some (.c (.b nb c) sup prev)) (hm:m≤len) (hl:off+len≤nb) (hb:m≤4611686018427387904) :
    ∀ (j i x:Nat) (d7:V), i+(j+1)≤m->x<4294967296->∀ K, Gw FI (j+1+K) (.mk (.mk d0 d1 d2 (.int .u32 x)) (.mk (.sl p off len cap ex 1) (.int .i64 m) (.int .i64 i) d7) c2 c3 c4 c5 c6 c7) h n
      = Gw FI K (.mk (.mk d0 d1 d2 (.int .u32 (Kh (j+1) (sh c (off+i)) x))) (.mk (.sl p off len cap ex 1) (.int .i64 m) (.int .i64 (i+(j+1))) (.int .i64 8)) c2 c3 c4 c5 c6 c7) h n
  | 0, i, x, d7, hj, hx, K => by
    rw [show 0+1+K=K+1 by omega, Gf]
    show QW (FI _ h n) (Gw FI K)=_
    rw [MX hp (by omega) hm hl hb hx]; rfl
  | j+1, i, x, d7, hj, hx, K => by
    rw [show j+1+1+K=(j+1+K)+1 by omega, Gf]
    show QW (FI _ h n) (Gw FI (j+1+K))=_
    rw [MX hp (by omega) hm hl hb hx]
    show Gw FI (j+1+K) _ h n=_
    rw [Jp hp hm hl hb j (i+1) _ _ (by omega) (by rw [Lr]; exact Mu 8 (Nat.xor_lt_two_pow (n := 32) hx (Nat.lt_trans (Lw _) (by decide)))) K]
    have e:Kh (j+1+1) (sh c (off+i)) x=Kh (j+1) (sh (sh c (off+i)) 1) (LJ (Nat.xor x (lo (sh c (off+i)) 1))) := rfl
    rw [e, PI, show off+(i+1)=off+i+1 by omega, show i+1+(j+1)=i+(j+1+1) by omega]
theorem UJ:MR FI Th := by
  intro t h κ κ0
  cases t with
  | mk c0 c1 c2 c3 c4 c5 c6 c7 =>
    cases c0 with
    | mk d0 d1 d2 x =>
      cases c1 with
      | mk s m i d7 =>
        obtain ⟨T, hT⟩:∃ T:S, T = .mk (.mk d0 d1 d2 x) (.mk s m i d7) c2 c3 c4 c5 c6 c7 := ⟨_, rfl⟩
        obtain ⟨G, hG⟩:∃ G:R->Prop, ∀ r, G r ↔ (r=κ0 ∨ ∃ j t', r=κ j t' ∧ ∀ k n, Gw FI (j+k) T h n=Gw FI k t' h n) := ⟨_, fun r => Iff.rfl⟩
        have g0:G κ0 := (hG _).2 (.inl rfl)
        rw [←hT]
        refine (hG _).1 ?_
        rw [hT]
        refine HQ (G := G) g0 fun i0 hi => HQ (G := G) g0 fun m0 hm => SP (G := G) g0 fun p off len cap ex esz hs => V3 (G := G) g0 fun x0 hx => JR (G := G) (QK (G := G) g0 fun nb c sup prev hp => ?_)
        subst hi hm hs hx
        refine FP (G := G) g0 fun b1 => FP (G := G) g0 fun b2 => FP (G := G) g0 fun b3 => FP (G := G) g0 fun b4 => FP (G := G) g0 fun b5 => FP (G := G) g0 fun b6 => ?_
        have b1 := Nat.le_of_ble_eq_true b1
        have b2 := Nat.le_of_ble_eq_true b2
        have b3:off+len≤nb := Nat.le_of_ble_eq_true b3
        have b4 := Nat.eq_of_beq_eq_true b4
        have b5 := Nat.le_of_ble_eq_true b5
        have b6 := Nat.le_of_ble_eq_true b6
        subst b4
        obtain ⟨j, hj⟩:∃ j, Nat.sub m0 i0=j+1 := ⟨m0 - i0 - 1, by show m0 - i0=_; omega⟩
        have hj':m0 - i0=j+1 := hj
        rw [hj, A9, A9, T0, PX]
        refine (hG _).2 (.inr ⟨j+1, _, rfl, fun K n => ?_⟩)
        rw [hT, Jp hp b2 b3 b6 j i0 x0 d7 (by omega) b5 K, show i0+(j+1)=m0 by omega]; rfl
theorem MB:EJ FI=L7 FI Th := LW UJ
def I9:S->Heap->K4->R := fun t h n => g5 t fun z3 => g4 t fun z4 => DF z3 z4 fun z5 => Ed z5 (CH 1 (g3 t fun z6 => Ei 1 z6 z3 fun z7 => Dc z7 h fun z8 => g2 t fun z9 => QR z9 (.int .u64 8) fun za => F5 .u64 z8 fun zb => VU za zb fun zc => w2 t zc fun t => .ok .nrm t h n) fun t h n => g5 t fun zd => Dv zd (.int .i64 1) fun ze => w5 t ze fun t => .ok .nrm t h n) <| .ok (.exit 0) t h n
abbrev Jh (x b:Nat):Nat := Nat.lor (Nat.mod (Nat.shiftLeft x 8) 18446744073709551616) b
def Ge (j:Nat):Nat->Nat->Nat := @Nat.rec (fun _ => Nat->Nat->Nat) (fun _ x => x) (fun _ ih d x => ih (sh d 1) (Jh x (lo d 1))) j
def V5 (j:Nat):Nat->Nat->(Nat->R)->R := @Nat.rec (fun _ => Nat->Nat->(Nat->R)->R) (fun _ x κ => κ x) (fun _ ih d x κ => Ah (Jh x (lo d 1)) fun x => Ah (sh d 1) fun d => ih d x κ) j
theorem Qt:∀ (j d x:Nat) (κ:Nat->R), V5 j d x κ=κ (Ge j d x)
  | 0, _, _, _ => rfl
  | j+1, d, x, κ => by
    show Ah (Jh x (lo d 1)) (fun x => Ah (sh d 1) fun d => V5 j d x κ)=κ (Ge j (sh d 1) (Jh x (lo d 1)))
    rw [A9, A9, Qt]
theorem NA:∀ (j d x:Nat), Ge j (lo d j) x=Ge j d x
  | 0, _, _ => rfl
  | j+1, d, x => by
    show Ge j (sh (lo d (j+1)) 1) (Jh x (lo (lo d (j+1)) 1))=Ge j (sh d 1) (Jh x (lo d 1))
    rw [XP, XM, NA]
def VC:RB := fun t h κ κ0 => g5 t fun i => g4 t fun m => g3 t fun s => g2 t fun x => NU i κ0 fun i0 => NU m κ0 fun m0 => slE s κ0 fun p off len esz => Aah x κ0 fun x0 => Dz p h fun o => XY o κ0 fun nb c =>
  br (Nat.ble (Nat.succ i0) m0) (br (Nat.ble m0 len) (br (Nat.ble (Nat.add off len) nb) (br (Nat.beq esz 1) (br (Nat.ble m0 4611686018427387904)
    (Ah (Nat.sub m0 i0) fun j => Ah (lo (sh c (Nat.add off i0)) j) fun d => V5 j d x0 fun x => w2 t (.int .u64 x) fun t => w5 t (.int .i64 m0) fun t => κ j t) κ0) κ0) κ0) κ0) κ0
theorem Sg {d0 d1 d6 d7:V} {c2 c3 c4 c5 c6 c7:SQ} {h:Heap} {n p:K4} {off len cap m i x nb c:Nat} {ex sup:Bool} {prev:Option K4}
    (hp:Ag p h=some (.c (.b nb c) sup prev)) (hi:i<m) (hm:m≤len) (hl:off+len≤nb) (hb:m≤4611686018427387904) :
    I9 (.mk (.mk d0 d1 (.int .u64 x) (.sl p off len cap ex 1)) (.mk (.int .i64 m) (.int .i64 i) d6 d7) c2 c3 c4 c5 c6 c7) h n
      = .ok .nrm (.mk (.mk d0 d1 (.int .u64 (Jh x (lo (sh c (off+i)) 1))) (.sl p off len cap ex 1)) (.mk (.int .i64 m) (.int .i64 (i+1)) d6 d7) c2 c3 c4 c5 c6 c7) h n := by
  unfold I9
  show DF (.int .i64 i) (.int .i64 m) _=_
  rw [QS hi hb]
  show CH 1 (Ei 1 (.sl p off len cap ex 1) (.int .i64 i) _) _=_
  rw [VR (by omega) (by omega), Vu hp (by omega), Nat.mul_one]
  have e1:∀ (κ:V->R), QR (.int .u64 x) (.int .u64 8) κ=κ (.int .u64 (Nat.mod (Nat.shiftLeft x 8) 18446744073709551616)) := fun κ => by
    have e0:QR (.int .u64 x) (.int .u64 8) κ=Ah (Nat.mod (Nat.shiftLeft x 8) 18446744073709551616) fun r => κ (.int .u64 r) := rfl
    rw [e0, A9]
  have e2:∀ (a b:Nat) (κ:V->R), VU (.int .u64 a) (.int .u64 b) κ=κ (.int .u64 (Nat.lor a b)) := fun a b κ => by
    have e0:VU (.int .u64 a) (.int .u64 b) κ=Ah (Nat.lor a b) fun r => κ (.int .u64 r) := rfl
    rw [e0, A9]
  show CH 1 (QR (.int .u64 x) (.int .u64 8) _) _=_
  rw [e1, SE (Lw _) (by decide), e2, HT]
  show Dv (.int .i64 i) (.int .i64 1) _=_
  rw [LO (by omega)]
theorem Jr {d0 d1 d6 d7:V} {c2 c3 c4 c5 c6 c7:SQ} {h:Heap} {n p:K4} {off len cap m nb c:Nat} {ex sup:Bool} {prev:Option K4}
    (hp:Ag p h=some (.c (.b nb c) sup prev)) (hm:m≤len) (hl:off+len≤nb) (hb:m≤4611686018427387904) :
    ∀ (j i x:Nat), i+j≤m->∀ K, Gw I9 (j+K) (.mk (.mk d0 d1 (.int .u64 x) (.sl p off len cap ex 1)) (.mk (.int .i64 m) (.int .i64 i) d6 d7) c2 c3 c4 c5 c6 c7) h n
      = Gw I9 K (.mk (.mk d0 d1 (.int .u64 (Ge j (sh c (off+i)) x)) (.sl p off len cap ex 1)) (.mk (.int .i64 m) (.int .i64 (i+j)) d6 d7) c2 c3 c4 c5 c6 c7) h n
  | 0, i, x, hj, K => by rw [Nat.zero_add]; rfl
  | j+1, i, x, hj, K => by
    rw [show j+1+K=(j+K)+1 by omega, Gf]
    show QW (I9 _ h n) (Gw I9 (j+K))=_
    rw [Sg hp (by omega) hm hl hb]
    show Gw I9 (j+K) _ h n=_
    rw [Jr hp hm hl hb j (i+1) _ (by omega) K]
    have e:Ge (j+1) (sh c (off+i)) x=Ge j (sh (sh c (off+i)) 1) (Jh x (lo (sh c (off+i)) 1)) := rfl
    rw [e, PI, show off+(i+1)=off+i+1 by omega, show i+1+j=i+(j+1) by omega]
theorem Uo:MR I9 VC := by
  intro t h κ κ0
  cases t with
  | mk c0 c1 c2 c3 c4 c5 c6 c7 =>
    cases c0 with
    | mk d0 d1 x s =>
      cases c1 with
      | mk m i d6 d7 =>
        obtain ⟨T, hT⟩:∃ T:S, T = .mk (.mk d0 d1 x s) (.mk m i d6 d7) c2 c3 c4 c5 c6 c7 := ⟨_, rfl⟩
        obtain ⟨G, hG⟩:∃ G:R->Prop, ∀ r, G r ↔ (r=κ0 ∨ ∃ j t', r=κ j t' ∧ ∀ k n, Gw I9 (j+k) T h n=Gw I9 k t' h n) := ⟨_, fun r => Iff.rfl⟩
        have g0:G κ0 := (hG _).2 (.inl rfl)
        rw [←hT]
        refine (hG _).1 ?_
        rw [hT]
        refine HQ (G := G) g0 fun i0 hi => HQ (G := G) g0 fun m0 hm => SP (G := G) g0 fun p off len cap ex esz hs => VB (G := G) g0 fun x0 hx => JR (G := G) (QK (G := G) g0 fun nb c sup prev hp => ?_)
        subst hi hm hs hx
        refine FP (G := G) g0 fun b1 => FP (G := G) g0 fun b2 => FP (G := G) g0 fun b3 => FP (G := G) g0 fun b4 => FP (G := G) g0 fun b6 => ?_
        have b1 := Nat.le_of_ble_eq_true b1
        have b2 := Nat.le_of_ble_eq_true b2
        have b3:off+len≤nb := Nat.le_of_ble_eq_true b3
        have b4 := Nat.eq_of_beq_eq_true b4
        have b6 := Nat.le_of_ble_eq_true b6
        subst b4
        rw [A9, A9, Qt, NA]
        refine (hG _).2 (.inr ⟨Nat.sub m0 i0, _, rfl, fun K n => ?_⟩)
        rw [hT, Jr hp b2 b3 b6 (Nat.sub m0 i0) i0 x0 (by show i0+(m0 - i0)≤m0; omega) K, show i0+Nat.sub m0 i0=m0 by show i0+(m0 - i0)=m0; omega]; rfl
theorem Tc:EJ I9=L7 I9 VC := LW Uo
end Go.Ev

namespace Go.Ev
set_option linter.unusedVariables false
section
variable {P:Program} {ρ:Env} {B:Nat}
end
abbrev iI (n:Nat):V := .int .i64 n
abbrev iW (n:Nat):V := .int .u32 n
abbrev iB (n:Nat):V := .int .u8 n
abbrev iL (n:Nat):V := .int .u64 n
abbrev nR (t:S) (h:Heap) (n:K4):R := .ok .nrm t h n
abbrev rT (t:S) (h:Heap) (n:K4):R := .ok .ret t h n
def o8 (i:Nat):O8 := @Nat.rec (fun _ => O8) .d0 (fun i _ => @Nat.rec (fun _ => O8) .d1 (fun i _ => @Nat.rec (fun _ => O8) .d2 (fun i _ => @Nat.rec (fun _ => O8) .d3 (fun i _ => @Nat.rec (fun _ => O8) .d4 (fun i _ => @Nat.rec (fun _ => O8) .d5 (fun i _ => @Nat.rec (fun _ => O8) .d6 (fun _ _ => .d7) i) i) i) i) i) i) i
def o4 (i:Nat):O4 := @Nat.rec (fun _ => O4) .d0 (fun i _ => @Nat.rec (fun _ => O4) .d1 (fun i _ => @Nat.rec (fun _ => O4) .d2 (fun _ _ => .d3) i) i) i
def mS (l:List Nat):SM := @List.rec Nat (fun _ => Nat->SM) (fun _ => []) (fun p _ ih i => (⟨D.ofN (Nat.div p 16), D.ofN (Nat.mod p 16)⟩, ⟨o8 (Nat.div i 4), o4 (Nat.mod i 4)⟩)::ih (Nat.succ i)) l 0
end Go.Ev

namespace Go.Ev
set_option linter.unusedVariables false
abbrev MY := Nat->Option (Array Value×TypeId×(Nat×Nat))
/-- The environment of a program whose blocks gl stay as they are. -/
def XL (P:Program) (fs:List Nat) (gl:MY):Env := { Kr P fs with gl := gl }
section
variable {P:Program} {ρ:Env} {B:Nat}
theorem Gl.gl {fs:List Nat} {gl:MY} {f:FuncId} {e:Ent} (h:Gl P (Kr P fs) f e):Gl P (XL P fs gl) f e := h
/-- A table that stays. -/
def Xw (P:Program) (gl:MY) (name:String) (k:IntKind) (zs:List Int):Prop := ∃ g e fr, P.globalNamed name=some g∧gl g=some ((zs.map fun z => Value.int k z).toArray, e, fr)
theorem Xw.is {gl:MY} {name:String} {k:IntKind} {zs:List Int} {h:Heap} {n:K4} {φ:Dh} {w:World} (t:Xw P gl name k zs) (hgl:ρ.gl=gl) (g:Gam ρ B h n φ w):Lib.TabIs P w name k zs := by
  obtain ⟨b, e, fr, h1, h2⟩ := t
  obtain ⟨_, h3⟩ := g.glob b _ e fr (by rw [hgl]; exact h2)
  unfold Lib.TabIs World.var?
  rw [h1, Option.bind_some, h3]
/-- The blocks of a world that a list names. -/
def Nt (w:World) (l:List Nat):MY := fun b => if b∈l then (match w.heap[b]? with | some (.cells c e fr) => some (c, e, fr) | _ => none) else none
theorem Wy {P:Program} {fs:List Nat} {w:World} {l:List Nat}:Xb (XL P fs (Nt w l)) w := fun b c e fr h => by
  have h:Nt w l b=some (c, e, fr) := h
  unfold Nt at h
  split at h
  · split at h
    · rename_i c' e' fr' hw
      cases h
      refine ⟨?_, hw⟩
      rcases Nat.lt_or_ge b w.heap.size with hb | hb
      · exact hb
      · rw [Array.getElem?_eq_none hb] at hw; cases hw
    · cases h
  · cases h
theorem Xw.of {w:World} {l:List Nat} {g:Nat} {name:String} {k:IntKind} {zs:List Int} (hg:P.globalNamed name=some g) (hl:g∈l) (h:Lib.TabIs P w name k zs):Xw P (Nt w l) name k zs := by
  unfold Lib.TabIs World.var? at h
  rw [hg, Option.bind_some] at h
  split at h
  · rename_i c e fr hw
    cases h
    refine ⟨g, e, fr, hg, ?_⟩
    unfold Nt
    rw [if_pos hl, hw]
  · cases h
end
end Go.Ev

namespace Go.Ev
set_option linter.unusedVariables false
open Go.RowKit
section
variable {P:Program} {ρ:Env} {B:Nat}
/-- What stands below stays; new blocks are nothing to it. -/
theorem Gam.below {h:Heap} {n:K4} {φ:Dh} {w w':World} (g:Gam ρ B h n φ w) (b:Below w.heap.size w w'):Gam ρ B h n φ w'∧Fr h h φ φ n n w w' := by
  obtain ⟨b1, b2, b3, b4, b5⟩ := b
  refine ⟨⟨Nat.le_trans g.base b4, g.dom, fun p b s t hp => ⟨(g.blk p b s t hp).1, Nat.lt_of_lt_of_le (g.blk p b s t hp).2 b4⟩, fun p o b s t ho hp => EP (b5 b (g.blk p b s t hp).2) (g.obj p o b s t ho hp), g.sep, g.sup,
    fun b c e fr hb => ⟨(g.glob b c e fr hb).1, by rw [b5 b (Nat.lt_of_lt_of_le (g.glob b c e fr hb).1 g.base)]; exact (g.glob b c e fr hb).2⟩⟩,
    ⟨Dh.le_refl φ, fun _ _ h => .inl h, Nat.le_refl _, b1, b2, b3, b4, fun b hb _ => b5 b hb, fun _ _ _ _ h => .inl h, fun _ _ h => h⟩⟩
end
theorem Yp {a:Int} (h:(Lit.int .i64 a).wf=true) : -9223372036854775808≤a∧a<9223372036854775808 := by
  simp [Lit.wf, IntKind.min, IntKind.max, IntKind.signed, IntKind.bits] at h
  omega
end Go.Ev

namespace Go.Ev
set_option linter.unusedVariables false
/-- The environment of a program with symbols, whose blocks gl stay as they are. -/
def Mi (P:Program) (fs:List Nat) (v:Nat->Value) (gl:MY):Env := { Kr P fs with v := v, gl := gl }
theorem Z6 {P:Program} {fs:List Nat} {v:Nat->Value} {gl:MY} (h:∀ i, (v i).oneCell'=true):DK (Mi P fs v gl) := h
section
variable {P:Program} {ρ:Env} {B:Nat}
theorem Gl.ar {fs:List Nat} {v:Nat->Value} {gl:MY} {f:FuncId} {e:Ent} (h:Gl P (Kr P fs) f e):Gl P (Mi P fs v gl) f e := h
theorem M7.mkA {fs:List Nat} {v:Nat->Value} {gl:MY} {T:FC} (h:∀ f e, DB (DH f) T=some e->Om P (Mi P fs v gl) B f e) (ha:∀ f∈fs, ∃ e, DB (DH f) T=some e∧Gl P (Mi P fs v gl) f e):M7 P (Mi P fs v gl) B T := by
  refine ⟨h, fun f A hA => ?_⟩
  have hA:@Bool.rec (fun _ => Option ApC) none (NX P f) (fs.contains f)=some A := hA
  cases hc:fs.contains f with
  | false => rw [hc] at hA; cases hA
  | true => exact ha f (List.contains_iff_mem.1 hc)
theorem QT {fs:List Nat} {v:Nat->Value} {w:World} {l:List Nat}:Xb (Mi P fs v (Nt w l)) w := fun b c e fr h => Wy (P := P) (fs := fs) (w := w) (l := l) b c e fr h
theorem UD {w:World} {l:List Nat} {b:Nat} {c:Array Value} {e:TypeId} {fr:Nat×Nat} (hb:b∈l) (h:w.heap[b]? = some (.cells c e fr)):Nt w l b=some (c, e, fr) := by
  unfold Nt
  rw [if_pos hb, h]
/-- A cell of a world. -/
theorem NG {w:World} {a:Addr} {v:Value} (h:w.cell? a=some v):∃ b o c e fr, a=⟨b, o, none⟩∧w.heap[b]? = some (.cells c e fr)∧c[o]? = some v := by
  obtain ⟨b, o, sp⟩ := a
  unfold World.cell? at h
  split at h
  · rename_i c e fr hw
    split at h
    · cases h
    · rename_i hs
      cases sp with
      | none => exact ⟨b, o, c, e, fr, rfl, hw, h⟩
      | some x => exact absurd rfl hs
  · cases h
end
section
variable {ρ:Env} {φ:Dh} {b o len cap lo hi hi' i:Nat} {c:Array Value} {e:TypeId} {fr:Nat×Nat}
end
end Go.Ev

namespace Go.Ev
set_option linter.unusedVariables false
theorem Cr (k:IntKind) (a b:Nat) (κ:V->R):Dv (.int k a) (.int k b) κ=κ (.int k ((a+b) % Mk k)) := by
  show kM k k (fun M => Ah (Nat.mod (Nat.add a b) M) fun r => κ (.int k r))=_
  rw [R9, Db.2 rfl, AG, A9]; rfl
/-- A difference. -/
def KC (k:IntKind) (a b:Nat):Nat := (a+(Mk k - b)) % Mk k
theorem Cl (k:IntKind) (a b:Nat) (κ:V->R):Eh (.int k a) (.int k b) κ=κ (.int k (KC k a b)) := by
  show kM k k (fun M => Ah (Nat.mod (Nat.add a (Nat.sub M b)) M) fun r => κ (.int k r))=_
  rw [R9, Db.2 rfl, AG, A9]; rfl
theorem C7 (k:IntKind) (a b:Nat) (κ:V->R):M6 (.int k a) (.int k b) κ=κ (.int k ((a*b) % Mk k)) := by
  show kM k k (fun M => Ah (Nat.mod (Nat.mul a b) M) fun r => κ (.int k r))=_
  rw [R9, Db.2 rfl, AG, A9]; rfl
theorem Ff (a b:Nat):Nat.beq a b=decide (a=b) := by
  rw [Bool.eq_iff_iff, decide_eq_true_iff]
  exact ⟨Nat.eq_of_beq_eq_true, fun h => by rw [h]; exact Nat.beq_refl b⟩
theorem BY (k:IntKind) (a b:Nat) (κ:V->R):EX (.int k a) (.int k b) κ=κ (.bool (decide (a=b))) := by
  show kM k k (fun _ => Er (Nat.beq a b) fun r => κ (.bool r))=_
  rw [R9, Db.2 rfl, AG, Dr, Ff]
theorem Cp (k:IntKind) (a b:Nat) (κ:V->R):EL (.int k a) (.int k b) κ=κ (.bool (decide (¬ a=b))) := by
  show kM k k (fun _ => br (Nat.beq a b) (κ (.bool false)) (κ (.bool true)))=_
  rw [R9, Db.2 rfl, AG, Ff]
  by_cases h:a=b
  · rw [decide_eq_true h, decide_eq_false (fun g => g h)]; rfl
  · rw [decide_eq_false h, decide_eq_true h]; rfl
/-- Signed numbers that are not negative, and unsigned ones, by their residues. -/
theorem VT {k:IntKind} {a b:Nat} (ha:a<Hk k) (hb:b<Hk k):Gx k a b=decide (a<b) := by
  unfold Gx
  rw [Df ha, Df hb, CB, CB, Aa]
  exact decide_eq_decide.2 Nat.succ_le_iff
theorem C4 (k:IntKind) (a b:Nat) (κ:V->R):DF (.int k a) (.int k b) κ=κ (.bool (Gx k a b)) := by
  show kH k k (fun H => Er (WD H a b) fun r => κ (.bool r))=_
  rw [TK, Db.2 rfl, AG, Dr]; rfl
theorem C3 (k:IntKind) (a b:Nat) (κ:V->R):G7 (.int k a) (.int k b) κ=κ (.bool (Gx k b a)) := by
  show kH k k (fun H => Er (WD H b a) fun r => κ (.bool r))=_
  rw [TK, Db.2 rfl, AG, Dr]; rfl
theorem Cj (k:IntKind) (a b:Nat) (κ:V->R):Lf (.int k a) (.int k b) κ=κ (.bool (!Gx k b a)) := by
  show kH k k (fun H => br (WD H b a) (κ (.bool false)) (κ (.bool true)))=_
  rw [TK, Db.2 rfl, AG, VS]; cases Gx k b a <;> rfl
theorem Cw (k:IntKind) (a b:Nat) (κ:V->R):Gp (.int k a) (.int k b) κ=κ (.bool (!Gx k a b)) := by
  show kH k k (fun H => br (WD H a b) (κ (.bool false)) (κ (.bool true)))=_
  rw [TK, Db.2 rfl, AG, VS]; cases Gx k a b <;> rfl
theorem Cz {k:IntKind} {a b:Nat} (ha:a<Hk k) (hb:b<Hk k) (h0:0<b) (κ:V->R):NE (.int k a) (.int k b) κ=κ (.int k (a / b)) := by
  show br (Ds k k) (br (Nat.ble (Nat.succ a) (Hk k)) (br (Nat.ble (Nat.succ b) (Hk k)) (br (Nat.ble 1 b) (Ah (Nat.div a b) fun r => κ (.int k r)) _) _) _) _=_
  rw [Db.2 rfl, AG, Ap.2 ha, AG, Ap.2 hb, AG, Ap.2 h0, AG, A9]; rfl
theorem C0 {k:IntKind} {a b:Nat} (ha:a<Hk k) (hb:b<Hk k) (h0:0<b) (κ:V->R):Pp (.int k a) (.int k b) κ=κ (.int k (a % b)) := by
  show br (Nat.ble (Nat.succ a) (Hk k)) (br (Ds k k) (br (Nat.ble (Nat.succ a) (Hk k)) (br (Nat.ble (Nat.succ b) (Hk k)) (br (Nat.ble 1 b) (Ah (Nat.mod a b) fun r => κ (.int k r)) (.fail "")) (.fail "")) (.fail "")) (.fail "")) (OI k a k b κ)=_
  rw [show Nat.ble (Nat.succ a) (Hk k)=true from Ap.2 ha, AG, Db.2 rfl, AG, AG, show Nat.ble (Nat.succ b) (Hk k)=true from Ap.2 hb, AG, show Nat.ble 1 b=true from Ap.2 h0, AG, A9]; rfl
/-- A remainder of a negative integer. -/
def WZ (a b:Nat):Nat := if (18446744073709551616 - a) % b=0 then 0 else 18446744073709551616 - (18446744073709551616 - a) % b
theorem UX {a b:Nat} (ha:9223372036854775808≤a) (hb:b<9223372036854775808) (h0:0<b) (κ:V->R):Pp (.int .i64 a) (.int .i64 b) κ=κ (.int .i64 (WZ a b)) := by
  show br (Nat.ble (Nat.succ a) 9223372036854775808) (Qz .i64 a .i64 b κ) (br (Ds .i64 .i64) (br (Nat.ble (Nat.succ b) 9223372036854775808) (br (Nat.ble 1 b) (Ah (@Bool.rec (fun _ => Nat) (Nat.sub 18446744073709551616 (Nat.mod (Nat.sub 18446744073709551616 a) b)) 0 (Nat.beq (Nat.mod (Nat.sub 18446744073709551616 a) b) 0)) fun r => κ (.int .i64 r)) (.fail "")) (.fail "")) (.fail ""))=_
  rw [show Nat.ble (Nat.succ a) 9223372036854775808=false from Df (by omega), CB, Db.2 rfl, AG, show Nat.ble (Nat.succ b) 9223372036854775808=true from Ap.2 hb, AG, show Nat.ble 1 b=true from Ap.2 h0, AG, A9]
  have e:Nat.mod (Nat.sub 18446744073709551616 a) b=(18446744073709551616 - a) % b := rfl
  rw [e]
  unfold WZ
  by_cases hz:(18446744073709551616 - a) % b=0
  · rw [if_pos hz, hz]; rfl
  · rw [if_neg hz, show Nat.beq ((18446744073709551616 - a) % b) 0=false from Bool.eq_false_iff.2 fun h => hz (Nat.eq_of_beq_eq_true h)]; rfl
theorem Ck (k:IntKind) (a b:Nat) (κ:V->R):Ox (.int k a) (.int k b) κ=κ (.int k (a &&& b)) := by
  show br (Ds k k) (Ah (Nat.land a b) fun r => κ (.int k r)) _=_
  rw [Db.2 rfl, AG, A9]; rfl
theorem D4 (k:IntKind) (a b:Nat) (κ:V->R):VU (.int k a) (.int k b) κ=κ (.int k (a ||| b)) := by
  show br (Ds k k) (Ah (Nat.lor a b) fun r => κ (.int k r)) _=_
  rw [Db.2 rfl, AG, A9]; rfl
theorem Cu (k:IntKind) (a b:Nat) (κ:V->R):Ku (.int k a) (.int k b) κ=κ (.int k (a ^^^ b)) := by
  show br (Ds k k) (Ah (Nat.xor a b) fun r => κ (.int k r)) _=_
  rw [Db.2 rfl, AG, A9]; rfl
/-- A number turned into one of another kind: not negative. -/
theorem BQ {k j:IntKind} {a:Nat} (h:a<Hk j) (κ:V->R):F5 k (.int j a) κ=κ (.int k (a % Mk k)) := by
  show br (Nat.ble (Nat.succ a) (Hk j)) (Ah (Nat.mod a (Mk k)) fun r => κ (.int k r)) _=_
  rw [Ap.2 h, AG, A9]; rfl
theorem D5 (b:Bool) (x y:R):Ed (.bool b) x y=bif b then x else y := by cases b <;> rfl
theorem Br (b:Bool) (x y:V) (κ:V->R):DE (.bool b) x y κ=bif b then κ x else κ y := by cases b <;> rfl
theorem Cv (b:Bool) (κ:V->R):Gn (.bool b) κ=κ (.bool (!b)) := by cases b <;> rfl
theorem C6 (w b:Bool) (h:Heap) (n:K4) (F:KV->R) (κ:KV):F8 w (.bool b) h n F κ=bif b == w then F κ else κ Ec h n := by cases w <;> cases b <;> rfl
theorem Ch (w b:Bool) (F:(V->R)->R) (κ:V->R):gdV w (.bool b) F κ=bif b == w then F κ else κ Ec := by cases w <;> cases b <;> rfl
theorem Ce (v:V) (h:Heap) (n:K4) (κ:V->R):Ee (.rv v h n) κ=κ v := id rfl
theorem Cd (v:V) (h:Heap) (n:K4) (κ:KV):Iu (.rv v h n) κ=κ v h n := id rfl
theorem B4 (v:V) (h:Heap) (n:K4) (κ:KV):B2 (.rv v h n) κ=κ v h n := id rfl
theorem AN (t:S) (h:Heap) (n:K4) (κ:S->Heap->K4->R):Ep (.ok .nrm t h n) κ=κ t h n := id rfl
theorem AL (i:Nat) (t:S) (h:Heap) (n:K4) (κ:S->Heap->K4->R):Ep (.ok (.exit i) t h n) κ = .ok (.exit i) t h n := id rfl
theorem AM (t:S) (h:Heap) (n:K4) (κ:S->Heap->K4->R):Ep (.ok .ret t h n) κ = .ok .ret t h n := id rfl
theorem AB (i:Nat) (t:S) (h:Heap) (n:K4) (κ:S->Heap->K4->R):CH i (.ok .nrm t h n) κ=κ t h n := id rfl
theorem AF (i:Nat) (t:S) (h:Heap) (n:K4) (κ:S->Heap->K4->R):CH i (.ok .ret t h n) κ = .ok .ret t h n := id rfl
theorem As (i j:Nat) (t:S) (h:Heap) (n:K4) (κ:S->Heap->K4->R):CH i (.ok (.exit j) t h n) κ=bif decide (j=i) then κ t h n else .ok (.exit j) t h n := by
  show br (Nat.beq j i) (κ t h n) (.ok (.exit j) t h n)=_
  rw [Ff]; cases decide (j=i) <;> rfl
theorem AU (b:Bool) (x y:R) (κ:S->Heap->K4->R):Ep (bif b then x else y) κ=bif b then Ep x κ else Ep y κ := by cases b <;> rfl
theorem Ay (i:Nat) (b:Bool) (x y:R) (κ:S->Heap->K4->R):CH i (bif b then x else y) κ=bif b then CH i x κ else CH i y κ := by cases b <;> rfl
theorem Bh (b:Bool) (x y:R) (κ:V->R):Ee (bif b then x else y) κ=bif b then Ee x κ else Ee y κ := by cases b <;> rfl
theorem BF (b:Bool) (x y:R) (κ:KV):Iu (bif b then x else y) κ=bif b then Iu x κ else Iu y κ := by cases b <;> rfl
/-- What a cell of an object is. -/
def ldO (o:EM) (off:Nat) (κ:V->R):R := @Option.rec Ob (fun _ => R) (.fail "") (fun o => @Ob.rec (fun _ => R) (fun cs _ _ => Ht cs off κ) (Ey "") (HO "") (.fail "") (CN "") o) o
theorem CR (p:K4) (off:Nat) (h:Heap) (κ:V->R):Dc (.ptr p off) h κ=ldO (Ag p h) off κ := by
  show NN p h (fun cs _ _ => Ht cs off κ)=_
  rw [Gk]; unfold Kd ldO; rw [EI]
theorem Cn (xs:List V) (s:Bool) (pr:Option K4) (off:Nat) (κ:V->R):ldO (some (.c (.l xs) s pr)) off κ=Gv off xs κ := id rfl
theorem Bu (x:V) (xs:List V) (κ:V->R):Gv 0 (x::xs) κ=κ x := id rfl
theorem BA (m:Nat) (x:V) (xs:List V) (κ:V->R):Gv (m+1) (x::xs) κ=Gv m xs κ := id rfl
theorem Ct (off o:Nat) (p:K4) (κ:V->R):CK off (.ptr p o) κ=κ (.ptr p (o+off)) := by
  show Ah (Nat.add o off) (fun o => κ (.ptr p o))=_
  rw [A9]; rfl
theorem AW (p:K4) (o:Nat) (κ:V->R):BM (.ptr p o) κ=κ (.ptr p o) := id rfl
end Go.Ev

namespace Go.Ev
set_option linter.unusedVariables false
theorem D.nx_all (d:D):(d.toN=15 ∧ ∀ (k:D->R) (c:R), d.nx k c=c) ∨ ∃ e:D, e.toN=d.toN+1 ∧ ∀ (k:D->R) (c:R), d.nx k c=k e := by
  cases d
  case d0 => exact .inr ⟨.d1, rfl, fun _ _ => rfl⟩
  case d1 => exact .inr ⟨.d2, rfl, fun _ _ => rfl⟩
  case d2 => exact .inr ⟨.d3, rfl, fun _ _ => rfl⟩
  case d3 => exact .inr ⟨.d4, rfl, fun _ _ => rfl⟩
  case d4 => exact .inr ⟨.d5, rfl, fun _ _ => rfl⟩
  case d5 => exact .inr ⟨.d6, rfl, fun _ _ => rfl⟩
  case d6 => exact .inr ⟨.d7, rfl, fun _ _ => rfl⟩
  case d7 => exact .inr ⟨.d8, rfl, fun _ _ => rfl⟩
  case d8 => exact .inr ⟨.d9, rfl, fun _ _ => rfl⟩
  case d9 => exact .inr ⟨.d10, rfl, fun _ _ => rfl⟩
  case d10 => exact .inr ⟨.d11, rfl, fun _ _ => rfl⟩
  case d11 => exact .inr ⟨.d12, rfl, fun _ _ => rfl⟩
  case d12 => exact .inr ⟨.d13, rfl, fun _ _ => rfl⟩
  case d13 => exact .inr ⟨.d14, rfl, fun _ _ => rfl⟩
  case d14 => exact .inr ⟨.d15, rfl, fun _ _ => rfl⟩
  case d15 => exact .inl ⟨rfl, fun _ _ => rfl⟩
theorem K4.nx_all (p:K4) (h:p.toN<65535):∃ q:K4, q.toN=p.toN+1 ∧ ∀ k:K4->R, p.nx k=k q := by
  obtain ⟨a, b, c, d⟩ := p
  simp only [K4.toN] at h
  have hd0:D.d0.toN=0 := id rfl
  have ha := a.toN_lt; have hb := b.toN_lt; have hc := c.toN_lt; have hd := d.toN_lt
  rcases d.nx_all with ⟨d1, d2⟩ | ⟨e, d1, d2⟩
  · rcases c.nx_all with ⟨c1, c2⟩ | ⟨e, c1, c2⟩
    · rcases b.nx_all with ⟨b1, b2⟩ | ⟨e, b1, b2⟩
      · rcases a.nx_all with ⟨a1, a2⟩ | ⟨e, a1, a2⟩
        · omega
        · exact ⟨⟨e, .d0, .d0, .d0⟩, by simp only [K4.toN, hd0]; omega, fun k => by show d.nx _ (c.nx _ (b.nx _ (a.nx _ _)))=_; rw [d2, c2, b2, a2]⟩
      · exact ⟨⟨a, e, .d0, .d0⟩, by simp only [K4.toN, hd0]; omega, fun k => by show d.nx _ (c.nx _ (b.nx _ _))=_; rw [d2, c2, b2]⟩
    · exact ⟨⟨a, b, e, .d0⟩, by simp only [K4.toN, hd0]; omega, fun k => by show d.nx _ (c.nx _ _)=_; rw [d2, c2]⟩
  · exact ⟨⟨a, b, c, e⟩, by simp only [K4.toN]; omega, fun k => by show d.nx _ _=_; rw [d2]⟩
/-- The next place, where there is one. -/
def K4.up (p:K4):K4 := if h:p.toN<65535 then Classical.choose (p.nx_all h) else p
theorem K4.up_toN {p:K4} (h:p.toN<65535):p.up.toN=p.toN+1 := by
  unfold K4.up; rw [dif_pos h]; exact (Classical.choose_spec (p.nx_all h)).1
theorem K4.nx_up {p:K4} (h:p.toN<65535) (k:K4->R):p.nx k=k p.up := by
  unfold K4.up; rw [dif_pos h]; exact (Classical.choose_spec (p.nx_all h)).2 k
theorem K4.ne_of_lt {p q:K4} (h:p.toN<q.toN):p≠q := fun e => by subst e; omega
theorem BN {n:K4} (hn:n.toN<65535) (h:Heap) (o:Ob) (κ:Heap->K4->R):Gm h n o κ=κ (B0 n h (some o)) n.up := by
  rw [JU]
  have e:Fz h n o κ=n.nx fun n' => κ (B0 n h (some o)) n' := Dm _ _ _ _
  rw [e, K4.nx_up hn]
theorem AR {n:K4} (hn:n.toN<65535) (h:Heap) (κ:KV):Ij h n κ=κ (.map n) (B0 n h (some (.m [] [] 0))) n.up := BN hn _ _ _
theorem Bd {n:K4} (hn:n.toN<65535) (l:List V) (h:Heap) (κ:KV):HG (.agg l) h n κ=κ (.ptr n 0) (B0 n h (some (.c (.l l) false none))) n.up := BN hn _ _ _
theorem Co {n:K4} (hn:n.toN<65535) (cs:Cs) (h:Heap) (κ:KV):Tb cs h n κ=κ (.ptr n 0) (B0 n h (some (.c cs false none))) n.up := BN hn _ _ _
theorem B9 {n:K4} (hn:n.toN<65535) (len esz:Nat) (l:List V) (h:Heap) (κ:KV):FF false len esz l h n κ=κ (.sl n 0 len len true esz) (B0 n h (some (.c (.l l) false none))) n.up := BN hn _ _ _
theorem Bc {n:K4} (hn:n.toN<65535) (esz:Nat) (h:Heap) (κ:KV):FF true 0 esz [] h n κ=κ (.sl n 0 0 0 true esz) (B0 n h (some (.c (.b 0 0) false none))) n.up := BN hn _ _ _
theorem Y0 {n:K4} (hn:n.toN<65535) {a b:Nat} (hab:a≤b) (hb:b≤281474976710656) (zero:List V) (hz:zero.length=1) (k j:IntKind) (ha:a<Hk k) (hb2:b<Hk j) (h:Heap) (κ:KV) :
    Ni 1 true zero (.int k a) (.int j b) h n κ=κ (.sl n 0 a b true 1) (B0 n h (some (.c (.b b 0) false none))) n.up := by
  show br (Nat.ble (Nat.succ a) (Hk k)) (br (Nat.ble (Nat.succ b) (Hk j)) (br (Nat.ble a b) (br (Nat.ble (Nat.mul 1 b) 281474976710656) (Gm h n (.c (.b b 0) false none) fun h' n' => Jl zero fun esz => κ (.sl n 0 a b true esz) h' n') _) _) _) _=_
  rw [Ap.2 ha, AG, Ap.2 hb2, AG, Ap.2 hab, AG, Ap.2 (by show 1*b≤_; omega), AG, BN hn, FL, hz]
theorem KA {p:K4} {h:Heap} {cs:Cs} {s:Bool} {pr:Option K4} (hp:Ag p h=some (.c cs s pr)) (κ:Cs->Bool->Option K4->R):Kd p h κ=κ cs s pr := by
  unfold Kd; rw [EI, hp]
theorem XZ {p:K4} {h:Heap} {es:List (V×V)} {bs:List Nat} {c:Nat} (hp:Ag p h=some (.m es bs c)) (κ:List (V×V)->List Nat->Nat->R):Oh p h κ=κ es bs c := by
  unfold Oh; rw [EI, hp]
theorem Ty:∀ {off:Nat} {xs:List V} {v:V} {κ:List V->R}, off<xs.length->El off xs v κ=κ (xs.set off v)
  | 0, [], v, κ, h => by simp at h
  | 0, x::xs, v, κ, h => rfl
  | off+1, [], v, κ, h => by simp at h
  | off+1, x::xs, v, κ, h => Ty (off := off) (xs := xs) (v := v) (κ := fun zs => κ (x::zs)) (by simpa using h)
/-- One cell of a struct. -/
theorem ZP {p:K4} {h:Heap} {xs:List V} {off:Nat} (hp:Ag p h=some (.c (.l xs) false none)) (ho:off<xs.length) (v:V) (κ:Heap->R):LC h p off v κ=κ (B0 p h (some (.c (.l (xs.set off v)) false none))) := by
  rw [LC, LL, KA hp]
  show El off xs v (fun zs => JO none h fun h => H6 p h (some (.c (.l zs) false none)) κ)=_
  rw [Ty ho]
  exact Dm _ _ _ _
theorem HA.setS_setS (d:D) (p:HA) (x y:EM):HA.setS d (HA.setS d p x) y=HA.setS d p y := by cases d <;> cases p <;> rfl
theorem HB.setS_setS (d:D) (p:HB) (x y:HA):HB.setS d (HB.setS d p x) y=HB.setS d p y := by cases d <;> cases p <;> rfl
theorem HC.setS_setS (d:D) (p:HC) (x y:HB):HC.setS d (HC.setS d p x) y=HC.setS d p y := by cases d <;> cases p <;> rfl
theorem Heap.setS_setS (d:D) (p:Heap) (x y:HC):Heap.setS d (Heap.setS d p x) y=Heap.setS d p y := by cases d <;> cases p <;> rfl
theorem Ak (p:K4) (h:Heap) (x y:EM):B0 p (B0 p h x) y=B0 p h y := by
  cases p
  simp only [B0, H6, Heap.setK_eq, HC.setK_eq, HB.setK_eq, HA.setK_eq, Heap.selK_eq, HC.selK_eq, HB.selK_eq, id, Heap.sel_setS_same, HC.sel_setS_same, HB.sel_setS_same, Heap.setS_setS, HC.setS_setS, HB.setS_setS, HA.setS_setS]
/-- A store of one cell to a struct. -/
def UP (o:EM) (h:Heap) (p:K4) (off:Nat) (v:V) (κ:Heap->R):R :=
  match o with
  | some (.c (.l xs) false none) => bif Nat.ble (off+1) xs.length then κ (B0 p h (some (.c (.l (xs.set off v)) false none))) else LC h p off v κ
  | _ => LC h p off v κ
theorem KH (h:Heap) (p:K4) (off:Nat) (v:V) (κ:Heap->R):LC h p off v κ=UP (Ag p h) h p off v κ := by
  unfold UP
  split
  · rename_i xs hp
    cases hb:Nat.ble (off+1) xs.length with
    | true => exact ZP hp (Ap.1 hb) v κ
    | false => rfl
  · rfl
theorem Ci (xs:List V) (h:Heap) (p:K4) (off:Nat) (v:V) (κ:Heap->R):UP (some (.c (.l xs) false none)) h p off v κ=bif Nat.ble (off+1) xs.length then κ (B0 p h (some (.c (.l (xs.set off v)) false none))) else LC h p off v κ := id rfl
theorem BC (p:K4) (off:Nat) (h:Heap) (k:IntKind) (r:Nat) (κ:Heap->R):Ea (.ptr p off) (.int k r) h κ=UP (Ag p h) h p off (.int k r) κ := KH _ _ _ _ _
theorem AY (p:K4) (off:Nat) (h:Heap) (b:Bool) (κ:Heap->R):Ea (.ptr p off) (.bool b) h κ=UP (Ag p h) h p off (.bool b) κ := KH _ _ _ _ _
theorem BI (p:K4) (off:Nat) (h:Heap) (q:K4) (r:Nat) (κ:Heap->R):Ea (.ptr p off) (.ptr q r) h κ=UP (Ag p h) h p off (.ptr q r) κ := KH _ _ _ _ _
theorem Bb (p:K4) (off:Nat) (h:Heap) (q:K4) (κ:Heap->R):Ea (.ptr p off) (.map q) h κ=UP (Ag p h) h p off (.map q) κ := KH _ _ _ _ _
theorem B3 (p:K4) (off:Nat) (h:Heap) (w:Nl) (κ:Heap->R):Ea (.ptr p off) (.nil w) h κ=UP (Ag p h) h p off (.nil w) κ := KH _ _ _ _ _
theorem BV (p:K4) (off:Nat) (h:Heap) (q:K4) (a b c:Nat) (e:Bool) (z:Nat) (κ:Heap->R):Ea (.ptr p off) (.sl q a b c e z) h κ=UP (Ag p h) h p off (.sl q a b c e z) κ := KH _ _ _ _ _
theorem Bl (p:K4) (off:Nat) (h:Heap) (n c:Nat) (κ:Heap->R):Ea (.ptr p off) (.str n c) h κ=UP (Ag p h) h p off (.str n c) κ := KH _ _ _ _ _
theorem Bw (neg:Bool) (p:K4) (o:Nat) (κ:V->R):Hf neg (.rf .ptr) (.ptr p o) (.nil .ptr) κ=κ (.bool neg) := by cases neg <;> rfl
theorem Be (neg:Bool) (w:Nl) (κ:V->R):Hf neg (.rf w) (.nil w) (.nil w) κ=κ (.bool (!neg)) := by cases neg <;> cases w <;> rfl
theorem B7 (neg:Bool) (p:K4) (a b c:Nat) (e:Bool) (z:Nat) (κ:V->R):Hf neg (.rf .sl) (.sl p a b c e z) (.nil .sl) κ=κ (.bool neg) := by cases neg <;> rfl
theorem B6 (neg:Bool) (n c:Nat) (κ:V->R):Hf neg (.rf .sl) (.oth (.rb n c)) (.nil .sl) κ=κ (.bool neg) := by cases neg <;> rfl
theorem SW {a b:Nat} (ha:a<18446744073709551616) (hb:b<18446744073709551616):(Dn (Hk .i64) (Mk .i64) a+1≤Dn (Hk .i64) (Mk .i64) b ↔ Gx .i64 a b=true)∧(Gx .i64 a b=false->Dn (Hk .i64) (Mk .i64) b≤Dn (Hk .i64) (Mk .i64) a) := by
  have h1:∀ x:Nat, x<18446744073709551616->(Nat.ble (Hk .i64) x=true∧9223372036854775808≤x∧Dn (Hk .i64) (Mk .i64) x=x - 9223372036854775808)∨(Nat.ble (Hk .i64) x=false∧x<9223372036854775808∧Dn (Hk .i64) (Mk .i64) x=x+9223372036854775808) := fun x hx => by
    unfold Dn
    rcases Nat.lt_or_ge x 9223372036854775808 with h | h
    · exact .inr ⟨Df h, h, by rw [Df (show x<Hk .i64 from h), CB]; rfl⟩
    · exact .inl ⟨Ap.2 h, h, by rw [Ap.2 (show Hk .i64≤x from h), AG]; rfl⟩
  have e:Gx .i64 a b=br (Nat.ble (Hk .i64) a) (br (Nat.ble (Hk .i64) b) (Nat.ble (Nat.succ a) b) true) (br (Nat.ble (Hk .i64) b) false (Nat.ble (Nat.succ a) b)) := id rfl
  rw [e]
  have h2 := h1 a ha; have h3 := h1 b hb
  clear h1 e
  generalize Dn (Hk .i64) (Mk .i64) a=ka at *
  generalize Dn (Hk .i64) (Mk .i64) b=kb at *
  rcases h2 with ⟨a1, a2, a3⟩ | ⟨a1, a2, a3⟩ <;> rcases h3 with ⟨b1, b2, b3⟩ | ⟨b1, b2, b3⟩ <;> rw [a1, b1] <;> simp only [AG, CB, Aa, decide_eq_true_eq, decide_eq_false_iff_not, Bool.true_eq_false, Bool.false_eq_true, iff_false, iff_true, Nat.succ_eq_add_one, false_implies, and_true, true_implies] <;> omega
theorem BP {a b:Nat} (ha:a<18446744073709551616) (hb:b<18446744073709551616) (κ:V->R):Ju (.int .i64 a) (.int .i64 b) κ=κ (.int .i64 (bif Gx .i64 a b then b else a)) := by
  have on:∀ x, Fg (Hk .i64) x x=true := fun x => by
    unfold Fg
    rcases Nat.lt_or_ge x (Hk .i64) with h | h
    · rw [Ap.2 h, AG]
    · rw [Ap.2 h]; cases Nat.ble (Nat.succ x) (Hk .i64) <;> rfl
  show br (Ds .i64 .i64) (br (Fg (Hk .i64) a a) (br (Fg (Hk .i64) b b) (Wt (Dn (Hk .i64) (Mk .i64) a) (Dn (Hk .i64) (Mk .i64) a) (Dn (Hk .i64) (Mk .i64) b) (Dn (Hk .i64) (Mk .i64) b) (κ (.int .i64 b)) (κ (.int .i64 a))) (.fail "")) (.fail "")) (.fail "")=_
  rw [Db.2 rfl, AG, on, AG, on, AG]
  unfold Wt
  obtain ⟨k1, k2⟩ := SW ha hb
  cases hl:Gx .i64 a b with
  | true => rw [Ap.2 (k1.2 hl), AG]; rfl
  | false =>
    have:¬ (Dn (Hk .i64) (Mk .i64) a+1≤Dn (Hk .i64) (Mk .i64) b) := fun h => by rw [k1.1 h] at hl; cases hl
    rw [Df (by show _<_; omega), CB, Ap.2 (k2 hl), AG]; rfl
theorem C1 {a b:Nat} (ha:a<18446744073709551616) (hb:b<18446744073709551616) (κ:V->R):MV (.int .i64 a) (.int .i64 b) κ=κ (.int .i64 (bif Gx .i64 b a then b else a)) := by
  have on:∀ x, Fg (Hk .i64) x x=true := fun x => by
    unfold Fg
    rcases Nat.lt_or_ge x (Hk .i64) with h | h
    · rw [Ap.2 h, AG]
    · rw [Ap.2 h]; cases Nat.ble (Nat.succ x) (Hk .i64) <;> rfl
  show br (Ds .i64 .i64) (br (Fg (Hk .i64) a a) (br (Fg (Hk .i64) b b) (Wt (Dn (Hk .i64) (Mk .i64) b) (Dn (Hk .i64) (Mk .i64) b) (Dn (Hk .i64) (Mk .i64) a) (Dn (Hk .i64) (Mk .i64) a) (κ (.int .i64 b)) (κ (.int .i64 a))) (.fail "")) (.fail "")) (.fail "")=_
  rw [Db.2 rfl, AG, on, AG, on, AG]
  unfold Wt
  obtain ⟨k1, k2⟩ := SW hb ha
  cases hl:Gx .i64 b a with
  | true => rw [Ap.2 (k1.2 hl), AG]; rfl
  | false =>
    have:¬ (Dn (Hk .i64) (Mk .i64) b+1≤Dn (Hk .i64) (Mk .i64) a) := fun h => by rw [k1.1 h] at hl; cases hl
    rw [Df (by show _<_; omega), CB, Ap.2 (k2 hl), AG]; rfl
theorem CO {a b:Nat} (ha:a<9223372036854775808) (hb:b<9223372036854775808):Gx .i64 a b=decide (a<b) := VT ha hb
theorem BU {a b:Nat} (ha:9223372036854775808≤a) (hb:b<9223372036854775808):Gx .i64 a b=true := by
  unfold Gx; rw [Ap.2 (show Hk .i64≤a from ha), Df (show b<Hk .i64 from hb)]; rfl
theorem BX {a b:Nat} (ha:a<9223372036854775808) (hb:9223372036854775808≤b):Gx .i64 a b=false := by
  unfold Gx; rw [Ap.2 (show Hk .i64≤b from hb), Df (show a<Hk .i64 from ha)]; rfl
theorem BW {a b:Nat} (ha:9223372036854775808≤a) (hb:9223372036854775808≤b):Gx .i64 a b=decide (a<b) := by
  unfold Gx; rw [Ap.2 (show Hk .i64≤a from ha), Ap.2 (show Hk .i64≤b from hb), AG, AG, Aa]; exact decide_eq_decide.2 Nat.succ_le_iff
theorem ltu {k:IntKind} {a b:Nat} (hk:Hk k=Mk k) (ha:a<Mk k) (hb:b<Mk k):Gx k a b=decide (a<b) := VT (by rw [hk]; exact ha) (by rw [hk]; exact hb)
theorem C8 {a b:Nat} (ha:a<18446744073709551616) (hb:b<18446744073709551616):Gx .u64 a b=decide (a<b) := ltu rfl ha hb
theorem BR {a b:Nat} (h:b≤a) (ha:a<18446744073709551616):KC .i64 a b=a - b := by
  unfold KC
  show (a+(18446744073709551616 - b)) % 18446744073709551616=_
  omega
theorem AO:KC .i64 0 1=18446744073709551615 := by decide
theorem AV:KC .i64 18446744073709551615 1=18446744073709551614 := by decide
end Go.Ev

namespace Go.Ev
set_option linter.unusedVariables false
/-- A text, bytes in memory, bytes of memory that stays. -/
def sb (l:List UInt8):V := .str l.length (CJ l)
def cb (l:List UInt8):Cs := .b l.length (CJ l)
def IY (l:List UInt8):V := .oth (.rb l.length (CJ l))
theorem IT (l:List UInt8) (i m:Nat):lo (sh (CJ l) i) m=CJ ((l.drop i).take m) := by
  rw [FX, GA, L4, L8]
theorem W9 (l:List UInt8):lo (CJ l) l.length=CJ l := by
  rw [FX, L8, List.take_length]
theorem PT (a b:List UInt8):CJ a+up (CJ b) a.length=CJ (a++b) := by
  rw [Tk, Jt]
theorem Fm {l:List UInt8} {i m:Nat} (h:i+m≤l.length):((l.drop i).take m).length=m := by
  rw [List.length_take, List.length_drop]; omega
theorem IH {l:List UInt8} {i m:Nat} (h:i+m≤l.length) (κ:Cs->R):Dt (cb l) i m κ=κ (cb ((l.drop i).take m)) := by
  show br (Nat.ble (Nat.add i m) l.length) (Ah (lo (sh (CJ l) i) m) fun r => κ (.b m r)) _=_
  rw [show Nat.ble (Nat.add i m) l.length=true from Ap.2 h, AG, A9, IT]
  unfold cb; rw [Fm h]
theorem WM (a b:List UInt8) (κ:Cs->R):TO (cb a) (cb b) κ=κ (cb (a++b)) := by
  show Ah (Nat.add a.length b.length) (fun l => Ah (Nat.add (lo (CJ a) a.length) (up (CJ b) a.length)) fun r => κ (.b l r))=_
  rw [A9, A9, W9]
  show κ (.b (a.length+b.length) (CJ a+up (CJ b) a.length))=_
  rw [PT]; unfold cb; rw [List.length_append]
theorem Xi {a b:List UInt8} {i:Nat} (h:i+b.length≤a.length) (κ:Cs->R):Q4 (cb a) i (cb b) κ=κ (cb (a.take i++(b++a.drop (i+b.length)))) := by
  show br (Nat.ble (Nat.add i b.length) a.length) (Ah (Nat.add (lo (CJ a) i) (up (Nat.add (lo (CJ b) b.length) (up (sh (CJ a) (Nat.add i b.length)) b.length)) i)) fun r => κ (.b a.length r)) _=_
  rw [show Nat.ble (Nat.add i b.length) a.length=true from Ap.2 h, AG, A9, W9]
  have e1:sh (CJ a) (Nat.add i b.length)=CJ (a.drop (i+b.length)) := by rw [GA, L4]; rfl
  have e2:Nat.add (CJ b) (up (sh (CJ a) (Nat.add i b.length)) b.length)=CJ (b++a.drop (i+b.length)) := by rw [e1]; exact PT _ _
  have e3:lo (CJ a) i=CJ (a.take i) := by rw [FX, L8]
  have e4:i=(a.take i).length := by rw [List.length_take]; omega
  rw [e2, e3]
  have e5:Nat.add (CJ (a.take i)) (up (CJ (b++a.drop (i+b.length))) i)=CJ (a.take i++(b++a.drop (i+b.length))) := by
    have := PT (a.take i) (b++a.drop (i+b.length))
    rw [←e4] at this; exact this
  rw [e5]
  unfold cb
  have e6:(a.take i++(b++a.drop (i+b.length))).length=a.length := by simp only [List.length_append, List.length_take, List.length_drop]; omega
  rw [e6]
theorem Rw (a b:List UInt8):G2 a.length (CJ a) b.length (CJ b)=decide (a=b) := by
  unfold G2
  rw [Ff, Ff]
  by_cases h:a=b
  · subst h; simp
  · rw [decide_eq_false h]
    by_cases hl:a.length=b.length
    · rw [decide_eq_true hl, Bool.true_and, decide_eq_false (fun he => h (KX hl he))]
    · rw [decide_eq_false hl]; rfl
theorem YT {p:K4} {h:Heap} {l:List UInt8} {s:Bool} {pr:Option K4} {off len cap:Nat} {ex:Bool} (hp:Ag p h=some (.c (cb l) s pr)) (hl:off+len≤l.length) (κ:V->R):Hj (.sl p off len cap ex 1) h κ=κ (sb ((l.drop off).take len)) := by
  show br (Nat.beq 1 1) (NN p h fun cs _ _ => Dt cs off len fun y => @Cs.rec (fun _ => R) (fun l => Fi l (fun m c => κ (.str m c)) (.fail "")) (fun m c => κ (.str m c)) y) (.fail "")=_
  rw [Nat.beq_refl, AG, Gk, KA hp, IH hl]; rfl
theorem YM {p:K4} {h:Heap} {l:List UInt8} {s:Bool} {pr:Option K4} {off len cap:Nat} {ex:Bool} (hp:Ag p h=some (.c (cb l) s pr)) (hl:off+len≤l.length) (κ:Nat->Cs->R):JB 1 (.sl p off len cap ex 1) h κ=κ len (cb ((l.drop off).take len)) := by
  show br (Nat.beq 1 1) (Kd p h fun cs _ _ => Ah (Nat.mul len 1) fun m => Dt cs off m fun y => κ len y) (.fail "")=_
  rw [Nat.beq_refl, AG, KA hp, A9, show Nat.mul len 1=len from Nat.mul_one len, IH hl]
theorem Tn {m:Nat} (hm:0<m) (hm2:m≤1000000000000) {n:K4} (hn:n.toN<65535) (y:Cs) (h:Heap) (κ:KV):EQ 1 1 (.nil .sl) m y h n κ=κ (.sl n 0 m m false 1) (B0 n h (some (.c y false none))) n.up := by
  show br (Nat.beq m 0) (κ (.nil .sl) h n) (br (Nat.ble (Nat.mul (Nat.add (Nat.mul 4 m) 4096) 1) 281474976710656) (Gm h n (.c y false none) fun h' n' => κ (.sl n 0 m m false 1) h' n') (.fail ""))=_
  rw [Ff, decide_eq_false (by omega), CB, show Nat.ble (Nat.mul (Nat.add (Nat.mul 4 m) 4096) 1) 281474976710656=true from Ap.2 (by show (4*m+4096)*1≤_; omega), AG, BN hn]
theorem Rs {x:V} (hx:x = .nil .sl ∨ ∃ p off len cap ex, x = .sl p off len cap ex 1) (y:Cs) (h:Heap) (n:K4) (κ:KV):EQ 1 1 x 0 y h n κ=κ x h n := by
  rcases hx with rfl | ⟨p, off, len, cap, ex, rfl⟩ <;> rfl
/-- Bytes of one's own, full: they grow, and lie anew. -/
theorem JP {p:K4} {h:Heap} {a b:List UInt8} {pr:Option K4} (hp:Ag p h=some (.c (cb a) false pr)) {ex:Bool} (hb:0<b.length) (hm2:a.length+b.length≤1000000000000) {n:K4} (hn:n.toN<65535) (κ:KV) :
    EQ 1 1 (.sl p 0 a.length a.length ex 1) b.length (cb b) h n κ=if ex then κ (.sl n 0 (a++b).length (a++b).length false 1) (B0 n h (some (.c (cb (a++b)) false none))) n.up
      else κ (.sl n 0 (a++b).length (a++b).length false 1) (B0 n (B0 p (HD pr h) (some (.c (cb a) true none))) (some (.c (cb (a++b)) false (some p)))) n.up := by
  show br (Nat.beq 1 1) (br (Nat.beq b.length 0) (κ (.sl p 0 a.length a.length ex 1) h n) (Ah (Nat.add a.length b.length) fun need => br (Nat.ble need a.length) (Ah (Nat.add 0 (Nat.mul a.length 1)) fun j => HK h p j (cb b) fun h' => κ (.sl p 0 need a.length ex 1) h' n)
    (br (Nat.ble (Nat.mul (Nat.add (Nat.mul 4 need) 4096) 1) 281474976710656)
      (NN p h fun cs sup prev => Ah (Nat.mul a.length 1) fun l => Dt cs 0 l fun x => TO x (cb b) fun z =>
        br ex (Gm h n (.c z false none) fun h' n' => κ (.sl n 0 need need false 1) h' n')
          (br sup (.fail "") (Ah (Nat.add 0 l) fun j => Dt cs 0 j fun old => JO prev h fun h => H6 p h (some (.c old true none)) fun h =>
            Gm h n (.c z false (some p)) fun h' n' => κ (.sl n 0 need need false 1) h' n'))) (.fail "")))) (.fail "")=_
  have e1:∀ l:List UInt8, (l.drop 0).take l.length=l := fun l => by rw [List.drop_zero, List.take_length]
  have e3:Nat.ble (Nat.mul (Nat.add (Nat.mul 4 (Nat.add a.length b.length)) 4096) 1) 281474976710656=true := Ap.2 (by show (4*(a.length+b.length)+4096)*1≤_; omega)
  have e4:Nat.ble (Nat.add a.length b.length) a.length=false := Df (by show a.length<a.length+b.length; omega)
  rw [Nat.beq_refl, AG, Ff, decide_eq_false (by omega), CB, A9, e4, CB, e3, AG, Gk, KA hp, A9, show Nat.mul a.length 1=a.length from Nat.mul_one _, IH (by omega), e1, WM]
  have e2:Nat.add a.length b.length=(a++b).length := by rw [List.length_append]; rfl
  rw [e2]
  cases ex with
  | true => rw [AG, BN hn]; rfl
  | false =>
    rw [CB, CB, A9, show Nat.add 0 a.length=a.length from Nat.zero_add _, IH (by omega), e1, IG, Dm, BN hn]; rfl
end Go.Ev

namespace Go.Ev
set_option linter.unusedVariables false
theorem C5 (c:Jn) (en:List V->(S->R)->R) (bo:Jn->S->Heap->K4->R) (re:S->Heap->K4->R) (args:List V) (h:Heap) (n:K4):PY c (some (.code en bo re)) args h n=en args fun t => Nk (bo c t h n) re := id rfl
theorem CY (v:V) (l:List V) (k:V->List V->R):P7 (v::l) k=k v l := id rfl
theorem D6 (k:R):UR [] k=k := id rfl
theorem Bq (t:S) (h:Heap) (n:K4) (res:S->Heap->K4->R):Nk (.ok .ret t h n) res=res t h n := id rfl
theorem BJ (t:S) (h:Heap) (n:K4) (res:S->Heap->K4->R):Nk (.ok .nrm t h n) res=res t h n := id rfl
theorem Bs (b:Bool) (x y:R) (res:S->Heap->K4->R):Nk (bif b then x else y) res=bif b then Nk x res else Nk y res := by cases b <;> rfl
theorem CZ (t:S) (h:Heap) (n:K4):rT t h n = .ok .ret t h n := id rfl
theorem CX (t:S) (h:Heap) (n:K4):nR t h n = .ok .nrm t h n := id rfl
theorem CS (r:Nat):iI r = .int .i64 r := id rfl
theorem D8 (v:V) (κ:V->R):Ee (Du v) κ=κ v := id rfl
end Go.Ev

namespace Go.Ev
set_option linter.unusedVariables false
def WF (o:EM) (κ:List (V×V)->List Nat->Nat->R):R :=
  @Option.rec Ob (fun _ => R) (.fail "") (fun o => @Ob.rec (fun _ => R) (Ey "") κ (HO "") (.fail "") (CN "") o) o
theorem BZ (es:List (V×V)) (bs:List Nat) (c:Nat) (κ:List (V×V)->List Nat->Nat->R):WF (some (.m es bs c)) κ=κ es bs c := id rfl
theorem Ma (p:K4) (h:Heap) (κ:List (V×V)->List Nat->Nat->R):Oh p h κ=WF (Ag p h) κ := by unfold Oh; rw [EI]; rfl
theorem D9 (p:K4) (a c:Nat) (w:V) (h:Heap) (κ:Heap->R):Q7 (.sc .s) (.map p) (.str a c) w h κ=WF (Ag p h) fun es bs k => Hd (.sc .s) (.str a c) w es fun es' => UQ es' bs k fun bs' k' => κ (B0 p h (some (.m es' bs' k'))) := by
  show R7 p h (fun es bs c' k => Hd (.sc .s) (.str a c) w es fun es => UQ es bs c' fun bs c => k es bs c) κ=_
  rw [L5, Ma]
  simp only [Dm]
theorem D7 (z:V) (p:K4) (a c:Nat) (h:Heap) (κ:V->R):KF (.sc .s) z false (.map p) (.str a c) h κ=WF (Ag p h) fun es _ _ => Hh (.sc .s) (.str a c) es κ (κ z) := by
  show TI p h (fun es _ _ => Hh (.sc .s) (.str a c) es (fun r => κ r) (κ z))=_
  rw [HV, Ma]
theorem Cy (p:K4) (a c:Nat) (h:Heap) (κ:Heap->R):Rj (.sc .s) (.map p) (.str a c) h κ=WF (Ag p h) fun es bs k => Kl (.sc .s) (.str a c) es fun es2 => Kf (.sc .s) (.str a c) es bs fun bs' => κ (B0 p h (some (.m es2 bs' k))) := by
  show R7 p h (fun es bs c' k => Kl (.sc .s) (.str a c) es fun es2 => Kf (.sc .s) (.str a c) es bs fun bs => k es2 bs c') κ=_
  rw [L5, Ma]
  simp only [Dm]
theorem YD (es:List (V×V)) (κ:Nat->R):Vf es κ=κ es.length := by
  induction es generalizing κ with
  | nil => rfl
  | cons e es ih => exact (ih fun n => Ah (Nat.succ n) κ).trans (A9 _ _)
theorem AH {m:Nat} (h:m<9223372036854775808) (κ:V->R):FZ m κ=κ (.int .i64 m) := by
  show br (Nat.ble (Nat.succ m) 9223372036854775808) (κ (.int .i64 m)) (.fail "")=_
  rw [show Nat.ble (Nat.succ m) 9223372036854775808=true from Ap.2 h, AG]
theorem Cq (p:K4) (h:Heap) (κ:V->R):Ru (.map p) h κ=WF (Ag p h) fun es _ _ => FZ es.length κ := by
  show TI p h (fun es _ _ => Vf es fun m => FZ m κ)=_
  rw [HV, Ma]
  simp only [YD]
theorem Aj (k:V) (κf:V->R) (κn:R):Hh (.sc .s) k [] κf κn=κn := id rfl
theorem Al (a c m d:Nat) (w:V) (es:List (V×V)) (κf:V->R) (κn:R):Hh (.sc .s) (.str a c) ((.str m d, w)::es) κf κn=bif G2 a c m d then κf w else Hh (.sc .s) (.str a c) es κf κn := by
  show Er (G2 a c m d) (fun r => br r (κf w) (Hh (.sc .s) (.str a c) es κf κn))=_
  rw [Dr]; cases G2 a c m d <;> rfl
theorem AE (k v:V) (κ:List (V×V)->R):Hd (.sc .s) k v [] κ=κ [(k, v)] := id rfl
theorem Av (a c m d:Nat) (v w:V) (es:List (V×V)) (κ:List (V×V)->R):Hd (.sc .s) (.str a c) v ((.str m d, w)::es) κ=bif G2 a c m d then κ ((.str a c, v)::es) else Hd (.sc .s) (.str a c) v es fun l => κ ((.str m d, w)::l) := by
  show Er (G2 a c m d) (fun r => br r (κ ((.str a c, v)::es)) (Hd (.sc .s) (.str a c) v es fun l => κ ((.str m d, w)::l)))=_
  rw [Dr]; cases G2 a c m d <;> rfl
theorem AA (k:V) (κ:List (V×V)->R):Kl (.sc .s) k [] κ=κ [] := id rfl
theorem AD (a c m d:Nat) (w:V) (es:List (V×V)) (κ:List (V×V)->R):Kl (.sc .s) (.str a c) ((.str m d, w)::es) κ=bif G2 a c m d then κ es else Kl (.sc .s) (.str a c) es fun l => κ ((.str m d, w)::l) := by
  show Er (G2 a c m d) (fun r => br r (κ es) (Kl (.sc .s) (.str a c) es fun l => κ ((.str m d, w)::l)))=_
  rw [Dr]; cases G2 a c m d <;> rfl
theorem Aw (k:V) (bs:List Nat) (κ:List Nat->R):Kf (.sc .s) k [] bs κ=κ bs := id rfl
theorem Az (a c m d b:Nat) (w:V) (es:List (V×V)) (bs:List Nat) (κ:List Nat->R):Kf (.sc .s) (.str a c) ((.str m d, w)::es) (b::bs) κ=bif G2 a c m d then κ bs else Kf (.sc .s) (.str a c) es bs fun l => κ (b::l) := by
  show Er (G2 a c m d) (fun r => br r (κ bs) (Kf (.sc .s) (.str a c) es bs fun l => κ (b::l)))=_
  rw [Dr]; cases G2 a c m d <;> rfl
theorem Ar (a c m d:Nat):G2 a c m d=(decide (a=m)&&decide (c=d)) := by unfold G2; rw [Ff, Ff]
theorem Qw:∀ (es:List (V×V)) (bs:List Nat), J0 es bs=decide (es.length=bs.length)
  | [], [] => rfl
  | [], _::_ => rfl
  | _::_, [] => rfl
  | e::es, b::bs => by
    have := Qw es bs
    show J0 es bs=_
    rw [this]; simp
theorem X4 (bs:List Nat) (c:Nat) (κ:List Nat->R):Tl bs c κ=κ (bs++[c]) := by
  induction bs generalizing κ with
  | nil => rfl
  | cons b bs ih => exact ih fun l => κ (b::l)
theorem Cg (es:List (V×V)) (bs:List Nat) (c:Nat) (κ:List Nat->Nat->R):UQ es bs c κ=bif decide (es.length=bs.length) then κ bs c else κ (bs++[c]) (c+1) := by
  unfold UQ
  rw [Qw]
  cases decide (es.length=bs.length) with
  | true => rfl
  | false =>
    rw [CB, X4, A9]; rfl
theorem Bm (x v:V) (xs:List V) (κ:List V->R):El 0 (x::xs) v κ=κ (v::xs) := id rfl
theorem BH (m:Nat) (x v:V) (xs:List V) (κ:List V->R):El (m+1) (x::xs) v κ=El m xs v fun zs => κ (x::zs) := id rfl
theorem Bj (o:Nat) (k:IntKind) (r:Nat) (z:List V) (κ:List V->R):CI o (.int k r) z κ=El o z (.int k r) κ := id rfl
theorem AZ (o:Nat) (b:Bool) (z:List V) (κ:List V->R):CI o (.bool b) z κ=El o z (.bool b) κ := id rfl
theorem BK (o:Nat) (p:K4) (r:Nat) (z:List V) (κ:List V->R):CI o (.ptr p r) z κ=El o z (.ptr p r) κ := id rfl
theorem Bn (o:Nat) (p:K4) (z:List V) (κ:List V->R):CI o (.map p) z κ=El o z (.map p) κ := id rfl
theorem Bt (o:Nat) (a c:Nat) (z:List V) (κ:List V->R):CI o (.str a c) z κ=El o z (.str a c) κ := id rfl
theorem B1 (o:Nat) (w:Nl) (z:List V) (κ:List V->R):CI o (.nil w) z κ=El o z (.nil w) κ := id rfl
theorem BT (o:Nat) (q:K4) (a b c:Nat) (e:Bool) (x:Nat) (z:List V) (κ:List V->R):CI o (.sl q a b c e x) z κ=El o z (.sl q a b c e x) κ := id rfl
def YH (o:EM) (m off:Nat) (κ:V->R):R := @Option.rec Ob (fun _ => R) (.fail "") (fun o => @Ob.rec (fun _ => R) (fun cs _ _ => Dt cs off m fun y => GX y fun l => κ (.agg l)) (Ey "") (HO "") (.fail "") (CN "") o) o
theorem Cx (m:Nat) (p:K4) (off:Nat) (h:Heap) (κ:V->R):MH m (.ptr p off) h κ=YH (Ag p h) m off κ := by
  show NN p h (fun cs _ _ => Dt cs off m fun y => GX y fun l => κ (.agg l))=_
  rw [Gk]; unfold Kd YH; rw [EI]
theorem K4.nx16_all (p:K4) (h:p.toN<65520):∃ q:K4, q.toN=(p.toN / 16+1)*16∧q.d = .d0 ∧ ∀ k:K4->R, p.nx16 k=k q := by
  obtain ⟨a, b, c, d⟩ := p
  simp only [K4.toN] at h
  have hd0:D.d0.toN=0 := rfl
  have ha := a.toN_lt; have hb := b.toN_lt; have hc := c.toN_lt; have hd := d.toN_lt
  rcases c.nx_all with ⟨c1, c2⟩ | ⟨e, c1, c2⟩
  · rcases b.nx_all with ⟨b1, b2⟩ | ⟨e, b1, b2⟩
    · rcases a.nx_all with ⟨a1, a2⟩ | ⟨e, a1, a2⟩
      · omega
      · exact ⟨⟨e, .d0, .d0, .d0⟩, by simp only [K4.toN, hd0]; omega, rfl, fun k => by show c.nx _ (b.nx _ (a.nx _ _))=_; rw [c2, b2, a2]⟩
    · exact ⟨⟨a, e, .d0, .d0⟩, by simp only [K4.toN, hd0]; omega, rfl, fun k => by show c.nx _ (b.nx _ _)=_; rw [c2, b2]⟩
  · exact ⟨⟨a, b, e, .d0⟩, by simp only [K4.toN, hd0]; omega, rfl, fun k => by show c.nx _ _=_; rw [c2]⟩
open Classical in
def K4.up16 (p:K4):K4 := if h:p.toN<65520 then Classical.choose (p.nx16_all h) else p
theorem K4.up16_toN {p:K4} (h:p.toN<65520):p.up16.toN=(p.toN / 16+1)*16 := by
  unfold K4.up16; rw [dif_pos h]; exact (Classical.choose_spec (p.nx16_all h)).1
theorem K4.nx16_up {p:K4} (h:p.toN<65520) (k:K4->R):p.nx16 k=k p.up16 := by
  unfold K4.up16; rw [dif_pos h]; exact (Classical.choose_spec (p.nx16_all h)).2.2 k
def K4.pl (p:K4) (j:D):K4 := ⟨p.a, p.b, p.c, j⟩
theorem K4.pl_toN {p:K4} (h:p.toN<65520) (j:D):(p.up16.pl j).toN=(p.toN / 16+1)*16+j.toN := by
  have h1 := K4.up16_toN h
  have h2:p.up16.d = .d0 := by unfold K4.up16; rw [dif_pos h]; exact (Classical.choose_spec (p.nx16_all h)).2.1
  rw [←h1]
  unfold K4.pl
  simp only [K4.toN, h2]
  show _=_+(D.d0.toN)+_
  rw [show D.d0.toN=0 from rfl, Nat.add_zero]
theorem Bp {n:K4} (h:n.toN<65000) (κ:K4->K4->R):QN n κ=κ n.up16 n.up16.up16 := by
  show n.nx16 (fun b => b.nx16 fun n => κ b n)=_
  have := K4.up16_toN (p := n) (by omega)
  rw [K4.nx16_up (by omega), K4.nx16_up (by omega)]
/-- What is asked of a place that is to be free. -/
def frO (o:EM) (κ:R):R := II o κ
theorem Aq (κ:R):frO none κ=κ := id rfl
theorem CV (b:K4) (j:D) (h:Heap) (κ:R):XN b j h κ=frO (Ag (b.pl j) h) κ := by
  show b.at j (fun r => Dz r h fun x => II x κ)=_
  rw [K4.at_eq, DI]; rfl
theorem CW (b:K4) (j:D) (h:Heap) (F:K4->R) (κ:V->Heap->R):Zj b j h F κ=frO (Ag (b.pl j) h) (Iu (F (b.pl j)) fun v h _ => κ v h) := by
  show b.at j (fun r => Dz r h fun x => II x (Iu (F r) fun v h _ => κ v h))=_
  rw [K4.at_eq, DI]; rfl
theorem Af {p q:K4} (h:q.toN<p.toN) (hp:Heap) (o:Option Ob):Ag q (B0 p hp o)=Ag q hp := A7 _ _ fun e => by subst e; omega
theorem Ao {p q:K4} (h:p.toN<q.toN) (hp:Heap) (o:Option Ob):Ag q (B0 p hp o)=Ag q hp := A7 _ _ fun e => by subst e; omega
theorem AS (v:V) (h:Heap) (n:K4) (κ:KV):Fo (.rv v h n) κ=κ v h n := id rfl
theorem Cf (p:K4) {h:Heap} {n:K4} (hn:n.toN<65535) (κ:KV):UE (.map p) h n κ=WF (Ag p h) fun _ _ c => κ (.ptr n 0) (B0 n h (some (.it p c [] c))) n.up := by
  show TI p h (fun _ _ c => Gm h n (.it p c [] c) fun h' n' => κ (.ptr n 0) h' n')=_
  rw [HV, Ma]
  simp only [BN hn]
def itO (o:EM) (κ0:R) (κ:K4->Nat->List Nat->Nat->R):R := @Option.rec Ob (fun _ => R) (.fail "") (fun o => @Ob.rec (fun _ => R) (Ey "") (Ey "") κ κ0 (CN "") o) o
theorem B8 (p:K4) (a:Nat) (l:List Nat) (c:Nat) (κ0:R) (κ:K4->Nat->List Nat->Nat->R):itO (some (.it p a l c)) κ0 κ=κ p a l c := id rfl
theorem XW (q:K4) (h:Heap) (κ0:R) (κ:K4->Nat->List Nat->Nat->R):Wv q h κ0 κ=itO (Ag q h) κ0 κ := DI _ _ _
theorem CA (q:K4) (h:Heap) (n:K4) (κ:KV):Ul (.ptr q 0) h n κ=itO (Ag q h) (κ (.tup [.bool false]) h n) fun p since seen c => WF (Ag p h) fun es bs clk => br (Ky since bs) (br (Nat.ble since c)
    (Ja seen (Rg q p since seen clk h n κ) es bs (κ (.tup [.bool false]) h n)) (.fail "")) (.fail "") := by
  show br (Nat.beq 0 0) (Wv q h (κ (.tup [.bool false]) h n) fun p since seen c => TI p h fun es bs clk => br (Ky since bs) (br (Nat.ble since c) (Ja seen (Rg q p since seen clk h n κ) es bs (κ (.tup [.bool false]) h n)) (.fail "")) (.fail "")) (.fail "")=_
  rw [Nat.beq_refl, AG, XW, HV]
  simp only [Ma]
theorem Ac (seen:List Nat) (leaf:V×V->Nat->R) (bs:List Nat) (none:R):Ja seen leaf [] bs none=none := id rfl
theorem A8 (seen:List Nat) (leaf:V×V->Nat->R) (e:V×V) (es:List (V×V)) (b:Nat) (bs:List Nat) (none:R):Ja seen leaf (e::es) (b::bs) none=br (Iy b seen) (Ja seen leaf es bs none) (Iv seen leaf es bs (leaf e b)) := id rfl
theorem Ad (seen:List Nat) (leaf:V×V->Nat->R) (bs:List Nat) (acc:R):Iv seen leaf [] bs acc=acc := id rfl
theorem Ax (b:Nat):Iy b []=false := id rfl
theorem Ai (b x:Nat) (l:List Nat):Iy b (x::l)=(decide (x=b) || Iy b l) := by
  show br (Nat.beq x b) true (Iy b l)=_
  rw [Ff]; cases decide (x=b) <;> rfl
theorem Am (s:Nat):Ky s []=true := id rfl
theorem Ae (s b:Nat) (bs:List Nat):Ky s (b::bs)=(decide (b<s)&&Ky s bs) := by
  show br (Nat.ble (Nat.succ b) s) (Ky s bs) false=_
  rw [Aa]
  cases h:decide (Nat.succ b≤s) with
  | true => rw [decide_eq_true (show b<s from of_decide_eq_true h)]; rfl
  | false => rw [decide_eq_false (show ¬ b<s from of_decide_eq_false h)]; rfl
theorem AX (q p:K4) (since:Nat) (seen:List Nat) (clk:Nat) (h:Heap) (n:K4) (κ:KV) (k x:V) (b:Nat):Rg q p since seen clk h n κ (k, x) b=κ (.tup [.bool true, k, x]) (B0 q h (some (.it p since (b::seen) clk))) n := by
  show Eb q h (some (.it p since (b::seen) clk)) (fun h' => κ (.tup [.bool true, k, x]) h' n)=_
  rw [Eg, Dm]
theorem CP (b:Bool) (x y:R):br b x y=bif b then x else y := by cases b <;> rfl
theorem Ba (q:K4) (h:Heap) (n:K4) (κ:KV):Pq (.ptr q 0) h n κ=itO (Ag q h) (.fail "") fun p since seen c => WF (Ag p h) fun es bs clk => bif decide (clk=c) then (@List.rec Nat (fun _ => R) (.fail "") (fun s _ _ => IX s es bs fun k x => κ (.tup [k, x]) h n) seen) else .fail "" := by
  show br (Nat.beq 0 0) (Wv q h (.fail "") fun p since seen c => TI p h fun es bs clk => br (Nat.beq clk c) (@List.rec Nat (fun _ => R) (.fail "") (fun s _ _ => IX s es bs fun k x => κ (.tup [k, x]) h n) seen) (.fail "")) (.fail "")=_
  rw [Nat.beq_refl, AG, XW, HV]
  simp only [Ma, Ff, CP]
theorem Ab (s:Nat) (k x:V) (es:List (V×V)) (b:Nat) (bs:List Nat) (κ:V->V->R):IX s ((k, x)::es) (b::bs) κ=bif decide (b=s) then κ k x else IX s es bs κ := by
  show br (Nat.beq b s) (κ k x) (IX s es bs κ)=_
  rw [Ff, CP]
theorem Bv (x:V) (l:List V) (κ:V->R):Eo 0 (.tup (x::l)) κ=κ x := id rfl
theorem BB (x y:V) (l:List V) (κ:V->R):Eo 1 (.tup (x::y::l)) κ=κ y := id rfl
theorem Bf (x y z:V) (l:List V) (κ:V->R):Eo 2 (.tup (x::y::z::l)) κ=κ z := id rfl
theorem Aal (c:Jn) (f:Nat) (its:List Nat) (rd:Rd) (s:V) (h:Heap) (n:K4) (hits:∀ g κ, g∈its->Kv g its κ=κ) (g:Nat) (caps:List V) (hs:s = .fn g caps) (hg:g∈its) (hn:n.toN<65000) :
    PY c (some (.ap f its rd)) [.nil .sl, s] h n=Fo (c (DH g) (.oth (.yl n.up)::caps) (B0 n.up (B0 n h (some (.c (.l [.nil .sl]) false none))) (some (.lp f n))) n.up.up) fun _ h m => Dz n.up h fun o => Xa o (NN n h fun cs _ _ => Ht cs 0 fun sv => Eb n h none fun h => Eb n.up h none fun h => .rv sv h m) := by
  subst hs
  have h1 := K4.up_toN (p := n) (by omega)
  show Kv g its (Eb n h (some (.c (.l [.nil .sl]) false none)) fun h => n.nx fun n1 => Eb n1 h (some (.lp f n)) fun h => n1.nx fun n2 =>
      Fo (c (DH g) (.oth (.yl n1)::caps) h n2) fun _ h m =>
        Dz n1 h fun o => Xa o (NN n h fun cs _ _ => Ht cs 0 fun sv => Eb n h none fun h => Eb n1 h none fun h => .rv sv h m))=_
  rw [hits g _ hg, Eg, Dm, K4.nx_up (by omega), Eg, Dm, K4.nx_up (by omega)]
def lpO (o:EM) (κ:Nat->K4->R):R := @Option.rec Ob (fun _ => R) (.fail "") (fun o => @Ob.rec (fun _ => R) (Ey "") (Ey "") (HO "") (.fail "") (fun f box => κ f box) o) o
theorem By (f:Nat) (b:K4) (κ:Nat->K4->R):lpO (some (.lp f b)) κ=κ f b := id rfl
theorem C9 (c:Jn) (p:K4) (x:V) (h:Heap) (n:K4) (κ:KV):UM c (.oth (.yl p)) [x] h n κ=lpO (Ag p h) fun f box => Fo (c (DH f) [.oth .no, .ptr box 0, x] (B0 p h none) n) fun v h n => κ v (B0 p h (some (.lp f box))) n := by
  show Dz p h (fun o => @Option.rec Ob (fun _ => R) (.fail "") (fun o => @Ob.rec (fun _ => R) (Ey "") (Ey "") (HO "") (.fail "")
    (fun f box => Eb p h none fun h => Fo (c (DH f) [.oth .no, .ptr box 0, x] h n) fun v h n => Eb p h (some (.lp f box)) fun h => κ v h n) o) o)=_
  rw [DI]
  unfold lpO
  simp only [Eg, Dm]
theorem CQ (c:Jn) (f:Nat) (its:List Nat) (rd:Rd) (b x:V) (h:Heap) (n:K4):PY c (some (.ap f its rd)) [.oth .no, b, x] h n=rd c b x h n := id rfl
def Xr (o:EM) (off m:Nat) (κ:Cs->R):R := @Option.rec Ob (fun _ => R) (.fail "") (fun o => @Ob.rec (fun _ => R) (fun cs _ _ => Dt cs off m κ) (Ey "") (HO "") (.fail "") (CN "") o) o
theorem Cc (z eb:Nat) (u:V) (p:K4) (off len cap:Nat) (ex:Bool) (h:Heap) (n:K4) (κ:KV):Ig z eb u (.sl p off len cap ex z) h n κ=Xr (Ag p h) off (len*z) fun y => EQ z eb u len y h n κ := by
  show br (Nat.beq z z) (Kd p h fun cs _ _ => Ah (Nat.mul len z) fun m => Dt cs off m fun y => EQ z eb u len y h n κ) (.fail "")=_
  rw [Nat.beq_refl, AG]
  unfold Kd Xr
  rw [EI]
  simp only [A9]; rfl
theorem Bo {z eb m:Nat} (hm:0<m) (hs:(4*m+4096)*eb≤281474976710656) {n:K4} (hn:n.toN<65535) (y:Cs) (h:Heap) (κ:KV):EQ z eb (.nil .sl) m y h n κ=κ (.sl n 0 m m false z) (B0 n h (some (.c y false none))) n.up := by
  show br (Nat.beq m 0) (κ (.nil .sl) h n) (br (Nat.ble (Nat.mul (Nat.add (Nat.mul 4 m) 4096) eb) 281474976710656) (Gm h n (.c y false none) fun h' n' => κ (.sl n 0 m m false z) h' n') (.fail ""))=_
  rw [Ff, decide_eq_false (by omega), CB, show Nat.ble (Nat.mul (Nat.add (Nat.mul 4 m) 4096) eb) 281474976710656=true from Ap.2 hs, AG, BN hn]
theorem Z7 (z:Nat) {p:K4} {off len cap:Nat} {ex:Bool} {k:IntKind} {a:Nat} (ha:a<Hk k) (hl:a<len) (κ:V->R):Ei z (.sl p off len cap ex z) (.int k a) κ=κ (.ptr p (off+a*z)) := by
  show br (Nat.ble (Nat.succ a) (Hk k)) (br (Nat.beq z z) (br (Nat.ble (Nat.succ a) len) (Ah (Nat.add off (Nat.mul a z)) fun o => κ (.ptr p o)) (.fail "")) (.fail "")) (.fail "")=_
  rw [show Nat.ble (Nat.succ a) (Hk k)=true from Ap.2 ha, AG, Nat.beq_refl, AG, show Nat.ble (Nat.succ a) len=true from Ap.2 hl, AG, A9]; rfl
theorem Cm {z:Nat} {p:K4} {off len cap:Nat} {ex:Bool} {a:Nat} (ha:a<9223372036854775808) (hl:a<len) (κ:V->R):Ei z (.sl p off len cap ex z) (.int .i64 a) κ=κ (.ptr p (off+a*z)) := Z7 z (k := .i64) ha hl κ
theorem B5 {n:K4} (hn:n.toN<65535) (p:K4) (h:Heap) (κ:KV):HG (.map p) h n κ=κ (.ptr n 0) (B0 n h (some (.c (.l [.map p]) false none))) n.up := BN hn _ _ _
theorem CT:Hk .i64=9223372036854775808 := rfl
theorem C2 {p:K4} {off len cap:Nat} {ex:Bool} {z:Nat} (h:len<9223372036854775808) (κ:V->R):DG (.sl p off len cap ex z) κ=κ (.int .i64 len) := AH h κ
theorem Bk (κ:V->R):DG (.nil .sl) κ=κ (.int .i64 0) := id rfl
theorem Bz {n c:Nat} (h:n<9223372036854775808) (κ:V->R):DG (.oth (.rb n c)) κ=κ (.int .i64 n) := AH h κ
theorem BG {l:List RV} {m z:Nat} (h:m<9223372036854775808) (κ:V->R):DG (.oth (.rx l m z)) κ=κ (.int .i64 m) := AH h κ
/-- Nothing stands where nothing was N6. -/
def Dg (h:Heap) (n:K4):Prop := ∀ q:K4, n.toN≤q.toN->Ag q h=none
theorem Bi (a b c:V) (s:Bool) (pr:Option K4) (κ:V->R):YH (some (.c (.l [a, b, c]) s pr)) 3 0 κ=κ (.agg [a, b, c]) := id rfl
theorem Bx (a b c:V) (s:Bool) (pr:Option K4) (κ:Cs->R):Xr (some (.c (.l [a, b, c]) s pr)) 0 3 κ=κ (.l [a, b, c]) := id rfl
theorem BE (a:V) (s:Bool) (pr:Option K4) (κ:Cs->R):Xr (some (.c (.l [a]) s pr)) 0 1 κ=κ (.l [a]) := id rfl
theorem AP (a b c x y z:V) (κ:List V->R):LN 0 3 (.agg [a, b, c]) [x, y, z] κ=κ [a, b, c] := id rfl
theorem RY (body:S->Heap->K4->R) (t:S) (h:Heap) (n:K4):EJ body t h n=QW (body t h n) fun t h n => QW (body t h n) (Gw body 999999998) := id rfl
theorem HH (body:S->Heap->K4->R) (t:S) (h:Heap) (n:K4):EJ body t h n=QW (body t h n) (Gw body 999999999) := id rfl
theorem GC (body:S->Heap->K4->R) (m:Nat) (t:S) (h:Heap) (n:K4):Gw body (m+1) t h n=QW (body t h n) (Gw body m) := id rfl
theorem BO (t:S) (h:Heap) (n:K4) (κ:S->Heap->K4->R):QW (.ok .nrm t h n) κ=κ t h n := id rfl
theorem BS (i:Nat) (t:S) (h:Heap) (n:K4) (κ:S->Heap->K4->R):QW (.ok (.exit i) t h n) κ = .ok (.exit i) t h n := id rfl
theorem Cb (t:S) (h:Heap) (n:K4) (κ:S->Heap->K4->R):QW (.ok .ret t h n) κ = .ok .ret t h n := id rfl
theorem Ca (b:Bool) (x y:R) (κ:S->Heap->K4->R):QW (bif b then x else y) κ=bif b then QW x κ else QW y κ := by cases b <;> rfl
theorem AT (p:K4) (h:Heap) (i:Nat) (κ:V->R):NN p h (fun cs _ _ => Ht cs i κ)=ldO (Ag p h) i κ := CR p i h κ
theorem Au (p:K4) (h:Heap) (κ:R):Dz p h (fun o => Xa o κ)=Xa (Ag p h) κ := DI _ _ _
theorem BD (f:Nat) (b:K4) (κ:R):Xa (some (.lp f b)) κ=κ := id rfl
theorem AQ (p:K4) (h:Heap) (o:EM) (κ:Heap->R):Eb p h o κ=κ (B0 p h o) := by rw [Eg, Dm]
end Go.Ev

namespace Go.Ev
set_option linter.unusedVariables false
theorem K4.beq_self (p:K4):p.beq p=true := K4.beq_iff.2 rfl
theorem LP (k:IntKind) (r:Nat) (κ:R):E9 (.int k r) (.int k r) κ=κ := by
  show br (Ds k k) (br (Nat.beq r r) κ _) _=_
  rw [Db.2 rfl, Nat.beq_refl]; rfl
theorem Se (p:K4) (o:Nat) (κ:R):E9 (.ptr p o) (.ptr p o) κ=κ := by
  show br (K4.beq p p) (br (Nat.beq o o) κ _) _=_
  rw [K4.beq_self, Nat.beq_refl]; rfl
theorem Yx (p:K4) (κ:R):E9 (.map p) (.map p) κ=κ := by
  show br (K4.beq p p) κ _=_
  rw [K4.beq_self]; rfl
theorem Ya (w:Nl) (κ:R):E9 (.nil w) (.nil w) κ=κ := by cases w <;> rfl
theorem Ye (p:K4) (a b c:Nat) (e:Bool) (z:Nat) (κ:R):E9 (.sl p a b c e z) (.sl p a b c e z) κ=κ := by
  show br (K4.beq p p) (br (and (Nat.beq a a) (and (Nat.beq b b) (and (Nat.beq c c) (and (Bool.rec (Bool.rec true false e) e e) (Nat.beq z z))))) κ _) _=_
  rw [K4.beq_self]; simp only [Nat.beq_refl]; cases e <;> rfl
def IK (es:List (V×V)):Prop := ∀ e∈es, ∃ r w, e=(.int .i64 r, w)
theorem IK.nil:IK [] := fun e h => by cases h
theorem ZC (k:Nat) (w:V):∀ es:List (V×V), IK es->∃ es', (∀ κ:List (V×V)->R, Hd (.sc .i) (.int .i64 k) w es κ=κ es')∧IK es'∧es'.length≤es.length+1
  | [], _ => ⟨[(.int .i64 k, w)], fun κ => rfl, fun e he => by rcases List.mem_singleton.1 he with rfl; exact ⟨k, w, rfl⟩, by simp⟩
  | e::es, h => by
    obtain ⟨r, u, rfl⟩ := h e List.mem_cons_self
    have hes:IK es := fun x hx => h x (List.mem_cons_of_mem _ hx)
    obtain ⟨es', h1, h2, h3⟩ := ZC k w es hes
    cases hb:Nat.beq k r with
    | true => exact ⟨(.int .i64 k, w)::es, fun κ => by
        show Er (Nat.beq k r) (fun q => br q (κ ((.int .i64 k, w)::es)) (Hd (.sc .i) (.int .i64 k) w es fun l => κ ((.int .i64 r, u)::l)))=_
        rw [Dr, hb]; rfl, fun x hx => by
        rcases List.mem_cons.1 hx with rfl | hx
        · exact ⟨k, w, rfl⟩
        · exact hes x hx, by simp⟩
    | false => exact ⟨(.int .i64 r, u)::es', fun κ => by
        show Er (Nat.beq k r) (fun q => br q (κ ((.int .i64 k, w)::es)) (Hd (.sc .i) (.int .i64 k) w es fun l => κ ((.int .i64 r, u)::l)))=_
        rw [Dr, hb]; exact h1 _, fun x hx => by
        rcases List.mem_cons.1 hx with rfl | hx
        · exact ⟨r, u, rfl⟩
        · exact h2 x hx, by simp only [List.length_cons]; omega⟩
theorem Acb {q:K4} {h:Heap} {es:List (V×V)} {bs:List Nat} {c:Nat} (hq:Ag q h=some (.m es bs c)) (hk:IK es) (k:Nat) (w:V) :
    ∃ es' bs' c', (∀ κ:Heap->R, Q7 (.sc .i) (.map q) (.int .i64 k) w h κ=κ (B0 q h (some (.m es' bs' c'))))∧IK es' := by
  obtain ⟨es', h1, h2, h3⟩ := ZC k w es hk
  refine ⟨es', if es'.length=bs.length then bs else bs++[c], if es'.length=bs.length then c else c+1, fun κ => ?_, h2⟩
  show R7 q h (fun es bs c' k' => Hd (.sc .i) (.int .i64 k) w es fun es => UQ es bs c' fun bs c => k' es bs c) κ=_
  rw [L5, XZ hq, h1]
  rw [VA]; exact Dm _ _ _ _
def Kx (p:K4) (h:Heap) (c:V) (l:List UInt8):Prop := (c = .nil .sl∧l=[]) ∨ ∃ ex, c = .sl p 0 l.length l.length ex 1∧Ag p h=some (.c (cb l) false none)
theorem Kx.frame {p:K4} {h h':Heap} {c:V} {l:List UInt8} (H:Kx p h c l) (e:Ag p h'=Ag p h):Kx p h' c l := by
  rcases H with H | ⟨ex, h1, h2⟩
  · exact .inl H
  · exact .inr ⟨ex, h1, e.trans h2⟩
theorem Kx.len {p:K4} {h:Heap} {c:V} {l:List UInt8} (H:Kx p h c l) (hl:l.length<9223372036854775808) (κ:V->R):DG c κ=κ (.int .i64 l.length) := by
  rcases H with ⟨rfl, rfl⟩ | ⟨ex, rfl, h2⟩
  · rfl
  · exact AH hl κ
theorem KU:∀ m:Nat, CJ (List.replicate m 0)=0
  | 0 => rfl
  | m+1 => by rw [List.replicate_succ]; show (0:UInt8).toNat+256*CJ (List.replicate m 0)=0; rw [KU m]; rfl
theorem RG (u:V) {m:Nat} (hm:m≤1000000000000) (h:Heap) (n:K4) (κ:KV):Jy 1 1 true [.int .u8 0] u (.int .i64 m) h n κ=EQ 1 1 u m (cb (List.replicate m 0)) h n κ := by
  show br (Nat.ble (Nat.succ m) 9223372036854775808) (br (Nat.ble (Nat.mul 1 m) 281474976710656) (EQ 1 1 u m (.b m 0) h n κ) (.fail "")) (.fail "")=_
  rw [show Nat.ble (Nat.succ m) 9223372036854775808=true from Ap.2 (by omega), AG, show Nat.ble (Nat.mul 1 m) 281474976710656=true from Ap.2 (by rw [show Nat.mul 1 m=m from Nat.one_mul m]; omega), AG]
  unfold cb
  rw [KU, List.length_replicate]
theorem Ve {p:K4} {h:Heap} {c:V} {bs:List UInt8} (H:Kx p h c bs) {m:Nat} (hm:0<m) (hb:bs.length+m≤1000000000) {n:K4} (hn:n.toN<65000) (hpn:p.toN<n.toN) :
    ∃ h' pr, (∀ κ:KV, Jy 1 1 true [.int .u8 0] c (.int .i64 m) h n κ=κ (.sl n 0 (bs++List.replicate m 0).length (bs++List.replicate m 0).length false 1) h' n.up)∧Ag n h'=some (.c (cb (bs++List.replicate m 0)) false pr)∧(pr=none∨pr=some p) ∧
      (∀ q:K4, q≠n->q≠p->Ag q h'=Ag q h) := by
  rcases H with ⟨rfl, rfl⟩ | ⟨ex, rfl, h2⟩
  · refine ⟨_, none, fun κ => ?_, A6 _ _ _, .inl rfl, fun q hq _ => A7 _ _ (Ne.symm hq)⟩
    rw [RG _ (by omega), Tn hm (by omega) (by omega), List.nil_append, List.length_replicate]
  · have hl:(List.replicate m (0:UInt8)).length=m := List.length_replicate
    cases ex with
    | true =>
      refine ⟨_, none, fun κ => ?_, A6 _ _ _, .inl rfl, fun q hq _ => A7 _ _ (Ne.symm hq)⟩
      have e := JP h2 (ex := true) (b := List.replicate m 0) (by omega) (by omega) (n := n) (by omega) κ
      rw [hl] at e
      rw [RG _ (by omega), e, if_pos rfl]
    | false =>
      refine ⟨B0 n (B0 p h (some (.c (cb bs) true none))) (some (.c (cb (bs++List.replicate m 0)) false (some p))), some p, fun κ => ?_, A6 _ _ _, .inr rfl, fun q hq h3 => (A7 _ _ (Ne.symm hq)).trans (A7 _ _ (Ne.symm h3))⟩
      have e := JP h2 (ex := false) (b := List.replicate m 0) (by omega) (by omega) (n := n) (by omega) κ
      rw [hl] at e
      rw [RG _ (by omega), e, if_neg (by decide)]; rfl
/-- Bytes that are copied from. -/
def FK (v:V) (l:List UInt8) (h:Heap):Prop := v=IY l∨(v = .nil .sl∧l=[]) ∨ ∃ p off cap ex L s pr, v = .sl p off l.length cap ex 1∧Ag p h=some (.c (cb L) s pr)∧off+l.length≤L.length∧(L.drop off).take l.length=l
theorem FK.len {v:V} {l:List UInt8} {h:Heap} (H:FK v l h) (hl:l.length<9223372036854775808) (κ:V->R):DG v κ=κ (.int .i64 l.length) := by
  rcases H with rfl | ⟨rfl, rfl⟩ | ⟨p, off, cap, ex, L, s, pr, rfl, h1, h2, h3⟩
  · exact AH hl κ
  · rfl
  · exact AH hl κ
theorem FK.src {v:V} {l:List UInt8} {h:Heap} (H:FK v l h):∃ y, (∀ κ:Nat->Cs->R, JB 1 v h κ=κ l.length y)∧(0<l.length->y=cb l) := by
  rcases H with rfl | ⟨rfl, rfl⟩ | ⟨p, off, cap, ex, L, s, pr, rfl, h1, h2, h3⟩
  · exact ⟨cb l, fun κ => rfl, fun _ => rfl⟩
  · exact ⟨.l [], fun κ => rfl, fun h => by cases h⟩
  · refine ⟨cb l, fun κ => ?_, fun _ => rfl⟩
    rw [YM h1 h2, h3]
theorem FK.frame {v:V} {l:List UInt8} {h h':Heap} (H:FK v l h) (e:∀ p:K4, (∃ off cap ex, v = .sl p off l.length cap ex 1)->Ag p h'=Ag p h):FK v l h' := by
  rcases H with H | H | ⟨p, off, cap, ex, L, s, pr, rfl, h1, h2, h3⟩
  · exact .inl H
  · exact .inr (.inl H)
  · exact .inr (.inr ⟨p, off, cap, ex, L, s, pr, rfl, (e p ⟨off, cap, ex, rfl⟩).trans h1, h2, h3⟩)
theorem Aad {v:V} {h:Heap} (H:FK v [] h) {p:K4} {off len cap:Nat} {ex:Bool} (κ:V->Heap->R):Ks 1 (.sl p off len cap ex 1) v h κ=κ (.int .i64 0) h := by
  obtain ⟨y, h1, _⟩ := H.src
  show JB 1 v h (fun m y => _)=_
  rw [h1]
  show br (Nat.beq 1 1) (Ah (@Bool.rec (fun _ => Nat) len 0 (Nat.ble 0 len)) fun k => br (Nat.beq k 0) (κ (.int .i64 0) h) (Ah (Nat.mul k 1) fun j => Dt y 0 j fun y => HK h p off y fun h => FZ k fun v => κ v h)) (.fail "")=_
  rw [Nat.beq_refl, AG, A9, show Nat.ble 0 len=true from Ap.2 (Nat.zero_le _)]; rfl
theorem YU {v:V} {h:Heap} (H:FK v [] h) (κ:V->Heap->R):Ks 1 (.nil .sl) v h κ=κ (.int .i64 0) h := by
  obtain ⟨y, h1, _⟩ := H.src
  show JB 1 v h (fun m y => _)=_
  rw [h1]; rfl
theorem RR {v:V} {l bs:List UInt8} {h:Heap} (H:FK v l h) (h0:0<l.length) {p:K4} {off len cap:Nat} {ex:Bool} {pr:Option K4} (hp:Ag p h=some (.c (cb bs) false pr)) (hl:l.length≤len) (hl2:off+l.length≤bs.length) (hl3:l.length<9223372036854775808) (κ:V->Heap->R) :
    Ks 1 (.sl p off len cap ex 1) v h κ=κ (.int .i64 l.length) (B0 p (HD pr h) (some (.c (cb (bs.take off++(l++bs.drop (off+l.length)))) false none))) := by
  obtain ⟨y, h1, h2⟩ := H.src
  have hy := h2 h0; subst hy
  show JB 1 v h (fun m y => _)=_
  rw [h1]
  show br (Nat.beq 1 1) (Ah (@Bool.rec (fun _ => Nat) len l.length (Nat.ble l.length len)) fun k => br (Nat.beq k 0) (κ (.int .i64 0) h) (Ah (Nat.mul k 1) fun j => Dt (cb l) 0 j fun y => HK h p off y fun h => FZ k fun v => κ v h)) (.fail "")=_
  rw [Nat.beq_refl, AG, A9, show Nat.ble l.length len=true from Ap.2 hl]
  show br (Nat.beq l.length 0) (κ (.int .i64 0) h) (Ah (Nat.mul l.length 1) fun j => Dt (cb l) 0 j fun y => HK h p off y fun h => FZ l.length fun v => κ v h)=_
  rw [Ff, decide_eq_false (by omega), CB, A9, show Nat.mul l.length 1=l.length from Nat.mul_one _, IH (by omega), List.drop_zero, List.take_length, JW]
  unfold GN
  rw [KA hp, CB, Xi hl2, IG, Dm, AH hl3]
theorem Kx.same {p:K4} {h:Heap} {c:V} {l:List UInt8} (H:Kx p h c l) (κ:R):E9 c c κ=κ := by
  rcases H with ⟨rfl, rfl⟩ | ⟨ex, rfl, h2⟩
  · exact Ya _ _
  · exact Ye _ _ _ _ _ _ _
theorem QY {a b:Nat} (h:a<b) (hb:b<4611686018427387904):9223372036854775808≤KC .i64 a b∧KC .i64 a b<18446744073709551616 := by
  unfold KC
  rw [show Mk .i64=18446744073709551616 from rfl, Nat.mod_eq_of_lt (by omega)]
  omega
theorem Qc {a b:Nat} (ha:a<4611686018427387904) (hb:b<4611686018427387904) (κ:V->R):Ju (.int .i64 (KC .i64 a b)) (.int .i64 0) κ=κ (.int .i64 (a - b)) := by
  rcases Nat.lt_or_ge a b with h | h
  · obtain ⟨h1, h2⟩ := QY h hb
    rw [BP h2 (by omega), BU h1 (by omega), show a - b=0 by omega]; rfl
  · rw [BR h (by omega), BP (by omega) (by omega), CO (by omega) (by omega), decide_eq_false (by omega)]; rfl
theorem PW {a b:Nat} (ha:a<4611686018427387904) (hb:b<4611686018427387904):Gx .i64 0 (KC .i64 a b)=decide (b<a) := by
  rcases Nat.lt_or_ge a b with h | h
  · obtain ⟨h1, h2⟩ := QY h hb
    rw [BX (by omega) h1, decide_eq_false (by omega)]
  · rw [BR h (by omega), CO (by omega) (by omega)]
    by_cases h3:b<a
    · rw [decide_eq_true h3, decide_eq_true (by omega)]
    · rw [decide_eq_false h3, decide_eq_false (by omega)]
theorem Jv:(false == true)=false := id rfl
theorem JJ:(true == true)=true := id rfl
theorem Wp {p:K4} {o len cap a:Nat} {ex:Bool} (ha:a≤len) (hl:len≤cap) (ha2:a<9223372036854775808) (κ:V->R):Gr 1 (.sl p o len cap ex 1) (some (.int .i64 a)) none κ=κ (.sl p (o+a) (len - a) (cap - a) ex 1) := by
  show br (Nat.ble (Nat.succ a) 9223372036854775808) (br (Nat.beq 1 1) (br (Nat.ble a len) (br (Nat.ble len cap) (Ah (Nat.sub len a) fun l => Ah (Nat.sub cap a) fun c => Ah (Nat.add o (Nat.mul a 1)) fun o => κ (.sl p o l c ex 1)) (.fail "")) (.fail "")) (.fail "")) (.fail "")=_
  rw [show Nat.ble (Nat.succ a) 9223372036854775808=true from Ap.2 (by omega), AG, Nat.beq_refl, AG, Ap.2 ha, AG, Ap.2 hl, AG, A9, A9, A9, show Nat.mul a 1=a from Nat.mul_one a]; rfl
theorem Yz (κ:V->R):Gr 1 (.nil .sl) (some (.int .i64 0)) none κ=κ (.nil .sl) := id rfl
theorem Qf {p:K4} {o len cap a b:Nat} {ex:Bool} (ha:a≤b) (hl:b≤cap) (ha2:b<9223372036854775808) (κ:V->R):Gr 1 (.sl p o len cap ex 1) (some (.int .i64 a)) (some (.int .i64 b)) κ=κ (.sl p (o+a) (b - a) (cap - a) ex 1) := by
  show br (Nat.ble (Nat.succ b) 9223372036854775808) (br (Nat.ble (Nat.succ a) 9223372036854775808) (br (Nat.beq 1 1) (br (Nat.ble a b) (br (Nat.ble b cap) (Ah (Nat.sub b a) fun l => Ah (Nat.sub cap a) fun c => Ah (Nat.add o (Nat.mul a 1)) fun o => κ (.sl p o l c ex 1)) (.fail "")) (.fail "")) (.fail "")) (.fail "")) (.fail "")=_
  rw [show Nat.ble (Nat.succ b) 9223372036854775808=true from Ap.2 (by omega), AG, show Nat.ble (Nat.succ a) 9223372036854775808=true from Ap.2 (by omega), AG, Nat.beq_refl, AG, Ap.2 ha, AG, Ap.2 hl, AG, A9, A9, A9, show Nat.mul a 1=a from Nat.mul_one a]; rfl
theorem Xf (κ:V->R):Gr 1 (.nil .sl) (some (.int .i64 0)) (some (.int .i64 0)) κ=κ (.nil .sl) := id rfl
theorem XB {p:K4} {o len cap b:Nat} {ex:Bool} (hl:b≤cap) (ha2:b<9223372036854775808) (κ:V->R):Gr 1 (.sl p o len cap ex 1) none (some (.int .i64 b)) κ=κ (.sl p o b cap ex 1) := by
  show br (Nat.ble (Nat.succ b) 9223372036854775808) (br (Nat.beq 1 1) (br (Nat.ble 0 b) (br (Nat.ble b cap) (Ah (Nat.sub b 0) fun l => Ah (Nat.sub cap 0) fun c => Ah (Nat.add o (Nat.mul 0 1)) fun o => κ (.sl p o l c ex 1)) (.fail "")) (.fail "")) (.fail "")) (.fail "")=_
  rw [show Nat.ble (Nat.succ b) 9223372036854775808=true from Ap.2 (by omega), AG, Nat.beq_refl, AG, show Nat.ble 0 b=true from Ap.2 (Nat.zero_le _), AG, Ap.2 hl, AG, A9, A9, A9, show Nat.mul 0 1=0 from rfl]; rfl
theorem Z4 {l:List UInt8} {b:Nat} (hl:b≤l.length) (ha2:b<9223372036854775808) (κ:V->R):Gr 1 (IY l) none (some (.int .i64 b)) κ=κ (IY (l.take b)) := by
  show br (Nat.ble (Nat.succ b) 9223372036854775808) (br (Nat.beq 1 1) (br (Nat.ble 0 b) (br (Nat.ble b l.length) (Ah (Nat.sub b 0) fun k => Ah (Ev.lo (sh (CJ l) 0) k) fun r => κ (.oth (.rb k r))) (.fail "")) (.fail "")) (.fail "")) (.fail "")=_
  rw [show Nat.ble (Nat.succ b) 9223372036854775808=true from Ap.2 (by omega), AG, Nat.beq_refl, AG, show Nat.ble 0 b=true from Ap.2 (Nat.zero_le _), AG, Ap.2 hl, AG, A9, A9, IT, List.drop_zero]
  show κ (.oth (.rb b (CJ (l.take b))))=κ (.oth (.rb (l.take b).length (CJ (l.take b))))
  rw [List.length_take, Nat.min_eq_left hl]
theorem Mt {bs l:List UInt8} {off:Nat} (h:off+l.length≤bs.length):(bs.take off++(l++bs.drop (off+l.length))).length=bs.length := by
  simp only [List.length_append, List.length_take, List.length_drop]; omega
theorem WI {pc:K4} {h:Heap} {cv v:V} {bs l:List UInt8} {off:Nat} (ho:Kx pc h cv bs) (hs:FK v l h) (hoff:off+l.length≤bs.length) (hb:bs.length<1000000000) :
    ∃ h', (∀ κ:Heap->R, Gr 1 cv (some (.int .i64 off)) none (fun z => Ks 1 z v h fun _ h => κ h)=κ h')∧Kx pc h' cv (bs.take off++(l++bs.drop (off+l.length))) ∧ ∀ q, q≠pc->Ag q h'=Ag q h := by
  rcases ho with ⟨rfl, rfl⟩ | ⟨ex, rfl, h2⟩
  · obtain rfl:off=0 := by simp only [List.length_nil] at hoff; omega
    obtain rfl:l=[] := List.length_eq_zero_iff.1 (by simp only [List.length_nil] at hoff; omega)
    exact ⟨h, fun κ => by rw [Yz, YU hs], .inl ⟨rfl, rfl⟩, fun q _ => rfl⟩
  · cases l with
    | nil =>
      refine ⟨h, fun κ => by rw [Wp (by simp only [List.length_nil] at hoff; omega) (Nat.le_refl _) (by simp only [List.length_nil] at hoff; omega), Aad hs], .inr ⟨ex, ?_, ?_⟩, fun q _ => rfl⟩
      · rw [Mt hoff]
      · rw [h2, List.length_nil, Nat.add_zero, List.nil_append, List.take_append_drop]
    | cons u l =>
      refine ⟨_, fun κ => by rw [Wp (by omega) (Nat.le_refl _) (by omega), RR hs (by rw [List.length_cons]; omega) h2 (by omega) (by omega) (by omega)], .inr ⟨ex, ?_, ?_⟩, fun q hq => ?_⟩
      · rw [Mt hoff]
      · show Ag pc (B0 pc h _)=_
        rw [A6, Nat.zero_add]
      · exact A7 _ _ (Ne.symm hq)
theorem WJ {a b:Nat} (h:a+b<18446744073709551616):KC .i64 (a+b) a=b := by rw [BR (by omega) h]; omega
/-- Bytes that were laid anew are written over, all that is new. -/
theorem X2 {p n:K4} {h':Heap} {v:V} {bs l:List UInt8} {pr:Option K4} (hp:Ag n h'=some (.c (cb (bs++List.replicate l.length 0)) false pr)) (hpr:pr=none∨pr=some p) (hs:FK v l h') (h0:0<l.length) (hb:bs.length+l.length<1000000000) :
    ∃ h2, (∀ κ:Heap->R, Ks 1 (.sl n bs.length l.length l.length false 1) v h' (fun _ h => κ h)=κ h2)∧Ag n h2=some (.c (cb (bs++l)) false none) ∧ ∀ q, q≠n->q≠p->Ag q h2=Ag q h' := by
  have hl:(bs++List.replicate l.length (0:UInt8)).length=bs.length+l.length := by rw [List.length_append, List.length_replicate]
  have e := fun κ:Heap->R => RR hs h0 (ex := false) (off := bs.length) (len := l.length) (cap := l.length) hp (Nat.le_refl _) (by omega) (by omega) fun _ h => κ h
  have e2:(bs++List.replicate l.length (0:UInt8)).take bs.length++(l++(bs++List.replicate l.length (0:UInt8)).drop (bs.length+l.length))=bs++l := by
    rw [List.take_left, List.drop_eq_nil_of_le (by omega), List.append_nil]
  rw [e2] at e
  refine ⟨_, e, A6 _ _ _, fun q h1 h2 => ?_⟩
  rw [A7 _ _ (Ne.symm h1)]
  rcases hpr with rfl | rfl
  · rfl
  · exact A7 _ _ (Ne.symm h2)
end Go.Ev

namespace Go.Ev
set_option linter.unusedVariables false
theorem Xe {v b:Nat} (hv:v<18446744073709551616) (hb:b≤64) (κ:V->R):IR (.int .u64 v) (.int .i64 b) κ=κ (.int .u64 (v >>> b)) := by
  show br (Nat.ble (Nat.succ b) 9223372036854775808) (br (Nat.ble (Nat.succ v) 18446744073709551616) (br (Nat.ble b 64) (Ah (Nat.shiftRight v b) fun r => κ (.int .u64 r)) (κ (.int .u64 0))) (.fail "")) (.fail "")=_
  rw [show Nat.ble (Nat.succ b) 9223372036854775808=true from Ap.2 (by omega), AG, show Nat.ble (Nat.succ v) 18446744073709551616=true from Ap.2 (by omega), AG, Ap.2 hb, AG, A9]; rfl
theorem Sz {v:Nat} (hv:v<18446744073709551616) (κ:V->R):F5 .u8 (.int .u64 v) κ=κ (.int .u8 (v % 256)) := BQ (k := .u8) (j := .u64) hv κ
theorem ZK {r:Nat} (hr:r<256) {n:K4} (hn:n.toN<65535) (h:Heap) (κ:KV):FF true 1 1 [.int .u8 r] h n κ=κ (.sl n 0 1 1 true 1) (B0 n h (some (.c (cb [UInt8.ofNat r]) false none))) n.up := by
  show br (Nat.ble r 255) (Ah (Nat.succ 0) fun m => Ah (Nat.add r (Nat.mul 256 0)) fun c => Gm h n (.c (.b m c) false none) fun h' n' => κ (.sl n 0 1 1 true 1) h' n') (.fail "")=_
  rw [show Nat.ble r 255=true from Ap.2 (by omega), AG, A9, A9, BN hn]
  have e:(UInt8.ofNat r).toNat=r := by show r % 256=r; omega
  show κ _ (B0 n h (some (.c (.b 1 r) false none))) n.up=κ _ (B0 n h (some (.c (.b 1 ((UInt8.ofNat r).toNat+256*0)) false none))) n.up
  rw [e]; rfl
/-- Bytes that may still know what they grew from. -/
def I0 (lo:Nat) (n:K4) (h:Heap) (c:V) (l:List UInt8):Prop := (c = .nil .sl∧l=[]) ∨ ∃ p ex pr, c = .sl p 0 l.length l.length ex 1∧Ag p h=some (.c (cb l) false pr)∧lo≤p.toN∧p.toN<n.toN∧(pr=none ∨ ∃ q, pr=some q∧lo≤q.toN∧q.toN<n.toN)
theorem I0.frame {lo:Nat} {n n':K4} {h h':Heap} {c:V} {l:List UInt8} (H:I0 lo n h c l) (hn:n.toN≤n'.toN) (e:∀ q:K4, lo≤q.toN->q.toN<n.toN->Ag q h'=Ag q h):I0 lo n' h' c l := by
  rcases H with H | ⟨p, ex, pr, h1, h2, h3, h4, h5⟩
  · exact .inl H
  · refine .inr ⟨p, ex, pr, h1, (e p h3 h4).trans h2, h3, by omega, ?_⟩
    rcases h5 with h5 | ⟨q, h5, h6, h7⟩
    · exact .inl h5
    · exact .inr ⟨q, h5, h6, by omega⟩
theorem I0.nil {lo:Nat} {n:K4} {h:Heap}:I0 lo n h (.nil .sl) [] := .inl ⟨rfl, rfl⟩
theorem I0.len {lo:Nat} {n:K4} {h:Heap} {c:V} {l:List UInt8} (H:I0 lo n h c l) (hl:l.length<9223372036854775808) (κ:V->R):DG c κ=κ (.int .i64 l.length) := by
  rcases H with ⟨rfl, rfl⟩ | ⟨p, ex, pr, rfl, _⟩
  · rfl
  · exact AH hl κ
theorem I0.src {lo:Nat} {n:K4} {h:Heap} {c:V} {l:List UInt8} (H:I0 lo n h c l):FK c l h := by
  rcases H with ⟨rfl, rfl⟩ | ⟨p, ex, pr, rfl, h2, _⟩
  · exact .inr (.inl ⟨rfl, rfl⟩)
  · exact .inr (.inr ⟨p, 0, l.length, ex, l, false, pr, rfl, h2, by omega, by rw [List.drop_zero, List.take_length]⟩)
theorem grow {lo:Nat} {n:K4} {h:Heap} {c:V} {l b:List UInt8} (H:I0 lo n h c l) (hlo:lo≤n.toN) (hb:l.length+b.length≤1000000000) (hn:n.toN<65000) {y:Cs} (hy:0<b.length->y=cb b) :
    ∃ c' h' n', (∀ κ:KV, EQ 1 1 c b.length y h n κ=κ c' h' n')∧I0 lo n' h' c' (l++b)∧n.toN≤n'.toN∧n'.toN≤n.toN+1∧(∀ q:K4, q.toN<lo->Ag q h'=Ag q h)∧(Dg h n->Dg h' n') := by
  have u1 := K4.up_toN (p := n) (by omega)
  rcases Nat.eq_zero_or_pos b.length with h0 | h0
  · obtain rfl := List.length_eq_zero_iff.1 h0
    refine ⟨c, h, n, fun κ => Rs ?_ _ _ _ _, by rw [List.append_nil]; exact H, by omega, by omega, fun q _ => rfl, fun h => h⟩
    rcases H with ⟨rfl, _⟩ | ⟨p, ex, pr, rfl, _⟩
    · exact .inl rfl
    · exact .inr ⟨p, _, _, _, ex, rfl⟩
  · obtain rfl := hy h0
    rcases H with ⟨rfl, rfl⟩ | ⟨p, ex, pr, rfl, h2, h3, h4, h5⟩
    · refine ⟨_, _, _, fun κ => Tn h0 (by omega) (by omega) _ _ _, ?_, by omega, by omega, fun q hq => Af (by omega) _ _, fun hf q hq => (Ao (by omega) _ _).trans (hf q (by omega))⟩
      exact .inr ⟨n, false, none, rfl, A6 _ _ _, hlo, by omega, .inl rfl⟩
    · cases ex with
      | true =>
        refine ⟨_, _, _, fun κ => (JP h2 h0 (by omega) (by omega) κ).trans (if_pos rfl), ?_, by omega, by omega, fun q hq => Af (by omega) _ _, fun hf q hq => (Ao (by omega) _ _).trans (hf q (by omega))⟩
        exact .inr ⟨n, false, none, rfl, A6 _ _ _, hlo, by omega, .inl rfl⟩
      | false =>
        refine ⟨_, _, _, fun κ => (JP h2 h0 (by omega) (by omega) κ).trans (if_neg (by decide)), ?_, by omega, by omega, fun q hq => ?_, fun hf q hq => ?_⟩
        · exact .inr ⟨n, false, some p, rfl, A6 _ _ _, hlo, by omega, .inr ⟨p, rfl, h3, by omega⟩⟩
        · rw [Af (by omega), Af (by omega)]
          rcases h5 with rfl | ⟨r, rfl, h6, h7⟩
          · rfl
          · exact A7 _ _ (K4.ne_of_lt (by omega)).symm
        · rw [Ao (by omega), Ao (by omega)]
          rcases h5 with rfl | ⟨r, rfl, h6, h7⟩
          · exact hf q (by omega)
          · exact (A7 _ _ (K4.ne_of_lt (by omega))).trans (hf q (by omega))
/-- .. by what is copied from. -/
theorem Lj {lo:Nat} {n:K4} {h:Heap} {c v:V} {l b:List UInt8} (H:I0 lo n h c l) (hs:FK v b h) (hlo:lo≤n.toN) (hb:l.length+b.length≤1000000000) (hn:n.toN<65000) :
    ∃ c' h' n', (∀ κ:KV, Ig 1 1 c v h n κ=κ c' h' n')∧I0 lo n' h' c' (l++b)∧n.toN≤n'.toN∧n'.toN≤n.toN+1∧(∀ q:K4, q.toN<lo->Ag q h'=Ag q h)∧(Dg h n->Dg h' n') := by
  obtain ⟨y, h1, h2⟩ := hs.src
  obtain ⟨c', h', n', e, r⟩ := grow H hlo hb hn h2
  refine ⟨c', h', n', fun κ => ?_, r⟩
  show JB 1 v h (fun m y => EQ 1 1 c m y h n κ)=_
  rw [h1, e]
end Go.Ev

namespace Go.Ev
open Go.RowKit Go.ChangeShapes
set_option linter.unusedVariables false
/-- The blocks of the list stay. -/
def Hb (ρ:Env) (w:World) (bl:List Nat):Prop := ∀ b∈bl, ∀ c e fr, w.heap[b]? = some (.cells c e fr)->ρ.gl b=some (c, e, fr)
theorem Hb.sub {ρ:Env} {w:World} {bl cl:List Nat} (h:Hb ρ w bl) (hs:∀ b∈cl, b∈bl):Hb ρ w cl := fun b hb => h b (hs b hb)
theorem MM {P:Program} {fs:List Nat} {v:Nat->Value} {w:World} {l:List Nat}:Hb (Mi P fs v (Nt w l)) w l := fun b hb c e fr h => UD hb h
/-- Bytes, or nil. -/
def PS:Option (List UInt8)->RV
  | none => .nl
  | some l => .y l.length (CJ l)
theorem MO {w:World} {a:Addr}:∀ n:Nat, (∀ i, i<n->∃ z:Int, w.cell? (a.add i)=some (.int .u8 z)∧(Lit.int .u8 z).wf=true)->∃ l:List UInt8, l.length=n ∧ ∀ j (h:j<l.length), w.cell? (a.add j)=some (.int .u8 (l[j].toNat:Int))
  | 0, _ => ⟨[], rfl, fun j hj => absurd hj (Nat.not_lt_zero _)⟩
  | n+1, h => by
    obtain ⟨l, hl, hc⟩ := MO n (fun i hi => h i (by omega))
    obtain ⟨z, hz, hw⟩ := h n (Nat.lt_succ_self _)
    have hb:0≤z∧z<256 := by
      simp [Lit.wf, IntKind.min, IntKind.max, IntKind.signed, IntKind.bits] at hw
      omega
    refine ⟨l++[UInt8.ofNat z.toNat], by rw [List.length_append, hl]; rfl, fun j hj => ?_⟩
    by_cases hjn:j<n
    · rw [List.getElem_append_left (by omega)]
      exact hc j (by omega)
    · have hj':j<n+1 := by rw [List.length_append, hl] at hj; exact hj
      obtain rfl:j=n := by omega
      rw [List.getElem_append_right (by omega), hz]
      have e1:(UInt8.ofNat z.toNat).toNat=z.toNat := by simp; omega
      simp only [List.getElem_singleton]
      rw [e1]
      congr 2
      omega
/-- A slice of bytes. -/
theorem Y1 {P:Program} {H:Type} {enc:TypeId×Value->H} {w:World} {base:Nat} {spare:Nat->Bool} {held:Bool} {fuel:Nat} {t e:TypeId} {cs:List Value} {x:DataW H×List MemPlace}
    (ht:P.underlying t=some (.slice e)) (he:P.underlying e=some (.int .u8)) (ce:P.cellsOf e=1) (h:DataW.trod enc P w base spare held fuel t cs=some x) :
    ∃ (v:Value) (o:Option (List UInt8)) (bl:List Nat), cs=[v]∧(∀ l, o=some l->l.length≤maxLen) ∧ ∀ ρ, Hb ρ w bl->HX ρ (PS o) v := by
  rcases Go.Deep.open_slice1 ht ce h with ⟨hc, _⟩ | ⟨a, len, cap, m, n, V, D, Pl, hc, _, hl, hm, hmm, _, hx⟩
  · exact ⟨_, none, [], hc, (fun l h => by cases h), fun ρ _ => rfl⟩
  · have hlm:len≤m := by rw [hmm]; split <;> omega
    obtain ⟨l, hll, hlc⟩ := MO (w := w) (a := a) len fun i hi => by
      obtain ⟨e1, e2⟩ := hx i (by omega)
      obtain ⟨z, ez, _, wz⟩ := DataW.trod_int he e2
      simp at ez
      exact ⟨z, by rw [e1, ez], wz⟩
    subst hll
    refine ⟨_, some l, [a.block], hc, (fun l' h => by cases h; omega), fun ρ hg => ?_⟩
    refine ⟨a, cap, rfl, hl, SY l, fun hpos => ?_⟩
    have h0 := hlc 0 hpos
    obtain ⟨b, o, c, e', fr, ea, hw, hco⟩ := NG (show w.cell? a=_ from h0)
    refine ⟨b, o, c, e', fr, ea, hg b (by rw [ea]; simp) c e' fr hw, fun j hj => ?_⟩
    have h1 := hlc j hj
    rw [ea, Go.WideShapes.add_plain] at h1
    have h1:c[o+j]? = some (.int .u8 (l[j].toNat:Int)) := by simpa [World.cell?, hw] using h1
    rw [h1, Jw l j hj]
/-- Elements of one cell each, in memory: a slice that is told. -/
theorem XQ {w:World} {a:Addr} {len cap:Nat} (hl:len≤cap) {l:List RV} {bl:List Nat} (hll:l.length=len) (hc:∀ ρ, Hb ρ w bl->∀ j r, l[j]? = some r->∃ v, w.cell? (a.add j)=some v∧HX ρ r v) :
    ∀ ρ φ, Hb ρ w (a.block::bl)->CD ρ φ (.oth (.rx l len 1)) (.slice (some a) len cap) := by
  intro ρ φ hg
  have hg2 := hg.sub (cl := bl) fun b hb => List.mem_cons_of_mem _ hb
  simp only [CD]
  refine ⟨a, cap, rfl, hl, by rw [hll, Nat.mul_one], fun hpos => ?_⟩
  obtain ⟨v0, hv0, _⟩ := hc ρ hg2 0 (l[0]'(by omega)) (List.getElem?_eq_getElem _)
  obtain ⟨b, o, c, e', fr, ea, hw, hco⟩ := NG (show w.cell? a=_ from hv0)
  refine ⟨b, o, c, e', fr, ea, hg b (by rw [ea]; simp) c e' fr hw, fun j r hj => ?_⟩
  obtain ⟨v, hv, hr⟩ := hc ρ hg2 j r hj
  rw [ea, Go.WideShapes.add_plain] at hv
  exact ⟨v, by simpa [World.cell?, hw] using hv, hr⟩
/-- A slice of slices of bytes. -/
theorem WG {P:Program} {H:Type} {enc:TypeId×Value->H} {w:World} {base:Nat} {spare:Nat->Bool} {held:Bool} {fuel:Nat} {t e e2:TypeId} {cs:List Value} {x:DataW H×List MemPlace}
    (ht:P.underlying t=some (.slice e)) (he:P.underlying e=some (.slice e2)) (he2:P.underlying e2=some (.int .u8)) (ce:P.cellsOf e=1) (ce2:P.cellsOf e2=1) (h:DataW.trod enc P w base spare held fuel t cs=some x) :
    cs=[.slice none 0 0] ∨ ∃ a len cap, cs=[.slice (some a) len cap]∧len≤maxLen ∧ ∃ (l:List (Option (List UInt8))) (bl:List Nat), l.length=len∧(∀ o∈l, ∀ b, o=some b->b.length≤maxLen) ∧
      ∀ ρ φ, Hb ρ w bl->CD ρ φ (.oth (.rx (l.map PS) len 1)) (.slice (some a) len cap) := by
  rcases Go.Deep.open_slice1 ht ce h with ⟨hc, _⟩ | ⟨a, len, cap, m, n, V, D, Pl, hc, _, hl, hm, hmm, _, hx⟩
  · exact .inl hc
  · have hlm:len≤m := by rw [hmm]; split <;> omega
    have one:∀ i, i<len->∃ (o:Option (List UInt8)) (bl:List Nat), (∀ b, o=some b->b.length≤maxLen) ∧ ∃ v, w.cell? (a.add i)=some v ∧ ∀ ρ, Hb ρ w bl->HX ρ (PS o) v := fun i hi => by
      obtain ⟨e1, e3⟩ := hx i (by omega)
      obtain ⟨v, o, bl, h1, h2, h3⟩ := Y1 he he2 ce2 e3
      simp at h1
      exact ⟨o, bl, h2, v, by rw [e1, h1], h3⟩
    have all:∀ k, k≤len->∃ (l:List (Option (List UInt8))) (bl:List Nat), l.length=k∧(∀ o∈l, ∀ b, o=some b->b.length≤maxLen) ∧ ∀ ρ, Hb ρ w bl->∀ j r, (l.map PS)[j]? = some r->∃ v, w.cell? (a.add j)=some v∧HX ρ r v := by
      intro k
      induction k with
      | zero => exact fun _ => ⟨[], [], rfl, (fun o ho => by cases ho), fun ρ _ j r h => by simp at h⟩
      | succ k ih =>
        intro hk
        obtain ⟨l, bl, h1, h2, h3⟩ := ih (by omega)
        obtain ⟨o, cl, g1, v, g2, g3⟩ := one k (by omega)
        refine ⟨l++[o], bl++cl, by simp [h1], fun o' ho => ?_, fun ρ hg j r hj => ?_⟩
        · rcases List.mem_append.1 ho with ho | ho
          · exact h2 o' ho
          · rw [List.mem_singleton.1 ho]; exact g1
        · rw [List.map_append] at hj
          by_cases hjn:j<k
          · rw [List.getElem?_append_left (by simp; omega)] at hj
            exact h3 ρ (hg.sub fun b hb => List.mem_append_left _ hb) j r hj
          · rw [List.getElem?_append_right (by simp; omega)] at hj
            rcases Nat.eq_zero_or_pos (j - (l.map PS).length) with h | h
            · rw [h] at hj
              simp at hj
              subst hj
              obtain rfl:j=k := by simp at h; omega
              exact ⟨v, g2, g3 ρ (hg.sub fun b hb => List.mem_append_right _ hb)⟩
            · rw [List.getElem?_eq_none (by simp at h ⊢; omega)] at hj; cases hj
    obtain ⟨l, bl, h1, h2, h3⟩ := all len (Nat.le_refl _)
    refine .inr ⟨a, len, cap, hc, by omega, l, a.block::bl, h1, h2, fun ρ φ hg => ?_⟩
    exact XQ hl (by simp [h1]) h3 ρ φ hg
/-- A slice of ints. -/
theorem WY {P:Program} {H:Type} {enc:TypeId×Value->H} {w:World} {base:Nat} {spare:Nat->Bool} {held:Bool} {fuel:Nat} {t e:TypeId} {cs:List Value} {x:DataW H×List MemPlace}
    (ht:P.underlying t=some (.slice e)) (he:P.underlying e=some (.int .i64)) (ce:P.cellsOf e=1) (h:DataW.trod enc P w base spare held fuel t cs=some x) :
    cs=[.slice none 0 0] ∨ ∃ a len cap, cs=[.slice (some a) len cap]∧len≤maxLen ∧ ∃ (l:List Nat) (bl:List Nat), l.length=len∧(∀ o∈l, o<18446744073709551616) ∧
      ∀ ρ φ, Hb ρ w bl->CD ρ φ (.oth (.rx (l.map (RV.i .i64)) len 1)) (.slice (some a) len cap) := by
  rcases Go.Deep.open_slice1 ht ce h with ⟨hc, _⟩ | ⟨a, len, cap, m, n, V, D, Pl, hc, _, hl, hm, hmm, _, hx⟩
  · exact .inl hc
  · have hlm:len≤m := by rw [hmm]; split <;> omega
    have one:∀ i, i<len->∃ (o:Nat) (bl:List Nat), o<18446744073709551616 ∧ ∃ v, w.cell? (a.add i)=some v ∧ ∀ ρ, Hb ρ w bl->HX ρ (.i .i64 o) v := fun i hi => by
      obtain ⟨e1, e3⟩ := hx i (by omega)
      obtain ⟨z, ez, _, wz⟩ := DataW.trod_int he e3
      simp at ez
      have hb := Yp wz
      obtain ⟨r, hr, hz⟩:∃ r:Nat, r<18446744073709551616∧z=EE .i64 r := by
        rcases Int.lt_or_le z 0 with hn | hn
        · refine ⟨(z+18446744073709551616).toNat, by omega, ?_⟩
          rw [EU (show ¬ (z+18446744073709551616).toNat<Hk .i64 by show ¬ _<9223372036854775808; omega)]
          show z=((z+18446744073709551616).toNat:Int) - (18446744073709551616:Nat); omega
        · refine ⟨z.toNat, by omega, ?_⟩
          rw [CC (show z.toNat<Hk .i64 by show _<9223372036854775808; omega)]; omega
      exact ⟨r, [], hr, .int .i64 z, by rw [e1, ez], fun ρ _ => ⟨hr, by rw [hz]⟩⟩
    have all:∀ k, k≤len->∃ (l:List Nat) (bl:List Nat), l.length=k∧(∀ o∈l, o<18446744073709551616) ∧ ∀ ρ, Hb ρ w bl->∀ j r, (l.map (RV.i .i64))[j]? = some r->∃ v, w.cell? (a.add j)=some v∧HX ρ r v := by
      intro k
      induction k with
      | zero => exact fun _ => ⟨[], [], rfl, (fun o ho => by cases ho), fun ρ _ j r h => by simp at h⟩
      | succ k ih =>
        intro hk
        obtain ⟨l, bl, h1, h2, h3⟩ := ih (by omega)
        obtain ⟨o, cl, g1, v, g2, g3⟩ := one k (by omega)
        refine ⟨l++[o], bl++cl, by simp [h1], fun o' ho => ?_, fun ρ hg j r hj => ?_⟩
        · rcases List.mem_append.1 ho with ho | ho
          · exact h2 o' ho
          · rw [List.mem_singleton.1 ho]; exact g1
        · rw [List.map_append] at hj
          by_cases hjn:j<k
          · rw [List.getElem?_append_left (by simp; omega)] at hj
            exact h3 ρ (hg.sub fun b hb => List.mem_append_left _ hb) j r hj
          · rw [List.getElem?_append_right (by simp; omega)] at hj
            rcases Nat.eq_zero_or_pos (j - (l.map (RV.i .i64)).length) with h | h
            · rw [h] at hj
              simp at hj
              subst hj
              obtain rfl:j=k := by simp at h; omega
              exact ⟨v, g2, g3 ρ (hg.sub fun b hb => List.mem_append_right _ hb)⟩
            · rw [List.getElem?_eq_none (by simp at h ⊢; omega)] at hj; cases hj
    obtain ⟨l, bl, h1, h2, h3⟩ := all len (Nat.le_refl _)
    refine .inr ⟨a, len, cap, hc, by omega, l, a.block::bl, h1, h2, fun ρ φ hg => ?_⟩
    exact XQ hl (by simp [h1]) h3 ρ φ hg
theorem Qp {l:List RV} {m i:Nat} (hi:i<m) (h2:i<9223372036854775808) (κ:V->R):Ei 1 (.oth (.rx l m 1)) (.int .i64 i) κ=κ (.oth (.rp (l.drop i))) := by
  show br (Nat.ble (Nat.succ i) 9223372036854775808) (br (Nat.beq 1 1) (br (Nat.ble (Nat.succ i) m) (Ah (Nat.mul i 1) fun j => κ (.oth (.rp (l.drop j)))) (.fail "")) (.fail "")) (.fail "")=_
  rw [show Nat.ble (Nat.succ i) 9223372036854775808=true from Ap.2 h2, AG, Nat.beq_refl, AG, show Nat.ble (Nat.succ i) m=true from Ap.2 hi, AG, A9, show Nat.mul i 1=i from Nat.mul_one i]
theorem Qx (r:RV) (l:List RV) (h:Heap) (κ:V->R):Dc (.oth (.rp (r::l))) h κ=κ r.v := id rfl
theorem X8 {v:V} {l:List UInt8} {h:Heap} (H:v=IY l∨(v = .nil .sl∧l=[])) (κ:V->R):Hj v h κ=κ (sb l) := by
  rcases H with rfl | ⟨rfl, rfl⟩ <;> rfl
end Go.Ev

namespace Go.Ev
set_option linter.unusedVariables false
def Ql (o:EM):Bool := @Option.rec Ob (fun _ => Bool) true (fun _ => false) o
theorem GY {o:EM} (h:Ql o=true):o=none := by cases o with
  | none => rfl
  | some _ => cases h
theorem Dk {a b:Bool} (h:and a b=true):a=true∧b=true := by cases a <;> cases b <;> first | exact ⟨rfl, rfl⟩ | cases h
def Qm (p:HA):Bool := @HA.rec (fun _ => Bool) (fun A B C E F G I J L M N O P Q T U => and (Ql A) (and (Ql B) (and (Ql C) (and (Ql E) (and (Ql F) (and (Ql G) (and (Ql I) (and (Ql J) (and (Ql L) (and (Ql M) (and (Ql N) (and (Ql O) (and (Ql P) (and (Ql Q) (and (Ql T) (Ql U)))))))))))))))) p
def Qn (p:HB):Bool := @HB.rec (fun _ => Bool) (fun A B C E F G I J L M N O P Q T U => and (Qm A) (and (Qm B) (and (Qm C) (and (Qm E) (and (Qm F) (and (Qm G) (and (Qm I) (and (Qm J) (and (Qm L) (and (Qm M) (and (Qm N) (and (Qm O) (and (Qm P) (and (Qm Q) (and (Qm T) (Qm U)))))))))))))))) p
def Rc (p:HC):Bool := @HC.rec (fun _ => Bool) (fun A B C E F G I J L M N O P Q T U => and (Qn A) (and (Qn B) (and (Qn C) (and (Qn E) (and (Qn F) (and (Qn G) (and (Qn I) (and (Qn J) (and (Qn L) (and (Qn M) (and (Qn N) (and (Qn O) (and (Qn P) (and (Qn Q) (and (Qn T) (Qn U)))))))))))))))) p
theorem Hl {p:HA} (h:Qm p=true) (d:D):HA.sel d p=none := by
  cases p with | mk A B C E F G I J L M N O P Q T U =>
  unfold Qm at h
  dsimp only at h
  obtain ⟨a0, h⟩ := Dk h
  obtain ⟨a1, h⟩ := Dk h
  obtain ⟨a2, h⟩ := Dk h
  obtain ⟨a3, h⟩ := Dk h
  obtain ⟨a4, h⟩ := Dk h
  obtain ⟨a5, h⟩ := Dk h
  obtain ⟨a6, h⟩ := Dk h
  obtain ⟨a7, h⟩ := Dk h
  obtain ⟨a8, h⟩ := Dk h
  obtain ⟨a9, h⟩ := Dk h
  obtain ⟨a10, h⟩ := Dk h
  obtain ⟨a11, h⟩ := Dk h
  obtain ⟨a12, h⟩ := Dk h
  obtain ⟨a13, h⟩ := Dk h
  obtain ⟨a14, h⟩ := Dk h
  cases d
  · exact GY a0
  · exact GY a1
  · exact GY a2
  · exact GY a3
  · exact GY a4
  · exact GY a5
  · exact GY a6
  · exact GY a7
  · exact GY a8
  · exact GY a9
  · exact GY a10
  · exact GY a11
  · exact GY a12
  · exact GY a13
  · exact GY a14
  · exact GY h
theorem Hi {p:HB} (h:Qn p=true) (c d:D):HA.sel d (HB.sel c p)=none := by
  cases p with | mk A B C E F G I J L M N O P Q T U =>
  unfold Qn at h
  dsimp only at h
  obtain ⟨a0, h⟩ := Dk h
  obtain ⟨a1, h⟩ := Dk h
  obtain ⟨a2, h⟩ := Dk h
  obtain ⟨a3, h⟩ := Dk h
  obtain ⟨a4, h⟩ := Dk h
  obtain ⟨a5, h⟩ := Dk h
  obtain ⟨a6, h⟩ := Dk h
  obtain ⟨a7, h⟩ := Dk h
  obtain ⟨a8, h⟩ := Dk h
  obtain ⟨a9, h⟩ := Dk h
  obtain ⟨a10, h⟩ := Dk h
  obtain ⟨a11, h⟩ := Dk h
  obtain ⟨a12, h⟩ := Dk h
  obtain ⟨a13, h⟩ := Dk h
  obtain ⟨a14, h⟩ := Dk h
  cases c
  · exact Hl a0 d
  · exact Hl a1 d
  · exact Hl a2 d
  · exact Hl a3 d
  · exact Hl a4 d
  · exact Hl a5 d
  · exact Hl a6 d
  · exact Hl a7 d
  · exact Hl a8 d
  · exact Hl a9 d
  · exact Hl a10 d
  · exact Hl a11 d
  · exact Hl a12 d
  · exact Hl a13 d
  · exact Hl a14 d
  · exact Hl h d
theorem Zn {p:HC} (h:Rc p=true) (b c d:D):HA.sel d (HB.sel c (HC.sel b p))=none := by
  cases p with | mk A B C E F G I J L M N O P Q T U =>
  unfold Rc at h
  dsimp only at h
  obtain ⟨a0, h⟩ := Dk h
  obtain ⟨a1, h⟩ := Dk h
  obtain ⟨a2, h⟩ := Dk h
  obtain ⟨a3, h⟩ := Dk h
  obtain ⟨a4, h⟩ := Dk h
  obtain ⟨a5, h⟩ := Dk h
  obtain ⟨a6, h⟩ := Dk h
  obtain ⟨a7, h⟩ := Dk h
  obtain ⟨a8, h⟩ := Dk h
  obtain ⟨a9, h⟩ := Dk h
  obtain ⟨a10, h⟩ := Dk h
  obtain ⟨a11, h⟩ := Dk h
  obtain ⟨a12, h⟩ := Dk h
  obtain ⟨a13, h⟩ := Dk h
  obtain ⟨a14, h⟩ := Dk h
  cases b
  · exact Hi a0 c d
  · exact Hi a1 c d
  · exact Hi a2 c d
  · exact Hi a3 c d
  · exact Hi a4 c d
  · exact Hi a5 c d
  · exact Hi a6 c d
  · exact Hi a7 c d
  · exact Hi a8 c d
  · exact Hi a9 c d
  · exact Hi a10 c d
  · exact Hi a11 c d
  · exact Hi a12 c d
  · exact Hi a13 c d
  · exact Hi a14 c d
  · exact Hi h c d
def Um (f:D->Bool):Bool := and (f .d0) (and (f .d1) (and (f .d2) (and (f .d3) (and (f .d4) (and (f .d5) (and (f .d6) (and (f .d7) (and (f .d8) (and (f .d9) (and (f .d10) (and (f .d11) (and (f .d12) (and (f .d13) (and (f .d14) (f .d15)))))))))))))))
theorem Q3 {f:D->Bool} (h:Um f=true) (d:D):f d=true := by
  unfold Um at h
  obtain ⟨a0, h⟩ := Dk h
  obtain ⟨a1, h⟩ := Dk h
  obtain ⟨a2, h⟩ := Dk h
  obtain ⟨a3, h⟩ := Dk h
  obtain ⟨a4, h⟩ := Dk h
  obtain ⟨a5, h⟩ := Dk h
  obtain ⟨a6, h⟩ := Dk h
  obtain ⟨a7, h⟩ := Dk h
  obtain ⟨a8, h⟩ := Dk h
  obtain ⟨a9, h⟩ := Dk h
  obtain ⟨a10, h⟩ := Dk h
  obtain ⟨a11, h⟩ := Dk h
  obtain ⟨a12, h⟩ := Dk h
  obtain ⟨a13, h⟩ := Dk h
  obtain ⟨a14, h⟩ := Dk h
  cases d
  · exact a0
  · exact a1
  · exact a2
  · exact a3
  · exact a4
  · exact a5
  · exact a6
  · exact a7
  · exact a8
  · exact a9
  · exact a10
  · exact a11
  · exact a12
  · exact a13
  · exact a14
  · exact h
end Go.Ev

namespace Go.Ev
set_option linter.unusedVariables false
def XK (n:K4) (p:HC):Bool := Um fun b => Um fun c => Um fun d => @Bool.rec (fun _ => Bool) true (Ql (HA.sel d (HB.sel c (HC.sel b p)))) (Nat.ble n.toN (K4.toN ⟨.d0, b, c, d⟩))
theorem WV {n:K4} {p:HC} (h:XK n p=true) (b c d:D) (hn:n.toN≤(K4.toN ⟨.d0, b, c, d⟩)):HA.sel d (HB.sel c (HC.sel b p))=none := by
  have h1 := Q3 (Q3 (Q3 h b) c) d
  rw [show Nat.ble n.toN (K4.toN ⟨.d0, b, c, d⟩)=true from Nat.ble_eq_true_of_le hn] at h1
  exact GY h1
def US (n:K4) (p:Heap):Bool := and (XK n (Heap.sel .d0 p)) (Um fun a => @D.rec (fun _ => Bool) true (Rc (Heap.sel .d1 p)) (Rc (Heap.sel .d2 p)) (Rc (Heap.sel .d3 p)) (Rc (Heap.sel .d4 p)) (Rc (Heap.sel .d5 p)) (Rc (Heap.sel .d6 p)) (Rc (Heap.sel .d7 p)) (Rc (Heap.sel .d8 p)) (Rc (Heap.sel .d9 p)) (Rc (Heap.sel .d10 p)) (Rc (Heap.sel .d11 p)) (Rc (Heap.sel .d12 p)) (Rc (Heap.sel .d13 p)) (Rc (Heap.sel .d14 p)) (Rc (Heap.sel .d15 p)) a)
theorem WK {n:K4} {p:Heap} (h:US n p=true):Dg p n := by
  obtain ⟨h1, h2⟩ := Dk h
  rintro ⟨a, b, c, d⟩ hq
  show HA.sel d (HB.sel c (HC.sel b (Heap.sel a p)))=none
  have h3 := Q3 h2 a
  cases a
  · exact WV h1 b c d hq
  all_goals exact Zn h3 b c d
def XF (r:R):Bool :=
  @R.rec (fun _ => Bool) (fun _ _ _ _ => false) (fun v h n => and (KP v) (and (Nat.ble n.toN 4000) (US n h))) (fun _ => false) (fun _ _ _ _ => false) r
theorem Xt {r:R} (h:XF r=true):∃ h n, r = .rv (.bool true) h n∧n.toN≤4000∧Dg h n := by
  cases r with
  | rv v hh n =>
    obtain ⟨h1, h2⟩ := Dk (show and (KP v) (and (Nat.ble n.toN 4000) (US n hh))=true from h)
    obtain ⟨h2, h3⟩ := Dk h2
    exact ⟨hh, n, by rw [N4 h1], Nat.le_of_ble_eq_true h2, WK h3⟩
  | _ => cases h
end Go.Ev
