/- AN EVALUATOR OF THE MODEL OF Go, PROVED SOUND, PART 5: what it says of a call holds in every world, on every tape. Conditions: none of its own; each theorem bears its premises. -/
import Derived.Test.YtdgefeadbcbglaaLEv4
import Derived.ChangeSame
import Derived.Deep.Slices
import Derived.Shelf.Strconv.Itoa1
import GoSem.ClaimGoes
noncomputable section
set_option linter.unusedSimpArgs false
set_option linter.unusedVariables false
namespace Go.Ev
set_option linter.unusedVariables false
/-- What a function is: code, or a step of the evaluator's own. -/
inductive Ent where
  | code (entry:List V->(S->R)->R) (body:Gl->S->Heap->K4->R) (res:S->Heap->K4->R)
  | prim (p:Ox)
  | br (k:Nat) (entry:List V->(S->R)->R) (body:Gl->S->Heap->K4->R) (res:S->Heap->K4->R)
  | ap (f:Nat) (its:List Nat) (rd:Rd)
  | tree (p:Ox)
abbrev DA := Option Ent
/-- Sixteen functions. -/
inductive FA where
  | mk (A B C E F G I J L M N O P Q T U:DA)
def FA.sel (d:D) (p:FA):DA :=
  @FA.rec (fun _ => DA) (fun A B C E F G I J L M N O P Q T U => @D.rec (fun _ => DA) A B C E F G I J L M N O P Q T U d) p
def Aeq (p:FA) (k:DA->R):R := @FA.rec (fun _ => R) (fun A B C E F G I J L M N O P Q T U => k A) p
def Afx (p:FA) (k:DA->R):R := @FA.rec (fun _ => R) (fun A B C E F G I J L M N O P Q T U => k B) p
def Ae2 (p:FA) (k:DA->R):R := @FA.rec (fun _ => R) (fun A B C E F G I J L M N O P Q T U => k C) p
def Afr (p:FA) (k:DA->R):R := @FA.rec (fun _ => R) (fun A B C E F G I J L M N O P Q T U => k E) p
def Abm (p:FA) (k:DA->R):R := @FA.rec (fun _ => R) (fun A B C E F G I J L M N O P Q T U => k F) p
def Aeu (p:FA) (k:DA->R):R := @FA.rec (fun _ => R) (fun A B C E F G I J L M N O P Q T U => k G) p
def Aem (p:FA) (k:DA->R):R := @FA.rec (fun _ => R) (fun A B C E F G I J L M N O P Q T U => k I) p
def Aeg (p:FA) (k:DA->R):R := @FA.rec (fun _ => R) (fun A B C E F G I J L M N O P Q T U => k J) p
def Abf (p:FA) (k:DA->R):R := @FA.rec (fun _ => R) (fun A B C E F G I J L M N O P Q T U => k L) p
def Aca (p:FA) (k:DA->R):R := @FA.rec (fun _ => R) (fun A B C E F G I J L M N O P Q T U => k M) p
def Zv (p:FA) (k:DA->R):R := @FA.rec (fun _ => R) (fun A B C E F G I J L M N O P Q T U => k N) p
def YU (p:FA) (k:DA->R):R := @FA.rec (fun _ => R) (fun A B C E F G I J L M N O P Q T U => k O) p
def Z3 (p:FA) (k:DA->R):R := @FA.rec (fun _ => R) (fun A B C E F G I J L M N O P Q T U => k P) p
def ZW (p:FA) (k:DA->R):R := @FA.rec (fun _ => R) (fun A B C E F G I J L M N O P Q T U => k Q) p
def Aah (p:FA) (k:DA->R):R := @FA.rec (fun _ => R) (fun A B C E F G I J L M N O P Q T U => k T) p
def Za (p:FA) (k:DA->R):R := @FA.rec (fun _ => R) (fun A B C E F G I J L M N O P Q T U => k U) p
def FA.selK (d:D):FA->(DA->R)->R :=
  @D.rec (fun _ => FA->(DA->R)->R) Aeq Afx Ae2 Afr Abm Aeu Aem Aeg Abf Aca Zv YU Z3 ZW Aah Za d
theorem FA.selK_eq (d:D) (p:FA) (k:DA->R):FA.selK d p k=k (FA.sel d p) := by
  cases d <;> cases p <;> rfl
/-- Of those sixteen. -/
inductive FB where
  | mk (A B C E F G I J L M N O P Q T U:FA)
def FB.sel (d:D) (p:FB):FA :=
  @FB.rec (fun _ => FA) (fun A B C E F G I J L M N O P Q T U => @D.rec (fun _ => FA) A B C E F G I J L M N O P Q T U d) p
def Ac3 (p:FB) (k:FA->R):R := @FB.rec (fun _ => R) (fun A B C E F G I J L M N O P Q T U => k A) p
def Ad7 (p:FB) (k:FA->R):R := @FB.rec (fun _ => R) (fun A B C E F G I J L M N O P Q T U => k B) p
def Af8 (p:FB) (k:FA->R):R := @FB.rec (fun _ => R) (fun A B C E F G I J L M N O P Q T U => k C) p
def Abe (p:FB) (k:FA->R):R := @FB.rec (fun _ => R) (fun A B C E F G I J L M N O P Q T U => k E) p
def Abv (p:FB) (k:FA->R):R := @FB.rec (fun _ => R) (fun A B C E F G I J L M N O P Q T U => k F) p
def Afc (p:FB) (k:FA->R):R := @FB.rec (fun _ => R) (fun A B C E F G I J L M N O P Q T U => k G) p
def Af0 (p:FB) (k:FA->R):R := @FB.rec (fun _ => R) (fun A B C E F G I J L M N O P Q T U => k I) p
def Aco (p:FB) (k:FA->R):R := @FB.rec (fun _ => R) (fun A B C E F G I J L M N O P Q T U => k J) p
def Ac7 (p:FB) (k:FA->R):R := @FB.rec (fun _ => R) (fun A B C E F G I J L M N O P Q T U => k L) p
def Ae5 (p:FB) (k:FA->R):R := @FB.rec (fun _ => R) (fun A B C E F G I J L M N O P Q T U => k M) p
def YR (p:FB) (k:FA->R):R := @FB.rec (fun _ => R) (fun A B C E F G I J L M N O P Q T U => k N) p
def ZV (p:FB) (k:FA->R):R := @FB.rec (fun _ => R) (fun A B C E F G I J L M N O P Q T U => k O) p
def Aae (p:FB) (k:FA->R):R := @FB.rec (fun _ => R) (fun A B C E F G I J L M N O P Q T U => k P) p
def Zz (p:FB) (k:FA->R):R := @FB.rec (fun _ => R) (fun A B C E F G I J L M N O P Q T U => k Q) p
def Ab3 (p:FB) (k:FA->R):R := @FB.rec (fun _ => R) (fun A B C E F G I J L M N O P Q T U => k T) p
def Aa5 (p:FB) (k:FA->R):R := @FB.rec (fun _ => R) (fun A B C E F G I J L M N O P Q T U => k U) p
def FB.selK (d:D):FB->(FA->R)->R :=
  @D.rec (fun _ => FB->(FA->R)->R) Ac3 Ad7 Af8 Abe Abv Afc Af0 Aco Ac7 Ae5 YR ZV Aae Zz Ab3 Aa5 d
theorem FB.selK_eq (d:D) (p:FB) (k:FA->R):FB.selK d p k=k (FB.sel d p) := by
  cases d <;> cases p <;> rfl
/-- The table of the functions. -/
inductive FC where
  | mk (A B C E F G I J L M N O P Q T U:FB)
def FC.sel (d:D) (p:FC):FB :=
  @FC.rec (fun _ => FB) (fun A B C E F G I J L M N O P Q T U => @D.rec (fun _ => FB) A B C E F G I J L M N O P Q T U d) p
def Acl (p:FC) (k:FB->R):R := @FC.rec (fun _ => R) (fun A B C E F G I J L M N O P Q T U => k A) p
def Aeo (p:FC) (k:FB->R):R := @FC.rec (fun _ => R) (fun A B C E F G I J L M N O P Q T U => k B) p
def Ae1 (p:FC) (k:FB->R):R := @FC.rec (fun _ => R) (fun A B C E F G I J L M N O P Q T U => k C) p
def Adp (p:FC) (k:FB->R):R := @FC.rec (fun _ => R) (fun A B C E F G I J L M N O P Q T U => k E) p
def Abp (p:FC) (k:FB->R):R := @FC.rec (fun _ => R) (fun A B C E F G I J L M N O P Q T U => k F) p
def Afk (p:FC) (k:FB->R):R := @FC.rec (fun _ => R) (fun A B C E F G I J L M N O P Q T U => k G) p
def Afq (p:FC) (k:FB->R):R := @FC.rec (fun _ => R) (fun A B C E F G I J L M N O P Q T U => k I) p
def Af1 (p:FC) (k:FB->R):R := @FC.rec (fun _ => R) (fun A B C E F G I J L M N O P Q T U => k J) p
def Acs (p:FC) (k:FB->R):R := @FC.rec (fun _ => R) (fun A B C E F G I J L M N O P Q T U => k L) p
def Afe (p:FC) (k:FB->R):R := @FC.rec (fun _ => R) (fun A B C E F G I J L M N O P Q T U => k M) p
def Aar (p:FC) (k:FB->R):R := @FC.rec (fun _ => R) (fun A B C E F G I J L M N O P Q T U => k N) p
def Aag (p:FC) (k:FB->R):R := @FC.rec (fun _ => R) (fun A B C E F G I J L M N O P Q T U => k O) p
def ZJ (p:FC) (k:FB->R):R := @FC.rec (fun _ => R) (fun A B C E F G I J L M N O P Q T U => k P) p
def Zq (p:FC) (k:FB->R):R := @FC.rec (fun _ => R) (fun A B C E F G I J L M N O P Q T U => k Q) p
def Zi (p:FC) (k:FB->R):R := @FC.rec (fun _ => R) (fun A B C E F G I J L M N O P Q T U => k T) p
def YM (p:FC) (k:FB->R):R := @FC.rec (fun _ => R) (fun A B C E F G I J L M N O P Q T U => k U) p
def FC.selK (d:D):FC->(FB->R)->R :=
  @D.rec (fun _ => FC->(FB->R)->R) Acl Aeo Ae1 Adp Abp Afk Afq Af1 Acs Afe Aar Aag ZJ Zq Zi YM d
theorem FC.selK_eq (d:D) (p:FC) (k:FB->R):FC.selK d p k=k (FC.sel d p) := by
  cases d <;> cases p <;> rfl
def Bh (k:K3) (T:FC):DA := FA.sel k.c (FB.sel k.b (FC.sel k.a T))
def VZ (k:K3) (T:FC) (κ:DA->R):R := @K3.rec (fun _ => R) (fun a b c => FC.selK a T fun x => FB.selK b x fun y => FA.selK c y κ) k
theorem RP (k:K3) (T:FC) (κ:DA->R):VZ k T κ=κ (Bh k T) := by
  cases k; simp only [VZ, Bh, FC.selK_eq, FB.selK_eq, FA.selK_eq]
abbrev Ov (ps:List K2):List V->Regs->(Regs->R)->R :=
  @List.rec K2 (fun _ => List V->Regs->(Regs->R)->R) (fun l t κ => Tb l (κ t)) (fun p _ ih l t κ => LY l fun v l => Nx p t v fun t => ih l t κ) ps
theorem OQ:∀ (ps:List K2) (l:List V) (t:Regs) (κ:Regs->R), Ov ps l t κ=SP l ps t κ
  | [], l, t, κ => by cases l <;> rfl
  | p::ps, l, t, κ => by
    cases l with
    | nil => rfl
    | cons v l =>
      show Nx p t v (fun t => Ov ps l t κ)=Nx p t v fun t => SP l ps t κ
      rw [NP, NP, OQ]
def Ko (r:R) (res:S->Heap->K4->R):R :=
  @R.rec (fun _ => R) (fun e t h n => @Ex.rec (fun _ => R) (res t h n) (AJ "") (res t h n) e) (C1 "") (fun w => .fail w) (fun _ _ a b => .both a b) r
def MN (r:R):R := @R.rec (fun _ => R) (F5 "") (fun v h n => .rv v h n) (fun w => .fail w) (F5 "") r
def XE (v:V) (yes no:R):R :=
  @V.rec (fun _ => R) (fun _ => Unit) (fun _ _ => no) (fun _ => no) (fun _ _ => no) (fun _ _ _ _ _ _ => no) (fun _ _ => no) (fun _ _ => no) (fun _ => no) (fun _ => no) (fun _ _ _ => no) (fun _ _ => no)
    (fun o => @Ot.rec (fun _ => R) no (fun _ => no) (fun _ => no) yes (fun _ _ _ => no) (fun _ _ => no) no (fun _ _ => no) (fun _ _ _ _ => no) (fun _ _ _ _ => no) (fun _ _ _ => no) (fun _ _ => no) (fun _ _ => no) (fun _ _ _ => no) (fun _ => no) o) () (fun _ _ _ _ => ()) v
def apX (f:Nat) (its:List Nat) (rd:Rd) (cf:Gl) (args:List V) (h:Heap) (n:K4):R :=
  LY args fun v l => XE v (LY l fun b l => LY l fun x l => Tb l (rd cf b x h n)) (Y0 f its cf args h n)
def NZ (cf:Gl) (o:DA) (args:List V) (h:Heap) (n:K4):R :=
  @Option.rec Ent (fun _ => R) (.fail "") (fun e => @Ent.rec (fun _ => R) (fun entry body res => entry args fun t => Ko (body cf t h n) res) (fun p => MN (p args h n)) (fun k entry body res => MN (brK k (fun hs => entry args fun t => Ko (body cf t hs n) res) args h n)) (fun f its rd => apX f its rd cf args h n) (fun p => p args h n) e) o
/-- What a call comes to. -/
def Ap (T:FC) (m:Nat):Gl :=
  @Nat.rec (fun _ => Gl) (F5 "") (fun _ ih f args h n => VZ f T fun o => NZ ih o args h n) m
/-- The kept registers out of all of them. -/
abbrev YD (sm:SM) (t:Regs):S := @List.rec (K2×SL) (fun _ => S) F6 (fun x _ ih => S.put x.2 ih (B3 x.1 t)) sm
theorem R2 {t:Regs}:∀ {sm:SM}, PU sm=true->∀ {p:K2} {s:SL}, Cx p sm=some s->S.get s (YD sm t)=B3 p t
  | [], _, p, s, h => by cases h
  | x::l, hok, p, s, h => by
    simp only [PU, Bool.and_eq_true] at hok
    have e1:YD (x::l) t=S.put x.2 (YD l t) (B3 x.1 t) := rfl
    rw [e1]
    simp only [Cx] at h
    cases hb:K2.beq x.1 p with
    | true =>
      rw [hb] at h
      have h:some x.2=some s := h
      cases h
      rw [S.get_put_same, K2.beq_iff.1 hb]
    | false =>
      rw [hb] at h
      have h:Cx p l=some s := h
      have hne:x.2≠s := fun e => by
        have := List.all_eq_true.1 hok.1 _ (Hv h)
        rw [←e] at this
        simp [SL.beq, O8.beq_self, O4.beq_self] at this
      rw [S.get_put_ne _ _ hne]
      exact R2 hok.2 h
abbrev Uc (sm:SM) (r:ARes) (t:S) (h:Heap) (κ:V->R):R :=
  @ARes.rec (fun _ => R) (fun p => B9 sm [] t (.t p) κ) (fun p m => B9 sm [] t (.t p) fun v => Lr v fun q off => LC q h fun cs _ _ =>
    @Option.rec Nat (fun _ => R) (EP cs off κ) (fun m => AZ cs off m fun y => ED y fun l => κ (.agg l)) m) r
abbrev RB (sm:SM) (rs:List ARes) (t:S) (h:Heap):(List V->R)->R :=
  @List.rec ARes (fun _ => (List V->R)->R) (fun κ => κ []) (fun r _ ih κ => Uc sm r t h fun v => ih fun vs => κ (v::vs)) rs
abbrev Pw (sm:SM) (rs:List ARes) (t:S) (h:Heap) (n:K4):R :=
  RB sm rs t h fun l => @List.rec V (fun _ => R) (.rv (.tup []) h n) (fun v vs _ => @List.rec V (fun _ => R) (.rv v h n) (fun _ _ _ => .rv (.tup l) h n) vs) l
/-- A function as it is run. -/
abbrev Aba (sm:SM) (a:AFn):Ent := @AFn.rec (fun _ => Ent) (fun ps c rs => .code (fun l κ => Ov ps l Ks fun t => κ (YD sm t)) (fun cf t h n => HH sm cf c r0 [] t h n) (fun t h n => Pw sm rs t h n)) a
def ARes.reg (r:ARes):K2 := @ARes.rec (fun _ => K2) (fun p => p) (fun p _ => p) r
def okF (sm:SM) (a:AFn):Bool := PU sm&&(JV sm a.code (fun _ => true) []&&a.rs.all fun r => HQ sm r.reg)
abbrev YX (sm:SM) (o:Option AFn):DA := @Option.rec AFn (fun _ => DA) none (fun a => some (Aba sm a)) o
def okO (sm:SM) (o:Option AFn):Bool := @Option.rec AFn (fun _ => Bool) false (fun a => okF sm a) o
section
variable {P:Program} {ρ:Env} {B:Nat}
/-- It is that function. -/
def AP (P:Program) (f:FuncId) (e:Ent):Prop := ∃ sm:SM, YX sm (Kq P f)=some e∧okO sm (Kq P f)=true
theorem AP.mk {f:FuncId} {e:Ent} (sm:SM) (h:YX sm (Kq P f)=some e) (k:okO sm (Kq P f)=true):AP P f e := ⟨sm, h, k⟩
/-- It is that function, run on what it can reach. -/
def Aft (P:Program) (f:FuncId) (e:Ent):Prop := ∃ k en bo re, e = .br k en bo re∧AP P f (.code en bo re)
/-- It ranges over a function. -/
def DV (P:Program) (ρ:Env) (f:FuncId) (e:Ent):Prop := ∃ its rd A, e = .ap f its rd∧ρ.ap f=some A∧LM P f=some A∧UB P A=some rd ∧ ∀ g∈its, JY P g
/-- A step of the evaluator's own that may come to many ways. -/
def Ux (P:Program) (ρ:Env) (B:Nat) (f:FuncId) (p:Ox):Prop :=
  ∀ args h n (Φ:R->Prop), (p args h n).sat Φ->∀ φ w (xs:Array Value), Gam ρ B h n φ w->Bj ρ φ args xs.toList →
    O1 P f xs w fun x w' => ∃ v h1 n1 φ', Φ (.rv v h1 n1)∧Fr h h1 φ φ' n n1 w w'∧Gam ρ B h1 n1 φ' w'∧Ao ρ φ' v x
def Mv (P:Program) (ρ:Env) (B:Nat) (f:FuncId) (e:Ent):Prop := (AP P f e∨Aft P f e)∨((∃ p, e = .prim p∧PT P ρ B f p)∨(DV P ρ f e ∨ ∃ p, e = .tree p∧Ux P ρ B f p))
def JD (P:Program) (ρ:Env) (B:Nat) (T:FC):Prop := (∀ f e, Bh (Bb f) T=some e->Mv P ρ B f e) ∧ ∀ f A, ρ.ap f=some A->∃ e, Bh (Bb f) T=some e∧DV P ρ f e
theorem Mb {r:R} {Φ:R->Prop} (h:(MN r).sat Φ):∃ v h1 n1, r = .rv v h1 n1∧Φ (.rv v h1 n1) := by
  cases r with
  | rv v h1 n1 => exact ⟨v, h1, n1, rfl, h⟩
  | _ => exact h.elim
theorem Vm {sm:SM} {r:ARes} {t:Regs} {t':S} (ri:RI sm [] [] t t') (hk:HQ sm r.reg=true) (hp:Heap) (κ:V->R):Uc sm r t' hp κ=KY r t hp κ := by
  have kn:∀ p, HQ sm p=true->DZ sm [] p=true := fun p h => by unfold DZ; rw [h, Bool.or_true]
  cases r with
  | tmp p => show B9 sm [] t' (.t p) κ=HL p t κ; rw [ri.tell (kn p hk), CM]
  | cel p m =>
    show B9 sm [] t' (.t p) _=HL p t _
    rw [ri.tell (kn p hk), CM, Ei]
theorem Pz {sm:SM} {t:Regs} {t':S} (ri:RI sm [] [] t t') {hp:Heap}:∀ {rs:List ARes} {κ:List V->R}, (∀ r∈rs, HQ sm r.reg=true)->RB sm rs t' hp κ=JU rs t hp κ
  | [], κ, _ => rfl
  | r::rs, κ, h => by
    have e1:RB sm (r::rs) t' hp κ=Uc sm r t' hp fun v => RB sm rs t' hp fun vs => κ (v::vs) := rfl
    have e2:JU (r::rs) t hp κ=KY r t hp fun v => JU rs t hp fun vs => κ (v::vs) := rfl
    rw [e1, e2, Vm ri (h r (List.mem_cons_self ..))]
    congr 1; funext v
    exact Pz ri fun r hr => h r (List.mem_cons_of_mem _ hr)
theorem Td {sm:SM} {t:Regs} {t':S} (ri:RI sm [] [] t t') {hp:Heap} {n:K4} {rs:List ARes} (h:∀ r∈rs, HQ sm r.reg=true):Pw sm rs t' hp n=PI rs t hp n := Pz ri h
/-- What is asked behind a body. -/
def Aa8 (res:S->Heap->K4->R) (Φ:R->Prop):R->Prop
  | .ok .nrm t h n => (res t h n).sat Φ
  | .ok .ret t h n => (res t h n).sat Φ
  | _ => False
theorem Kz {res:S->Heap->K4->R} {Φ:R->Prop}:∀ {r:R}, (Ko r res).sat Φ->r.sat (Aa8 res Φ)
  | .ok e t h n, hs => by
    cases e with
    | nrm => exact hs
    | ret => exact hs
    | exit j => exact hs.elim
  | .rv _ _ _, hs => hs.elim
  | .fail _, hs => hs.elim
  | .both a b, hs => ⟨Kz (r := a) hs.1, Kz (r := b) hs.2⟩
theorem VM {r:ARes} {t:Regs} {h:Heap} {κ:V->R} (hg:(KY r t h κ).good):∃ v, KY r t h κ=κ v := by
  cases r with
  | tmp p => exact ⟨_, CM p t κ⟩
  | cel p m =>
    have e1:KY (.cel p m) t h κ=Lr (B3 p t) fun q off => Hl q h fun cs _ _ =>
        @Option.rec Nat (fun _ => R) (EP cs off κ) (fun m => AZ cs off m fun y => ED y fun l => κ (.agg l)) m := CM p t _
    rw [e1] at hg
    obtain ⟨q, off, hv, e2⟩ := Dv hg
    rw [e2] at hg
    obtain ⟨cs, sup, prev, hq, e3⟩ := Dc hg
    rw [e3] at hg
    cases m with
    | none =>
      obtain ⟨v, _, e4⟩ := Hr (show R.good (EP cs off κ) from hg)
      exact ⟨v, e1.trans (e2.trans (e3.trans e4))⟩
    | some m =>
      obtain ⟨hle, y, hyl, hya, e4⟩ := CB (show R.good (AZ cs off m fun y => ED y fun l => κ (.agg l)) from hg)
      obtain ⟨l, e5, _, _⟩ := G5 y fun l => κ (.agg l)
      exact ⟨.agg l, e1.trans (e2.trans (e3.trans (Eq.trans e4 e5)))⟩
theorem Rm:∀ {rs:List ARes} {t:Regs} {h:Heap} {κ:List V->R}, (JU rs t h κ).good->∃ vs, JU rs t h κ=κ vs
  | [], t, h, κ, _ => ⟨[], rfl⟩
  | r::rs, t, h, κ, hg => by
    have hg:R.good (KY r t h fun v => JU rs t h fun vs => κ (v::vs)) := hg
    obtain ⟨v, e1⟩ := VM hg
    rw [e1] at hg
    obtain ⟨vs, e2⟩ := Rm hg
    exact ⟨v::vs, Eq.trans e1 e2⟩
theorem Vx {rs:List ARes} {t:Regs} {h:Heap} {n:K4} (hg:(PI rs t h n).good):∃ v, PI rs t h n = .rv v h n := by
  obtain ⟨vs, e⟩ := Rm (show R.good (JU rs t h _) from hg)
  have e:PI rs t h n=_ := e
  match vs, e with
  | [], e => exact ⟨_, e⟩
  | [u], e => exact ⟨_, e⟩
  | u::u'::us, e => exact ⟨_, e⟩
theorem Nd (hρ:Bd ρ) (hm:P.follows .mixedOrders=true) {cf:CF} {cf2:Gl} (hct:IC P ρ B cf) (hR:IQ P ρ B cf) (h2:∀ f, cf2 (Bb f)=cf f) {f:FuncId} {e:Ent} (he:AP P f e) {args:List V} {h:Heap} {n:K4} {Φ:R->Prop}
    (hr:(NZ cf2 (some e) args h n).sat Φ) {φ:AI} {w:World} {xs:Array Value} (g:Gam ρ B h n φ w) (hxs:Bj ρ φ args xs.toList) :
    O1 P f xs w fun x w' => ∃ v h1 n1 φ', Φ (.rv v h1 n1)∧Fr h h1 φ φ' n n1 w w'∧Gam ρ B h1 n1 φ' w'∧Ao ρ φ' v x := by
  obtain ⟨sm, hd, hok⟩ := he
  cases hf:Kq P f with
  | none => rw [hf] at hd; cases hd
  | some a =>
    rw [hf] at hd hok
    obtain ⟨fn, c, ps, rs, hfn, hb, hps, hrs, hname, rfl⟩ := Qh hf
    have hd:some (Ent.code (fun l κ => Ov ps l Ks fun t => κ (YD sm t)) (fun cf t h n => HH sm cf (AU P fn.ntmps c) r0 [] t h n) (fun t h n => Pw sm rs t h n))=some e := hd
    cases hd
    have hok:(PU sm&&(JV sm (AU P fn.ntmps c) (fun _ => true) []&&rs.all fun r => HQ sm r.reg))=true := hok
    rw [Bool.and_eq_true, Bool.and_eq_true] at hok
    obtain ⟨hsm, hok⟩ := hok
    have inj:∀ {p q s}, Cx p sm=some s->Cx q sm=some s->p=q := fun h h' => PB hsm h h'
    have hr:(Ov ps args Ks (fun t => Ko (HH sm cf2 (AU P fn.ntmps c) r0 [] (YD sm t) h n) fun t h n => Pw sm rs t h n)).sat Φ := hr
    rw [OQ] at hr
    obtain ⟨hlen, t0, e2, H0⟩ := LP (k := 0) (fun i s hi => by
      obtain ⟨hi', hi2⟩ := List.getElem?_eq_some_iff.1 hi
      simp at hi2; omega) hps (R.sat_good hr)
    rw [e2] at hr
    simp only [List.length_range] at hlen
    have hxl:xs.size=args.length := by have := AR hxs; simpa using this
    have hxN:xs.size≤fn.ntmps := by
      rcases Nat.eq_zero_or_pos xs.size with h0 | h0
      · omega
      · have := Mz hps (xs.size - 1) (List.mem_range.2 (by omega)); omega
    have hT:TR ρ fn.ntmps φ t0 { tmps := xs++Array.replicate (fn.ntmps - xs.size) undef, defers := [] } := {
      size := by simp; omega
      defers := rfl
      at_ := fun s p hs hp => by
        rw [H0 s p hp, if_pos (Nat.zero_le _), Nat.sub_zero, Pd]
        show Ao ρ φ _ ((xs++Array.replicate (fn.ntmps - xs.size) undef).getD s undef)
        rw [Array.getD_eq_getD_getElem?]
        by_cases hsx:s<xs.size
        · rw [Array.getElem?_append_left hsx]
          have hsa:s<args.length := by omega
          rw [List.getElem?_eq_getElem hsa]
          obtain ⟨x, hx, hrx⟩ := (Cl.1 hxs).2 s _ (List.getElem?_eq_getElem hsa)
          rw [Array.getElem?_toList] at hx
          rw [hx]; exact hrx
        · rw [Array.getElem?_append_right (by omega), Array.getElem?_replicate, if_pos (by omega), List.getElem?_eq_none (by omega)]
          exact EY }
    have hx := Kz hr
    have hOK := (Yg (N := fn.ntmps) (sm := sm) hρ hm hct hR h2 c).join hok.1 (RI.start inj fun p s hs => R2 hsm hs) hx
    intro o a K Q hK
    have hcf':(callFunc f xs).run P w = .ok (.enter f xs) w := by
      have hname':fn.name ≠ "runtime.NumGoroutine" := by simpa using hname
      simp [callFunc, hfn, hname', hb]
    rw [hcf']
    refine calls_of_wp hfn hb (hOK φ _ w hT g _ fun e t1 h2' n2 hres φ' a' w' tf f1 g1 T1 hk => ?_)
    have fin:(Pw sm rs t1 h2' n2).sat Φ->∃ X, (results fn a'.tmps).run P w' = .ok X w'∧K (a.put o.dst X) w' := fun hres => by
      rw [Td (RI.start inj hk) fun r hr => List.all_eq_true.1 hok.2 r hr] at hres
      obtain ⟨v, hv⟩ := Vx (R.sat_good hres)
      obtain ⟨_, _, Hres⟩ := Sx (ρ := ρ) (B := B) hrs hv
      rw [hv] at hres
      obtain ⟨X, hX, hrX⟩ := Hres φ' a' w' T1 g1
      exact ⟨X, hX, hK X w' ⟨v, h2', n2, φ', hres, f1, g1, hrX⟩⟩
    cases e with
    | nrm => obtain ⟨X, hX, hKX⟩ := fin hres; exact ⟨T1.defers, X, hX, hKX⟩
    | exit id => exact hres.elim
    | ret => obtain ⟨X, hX, hKX⟩ := fin hres; exact ⟨T1.defers, X, hX, hKX⟩
/-- THE CALL IS SOUND. -/
theorem RU (hρ:Bd ρ) (hm:P.follows .mixedOrders=true) {T:FC} (hT:JD P ρ B T):∀ m, IC P ρ B (fun f => Ap T m (Bb f))∧IQ P ρ B (fun f => Ap T m (Bb f)) := by
  intro m
  induction m with
  | zero => exact ⟨fun f args h n Φ hr => hr.elim, fun f A fn hA box x h n Φ hr => hr.elim⟩
  | succ m ih =>
    obtain ⟨hct, hR⟩ := ih
    have e1:∀ f args h n, Ap T (m+1) (Bb f) args h n=NZ (Ap T m) (Bh (Bb f) T) args h n := fun f args h n => RP (Bb f) T fun o => NZ (Ap T m) o args h n
    refine ⟨fun f args h n Φ hr φ w xs g hxs => ?_, fun f A fn hA box x h n Φ hr φ w tmps X l D g hrec unc hsz hbox hX => ?_⟩
    · have hr:(Ap T (m+1) (Bb f) args h n).sat Φ := hr
      rw [e1] at hr
      cases ho:Bh (Bb f) T with
      | none => rw [ho] at hr; exact hr.elim
      | some e =>
        rw [ho] at hr
        rcases hT.1 f e ho with (he | ⟨k, en, bo, re, rfl, he⟩) | (⟨p, rfl, hp⟩ | (⟨its, rd, A, rfl, hA, h1, h2, h3⟩ | ⟨p, rfl, hp⟩))
        · exact Nd hρ hm hct hR (fun _ => rfl) he hr g hxs
        · obtain ⟨v, h1, n1, hr, hΦ⟩ := Mb (show (MN (brK k (fun hs => en args fun t => Ko (bo (Ap T m) t hs n) re) args h n)).sat Φ from hr)
          intro o a K Q hK
          exact XL hr g hxs (fun hs Φ hsat gs => Nd hρ hm hct hR (fun _ => rfl) he (h := hs) hsat gs hxs) o a K Q fun x w' ⟨φ', f1, g1, r1⟩ => hK x w' ⟨v, h1, n1, φ', hΦ, f1, g1, r1⟩
        · obtain ⟨v, h1, n1, hr, hΦ⟩ := Mb (show (MN (p args h n)).sat Φ from hr)
          intro o a K Q hK
          exact hp args h n v h1 n1 hr φ w xs g hxs o a K Q fun x w' ⟨φ', f1, g1, r1⟩ => hK x w' ⟨v, h1, n1, φ', hΦ, f1, g1, r1⟩
        · have hr:(apX f its rd (Ap T m) args h n).sat Φ := hr
          unfold apX at hr
          obtain ⟨v, l, hl, q1⟩ := IP (R.sat_good hr)
          rw [q1] at hr
          subst hl
          by_cases hv:v = .oth .no
          · subst hv
            obtain ⟨y, ys, _, hy, _⟩ := Aj.1 hxs
            simp only [Ao] at hy
          · have e2:∀ A C:R, XE v A C=C := fun A C => by
              cases v with
              | oth o => cases o with
                | no => exact absurd rfl hv
                | _ => rfl
              | _ => rfl
            rw [e2] at hr
            exact Aal hA h1 h3 hct (fun _ => rfl) hr g hxs
        · exact hp args h n Φ hr φ w xs g hxs
    · obtain ⟨e, ho, its, rd, A', rfl, hA', h1, h2, h3⟩ := hT.2 f A hA
      rw [hA] at hA'; cases hA'
      have hr:(Ap T (m+1) (Bb f) [.oth .no, .ptr box 0, x] h n).sat Φ := hr
      rw [e1, ho] at hr
      have hr:(rd (Ap T m) (.ptr box 0) x h n).sat Φ := hr
      exact Z7 hρ hct.ok (fun _ => rfl) h2 hr g hrec unc hsz hbox hX
theorem Uj (hρ:Bd ρ) (hm:P.follows .mixedOrders=true) {T:FC} (hT:JD P ρ B T) (m:Nat):E7 P ρ B fun f => Ap T m (Bb f) := (RU hρ hm hT m).1.ok
end
end Go.Ev

namespace Go.Ev
open Go.RowKit
set_option linter.unusedVariables false
abbrev Cm (w:Bool) (v:V) (h:Heap) (n:K4) (F:KV->R) (κ:KV):R := gd w v F κ h n
abbrev AW (v:V):R := .rv v AE ⟨.d0, .d0, .d0, .d0⟩
abbrev alY (b:K4) (j:D) (h:Heap) (F:K4->R) (κ:KV):R := b.at j fun r => B5 r h fun x => Gi x (Fq (F r) κ)
abbrev Zw (b:K4) (j:D) (h:Heap) (F:K4->R) (κ:V->Heap->R):R := alY b j h F fun v h _ => κ v h
abbrev Xo (b:K4) (j:D) (h:Heap) (κ:R):R := b.at j fun r => B5 r h fun x => Gi x κ
abbrev U:V := AO
abbrev Q0:SQ := .mk U U U U
abbrev g0 (t:S) (k:V->R):R := @S.rec (fun _ => R) (fun c0 c1 c2 c3 c4 c5 c6 c7 => @SQ.rec (fun _ => R) (fun d0 d1 d2 d3 => k d0) c0) t
abbrev w0 (t:S) (v:V) (k:S->R):R := @S.rec (fun _ => R) (fun c0 c1 c2 c3 c4 c5 c6 c7 => @SQ.rec (fun _ => R) (fun d0 d1 d2 d3 => k (.mk (.mk v d1 d2 d3) c1 c2 c3 c4 c5 c6 c7)) c0) t
abbrev g1 (t:S) (k:V->R):R := @S.rec (fun _ => R) (fun c0 c1 c2 c3 c4 c5 c6 c7 => @SQ.rec (fun _ => R) (fun d0 d1 d2 d3 => k d1) c0) t
abbrev w1 (t:S) (v:V) (k:S->R):R := @S.rec (fun _ => R) (fun c0 c1 c2 c3 c4 c5 c6 c7 => @SQ.rec (fun _ => R) (fun d0 d1 d2 d3 => k (.mk (.mk d0 v d2 d3) c1 c2 c3 c4 c5 c6 c7)) c0) t
abbrev g2 (t:S) (k:V->R):R := @S.rec (fun _ => R) (fun c0 c1 c2 c3 c4 c5 c6 c7 => @SQ.rec (fun _ => R) (fun d0 d1 d2 d3 => k d2) c0) t
abbrev w2 (t:S) (v:V) (k:S->R):R := @S.rec (fun _ => R) (fun c0 c1 c2 c3 c4 c5 c6 c7 => @SQ.rec (fun _ => R) (fun d0 d1 d2 d3 => k (.mk (.mk d0 d1 v d3) c1 c2 c3 c4 c5 c6 c7)) c0) t
abbrev g3 (t:S) (k:V->R):R := @S.rec (fun _ => R) (fun c0 c1 c2 c3 c4 c5 c6 c7 => @SQ.rec (fun _ => R) (fun d0 d1 d2 d3 => k d3) c0) t
abbrev w3 (t:S) (v:V) (k:S->R):R := @S.rec (fun _ => R) (fun c0 c1 c2 c3 c4 c5 c6 c7 => @SQ.rec (fun _ => R) (fun d0 d1 d2 d3 => k (.mk (.mk d0 d1 d2 v) c1 c2 c3 c4 c5 c6 c7)) c0) t
abbrev g4 (t:S) (k:V->R):R := @S.rec (fun _ => R) (fun c0 c1 c2 c3 c4 c5 c6 c7 => @SQ.rec (fun _ => R) (fun d0 d1 d2 d3 => k d0) c1) t
abbrev w4 (t:S) (v:V) (k:S->R):R := @S.rec (fun _ => R) (fun c0 c1 c2 c3 c4 c5 c6 c7 => @SQ.rec (fun _ => R) (fun d0 d1 d2 d3 => k (.mk c0 (.mk v d1 d2 d3) c2 c3 c4 c5 c6 c7)) c1) t
abbrev g5 (t:S) (k:V->R):R := @S.rec (fun _ => R) (fun c0 c1 c2 c3 c4 c5 c6 c7 => @SQ.rec (fun _ => R) (fun d0 d1 d2 d3 => k d1) c1) t
abbrev w5 (t:S) (v:V) (k:S->R):R := @S.rec (fun _ => R) (fun c0 c1 c2 c3 c4 c5 c6 c7 => @SQ.rec (fun _ => R) (fun d0 d1 d2 d3 => k (.mk c0 (.mk d0 v d2 d3) c2 c3 c4 c5 c6 c7)) c1) t
abbrev g6 (t:S) (k:V->R):R := @S.rec (fun _ => R) (fun c0 c1 c2 c3 c4 c5 c6 c7 => @SQ.rec (fun _ => R) (fun d0 d1 d2 d3 => k d2) c1) t
abbrev w6 (t:S) (v:V) (k:S->R):R := @S.rec (fun _ => R) (fun c0 c1 c2 c3 c4 c5 c6 c7 => @SQ.rec (fun _ => R) (fun d0 d1 d2 d3 => k (.mk c0 (.mk d0 d1 v d3) c2 c3 c4 c5 c6 c7)) c1) t
abbrev g7 (t:S) (k:V->R):R := @S.rec (fun _ => R) (fun c0 c1 c2 c3 c4 c5 c6 c7 => @SQ.rec (fun _ => R) (fun d0 d1 d2 d3 => k d3) c1) t
abbrev w7 (t:S) (v:V) (k:S->R):R := @S.rec (fun _ => R) (fun c0 c1 c2 c3 c4 c5 c6 c7 => @SQ.rec (fun _ => R) (fun d0 d1 d2 d3 => k (.mk c0 (.mk d0 d1 d2 v) c2 c3 c4 c5 c6 c7)) c1) t
abbrev g8 (t:S) (k:V->R):R := @S.rec (fun _ => R) (fun c0 c1 c2 c3 c4 c5 c6 c7 => @SQ.rec (fun _ => R) (fun d0 d1 d2 d3 => k d0) c2) t
abbrev w8 (t:S) (v:V) (k:S->R):R := @S.rec (fun _ => R) (fun c0 c1 c2 c3 c4 c5 c6 c7 => @SQ.rec (fun _ => R) (fun d0 d1 d2 d3 => k (.mk c0 c1 (.mk v d1 d2 d3) c3 c4 c5 c6 c7)) c2) t
abbrev g9 (t:S) (k:V->R):R := @S.rec (fun _ => R) (fun c0 c1 c2 c3 c4 c5 c6 c7 => @SQ.rec (fun _ => R) (fun d0 d1 d2 d3 => k d1) c2) t
abbrev w9 (t:S) (v:V) (k:S->R):R := @S.rec (fun _ => R) (fun c0 c1 c2 c3 c4 c5 c6 c7 => @SQ.rec (fun _ => R) (fun d0 d1 d2 d3 => k (.mk c0 c1 (.mk d0 v d2 d3) c3 c4 c5 c6 c7)) c2) t
abbrev BB (t:S) (k:V->R):R := @S.rec (fun _ => R) (fun c0 c1 c2 c3 c4 c5 c6 c7 => @SQ.rec (fun _ => R) (fun d0 d1 d2 d3 => k d2) c2) t
abbrev BF (t:S) (v:V) (k:S->R):R := @S.rec (fun _ => R) (fun c0 c1 c2 c3 c4 c5 c6 c7 => @SQ.rec (fun _ => R) (fun d0 d1 d2 d3 => k (.mk c0 c1 (.mk d0 d1 v d3) c3 c4 c5 c6 c7)) c2) t
abbrev BC (t:S) (k:V->R):R := @S.rec (fun _ => R) (fun c0 c1 c2 c3 c4 c5 c6 c7 => @SQ.rec (fun _ => R) (fun d0 d1 d2 d3 => k d3) c2) t
abbrev Bz (t:S) (v:V) (k:S->R):R := @S.rec (fun _ => R) (fun c0 c1 c2 c3 c4 c5 c6 c7 => @SQ.rec (fun _ => R) (fun d0 d1 d2 d3 => k (.mk c0 c1 (.mk d0 d1 d2 v) c3 c4 c5 c6 c7)) c2) t
abbrev Bq (t:S) (k:V->R):R := @S.rec (fun _ => R) (fun c0 c1 c2 c3 c4 c5 c6 c7 => @SQ.rec (fun _ => R) (fun d0 d1 d2 d3 => k d0) c3) t
abbrev Bx (t:S) (v:V) (k:S->R):R := @S.rec (fun _ => R) (fun c0 c1 c2 c3 c4 c5 c6 c7 => @SQ.rec (fun _ => R) (fun d0 d1 d2 d3 => k (.mk c0 c1 c2 (.mk v d1 d2 d3) c4 c5 c6 c7)) c3) t
abbrev BA (t:S) (k:V->R):R := @S.rec (fun _ => R) (fun c0 c1 c2 c3 c4 c5 c6 c7 => @SQ.rec (fun _ => R) (fun d0 d1 d2 d3 => k d1) c3) t
abbrev BE (t:S) (v:V) (k:S->R):R := @S.rec (fun _ => R) (fun c0 c1 c2 c3 c4 c5 c6 c7 => @SQ.rec (fun _ => R) (fun d0 d1 d2 d3 => k (.mk c0 c1 c2 (.mk d0 v d2 d3) c4 c5 c6 c7)) c3) t
abbrev By (t:S) (k:V->R):R := @S.rec (fun _ => R) (fun c0 c1 c2 c3 c4 c5 c6 c7 => @SQ.rec (fun _ => R) (fun d0 d1 d2 d3 => k d2) c3) t
abbrev BI (t:S) (v:V) (k:S->R):R := @S.rec (fun _ => R) (fun c0 c1 c2 c3 c4 c5 c6 c7 => @SQ.rec (fun _ => R) (fun d0 d1 d2 d3 => k (.mk c0 c1 c2 (.mk d0 d1 v d3) c4 c5 c6 c7)) c3) t
abbrev Bw (t:S) (k:V->R):R := @S.rec (fun _ => R) (fun c0 c1 c2 c3 c4 c5 c6 c7 => @SQ.rec (fun _ => R) (fun d0 d1 d2 d3 => k d3) c3) t
abbrev Bv (t:S) (v:V) (k:S->R):R := @S.rec (fun _ => R) (fun c0 c1 c2 c3 c4 c5 c6 c7 => @SQ.rec (fun _ => R) (fun d0 d1 d2 d3 => k (.mk c0 c1 c2 (.mk d0 d1 d2 v) c4 c5 c6 c7)) c3) t
abbrev BD (t:S) (k:V->R):R := @S.rec (fun _ => R) (fun c0 c1 c2 c3 c4 c5 c6 c7 => @SQ.rec (fun _ => R) (fun d0 d1 d2 d3 => k d0) c4) t
abbrev BG (t:S) (v:V) (k:S->R):R := @S.rec (fun _ => R) (fun c0 c1 c2 c3 c4 c5 c6 c7 => @SQ.rec (fun _ => R) (fun d0 d1 d2 d3 => k (.mk c0 c1 c2 c3 (.mk v d1 d2 d3) c5 c6 c7)) c4) t
abbrev BH (t:S) (k:V->R):R := @S.rec (fun _ => R) (fun c0 c1 c2 c3 c4 c5 c6 c7 => @SQ.rec (fun _ => R) (fun d0 d1 d2 d3 => k d1) c4) t
abbrev BJ (t:S) (v:V) (k:S->R):R := @S.rec (fun _ => R) (fun c0 c1 c2 c3 c4 c5 c6 c7 => @SQ.rec (fun _ => R) (fun d0 d1 d2 d3 => k (.mk c0 c1 c2 c3 (.mk d0 v d2 d3) c5 c6 c7)) c4) t
abbrev Bp (t:S) (k:V->R):R := @S.rec (fun _ => R) (fun c0 c1 c2 c3 c4 c5 c6 c7 => @SQ.rec (fun _ => R) (fun d0 d1 d2 d3 => k d2) c4) t
abbrev Bu (t:S) (v:V) (k:S->R):R := @S.rec (fun _ => R) (fun c0 c1 c2 c3 c4 c5 c6 c7 => @SQ.rec (fun _ => R) (fun d0 d1 d2 d3 => k (.mk c0 c1 c2 c3 (.mk d0 d1 v d3) c5 c6 c7)) c4) t
abbrev BK (t:S) (k:V->R):R := @S.rec (fun _ => R) (fun c0 c1 c2 c3 c4 c5 c6 c7 => @SQ.rec (fun _ => R) (fun d0 d1 d2 d3 => k d3) c4) t
abbrev BL (t:S) (v:V) (k:S->R):R := @S.rec (fun _ => R) (fun c0 c1 c2 c3 c4 c5 c6 c7 => @SQ.rec (fun _ => R) (fun d0 d1 d2 d3 => k (.mk c0 c1 c2 c3 (.mk d0 d1 d2 v) c5 c6 c7)) c4) t
section
variable {P:Program} {ρ:Env} {B:Nat}
/-- What stands at a function's place in the table. -/
def AL (P:Program) (ρ:Env) (B:Nat) (f:FuncId) (o:DA):Prop := ∀ e, o=some e->Mv P ρ B f e
theorem AL.no {f:FuncId}:AL P ρ B f none := fun e h => by cases h
theorem AL.fn {f:FuncId} {e:Ent} (h:AP P f e):AL P ρ B f (some e) := fun e' h' => by cases h'; exact .inl (.inl h)
theorem AL.br {f:FuncId} {k:Nat} {en:List V->(S->R)->R} {bo:Gl->S->Heap->K4->R} {re:S->Heap->K4->R} (h:AP P f (.code en bo re)):AL P ρ B f (some (.br k en bo re)) := fun e' h' => by cases h'; exact .inl (.inr ⟨k, en, bo, re, rfl, h⟩)
theorem AL.pr {f:FuncId} {p:Ox} (h:PT P ρ B f p):AL P ρ B f (some (.prim p)) := fun e' h' => by cases h'; exact .inr (.inl ⟨p, rfl, h⟩)
def I2 (s:String):Ox := fun _ _ _ => .fail s
theorem AL.noP {f:FuncId} (s:String):AL P ρ B f (some (.prim (I2 s))) := AL.pr fun args h n v h1 n1 hx => by cases hx
theorem AL.ap {f:FuncId} {its:List Nat} {rd:Rd} {A:ApC} (hA:ρ.ap f=some A) (h1:LM P f=some A) (h2:UB P A=some rd) (h3:∀ g∈its, JY P g):AL P ρ B f (some (.ap f its rd)) := fun e' h' => by cases h'; exact .inr (.inr (.inl ⟨its, rd, A, rfl, hA, h1, h2, h3⟩))
theorem AL.tr {f:FuncId} {p:Ox} (h:Ux P ρ B f p):AL P ρ B f (some (.tree p)) := fun e' h' => by cases h'; exact .inr (.inr (.inr ⟨p, rfl, h⟩))
def J4 (P:Program) (ρ:Env) (B:Nat) (base:Nat) (x:FA):Prop := ∀ d, AL P ρ B (base+d.toN) (FA.sel d x)
def Nu (P:Program) (ρ:Env) (B:Nat) (base:Nat) (x:FB):Prop := ∀ d, J4 P ρ B (base+16*d.toN) (FB.sel d x)
theorem FT {base:Nat} {c0 c1 c2 c3 c4 c5 c6 c7 c8 c9 ca cb cc cd ce cf:DA} (h0:AL P ρ B (base+0) c0) (h1:AL P ρ B (base+1) c1) (h2:AL P ρ B (base+2) c2) (h3:AL P ρ B (base+3) c3) (h4:AL P ρ B (base+4) c4) (h5:AL P ρ B (base+5) c5) (h6:AL P ρ B (base+6) c6) (h7:AL P ρ B (base+7) c7) (h8:AL P ρ B (base+8) c8) (h9:AL P ρ B (base+9) c9) (h10:AL P ρ B (base+10) ca) (h11:AL P ρ B (base+11) cb) (h12:AL P ρ B (base+12) cc) (h13:AL P ρ B (base+13) cd) (h14:AL P ρ B (base+14) ce) (h15:AL P ρ B (base+15) cf):J4 P ρ B base (.mk c0 c1 c2 c3 c4 c5 c6 c7 c8 c9 ca cb cc cd ce cf) := fun d => by
  cases d
  · exact h0
  · exact h1
  · exact h2
  · exact h3
  · exact h4
  · exact h5
  · exact h6
  · exact h7
  · exact h8
  · exact h9
  · exact h10
  · exact h11
  · exact h12
  · exact h13
  · exact h14
  · exact h15
theorem XN {base:Nat} {c0 c1 c2 c3 c4 c5 c6 c7 c8 c9 ca cb cc cd ce cf:FA} (h0:J4 P ρ B (base+16*0) c0) (h1:J4 P ρ B (base+16*1) c1) (h2:J4 P ρ B (base+16*2) c2) (h3:J4 P ρ B (base+16*3) c3) (h4:J4 P ρ B (base+16*4) c4) (h5:J4 P ρ B (base+16*5) c5) (h6:J4 P ρ B (base+16*6) c6) (h7:J4 P ρ B (base+16*7) c7) (h8:J4 P ρ B (base+16*8) c8) (h9:J4 P ρ B (base+16*9) c9) (h10:J4 P ρ B (base+16*10) ca) (h11:J4 P ρ B (base+16*11) cb) (h12:J4 P ρ B (base+16*12) cc) (h13:J4 P ρ B (base+16*13) cd) (h14:J4 P ρ B (base+16*14) ce) (h15:J4 P ρ B (base+16*15) cf):Nu P ρ B base (.mk c0 c1 c2 c3 c4 c5 c6 c7 c8 c9 ca cb cc cd ce cf) := fun d => by
  cases d
  · exact h0
  · exact h1
  · exact h2
  · exact h3
  · exact h4
  · exact h5
  · exact h6
  · exact h7
  · exact h8
  · exact h9
  · exact h10
  · exact h11
  · exact h12
  · exact h13
  · exact h14
  · exact h15
def JR:FA := .mk none none none none none none none none none none none none none none none none
def N2:FB := .mk JR JR JR JR JR JR JR JR JR JR JR JR JR JR JR JR
theorem RE (d:D):FA.sel d JR=none := by cases d <;> rfl
theorem QF (d:D):FB.sel d N2=JR := by cases d <;> rfl
theorem I8 {base:Nat}:J4 P ρ B base JR := fun d => by rw [RE]; exact AL.no
theorem DT {base:Nat}:Nu P ρ B base N2 := fun d => by rw [QF]; exact I8
theorem ofN_lt {x:Nat} {d:D} (h:D.ofN x=d) (hd:d ≠ .d15):x=d.toN := by
  rcases Nat.lt_or_ge x 15 with hx | hx
  · rw [←h, D.toN_ofN x (by omega)]
  · exfalso
    obtain ⟨y, rfl⟩:∃ y, x=y+15 := ⟨x - 15, by omega⟩
    exact hd h.symm
theorem XM {c0 c1 c2 c3 c4 c5 c6 c7 c8 c9 ca cb cc cd ce:FB} (h0:Nu P ρ B (256*0) c0) (h1:Nu P ρ B (256*1) c1) (h2:Nu P ρ B (256*2) c2) (h3:Nu P ρ B (256*3) c3) (h4:Nu P ρ B (256*4) c4) (h5:Nu P ρ B (256*5) c5) (h6:Nu P ρ B (256*6) c6) (h7:Nu P ρ B (256*7) c7) (h8:Nu P ρ B (256*8) c8) (h9:Nu P ρ B (256*9) c9) (h10:Nu P ρ B (256*10) ca) (h11:Nu P ρ B (256*11) cb) (h12:Nu P ρ B (256*12) cc) (h13:Nu P ρ B (256*13) cd) (h14:Nu P ρ B (256*14) ce):∀ f e, Bh (Bb f) (.mk c0 c1 c2 c3 c4 c5 c6 c7 c8 c9 ca cb cc cd ce N2)=some e->Mv P ρ B f e := fun f e h => by
  have hc:(D.ofN (f % 16)).toN=f % 16 := D.toN_ofN _ (by omega)
  have hb:(D.ofN (f / 16 % 16)).toN=f / 16 % 16 := D.toN_ofN _ (by omega)
  have key:∀ x:FB, Nu P ρ B (256*(f / 256)) x->FA.sel (D.ofN (f % 16)) (FB.sel (D.ofN (f / 16 % 16)) x)=some e->Mv P ρ B f e := fun x hx hs => by
    have := hx (D.ofN (f / 16 % 16)) (D.ofN (f % 16)) e hs
    rw [hc, hb] at this
    have e1:256*(f / 256)+16*(f / 16 % 16)+f % 16=f := by omega
    rw [e1] at this; exact this
  have h:FA.sel (D.ofN (f % 16)) (FB.sel (D.ofN (f / 16 % 16)) (FC.sel (D.ofN (f / 256)) (.mk c0 c1 c2 c3 c4 c5 c6 c7 c8 c9 ca cb cc cd ce N2)))=some e := h
  generalize hd:D.ofN (f / 256)=d at h
  cases d
  · have := ofN_lt hd (by intro h; cases h); rw [show D.toN .d0=0 from rfl] at this; exact key c0 (by rw [this]; exact h0) h
  · have := ofN_lt hd (by intro h; cases h); rw [show D.toN .d1=1 from rfl] at this; exact key c1 (by rw [this]; exact h1) h
  · have := ofN_lt hd (by intro h; cases h); rw [show D.toN .d2=2 from rfl] at this; exact key c2 (by rw [this]; exact h2) h
  · have := ofN_lt hd (by intro h; cases h); rw [show D.toN .d3=3 from rfl] at this; exact key c3 (by rw [this]; exact h3) h
  · have := ofN_lt hd (by intro h; cases h); rw [show D.toN .d4=4 from rfl] at this; exact key c4 (by rw [this]; exact h4) h
  · have := ofN_lt hd (by intro h; cases h); rw [show D.toN .d5=5 from rfl] at this; exact key c5 (by rw [this]; exact h5) h
  · have := ofN_lt hd (by intro h; cases h); rw [show D.toN .d6=6 from rfl] at this; exact key c6 (by rw [this]; exact h6) h
  · have := ofN_lt hd (by intro h; cases h); rw [show D.toN .d7=7 from rfl] at this; exact key c7 (by rw [this]; exact h7) h
  · have := ofN_lt hd (by intro h; cases h); rw [show D.toN .d8=8 from rfl] at this; exact key c8 (by rw [this]; exact h8) h
  · have := ofN_lt hd (by intro h; cases h); rw [show D.toN .d9=9 from rfl] at this; exact key c9 (by rw [this]; exact h9) h
  · have := ofN_lt hd (by intro h; cases h); rw [show D.toN .d10=10 from rfl] at this; exact key ca (by rw [this]; exact h10) h
  · have := ofN_lt hd (by intro h; cases h); rw [show D.toN .d11=11 from rfl] at this; exact key cb (by rw [this]; exact h11) h
  · have := ofN_lt hd (by intro h; cases h); rw [show D.toN .d12=12 from rfl] at this; exact key cc (by rw [this]; exact h12) h
  · have := ofN_lt hd (by intro h; cases h); rw [show D.toN .d13=13 from rfl] at this; exact key cd (by rw [this]; exact h13) h
  · have := ofN_lt hd (by intro h; cases h); rw [show D.toN .d14=14 from rfl] at this; exact key ce (by rw [this]; exact h14) h
  · have h:FA.sel (D.ofN (f % 16)) (FB.sel (D.ofN (f / 16 % 16)) N2)=some e := h
    rw [QF, RE] at h; cases h
/-- The environment of a program in which some functions range over functions. -/
def HS (P:Program) (fs:List Nat):Env := { v := fun _ => .bool true, ap := fun f => @Bool.rec (fun _ => Option ApC) none (LM P f) (fs.contains f) }
def NW (P:Program) (g:FuncId):Bool := match P.funcs[g]? with
  | some fn => fn.body.isSome && !(fn.name == "runtime.NumGoroutine")
  | none => false
theorem Qi {g:FuncId} (h:NW P g=true):JY P g := by
  unfold NW at h
  split at h
  · rename_i fn hfn
    simp only [Bool.and_eq_true, Bool.not_eq_true'] at h
    obtain ⟨c, hc⟩ := Option.isSome_iff_exists.1 h.1
    exact ⟨fn, c, hfn, hc, h.2⟩
  · cases h
def ZZ (P:Program) (f:FuncId):Option Rd := (LM P f).bind (UB P)
theorem DV.mk {fs:List Nat} {f:FuncId} {its:List Nat} {rd:Rd} (hf:fs.contains f=true) (h:ZZ P f=some rd) (hb:its.all (NW P)=true):DV P (HS P fs) f (.ap f its rd) := by
  unfold ZZ at h
  cases hA:LM P f with
  | none => rw [hA] at h; cases h
  | some A =>
    rw [hA] at h
    exact ⟨its, rd, A, rfl, by show @Bool.rec (fun _ => Option ApC) none (LM P f) (fs.contains f)=_; rw [hf]; exact hA, hA, h, fun g hg => Qi (List.all_eq_true.1 hb g hg)⟩
theorem AL.apE {f:FuncId} {e:Ent} (h:DV P ρ f e):AL P ρ B f (some e) := fun e' h' => by cases h'; exact .inr (.inr (.inl h))
theorem JD.mk {fs:List Nat} {T:FC} (h:∀ f e, Bh (Bb f) T=some e->Mv P (HS P fs) B f e) (ha:∀ f∈fs, ∃ e, Bh (Bb f) T=some e∧DV P (HS P fs) f e):JD P (HS P fs) B T := by
  refine ⟨h, fun f A hA => ?_⟩
  have hA:@Bool.rec (fun _ => Option ApC) none (LM P f) (fs.contains f)=some A := hA
  cases hc:fs.contains f with
  | false => rw [hc] at hA; cases hA
  | true => exact ha f (List.contains_iff_mem.1 hc)
theorem Y7 {Q:Nat->Prop}:∀ f∈([]:List Nat), Q f := fun f h => by cases h
theorem RH {Q:Nat->Prop} {x:Nat} {l:List Nat} (h:Q x) (k:∀ f∈l, Q f):∀ f∈x::l, Q f := fun f hf => by
  rcases List.mem_cons.1 hf with rfl | hf
  · exact h
  · exact k f hf
/-- A call that is evaluated to true, from values that the arguments tell of. -/
theorem Gj (hρ:Bd ρ) (hm:P.follows .mixedOrders=true) {T:FC} (hT:∀ B, JD P ρ B T) {m:Nat} {f:FuncId} {fn:Func} {args:List V}
    (hf:P.funcs[f]? = some fn) (hb:fn.body.isSome=true) (hn:(fn.name == "runtime.NumGoroutine")=false) (hx:Rt (Ap T m (Bb f) args AE XG)=true) {xs:Array Value} (hr:Bj ρ (fun _ => none) args xs.toList) (w:World) (hgl:Vy ρ w := by intro b c e fr h; have h:(none:Option (Array Value×TypeId×(Nat×Nat)))=some (c, e, fr) := h; cases h) :
    Calls P f xs w fun e w' => e = .returned (.bool true)∧Below w.heap.size w w' := by
  obtain ⟨h1, n1, hx⟩ := UC hx
  obtain ⟨c, hc⟩ := Option.isSome_iff_exists.1 hb
  have := HK (R := fun x w' => x = .bool true∧Below w.heap.size w w') hf hc (by simpa using hn) (fun o a K Q hK =>
    Uj (B := w.heap.size) hρ hm (hT _) m f args AE XG _ h1 n1 hx (fun _ => none) w xs (Sg w XG hgl) hr o a K Q fun x w' ⟨φ', f1, _, hr⟩ => hK x w' ⟨by simpa only [Ao] using hr, Pj f1⟩)
  refine this.mono fun e w' he => ?_
  cases e with
  | returned v => exact ⟨by rw [he.1], he.2⟩
  | _ => exact he.elim
end
end Go.Ev

namespace Go.Ev
set_option linter.unusedVariables false
open Go.RowKit
def Lb:Ox := fun args h n =>
  LY args fun v l => Tb l (DM v (.fail "") fun p => R8 p h fun es bs c => E4 h n (.m es bs c) fun h n' => .rv (.map n) h n')
/-- It is maps.Clone: the function that it calls. -/
def Rv (P:Program) (f:FuncId):Option FuncId :=
  match P.funcs[f]? with
  | some fn => match fn.body with
    | some (.seq (.region _ r0 false) (.seq (.seq (.region _ r1 false) (.cond (.tmp 4) _ .skip)) (.seq (.region _ r3 false) .ret))) =>
      match r0.toList, r1.toList, r3.toList, fn.results.toList with
      | [o1], [o2, o3], [o4, o5, o6, o7, o8], [.tmp s2] => match o1.op, o2.op, o3.op, o4.op, o5.op, o6.op, o7.op, o8.op with
        | .assign (.const c1), .move (.tmp s0), .binOp .eql t3 (.tmp s3) (.const (.map none)) _, .move (.tmp s0'), .makeInterface t5 (.tmp s5), .call ct, .typeAssert (.tmp s7) _ t7 false, .assign (.tmp s8) =>
          match ct.callee, ct.args.toList, P.underlying t5 with
          | .value (.func g), [.tmp s6], some (.map _ _) =>
            if (fn.name == "runtime.NumGoroutine")=false∧fn.ntmps=9∧s2=2∧s0=0∧s0'=0∧s3=3∧s5=5∧s6=6∧s7=7∧s8=8∧t3=t5∧t7=t5∧o1.dst=some 2∧o2.dst=some 3∧o3.dst=some 4∧o4.dst=some 5∧o5.dst=some 6∧o6.dst=some 7∧o7.dst=some 8∧o8.dst=some 2 ∧
              o1.guard=none∧o2.guard=none∧o3.guard=none∧o4.guard=none∧o5.guard=none∧o6.guard=none∧o7.guard=none∧o8.guard=none then some g else none
          | _, _, _ => none
        | _, _, _, _, _, _, _, _ => none
      | _, _, _, _ => none
    | _ => none
  | none => none
section
variable {P:Program} {ρ:Env} {B:Nat}
theorem Pe (w:World) (t k e:TypeId) (p:Option Nat) (h:P.underlying t=some (.map k e)):(binOp .eql t (.map p) (.map none)).run P w = .ok (.bool p.isNone) w := by
  have key:∀ d, (Op.equalIn (d+1) t (.map p) (.map none)).run P w = .ok p.isNone w := fun d => by cases p <;> simp [Op.equalIn, run_underlying h]
  simp only [binOp]
  simp [show Op.equal t (.map p) (.map none)=Op.equalIn (9999+1) t (.map p) (.map none) from rfl, key 9999]
theorem Lc (w:World) (t xT k e:TypeId) (v:Value) (h:P.underlying t=some (.map k e)):(Instr.typeAssert (.iface t v) xT t false).run P w = .ok v w := by
  simp [Instr.typeAssert, run_underlying h, go_sem, Result.andThen]
theorem SY {w:World} {r:Nat} {es:Array MapEntry} {c:Nat} (t:TypeId) (hb:w.heap[r]? = some (.map es c)) :
    (Extern.MapsClone.clone #[.iface t (.map (some r))]).run P w = .ok (.iface t (.map (some w.heap.size))) (w.alloc (.map es c)) := by
  have e:Extern.MapsClone.clone #[.iface t (.map (some r))]=(getObj r >>= fun o => match o with
      | .map entries clock => (newObj (.map entries clock) >>= fun n => pure (.iface t (.map (some n))))
      | _ => stuck "maps.clone: a map expected") := rfl
  rw [e]
  have hg:(getObj r).run P w = .ok (.map es c) w := by simp [getObj, Sem.run, hb]
  simp [hg, Result.andThen, go_sem]
theorem UI {f g:FuncId} (hc:Rv P f=some g) (b:Bare P g Extern.MapsClone.clone):PT P ρ B f Lb := by
  intro args h n v h1 n1 hx φ w xs gm hr
  have hg:(Lb args h n).good := by rw [hx]; trivial
  unfold Lb at hx hg
  obtain ⟨m, l, rfl, q1⟩ := IP hg
  rw [q1] at hx hg
  obtain ⟨rfl, q2⟩ := Oz hg
  rw [q2] at hx hg
  rcases Dx hg with ⟨_, q3⟩ | ⟨p, rfl, q3⟩
  · rw [q3] at hg; exact hg.elim
  rw [q3, Fc] at hx hg
  obtain ⟨es, bs, c, hp, q4⟩ := Ez hg
  rw [q4, Ht] at hx hg
  obtain ⟨n', hn, q5⟩ := B8 hg
  rw [q5] at hx
  cases hx
  obtain ⟨X, l0, hX, r0, hl0⟩ := Aj.1 hr
  have hl0 := Au.1 hl0
  subst hl0
  obtain ⟨bk, s, tot, hφ, rfl⟩ := FN r0
  obtain ⟨ents, k1, k2, k3⟩ := gm.obj p _ bk s tot hp hφ
  have hxe:xs = #[.map (some bk)] := by cases xs; simp at hX; rw [hX]
  subst hxe
  unfold Rv at hc
  split at hc
  next fn hfn =>
    split at hc
    next i0 r0 i1 r1 cthen i3 r3 hbody =>
      split at hc
      next o1 o2 o3 o4 o5 o6 o7 o8 s2 e0 e1 e3 ers =>
        split at hc
        next c1 s0 t3 s3 t3' s0' t5 s5 ct s7 t7' t7 s8 p1 p2 p3 p4 p5 p6 p7 p8 =>
          split at hc
          next g' s6 kt et hcal hargs hu =>
            split at hc
            next hc' =>
              cases hc
              obtain ⟨hname, hnt, rfl, rfl, rfl, rfl, rfl, rfl, rfl, rfl, rfl, rfl, d1, d2, d3, d4, d5, d6, d7, d8, g1, g2, g3, g4, g5, g6, g7, g8⟩ := hc'
              have hres:fn.results = #[.tmp 2] := by cases hh:fn.results with | mk l => rw [hh] at ers; simp at ers; rw [ers]
              have hcargs:ct.args = #[.tmp 6] := by cases hh:ct.args with | mk l => rw [hh] at hargs; simp at hargs; rw [hargs]
              have e1':(callFunc f #[.map (some bk)]).run P w = .ok (.enter f #[.map (some bk)]) w := by
                have hname':fn.name ≠ "runtime.NumGoroutine" := by simpa using hname
                simp [callFunc, hfn, hname', hbody]
              intro o a K Q hK
              rw [e1']
              refine (callsIn_wide (n := 0)).1 (callsIn_of_wp_marks hfn hbody trivial ?_ rfl)
              rw [hnt]
              simp only [List.size_toArray, List.length_cons, List.length_nil, Nat.reduceAdd, Nat.reduceSub, Array.replicate_succ, Array.replicate_zero, List.push_toArray, List.append_toArray, List.nil_append, List.cons_append]
              refine wpIn_seq (wpIn_region_list ?_)
              rw [e0]
              refine wpListIn_plain g1 fun K1 hK1 => BW (x := c1) (w' := w) (by simp [execOp, p1, Act.eval]) (hK1 _ _ ?_)
              refine wpListIn_nil ?_
              refine wpIn_seq (wpIn_seq (wpIn_region_list ?_))
              rw [e1, d1]
              refine wpListIn_plain g2 fun K2 hK2 => BW (x := .map (some bk)) (w' := w) (by simp [execOp, p2, Act.eval, Act.put]) (hK2 _ _ ?_)
              rw [d2]
              refine wpListIn_plain g3 fun K3 hK3 => BW (x := .bool false) (w' := w) (by simp [execOp, p3, Act.eval, Act.put, eqGuard, Pe w _ _ _ _ hu]) (hK3 _ _ ?_)
              rw [d3]
              refine wpListIn_nil (wpIn_cond_false (by simp [Act.eval, Act.put]) (wpIn_skip ?_))
              refine wpIn_seq (wpIn_region_list ?_)
              rw [e3]
              refine wpListIn_plain g4 fun K4 hK4 => BW (x := .map (some bk)) (w' := w) (by simp [execOp, p4, Act.eval, Act.put]) (hK4 _ _ ?_)
              rw [d4]
              refine wpListIn_plain g5 fun K5 hK5 => BW (x := .iface t7 (.map (some bk))) (w' := w) (by simp [execOp, p5, Act.eval, Act.put, Instr.makeInterface, run_underlying hu]) (hK5 _ _ ?_)
              rw [d5]
              refine wpListIn_plain g6 fun K6 hK6 => BW (x := .iface t7 (.map (some w.heap.size))) (w' := w.alloc (.map ents c)) (by
                simp only [execOp, p6, resolve, hcal, hcargs, Deferred.ofValue, Act.eval, Act.put]
                have := b.run (SY (P := P) t7 k1)
                simp [invoke, Act.eval, this]) (hK6 _ _ ?_)
              rw [d6]
              refine wpListIn_plain g7 fun K7 hK7 => BW (x := .map (some w.heap.size)) (w' := w.alloc (.map ents c)) (by simp [execOp, p7, Act.eval, Act.put, Lc _ _ _ _ _ _ hu]) (hK7 _ _ ?_)
              rw [d7]
              refine wpListIn_plain g8 fun K8 hK8 => BW (x := .map (some w.heap.size)) (w' := w.alloc (.map ents c)) (by simp [execOp, p8, Act.eval, Act.put]) (hK8 _ _ ?_)
              rw [d8]
              refine wpListIn_nil (wpIn_ret ?_)
              show LeavesInM Fence.wide 0 P fn _ _ [] .returning (w.alloc (.map ents c))
              unfold LeavesInM LeavesIn
              refine ⟨.map (some w.heap.size), by simp [results, hres, Act.put], ?_⟩
              refine hK _ _ ⟨Ew φ n (w.heap.size, 0, 0), Fr.alloc gm.at_n (by omega) (Nat.le_refl _) (by omega) _ _ 0, gm.alloc gm.at_n (by omega) (by omega) (.m es bs c) rfl _ 0 fun φ' hle w' hw' => ⟨ents, hw', M7 hle k2, k3⟩, ?_⟩
              simp only [Ao]
              exact ⟨w.heap.size, 0, 0, C5 _ _ _, rfl⟩
            next => cases hc
          next => cases hc
        next => cases hc
      next => cases hc
    next => cases hc
  next => cases hc
end
end Go.Ev

namespace Go.Ev
set_option linter.unusedVariables false
theorem HA.setS_sel (d:D) (p:HA):HA.setS d p (HA.sel d p)=p := by cases d <;> cases p <;> rfl
theorem HB.setS_sel (d:D) (p:HB):HB.setS d p (HB.sel d p)=p := by cases d <;> cases p <;> rfl
theorem HC.setS_sel (d:D) (p:HC):HC.setS d p (HC.sel d p)=p := by cases d <;> cases p <;> rfl
theorem Heap.setS_sel (d:D) (p:Heap):Heap.setS d p (Heap.sel d p)=p := by cases d <;> cases p <;> rfl
theorem Qx (p:K4) (h:Heap):Af p h (A9 p h)=h := by
  cases p
  simp only [A9, Af, EE, Heap.setK_eq, HC.setK_eq, HB.setK_eq, HA.setK_eq, Heap.selK_eq, HC.selK_eq, HB.selK_eq, id, HA.setS_sel, HB.setS_sel, HC.setS_sel, Heap.setS_sel]
def P4 (r:R) (κ:S->Heap->K4->R):R :=
  @R.rec (fun _ => R) (fun e t h n => @Ex.rec (fun _ => R) (κ t h n) (fun id => .ok (.exit id) t h n) (.ok .ret t h n) e) (C1 "") (fun w => .fail w) (fun _ _ a b => .both a b) r
abbrev PF := S->Heap->(Nat->S->R)->R->R
def GR (body:S->Heap->K4->R) (ih:Nat->S->Heap->K4->R) (k:Nat) (t:S) (h:Heap) (n:K4):R :=
  @Nat.rec (fun _ => R) (.fail "") (fun k _ => P4 (body t h n) (ih k)) k
def MX (body:S->Heap->K4->R) (J:PF) (r:Nat):Nat->S->Heap->K4->R :=
  @Nat.rec (fun _ => Nat->S->Heap->K4->R) (fun k => DX body k)
    (fun _ ih k t h n => J t h (fun j t' => br (Nat.ble j k) (Aa (Nat.sub k j) fun k => GR body ih k t' h n) (DX body k t h n)) (GR body ih k t h n)) r
def IJ (body:S->Heap->K4->R) (J:PF):S->Heap->K4->R := MX body J 1000000 1000000000
def KM (body:S->Heap->K4->R) (J:PF):Prop :=
  ∀ t h κ κ0, J t h κ κ0=κ0 ∨ ∃ j t', J t h κ κ0=κ j t' ∧ ∀ k n, DX body (j+k) t h n=DX body k t' h n
theorem DG (body:S->Heap->K4->R):∀ (k:Nat) (t:S) (h:Heap) (n:K4), DX body k t h n=GR body (DX body) k t h n
  | 0, _, _, _ => rfl
  | _+1, _, _, _ => rfl
theorem VL {body:S->Heap->K4->R} {J:PF} (H:KM body J):∀ (r k:Nat), MX body J r k=DX body k := by
  intro r
  induction r with
  | zero => exact fun _ => rfl
  | succ r ih =>
    intro k
    funext t h n
    have e0:MX body J (r+1) k t h n=J t h (fun j t' => br (Nat.ble j k) (Aa (Nat.sub k j) fun k => GR body (MX body J r) k t' h n) (DX body k t h n)) (GR body (MX body J r) k t h n) := rfl
    have ih:MX body J r=DX body := funext ih
    rw [e0, ih]
    rcases H t h (fun j t' => br (Nat.ble j k) (Aa (Nat.sub k j) fun k => GR body (DX body) k t' h n) (DX body k t h n)) (GR body (DX body) k t h n) with e | ⟨j, t', e, hj⟩
    · rw [e, ←DG]
    · rw [e]
      cases hb:Nat.ble j k with
      | false => rfl
      | true =>
        have hb := Nat.le_of_ble_eq_true hb
        show Aa (Nat.sub k j) (fun k => GR body (DX body) k t' h n)=_
        rw [A8, ←DG, show Nat.sub k j=k - j from rfl, ←hj (k - j) n, show j+(k - j)=k by omega]
theorem Jk {body:S->Heap->K4->R} {J:PF} (H:KM body J):Cg body=IJ body J := (VL H 1000000 1000000000).symm
def CJ:S->Heap->K4->R := fun t h n => g7 t fun z20 => g6 t fun z21 => B4 z20 z21 fun z22 => Bo z22 (Aq 2 (g5 t fun z23 => Ai z23 fun z24 => As 2 z24 fun z25 => AA z25 h fun z26 => g2 t fun z27 => B0 z27 z20 fun z28 => Lv z28 (.int .i64 64) fun z29 => NL (.sc .i) z26 z29 (.bool true) h fun h => .ok .nrm t h n) fun t h n => g7 t fun z2a => B0 z2a (.int .i64 1) fun z2b => w7 t z2b fun t => .ok .nrm t h n) <| .ok (.exit 1) t h n
def LF (v:V) (κ0:R) (κ:Nat->R):R :=
  @V.rec (fun _ => R) (fun _ => Unit) (fun k r => br (AV k .i64) (κ r) κ0) (fun _ => κ0) (fun _ _ => κ0) (fun _ _ _ _ _ _ => κ0) (fun _ _ => κ0) (fun _ _ => κ0) (fun _ => κ0) (fun _ => κ0) (fun _ _ _ => κ0) (fun _ _ => κ0) (fun _ => κ0) () (fun _ _ _ _ => ()) v
def WA (v:V) (κ0:R) (κ:K4->Nat->R):R :=
  @V.rec (fun _ => R) (fun _ => Unit) (fun _ _ => κ0) (fun _ => κ0) (fun p o => κ p o) (fun _ _ _ _ _ _ => κ0) (fun _ _ => κ0) (fun _ _ => κ0) (fun _ => κ0) (fun _ => κ0) (fun _ _ _ => κ0) (fun _ _ => κ0) (fun _ => κ0) () (fun _ _ _ _ => ()) v
def Ww (v:V) (κ0:R) (κ:K4->R):R :=
  @V.rec (fun _ => R) (fun _ => Unit) (fun _ _ => κ0) (fun _ => κ0) (fun _ _ => κ0) (fun _ _ _ _ _ _ => κ0) (fun _ _ => κ0) (fun _ _ => κ0) (fun _ => κ0) (fun p => κ p) (fun _ _ _ => κ0) (fun _ _ => κ0) (fun _ => κ0) () (fun _ _ _ _ => ()) v
def Ic (v:V):Bool :=
  @V.rec (fun _ => Bool) (fun _ => Unit) (fun _ _ => false) (fun b => b) (fun _ _ => false) (fun _ _ _ _ _ _ => false) (fun _ _ => false) (fun _ _ => false) (fun _ => false) (fun _ => false) (fun _ _ _ => false) (fun _ _ => false) (fun _ => false) () (fun _ _ _ _ => ()) v
def Yd (m:Nat):List V->R->(V->R)->R :=
  @Nat.rec (fun _ => List V->R->(V->R)->R) (fun xs κ0 k => @List.rec V (fun _ => R) κ0 (fun x _ _ => k x) xs)
    (fun _ ih xs κ0 k => @List.rec V (fun _ => R) κ0 (fun _ ys _ => ih ys κ0 k) xs) m
def RJ (o:Cf) (i:Nat) (κ0:R) (κ:V->R):R :=
  @Option.rec Ob (fun _ => R) κ0 (fun o => @Ob.rec (fun _ => R) (fun cs _ _ => @Cs.rec (fun _ => R) (fun xs => Yd i xs κ0 κ) (fun _ _ => κ0) cs) (fun _ _ _ => κ0) (fun _ _ _ _ => κ0) κ0 (fun _ _ => κ0) o) o
def RR (o:Cf) (κ0:R) (κ:List (V×V)->List Nat->R):R :=
  @Option.rec Ob (fun _ => R) κ0 (fun o => @Ob.rec (fun _ => R) (fun _ _ _ => κ0) (fun es bs _ => κ es bs) (fun _ _ _ _ => κ0) κ0 (fun _ _ => κ0) o) o
/-- Is the key there, and true? -/
def On (k:Nat) (es:List (V×V)):Bool :=
  @List.rec (V×V) (fun _ => Bool) false (fun e _ ih => @Prod.rec V V (fun _ => Bool) (fun a b => @V.rec (fun _ => Bool) (fun _ => Unit) (fun kd r => br (AV kd .i64) (br (Nat.beq k r) (Ic b) ih) false) (fun _ => false) (fun _ _ => false) (fun _ _ _ _ _ _ => false) (fun _ _ => false) (fun _ _ => false) (fun _ => false) (fun _ => false) (fun _ _ _ => false) (fun _ _ => false) (fun _ => false) () (fun _ _ _ _ => ()) a) e) es
def NG:PF := fun t h κ κ0 => g7 t fun i => g6 t fun m => g2 t fun a => g5 t fun x =>
  LF i κ0 fun i0 => LF m κ0 fun m0 => LF a κ0 fun a0 => WA x κ0 fun p off => B5 p h fun o => RJ o (Nat.add off 2) κ0 fun u => Ww u κ0 fun q => B5 q h fun o => RR o κ0 fun es bs =>
    br (Nat.ble m0 4611686018427387904) (br (Nat.ble a0 4611686018427387904) (br (Nat.ble i0 m0) (br (Gv es bs) (Aa (Nat.div (Nat.add a0 i0) 64) fun k => br (On k es)
      (Aa (Nat.sub m0 i0) fun j1 => Aa (Nat.sub (Nat.mul 64 (Nat.succ k)) (Nat.add a0 i0)) fun j2 => br (Nat.ble j1 j2) (Aa (Nat.add i0 j1) fun i => w7 t (.int .i64 i) fun t => κ j1 t) (Aa (Nat.add i0 j2) fun i => w7 t (.int .i64 i) fun t => κ j2 t))
      κ0) κ0) κ0) κ0) κ0
theorem Ur (v:V) (κ0:R) (κ:Nat->R):LF v κ0 κ=κ0 ∨ ∃ r, v = .int .i64 r∧LF v κ0 κ=κ r := by
  cases v with
  | int k r =>
    show br (AV k .i64) (κ r) κ0=κ0 ∨ ∃ r', V.int k r = .int .i64 r'∧br (AV k .i64) (κ r) κ0=κ r'
    cases hb:AV k .i64 with
    | false => exact .inl rfl
    | true => exact .inr ⟨r, by rw [Az.1 hb], rfl⟩
  | _ => exact .inl rfl
theorem Ua (v:V) (κ0:R) (κ:K4->Nat->R):WA v κ0 κ=κ0 ∨ ∃ p o, v = .ptr p o∧WA v κ0 κ=κ p o := by
  cases v with
  | ptr p o => exact .inr ⟨p, o, rfl, rfl⟩
  | _ => exact .inl rfl
theorem TW (v:V) (κ0:R) (κ:K4->R):Ww v κ0 κ=κ0 ∨ ∃ p, v = .map p∧Ww v κ0 κ=κ p := by
  cases v with
  | map p => exact .inr ⟨p, rfl, rfl⟩
  | _ => exact .inl rfl
theorem Pa:∀ (m:Nat) (xs:List V) (κ0:R) (κ:V->R), Yd m xs κ0 κ=κ0 ∨ ∃ v, xs[m]? = some v∧Yd m xs κ0 κ=κ v
  | 0, [], _, _ => .inl rfl
  | 0, x::_, _, _ => .inr ⟨x, rfl, rfl⟩
  | m+1, [], _, _ => .inl rfl
  | m+1, x::xs, κ0, κ => Pa m xs κ0 κ
theorem MH:∀ {m:Nat} {xs:List V} {v:V} {κ:V->R}, xs[m]? = some v->DN m xs κ=κ v
  | 0, [], _, _, h => by cases h
  | 0, x::_, _, _, h => by cases h; rfl
  | m+1, [], _, _, h => by cases h
  | m+1, x::xs, v, κ, h => MH (m := m) (xs := xs) h
theorem Sb (o:Cf) (i:Nat) (κ0:R) (κ:V->R):RJ o i κ0 κ=κ0 ∨ ∃ xs sup prev v, o=some (.c (.l xs) sup prev)∧xs[i]? = some v∧RJ o i κ0 κ=κ v := by
  cases o with
  | none => exact .inl rfl
  | some o => cases o with
    | c cs sup prev => cases cs with
      | l xs =>
        rcases Pa i xs κ0 κ with e | ⟨v, h, e⟩
        · exact .inl e
        · exact .inr ⟨xs, sup, prev, v, rfl, h, e⟩
      | b _ _ => exact .inl rfl
    | _ => exact .inl rfl
theorem Sn (o:Cf) (κ0:R) (κ:List (V×V)->List Nat->R):RR o κ0 κ=κ0 ∨ ∃ es bs c, o=some (.m es bs c)∧RR o κ0 κ=κ es bs := by
  cases o with
  | none => exact .inl rfl
  | some o => cases o with
    | m es bs c => exact .inr ⟨es, bs, c, rfl, rfl⟩
    | _ => exact .inl rfl
theorem Kj {v:V} (h:Ic v=true):v = .bool true := by
  cases v with
  | bool b => rw [show b=true from h]
  | _ => cases h
theorem Rc {k:Nat}:∀ {es:List (V×V)} {κ:List (V×V)->R}, On k es=true->EG (.sc .i) (.int .i64 k) (.bool true) es κ=κ es
  | [], κ, h => by cases h
  | (a, b)::es, κ, h => by
    cases a with
    | int kd r =>
      have h:br (AV kd .i64) (br (Nat.beq k r) (Ic b) (On k es)) false=true := h
      cases hk:AV kd .i64 with
      | false => rw [hk] at h; cases h
      | true =>
        have hkd := Az.1 hk
        subst hkd
        have hx:br (Nat.beq k r) (Ic b) (On k es)=true := h
        have e0:EG (.sc .i) (.int .i64 k) (.bool true) ((.int .i64 r, b)::es) κ=BX (Nat.beq k r) fun q => br q (κ ((.int .i64 k, .bool true)::es)) (EG (.sc .i) (.int .i64 k) (.bool true) es fun l => κ ((.int .i64 r, b)::l)) := rfl
        rw [e0, AY]
        cases hb:Nat.beq k r with
        | true =>
          rw [hb] at hx
          rw [Kj (show Ic b=true from hx), Nat.eq_of_beq_eq_true hb]; rfl
        | false =>
          rw [hb] at hx
          exact Rc (κ := fun l => κ ((.int .i64 r, b)::l)) (show On k es=true from hx)
    | _ => cases h
theorem Pg {a b:Nat} {κ:V->R} (h:a<b) (hb:b≤4611686018427387904):B4 (.int .i64 a) (.int .i64 b) κ=κ (.bool true) := by
  have e0:B4 (.int .i64 a) (.int .i64 b) κ=BX (br (Nat.ble 9223372036854775808 a) (br (Nat.ble 9223372036854775808 b) (Nat.ble (Nat.succ a) b) true) (br (Nat.ble 9223372036854775808 b) false (Nat.ble (Nat.succ a) b))) fun r => κ (.bool r) := rfl
  have h1:Nat.ble 9223372036854775808 a=false := Bool.eq_false_iff.2 fun h => by have := Nat.le_of_ble_eq_true h; omega
  have h2:Nat.ble 9223372036854775808 b=false := Bool.eq_false_iff.2 fun h => by have := Nat.le_of_ble_eq_true h; omega
  have h3:Nat.ble (Nat.succ a) b=true := Nat.ble_eq_true_of_le h
  rw [e0, AY, h1, h2, h3]; rfl
theorem Jb {a b:Nat} {κ:V->R} (h:a+b<18446744073709551616):B0 (.int .i64 a) (.int .i64 b) κ=κ (.int .i64 (a+b)) := by
  have e0:B0 (.int .i64 a) (.int .i64 b) κ=Aa (Nat.mod (Nat.add a b) 18446744073709551616) fun r => κ (.int .i64 r) := rfl
  rw [e0, A8, show Nat.mod (Nat.add a b) 18446744073709551616=a+b from Nat.mod_eq_of_lt h]
theorem U0 {a:Nat} {κ:V->R} (h:a<9223372036854775808):Lv (.int .i64 a) (.int .i64 64) κ=κ (.int .i64 (a / 64)) := by
  have e0:Lv (.int .i64 a) (.int .i64 64) κ=br (Nat.ble (Nat.succ a) 9223372036854775808) (Aa (Nat.div a 64) fun r => κ (.int .i64 r)) (.fail "") := rfl
  rw [e0, show Nat.ble (Nat.succ a) 9223372036854775808=true from Nat.ble_eq_true_of_le h]
  show Aa (Nat.div a 64) (fun r => κ (V.int .i64 r))=κ (V.int .i64 (a / 64))
  rw [A8]; rfl
theorem Fa {id:Nat} {t:S} {h:Heap} {n:K4} {κ:S->Heap->K4->R}:Aq id (.ok .nrm t h n) κ=κ t h n := rfl
theorem YV {p:K4} {off:Nat} {h:Heap} {xs:List V} {sup:Bool} {prev:Option K4} {v:V} {κ:V->R} (hp:A9 p h=some (.c (.l xs) sup prev)) (hv:xs[off]? = some v):AA (.ptr p off) h κ=κ v := by
  show LC p h (fun cs _ _ => EP cs off κ)=_
  rw [Ei]
  have e:(Hl p h fun cs _ _ => EP cs off κ)=@Option.rec Ob (fun _ => R) (.fail "") (fun o => @Ob.rec (fun _ => R) (fun cs _ _ => EP cs off κ) (C1 "") (F5 "") (.fail "") (Aw "") o) (A9 p h) := Ce _ _ _
  rw [e, hp]
  exact MH hv
theorem Z1 {q:K4} {h:Heap} {es:List (V×V)} {bs:List Nat} {c k:Nat} {κ:Heap->R} (hq:A9 q h=some (.m es bs c)) (hs:Gv es bs=true) (hh:On k es=true):NL (.sc .i) (.map q) (.int .i64 k) (.bool true) h κ=κ h := by
  show Ow q h (fun es bs c k' => EG (.sc .i) (.int .i64 k) (.bool true) es fun es => Tc es bs c fun bs c => k' es bs c) κ=κ h
  rw [IF]
  have e:∀ F, Mo q h F=@Option.rec Ob (fun _ => R) (.fail "") (fun o => @Ob.rec (fun _ => R) (C1 "") F (F5 "") (.fail "") (Aw "") o) (A9 q h) := fun F => Ce _ _ _
  rw [e, hq]
  show EG (.sc .i) (.int .i64 k) (.bool true) es (fun es' => Tc es' bs c fun bs c => EE q h (some (.m es' bs c)) κ)=κ h
  rw [Rc hh]
  unfold Tc
  rw [hs]
  show EE q h (some (.m es bs c)) κ=κ h
  rw [AN, ←hq, Qx]
theorem OT {d0 d1 d3 d4:V} {c2 c3 c4 c5 c6 c7:SQ} {h:Heap} {n p q:K4} {off i0 m0 a0 c:Nat} {xs:List V} {sup:Bool} {prev:Option K4} {es:List (V×V)} {bs:List Nat}
    (hp:A9 p h=some (.c (.l xs) sup prev)) (hv:xs[off+2]? = some (.map q)) (hq:A9 q h=some (.m es bs c)) (hs:Gv es bs=true) (hm:m0≤4611686018427387904) (ha:a0≤4611686018427387904) (hi:i0<m0) (hh:On ((a0+i0) / 64) es=true) :
    CJ (.mk (.mk d0 d1 (.int .i64 a0) d3) (.mk d4 (.ptr p off) (.int .i64 m0) (.int .i64 i0)) c2 c3 c4 c5 c6 c7) h n = .ok .nrm (.mk (.mk d0 d1 (.int .i64 a0) d3) (.mk d4 (.ptr p off) (.int .i64 m0) (.int .i64 (i0+1))) c2 c3 c4 c5 c6 c7) h n := by
  have e1:∀ κ:V->R, Ai (.ptr p off) κ=κ (.ptr p off) := fun κ => rfl
  have e2:∀ κ:V->R, As 2 (.ptr p off) κ=κ (.ptr p (off+2)) := fun κ => by
    show Aa (Nat.add off 2) (fun o => κ (.ptr p o))=_
    rw [A8]
  unfold CJ
  show B4 (.int .i64 i0) (.int .i64 m0) _=_
  rw [Pg hi hm]
  show Aq 2 (Ai (.ptr p off) _) _=_
  rw [e1, e2, YV hp hv]
  show Aq 2 (B0 (.int .i64 a0) (.int .i64 i0) _) _=_
  rw [Jb (by omega), U0 (by omega), Z1 hq hs hh, Fa]
  show B0 (.int .i64 i0) (.int .i64 1) _=_
  rw [Jb (by omega)]
theorem Iw {d0 d1 d3 d4:V} {c2 c3 c4 c5 c6 c7:SQ} {h:Heap} {n p q:K4} {off m0 a0 c k:Nat} {xs:List V} {sup:Bool} {prev:Option K4} {es:List (V×V)} {bs:List Nat}
    (hp:A9 p h=some (.c (.l xs) sup prev)) (hv:xs[off+2]? = some (.map q)) (hq:A9 q h=some (.m es bs c)) (hs:Gv es bs=true) (hm:m0≤4611686018427387904) (ha:a0≤4611686018427387904) (hh:On k es=true) :
    ∀ (j i0:Nat), i0+j≤m0->(∀ r, r<j->(a0+(i0+r)) / 64=k)->∀ K, DX CJ (j+K) (.mk (.mk d0 d1 (.int .i64 a0) d3) (.mk d4 (.ptr p off) (.int .i64 m0) (.int .i64 i0)) c2 c3 c4 c5 c6 c7) h n
      = DX CJ K (.mk (.mk d0 d1 (.int .i64 a0) d3) (.mk d4 (.ptr p off) (.int .i64 m0) (.int .i64 (i0+j))) c2 c3 c4 c5 c6 c7) h n
  | 0, i0, _, _, K => by rw [Nat.zero_add]; rfl
  | j+1, i0, hj, hr, K => by
    have h0 := hr 0 (by omega)
    rw [show j+1+K=(j+K)+1 by omega, DG]
    show P4 (CJ _ h n) (DX CJ (j+K))=_
    rw [OT hp hv hq hs hm ha (by omega) (by rw [show a0+i0=a0+(i0+0) by omega, h0]; exact hh)]
    show DX CJ (j+K) _ h n=_
    rw [Iw hp hv hq hs hm ha hh j (i0+1) (by omega) (fun r hr' => by have := hr (r+1) (by omega); rw [←this]; congr 2; omega) K, show i0+1+j=i0+(j+1) by omega]
section
variable {G:R->Prop}
theorem Fo {v:V} {κ0:R} {κ:Nat->R} (g0:G κ0) (g1:∀ r, v = .int .i64 r->G (κ r)):G (LF v κ0 κ) := by
  rcases Ur v κ0 κ with e | ⟨r, h, e⟩ <;> rw [e]
  · exact g0
  · exact g1 r h
theorem UU {v:V} {κ0:R} {κ:K4->Nat->R} (g0:G κ0) (g1:∀ p o, v = .ptr p o->G (κ p o)):G (WA v κ0 κ) := by
  rcases Ua v κ0 κ with e | ⟨p, o, h, e⟩ <;> rw [e]
  · exact g0
  · exact g1 p o h
theorem TX {v:V} {κ0:R} {κ:K4->R} (g0:G κ0) (g1:∀ p, v = .map p->G (κ p)):G (Ww v κ0 κ) := by
  rcases TW v κ0 κ with e | ⟨p, h, e⟩ <;> rw [e]
  · exact g0
  · exact g1 p h
theorem SB {o:Cf} {i:Nat} {κ0:R} {κ:V->R} (g0:G κ0) (g1:∀ xs sup prev v, o=some (.c (.l xs) sup prev)->xs[i]? = some v->G (κ v)):G (RJ o i κ0 κ) := by
  rcases Sb o i κ0 κ with e | ⟨xs, sup, prev, v, h, h', e⟩ <;> rw [e]
  · exact g0
  · exact g1 xs sup prev v h h'
theorem SW {o:Cf} {κ0:R} {κ:List (V×V)->List Nat->R} (g0:G κ0) (g1:∀ es bs c, o=some (.m es bs c)->G (κ es bs)):G (RR o κ0 κ) := by
  rcases Sn o κ0 κ with e | ⟨es, bs, c, h, e⟩ <;> rw [e]
  · exact g0
  · exact g1 es bs c h
theorem Dn {b:Bool} {x y:R} (g0:G y) (g1:b=true->G x):G (br b x y) := by
  cases b with
  | false => exact g0
  | true => exact g1 rfl
theorem Hp {p:K4} {h:Heap} {κ:Cf->R} (g:G (κ (A9 p h))):G (B5 p h κ) := by rw [Ba]; exact g
theorem I6 {m:Nat} {κ:Nat->R} (g:G (κ m)):G (Aa m κ) := by rw [A8]; exact g
end
theorem PO:KM CJ NG := by
  intro t h κ κ0
  cases t with
  | mk c0 c1 c2 c3 c4 c5 c6 c7 =>
    cases c0 with
    | mk d0 d1 a d3 =>
      cases c1 with
      | mk d4 x m i =>
        obtain ⟨T, hT⟩:∃ T:S, T = .mk (.mk d0 d1 a d3) (.mk d4 x m i) c2 c3 c4 c5 c6 c7 := ⟨_, rfl⟩
        obtain ⟨G, hG⟩:∃ G:R->Prop, ∀ r, G r ↔ (r=κ0 ∨ ∃ j t', r=κ j t' ∧ ∀ k n, DX CJ (j+k) T h n=DX CJ k t' h n) := ⟨_, fun r => Iff.rfl⟩
        have g0:G κ0 := (hG _).2 (.inl rfl)
        rw [←hT]
        refine (hG _).1 ?_
        rw [hT]
        refine Fo (G := G) g0 fun i0 hi => Fo (G := G) g0 fun m0 hm => Fo (G := G) g0 fun a0 ha => UU (G := G) g0 fun p off hx => Hp (G := G) (SB (G := G) g0 fun xs sup prev u hp hv => TX (G := G) g0 fun q hu => ?_)
        subst hi hm ha hx hu
        refine Hp (G := G) (SW (G := G) g0 fun es bs c hq => Dn (G := G) g0 fun b1 => Dn (G := G) g0 fun b2 => Dn (G := G) g0 fun b3 => Dn (G := G) g0 fun b4 => I6 (G := G) (Dn (G := G) g0 fun b5 => I6 (G := G) (I6 (G := G) ?_)))
        have b1 := Nat.le_of_ble_eq_true b1
        have b2 := Nat.le_of_ble_eq_true b2
        have b3 := Nat.le_of_ble_eq_true b3
        have e1:Nat.sub m0 i0=m0 - i0 := rfl
        have e2:Nat.sub (Nat.mul 64 (Nat.succ (Nat.div (Nat.add a0 i0) 64))) (Nat.add a0 i0)=64*((a0+i0) / 64+1) - (a0+i0) := rfl
        have e3:Nat.div (Nat.add a0 i0) 64=(a0+i0) / 64 := rfl
        rw [e1, e2]
        rw [e3] at b5
        have key:∀ j, j≤m0 - i0->j≤64*((a0+i0) / 64+1) - (a0+i0)->∀ K n, DX CJ (j+K) (.mk (.mk d0 d1 (.int .i64 a0) d3) (.mk d4 (.ptr p off) (.int .i64 m0) (.int .i64 i0)) c2 c3 c4 c5 c6 c7) h n
            = DX CJ K (.mk (.mk d0 d1 (.int .i64 a0) d3) (.mk d4 (.ptr p off) (.int .i64 m0) (.int .i64 (i0+j))) c2 c3 c4 c5 c6 c7) h n := fun j hj1 hj2 K n =>
          Iw hp hv hq b4 b1 b2 b5 j i0 (by omega) (fun r hr => by omega) K
        cases hb:Nat.ble (m0 - i0) (64*((a0+i0) / 64+1) - (a0+i0)) with
        | true =>
          rw [show ∀ x y:R, br true x y=x from fun _ _ => rfl, A8]
          refine (hG _).2 (.inr ⟨m0 - i0, _, rfl, fun K n => ?_⟩)
          rw [hT]
          exact key _ (Nat.le_refl _) (Nat.le_of_ble_eq_true hb) K n
        | false =>
          rw [show ∀ x y:R, br false x y=y from fun _ _ => rfl, A8]
          refine (hG _).2 (.inr ⟨64*((a0+i0) / 64+1) - (a0+i0), _, rfl, fun K n => ?_⟩)
          rw [hT]
          refine key _ ?_ (Nat.le_refl _) K n
          rcases Nat.lt_or_ge (64*((a0+i0) / 64+1) - (a0+i0)) (m0 - i0) with h' | h'
          · omega
          · rw [Nat.ble_eq_true_of_le h'] at hb; cases hb
theorem OH:Cg CJ=IJ CJ NG := Jk PO
def IM:S->Heap->K4->R := fun t h n => g7 t fun ze => B4 ze (.int .i64 8) fun zf => Bo zf (Aq 3 (g3 t fun zg => Gf zg (.int .u64 1) fun zh => LR zg (.int .u32 1) fun zi => QM zi fun zj => LR (.int .u32 2197175160) zj fun zk => HM zh zk fun zl => w3 t zl fun t => .ok .nrm t h n) fun t h n => g7 t fun zm => B0 zm (.int .i64 1) fun zn => w7 t zn fun t => .ok .nrm t h n) <| .ok (.exit 2) t h n
def Aa7 (v:V) (κ0:R) (κ:Nat->R):R :=
  @V.rec (fun _ => R) (fun _ => Unit) (fun k r => br (AV k .u32) (κ r) κ0) (fun _ => κ0) (fun _ _ => κ0) (fun _ _ _ _ _ _ => κ0) (fun _ _ => κ0) (fun _ _ => κ0) (fun _ => κ0) (fun _ => κ0) (fun _ _ _ => κ0) (fun _ _ => κ0) (fun _ => κ0) () (fun _ _ _ _ => ()) v
def Im (x:Nat):Nat := Nat.xor (Nat.shiftRight x 1) (Nat.land 2197175160 (Nat.mod (Nat.add 0 (Nat.sub 4294967296 (Nat.land x 1))) 4294967296))
def FZ (j:Nat):Nat->Nat := @Nat.rec (fun _ => Nat->Nat) (fun x => x) (fun _ ih x => ih (Im x)) j
theorem TK {G:R->Prop} {v:V} {κ0:R} {κ:Nat->R} (g0:G κ0) (g1:∀ r, v = .int .u32 r->G (κ r)):G (Aa7 v κ0 κ) := by
  cases v with
  | int k r =>
    show G (br (AV k .u32) (κ r) κ0)
    cases hb:AV k .u32 with
    | false => exact g0
    | true => exact g1 r (by rw [Az.1 hb])
  | _ => exact g0
theorem QC {x:Nat} (h:x<4294967296):Im x<4294967296 := by
  have h1:x >>> 1<2 ^ 32 := by rw [Nat.shiftRight_eq_div_pow]; omega
  have h2:2197175160 &&& ((0+(4294967296 - (x &&& 1))) % 4294967296)<2 ^ 32 := Nat.lt_of_le_of_lt Nat.and_le_left (by decide)
  exact Nat.xor_lt_two_pow h1 h2
theorem Sf {d0 d1 d2 d4 d5 d6:V} {c2 c3 c4 c5 c6 c7:SQ} {h:Heap} {n:K4} {i x:Nat} (hi:i<8) (hx:x<4294967296) :
    IM (.mk (.mk d0 d1 d2 (.int .u32 x)) (.mk d4 d5 d6 (.int .i64 i)) c2 c3 c4 c5 c6 c7) h n = .ok .nrm (.mk (.mk d0 d1 d2 (.int .u32 (Im x))) (.mk d4 d5 d6 (.int .i64 (i+1))) c2 c3 c4 c5 c6 c7) h n := by
  have e1:∀ κ:V->R, Gf (.int .u32 x) (.int .u64 1) κ=κ (.int .u32 (Nat.shiftRight x 1)) := fun κ => by
    have e0:Gf (.int .u32 x) (.int .u64 1) κ=br (Nat.ble (Nat.succ x) 4294967296) (Aa (Nat.shiftRight x 1) fun r => κ (.int .u32 r)) (.fail "") := rfl
    rw [e0, show Nat.ble (Nat.succ x) 4294967296=true from Nat.ble_eq_true_of_le hx]
    show Aa (Nat.shiftRight x 1) (fun r => κ (V.int .u32 r))=_
    rw [A8]
  have e2:∀ (a b:Nat) (κ:V->R), LR (.int .u32 a) (.int .u32 b) κ=κ (.int .u32 (Nat.land a b)) := fun a b κ => by
    have e0:LR (.int .u32 a) (.int .u32 b) κ=Aa (Nat.land a b) fun r => κ (.int .u32 r) := rfl
    rw [e0, A8]
  have e3:∀ (a b:Nat) (κ:V->R), HM (.int .u32 a) (.int .u32 b) κ=κ (.int .u32 (Nat.xor a b)) := fun a b κ => by
    have e0:HM (.int .u32 a) (.int .u32 b) κ=Aa (Nat.xor a b) fun r => κ (.int .u32 r) := rfl
    rw [e0, A8]
  have e4:∀ (a:Nat) (κ:V->R), QM (.int .u32 a) κ=κ (.int .u32 (Nat.mod (Nat.add 0 (Nat.sub 4294967296 a)) 4294967296)) := fun a κ => by
    have e0:QM (.int .u32 a) κ=Aa (Nat.mod (Nat.add 0 (Nat.sub 4294967296 a)) 4294967296) fun r => κ (.int .u32 r) := rfl
    rw [e0, A8]
  unfold IM
  show B4 (.int .i64 i) (.int .i64 8) _=_
  rw [Pg hi (by omega)]
  show Aq 3 (Gf (.int .u32 x) (.int .u64 1) _) _=_
  rw [e1, e2, e4, e2, e3, Fa]
  show B0 (.int .i64 i) (.int .i64 1) _=_
  rw [Jb (by omega)]; rfl
theorem Kr {d0 d1 d2 d4 d5 d6:V} {c2 c3 c4 c5 c6 c7:SQ} {h:Heap} {n:K4} :
    ∀ (j i x:Nat), i+j≤8->x<4294967296->∀ K, DX IM (j+K) (.mk (.mk d0 d1 d2 (.int .u32 x)) (.mk d4 d5 d6 (.int .i64 i)) c2 c3 c4 c5 c6 c7) h n
      = DX IM K (.mk (.mk d0 d1 d2 (.int .u32 (FZ j x))) (.mk d4 d5 d6 (.int .i64 (i+j))) c2 c3 c4 c5 c6 c7) h n
  | 0, i, x, _, _, K => by rw [Nat.zero_add]; rfl
  | j+1, i, x, hj, hx, K => by
    rw [show j+1+K=(j+K)+1 by omega, DG]
    show P4 (IM _ h n) (DX IM (j+K))=_
    rw [Sf (by omega) hx]
    show DX IM (j+K) _ h n=_
    rw [Kr j (i+1) (Im x) (by omega) (QC hx) K, show i+1+j=i+(j+1) by omega]; rfl
end Go.Ev

namespace Go.Ev
set_option linter.unusedVariables false
theorem K9 (x:Nat):Im x=(x >>> 1) ^^^ (if x % 2=1 then 2197175160 else 0) := by
  show (x >>> 1) ^^^ (2197175160 &&& ((0+(4294967296 - (x &&& 1))) % 4294967296))=_
  rw [Nat.and_one_is_mod]
  rcases Nat.mod_two_eq_zero_or_one x with h | h <;> rw [h] <;> rfl
theorem Uv (a b:Nat):Im (a ^^^ b)=Im a ^^^ Im b := by
  rw [K9, K9, K9, Nat.shiftRight_xor_distrib]
  have h:(a ^^^ b) % 2=(a+b) % 2 := by
    have e := Nat.xor_mod_two_pow (a := a) (b := b) (n := 1)
    rw [Nat.pow_one] at e
    rw [e]
    rcases Nat.mod_two_eq_zero_or_one a with ha | ha <;> rcases Nat.mod_two_eq_zero_or_one b with hb | hb <;> rw [ha, hb, Nat.add_mod, ha, hb] <;> rfl
  rcases Nat.mod_two_eq_zero_or_one a with ha | ha <;> rcases Nat.mod_two_eq_zero_or_one b with hb | hb
  · have:(a ^^^ b) % 2=0 := by omega
    simp [ha, hb, this]
  · have:(a ^^^ b) % 2=1 := by omega
    simp [ha, hb, this, Nat.xor_assoc]
  · have:(a ^^^ b) % 2=1 := by omega
    simp only [ha, hb, this, if_true, if_false, Nat.xor_zero, reduceIte, Nat.zero_ne_one]
    simp only [Nat.xor_assoc, Nat.xor_comm (b >>> 1)]
  · have:(a ^^^ b) % 2=0 := by omega
    simp only [ha, hb, this, reduceIte, Nat.xor_zero, Nat.zero_ne_one]
    generalize a >>> 1=p
    generalize b >>> 1=q
    apply Nat.eq_of_testBit_eq
    intro i
    simp only [Nat.testBit_xor]
    cases p.testBit i <;> cases q.testBit i <;> cases (2197175160:Nat).testBit i <;> rfl
theorem Pr:∀ (j a b:Nat), FZ j (a ^^^ b)=FZ j a ^^^ FZ j b
  | 0, _, _ => rfl
  | j+1, a, b => by
    show FZ j (Im (a ^^^ b))=FZ j (Im a) ^^^ FZ j (Im b)
    rw [Uv, Pr]
theorem SX (m:Nat):Im (2*m)=m := by
  rw [K9, Nat.mul_mod_right, Nat.shiftRight_eq_div_pow]; simp
theorem Ol:∀ (j q:Nat), FZ j (2 ^ j*q)=q
  | 0, q => by show 2 ^ 0*q=q; omega
  | j+1, q => by
    show FZ j (Im (2 ^ (j+1)*q))=q
    rw [show 2 ^ (j+1)*q=2*(2 ^ j*q) by rw [Nat.pow_succ, Nat.mul_comm (2 ^ j) 2, Nat.mul_assoc], SX, Ol]
theorem SA (y:Nat):y=(2 ^ 8*(y / 2 ^ 8)) ^^^ (y % 2 ^ 8) := by
  apply Nat.eq_of_testBit_eq
  intro i
  rw [Nat.testBit_xor, Nat.testBit_two_pow_mul, Nat.testBit_mod_two_pow, Nat.testBit_div_two_pow]
  by_cases h:8≤i
  · have h2:¬ i<8 := by omega
    simp [h, h2, show i - 8+8=i by omega]
  · have h2:i<8 := by omega
    simp [h, h2]
theorem JX:∀ (j:Nat) {x:Nat}, x<4294967296->FZ j x<4294967296
  | 0, _, h => h
  | j+1, x, h => by show FZ j (Im x)<_; exact JX j (QC h)
def Nt:Nat := 739192992287711479272199505450802174180944935565270117958735211195864883404034321072575759094604862722103638970562105654534965976895685875045062592379112792078985738769595739548904202597956689934399229134939183684703714920378025961387270778473281346239181994539903784708069763525514523240966634758967547723819948093640238732618841930738396489733218495472825776362786651876001733504161834172818020394346043168775838788836904094212573134772649703407841545716218812283123984658267516726659948613643534969466376019494666614718815429190684246327365394372519258139400530706807260825564948901732507176286259752944669944548605679086391305931301222988237278526118373278492307487107474296386730408839343753629123128283572704772544098648517013212824233746728729854273945055038163572363387039908578405517982904131040319505009390255243990278860523606265815895619710957563380635837315129012976704357344131429050367435482781212454439427280336740616644805562249867251859340971513883299426874200217165290071196282711253218164865174241416073419876796213293517950780480733835793334181716730049909888366296838117288969681076010175182486226749959458237712061794030512295298309798453151350168298336411933176330063767835252143862258384197256040876755067274410026075604127347481305827849130625987059819492849891529288490451730106428376839488665315100810248841715739596040091270955624355315201462555945279029196416991040143682248153287045556144390819759753283690710943841433520922330785319143598322120010359670046292912296136999474302691355293324886616216537430761212949134977443278613456733727644009057088654822989287437792990360527449046917776586498554113667460252688333953726837853077886002223252717428049737186417130969568838070377296274375688487884511950345697105344492065413654582468965021167618282726469469929715764674333614324035309623813703284835732759643444816186743644084768553800456975483023122915759126937036001171360984116527371042249105866775992680472790331893395027602898497596949565462107432141452181910127216554936352241472142685417685618824675396402282974391037184848625305334079832924861339728594832024687877422901193159812755254516361032103358958860399075665489958680801135040793967932263797765198140728704255468134266160630916650637156666977854355604551105352627939572551570066195951258251545213658746024110892771407706843609824354401912642345941057507434795836161327506684973593222243082074173577446865175872619707633030268690896528048779238513612740446475572226293760
abbrev Jt (y:Nat):Nat := Nat.xor (Nat.shiftRight y 8) (Nat.land (Nat.shiftRight Nt (Nat.mul 32 (Nat.land y 255))) 4294967295)
theorem VI:Yv (fun b => Nat.beq (FZ 8 b) (Nat.land (Nat.shiftRight Nt (Nat.mul 32 b)) 4294967295)) 256=true := by kernel_rfl
theorem IX (y:Nat):Jt y=FZ 8 y := by
  have h255:Nat.land y 255=y % 2 ^ 8 := Nat.and_two_pow_sub_one_eq_mod y 8
  have hb:y % 2 ^ 8<256 := Nat.mod_lt _ (by decide)
  have key:FZ 8 (y % 2 ^ 8)=Nat.land (Nat.shiftRight Nt (Nat.mul 32 (y % 2 ^ 8))) 4294967295 := Nat.eq_of_beq_eq_true (W8 VI _ hb)
  have e:FZ 8 y=FZ 8 (2 ^ 8*(y / 2 ^ 8)) ^^^ FZ 8 (y % 2 ^ 8) := by rw [←Pr, ←SA]
  rw [e, Ol, key]
  show Nat.xor (Nat.shiftRight y 8) (Nat.land (Nat.shiftRight Nt (Nat.mul 32 (Nat.land y 255))) 4294967295)=_
  rw [h255]
  show (y >>> 8) ^^^ _=_
  rw [Nat.shiftRight_eq_div_pow]
theorem Aat {a b:Nat} {κ:V->R} (h:b≤a) (ha:a≤4611686018427387904):B4 (.int .i64 a) (.int .i64 b) κ=κ (.bool false) := by
  have e0:B4 (.int .i64 a) (.int .i64 b) κ=BX (br (Nat.ble 9223372036854775808 a) (br (Nat.ble 9223372036854775808 b) (Nat.ble (Nat.succ a) b) true) (br (Nat.ble 9223372036854775808 b) false (Nat.ble (Nat.succ a) b))) fun r => κ (.bool r) := rfl
  have h1:Nat.ble 9223372036854775808 a=false := Bool.eq_false_iff.2 fun h => by have := Nat.le_of_ble_eq_true h; omega
  have h2:Nat.ble 9223372036854775808 b=false := Bool.eq_false_iff.2 fun h => by have := Nat.le_of_ble_eq_true h; omega
  have h3:Nat.ble (Nat.succ a) b=false := Bool.eq_false_iff.2 fun h => by have := Nat.le_of_ble_eq_true h; omega
  rw [e0, AY, h1, h2, h3]; rfl
theorem Tq {p:K4} {off len cap esz i:Nat} {ex:Bool} {κ:V->R} (h:i<len) (hi:i<9223372036854775808):Bi esz (.sl p off len cap ex esz) (.int .i64 i) κ=κ (.ptr p (off+i*esz)) := by
  have e0:Bi esz (.sl p off len cap ex esz) (.int .i64 i) κ=br (Nat.ble (Nat.succ i) 9223372036854775808) (br (Nat.beq esz esz) (br (Nat.ble (Nat.succ i) len) (Aa (Nat.add off (Nat.mul i esz)) fun o => κ (.ptr p o)) (.fail "")) (.fail "")) (.fail "") := rfl
  rw [e0, show Nat.ble (Nat.succ i) 9223372036854775808=true from Nat.ble_eq_true_of_le hi, show Nat.ble (Nat.succ i) len=true from Nat.ble_eq_true_of_le h, show Nat.beq esz esz=true from Nat.beq_refl _]
  show Aa (Nat.add off (Nat.mul i esz)) (fun o => κ (.ptr p o))=_
  rw [A8]; rfl
theorem Vn {p:K4} {off m c:Nat} {h:Heap} {sup:Bool} {prev:Option K4} {κ:V->R} (hp:A9 p h=some (.c (.b m c) sup prev)) (hv:off<m):AA (.ptr p off) h κ=κ (.int .u8 (lo (sh c off) 1)) := by
  show LC p h (fun cs _ _ => EP cs off κ)=_
  rw [Ei]
  have e:(Hl p h fun cs _ _ => EP cs off κ)=@Option.rec Ob (fun _ => R) (.fail "") (fun o => @Ob.rec (fun _ => R) (fun cs _ _ => EP cs off κ) (C1 "") (F5 "") (.fail "") (Aw "") o) (A9 p h) := Ce _ _ _
  rw [e, hp]
  show br (Nat.ble (Nat.succ off) m) (Aa (lo (sh c off) 1) fun r => κ (.int .u8 r)) (.fail "")=_
  rw [show Nat.ble (Nat.succ off) m=true from Nat.ble_eq_true_of_le hv]
  show Aa (lo (sh c off) 1) (fun r => κ (V.int .u8 r))=_
  rw [A8]
theorem If (c:Nat):lo c 1<256 := by rw [Du]; exact Nat.mod_lt _ (by decide)
theorem NM (c a:Nat):sh (sh c a) 1=sh c (a+1) := by
  rw [E0, E0, E0, Nat.div_div_eq_div_mul, ←Nat.pow_add]
def slE (v:V) (κ0:R) (κ:K4->Nat->Nat->Nat->R):R :=
  @V.rec (fun _ => R) (fun _ => Unit) (fun _ _ => κ0) (fun _ => κ0) (fun _ _ => κ0) (fun p off len _ _ esz => κ p off len esz) (fun _ _ => κ0) (fun _ _ => κ0) (fun _ => κ0) (fun _ => κ0) (fun _ _ _ => κ0) (fun _ _ => κ0) (fun _ => κ0) () (fun _ _ _ _ => ()) v
theorem QK {G:R->Prop} {v:V} {κ0:R} {κ:K4->Nat->Nat->Nat->R} (g0:G κ0) (g1:∀ p off len cap ex esz, v = .sl p off len cap ex esz->G (κ p off len esz)):G (slE v κ0 κ) := by
  cases v with
  | sl p off len cap ex esz => exact g1 p off len cap ex esz rfl
  | _ => exact g0
def XS (o:Cf) (κ0:R) (κ:Nat->Nat->R):R :=
  @Option.rec Ob (fun _ => R) κ0 (fun o => @Ob.rec (fun _ => R) (fun cs _ _ => @Cs.rec (fun _ => R) (fun _ => κ0) κ cs) (fun _ _ _ => κ0) (fun _ _ _ _ => κ0) κ0 (fun _ _ => κ0) o) o
theorem OM {G:R->Prop} {o:Cf} {κ0:R} {κ:Nat->Nat->R} (g0:G κ0) (g1:∀ n c sup prev, o=some (.c (.b n c) sup prev)->G (κ n c)):G (XS o κ0 κ) := by
  cases o with
  | none => exact g0
  | some o => cases o with
    | c cs sup prev => cases cs with
      | l xs => exact g0
      | b n c => exact g1 n c sup prev rfl
    | _ => exact g0
def Zj (v:V) (κ0:R) (κ:Nat->R):R :=
  @V.rec (fun _ => R) (fun _ => Unit) (fun k r => br (AV k .u64) (κ r) κ0) (fun _ => κ0) (fun _ _ => κ0) (fun _ _ _ _ _ _ => κ0) (fun _ _ => κ0) (fun _ _ => κ0) (fun _ => κ0) (fun _ => κ0) (fun _ _ _ => κ0) (fun _ _ => κ0) (fun _ => κ0) () (fun _ _ _ _ => ()) v
theorem To {G:R->Prop} {v:V} {κ0:R} {κ:Nat->R} (g0:G κ0) (g1:∀ r, v = .int .u64 r->G (κ r)):G (Zj v κ0 κ) := by
  cases v with
  | int k r =>
    show G (br (AV k .u64) (κ r) κ0)
    cases hb:AV k .u64 with
    | false => exact g0
    | true => exact g1 r (by rw [Az.1 hb])
  | _ => exact g0
def D8:S->Heap->K4->R := fun t h n => g6 t fun z5 => g5 t fun z6 => B4 z5 z6 fun z7 => Bo z7 (Aq 1 (g4 t fun z8 => Bi 1 z8 z5 fun z9 => AA z9 h fun za => g3 t fun zb => Cu .u32 za fun zc => HM zb zc fun zd => Aq 2 (w3 t zd fun t => w7 t (.int .i64 0) fun t => Cg IM t h n) fun t h n => .ok .nrm t h n) fun t h n => g6 t fun zo => B0 zo (.int .i64 1) fun zp => w6 t zp fun t => .ok .nrm t h n) <| .ok (.exit 0) t h n
def Hx (j:Nat):Nat->Nat->Nat := @Nat.rec (fun _ => Nat->Nat->Nat) (fun _ x => x) (fun _ ih d x => ih (sh d 1) (Jt (Nat.xor x (lo d 1)))) j
def Ym (j:Nat):Nat->Nat->(Nat->R)->R := @Nat.rec (fun _ => Nat->Nat->(Nat->R)->R) (fun _ x κ => κ x) (fun _ ih d x κ => Aa (Nat.xor x (lo d 1)) fun y => Aa (Jt y) fun x => Aa (sh d 1) fun d => ih d x κ) j
theorem RG:∀ (j d x:Nat) (κ:Nat->R), Ym j d x κ=κ (Hx j d x)
  | 0, _, _, _ => rfl
  | j+1, d, x, κ => by
    show Aa (Nat.xor x (lo d 1)) (fun y => Aa (Jt y) fun x => Aa (sh d 1) fun d => Ym j d x κ)=κ (Hx j (sh d 1) (Jt (Nat.xor x (lo d 1))))
    rw [A8, A8, A8, RG]
theorem WK (d j:Nat):lo (lo d (j+1)) 1=lo d 1 := by
  rw [Du, Du, Du, Nat.pow_succ, Nat.mod_mul_left_mod]
theorem WX (d j:Nat):sh (lo d (j+1)) 1=lo (sh d 1) j := by
  rw [Du, Du, E0, E0, Nat.pow_succ, Nat.pow_one, Nat.mul_comm, Nat.mod_mul_right_div_self]
theorem NR:∀ (j d x:Nat), Hx j (lo d j) x=Hx j d x
  | 0, _, _ => rfl
  | j+1, d, x => by
    show Hx j (sh (lo d (j+1)) 1) (Jt (Nat.xor x (lo (lo d (j+1)) 1)))=Hx j (sh d 1) (Jt (Nat.xor x (lo d 1)))
    rw [WK, WX, NR]
def RO:PF := fun t h κ κ0 => g6 t fun i => g5 t fun m => g4 t fun s => g3 t fun x => LF i κ0 fun i0 => LF m κ0 fun m0 => slE s κ0 fun p off len esz => Aa7 x κ0 fun x0 => B5 p h fun o => XS o κ0 fun nb c =>
  br (Nat.ble (Nat.succ i0) m0) (br (Nat.ble m0 len) (br (Nat.ble (Nat.add off len) nb) (br (Nat.beq esz 1) (br (Nat.ble (Nat.succ x0) 4294967296) (br (Nat.ble m0 4611686018427387904)
    (Aa (Nat.sub m0 i0) fun j => Aa (lo (sh c (Nat.add off i0)) j) fun d => Ym j d x0 fun x => w3 t (.int .u32 x) fun t => w6 t (.int .i64 m0) fun t => w7 t (.int .i64 8) fun t => κ j t) κ0) κ0) κ0) κ0) κ0) κ0
theorem US (body:S->Heap->K4->R) (k:Nat) (t:S) (h:Heap) (n:K4):DX body (k+1) t h n=P4 (body t h n) (DX body k) := DG body (k+1) t h n
theorem JJ {id:Nat} {t:S} {h:Heap} {n:K4} {κ:S->Heap->K4->R}:Aq id (.ok (.exit id) t h n) κ=κ t h n := by
  show br (Nat.beq id id) (κ t h n) (.ok (.exit id) t h n)=κ t h n
  rw [Nat.beq_refl]; rfl
theorem LS {d0 d1 d2 d4 d5 d6:V} {c2 c3 c4 c5 c6 c7:SQ} {h:Heap} {n:K4} {x:Nat} (hx:x<4294967296) :
    Cg IM (.mk (.mk d0 d1 d2 (.int .u32 x)) (.mk d4 d5 d6 (.int .i64 0)) c2 c3 c4 c5 c6 c7) h n = .ok (.exit 2) (.mk (.mk d0 d1 d2 (.int .u32 (FZ 8 x))) (.mk d4 d5 d6 (.int .i64 8)) c2 c3 c4 c5 c6 c7) h n := by
  show DX IM 1000000000 _ _ _=_
  rw [show (1000000000:Nat)=8+(999999991+1) from rfl, Kr 8 0 x (by omega) hx, US]
  have e:IM (.mk (.mk d0 d1 d2 (.int .u32 (FZ 8 x))) (.mk d4 d5 d6 (.int .i64 (0+8))) c2 c3 c4 c5 c6 c7) h n = .ok (.exit 2) (.mk (.mk d0 d1 d2 (.int .u32 (FZ 8 x))) (.mk d4 d5 d6 (.int .i64 (0+8))) c2 c3 c4 c5 c6 c7) h n := by
    unfold IM
    show B4 (.int .i64 (0+8)) (.int .i64 8) _=_
    rw [Aat (by omega) (by omega)]; rfl
  rw [e]; rfl
theorem Qa {k:IntKind} {r:Nat} {κ:V->R} (h:r<256) (hk:256≤Mk k):Cu k (.int .u8 r) κ=κ (.int k r) := by
  have e0:Cu k (.int .u8 r) κ=br (Nat.ble (Nat.succ r) 256) (Aa (Nat.mod r (Mk k)) fun r => κ (.int k r)) (br (Nat.ble (Mk k) 256) (Aa (Nat.mod r (Mk k)) fun r => κ (.int k r)) (Aa (Nat.sub (Mk k) (Nat.sub 256 r)) fun r => κ (.int k r))) := rfl
  rw [e0, show Nat.ble (Nat.succ r) 256=true from Nat.ble_eq_true_of_le h]
  show Aa (Nat.mod r (Mk k)) (fun r => κ (V.int k r))=_
  rw [A8, show Nat.mod r (Mk k)=r from Nat.mod_eq_of_lt (by omega)]
theorem KS {d0 d1 d2 d7:V} {c2 c3 c4 c5 c6 c7:SQ} {h:Heap} {n p:K4} {off len cap m i x nb c:Nat} {ex sup:Bool} {prev:Option K4}
    (hp:A9 p h=some (.c (.b nb c) sup prev)) (hi:i<m) (hm:m≤len) (hl:off+len≤nb) (hb:m≤4611686018427387904) (hx:x<4294967296) :
    D8 (.mk (.mk d0 d1 d2 (.int .u32 x)) (.mk (.sl p off len cap ex 1) (.int .i64 m) (.int .i64 i) d7) c2 c3 c4 c5 c6 c7) h n
      = .ok .nrm (.mk (.mk d0 d1 d2 (.int .u32 (Jt (Nat.xor x (lo (sh c (off+i)) 1))))) (.mk (.sl p off len cap ex 1) (.int .i64 m) (.int .i64 (i+1)) (.int .i64 8)) c2 c3 c4 c5 c6 c7) h n := by
  unfold D8
  show B4 (.int .i64 i) (.int .i64 m) _=_
  rw [Pg hi hb]
  show Aq 1 (Bi 1 (.sl p off len cap ex 1) (.int .i64 i) _) _=_
  rw [Tq (by omega) (by omega), Vn hp (by omega)]
  show Aq 1 (Cu .u32 (.int .u8 (lo (sh c (off+i*1)) 1)) _) _=_
  rw [Qa (If _) (by decide), Nat.mul_one]
  have e3:∀ (a b:Nat) (κ:V->R), HM (.int .u32 a) (.int .u32 b) κ=κ (.int .u32 (Nat.xor a b)) := fun a b κ => by
    have e0:HM (.int .u32 a) (.int .u32 b) κ=Aa (Nat.xor a b) fun r => κ (.int .u32 r) := rfl
    rw [e0, A8]
  rw [e3]
  have hx2:Nat.xor x (lo (sh c (off+i)) 1)<4294967296 := Nat.xor_lt_two_pow (n := 32) hx (Nat.lt_trans (If _) (by decide))
  rw [IX]
  generalize Nat.xor x (lo (sh c (off+i)) 1)=y at hx2
  show Aq 1 (Aq 2 (Cg IM (.mk (.mk d0 d1 d2 (.int .u32 y)) (.mk (.sl p off len cap ex 1) (.int .i64 m) (.int .i64 i) (.int .i64 0)) c2 c3 c4 c5 c6 c7) h n) _) _=_
  rw [LS hx2, JJ, Fa]
  show B0 (.int .i64 i) (.int .i64 1) _=_
  rw [Jb (by omega)]
theorem Hc {d0 d1 d2:V} {c2 c3 c4 c5 c6 c7:SQ} {h:Heap} {n p:K4} {off len cap m nb c:Nat} {ex sup:Bool} {prev:Option K4}
    (hp:A9 p h=some (.c (.b nb c) sup prev)) (hm:m≤len) (hl:off+len≤nb) (hb:m≤4611686018427387904) :
    ∀ (j i x:Nat) (d7:V), i+(j+1)≤m->x<4294967296->∀ K, DX D8 (j+1+K) (.mk (.mk d0 d1 d2 (.int .u32 x)) (.mk (.sl p off len cap ex 1) (.int .i64 m) (.int .i64 i) d7) c2 c3 c4 c5 c6 c7) h n
      = DX D8 K (.mk (.mk d0 d1 d2 (.int .u32 (Hx (j+1) (sh c (off+i)) x))) (.mk (.sl p off len cap ex 1) (.int .i64 m) (.int .i64 (i+(j+1))) (.int .i64 8)) c2 c3 c4 c5 c6 c7) h n
  | 0, i, x, d7, hj, hx, K => by
    rw [show 0+1+K=K+1 by omega, DG]
    show P4 (D8 _ h n) (DX D8 K)=_
    rw [KS hp (by omega) hm hl hb hx]; rfl
  | j+1, i, x, d7, hj, hx, K => by
    rw [show j+1+1+K=(j+1+K)+1 by omega, DG]
    show P4 (D8 _ h n) (DX D8 (j+1+K))=_
    rw [KS hp (by omega) hm hl hb hx]
    show DX D8 (j+1+K) _ h n=_
    rw [Hc hp hm hl hb j (i+1) _ _ (by omega) (by rw [IX]; exact JX 8 (Nat.xor_lt_two_pow (n := 32) hx (Nat.lt_trans (If _) (by decide)))) K]
    have e:Hx (j+1+1) (sh c (off+i)) x=Hx (j+1) (sh (sh c (off+i)) 1) (Jt (Nat.xor x (lo (sh c (off+i)) 1))) := rfl
    rw [e, NM, show off+(i+1)=off+i+1 by omega, show i+1+(j+1)=i+(j+1+1) by omega]
theorem SD:KM D8 RO := by
  intro t h κ κ0
  cases t with
  | mk c0 c1 c2 c3 c4 c5 c6 c7 =>
    cases c0 with
    | mk d0 d1 d2 x =>
      cases c1 with
      | mk s m i d7 =>
        obtain ⟨T, hT⟩:∃ T:S, T = .mk (.mk d0 d1 d2 x) (.mk s m i d7) c2 c3 c4 c5 c6 c7 := ⟨_, rfl⟩
        obtain ⟨G, hG⟩:∃ G:R->Prop, ∀ r, G r ↔ (r=κ0 ∨ ∃ j t', r=κ j t' ∧ ∀ k n, DX D8 (j+k) T h n=DX D8 k t' h n) := ⟨_, fun r => Iff.rfl⟩
        have g0:G κ0 := (hG _).2 (.inl rfl)
        rw [←hT]
        refine (hG _).1 ?_
        rw [hT]
        refine Fo (G := G) g0 fun i0 hi => Fo (G := G) g0 fun m0 hm => QK (G := G) g0 fun p off len cap ex esz hs => TK (G := G) g0 fun x0 hx => Hp (G := G) (OM (G := G) g0 fun nb c sup prev hp => ?_)
        subst hi hm hs hx
        refine Dn (G := G) g0 fun b1 => Dn (G := G) g0 fun b2 => Dn (G := G) g0 fun b3 => Dn (G := G) g0 fun b4 => Dn (G := G) g0 fun b5 => Dn (G := G) g0 fun b6 => ?_
        have b1 := Nat.le_of_ble_eq_true b1
        have b2 := Nat.le_of_ble_eq_true b2
        have b3:off+len≤nb := Nat.le_of_ble_eq_true b3
        have b4 := Nat.eq_of_beq_eq_true b4
        have b5 := Nat.le_of_ble_eq_true b5
        have b6 := Nat.le_of_ble_eq_true b6
        subst b4
        obtain ⟨j, hj⟩:∃ j, Nat.sub m0 i0=j+1 := ⟨m0 - i0 - 1, by show m0 - i0=_; omega⟩
        have hj':m0 - i0=j+1 := hj
        rw [hj, A8, A8, RG, NR]
        refine (hG _).2 (.inr ⟨j+1, _, rfl, fun K n => ?_⟩)
        rw [hT, Hc hp b2 b3 b6 j i0 x0 d7 (by omega) b5 K, show i0+(j+1)=m0 by omega]; rfl
theorem Ka:Cg D8=IJ D8 RO := Jk SD
def Fz:S->Heap->K4->R := fun t h n => g5 t fun z3 => g4 t fun z4 => B4 z3 z4 fun z5 => Bo z5 (Aq 1 (g3 t fun z6 => Bi 1 z6 z3 fun z7 => AA z7 h fun z8 => g2 t fun z9 => OZ z9 (.int .u64 8) fun za => Cu .u64 z8 fun zb => Va za zb fun zc => w2 t zc fun t => .ok .nrm t h n) fun t h n => g5 t fun zd => B0 zd (.int .i64 1) fun ze => w5 t ze fun t => .ok .nrm t h n) <| .ok (.exit 0) t h n
abbrev GF (x b:Nat):Nat := Nat.lor (Nat.mod (Nat.shiftLeft x 8) 18446744073709551616) b
def DH (j:Nat):Nat->Nat->Nat := @Nat.rec (fun _ => Nat->Nat->Nat) (fun _ x => x) (fun _ ih d x => ih (sh d 1) (GF x (lo d 1))) j
def Tl (j:Nat):Nat->Nat->(Nat->R)->R := @Nat.rec (fun _ => Nat->Nat->(Nat->R)->R) (fun _ x κ => κ x) (fun _ ih d x κ => Aa (GF x (lo d 1)) fun x => Aa (sh d 1) fun d => ih d x κ) j
theorem OY:∀ (j d x:Nat) (κ:Nat->R), Tl j d x κ=κ (DH j d x)
  | 0, _, _, _ => rfl
  | j+1, d, x, κ => by
    show Aa (GF x (lo d 1)) (fun x => Aa (sh d 1) fun d => Tl j d x κ)=κ (DH j (sh d 1) (GF x (lo d 1)))
    rw [A8, A8, OY]
theorem Lh:∀ (j d x:Nat), DH j (lo d j) x=DH j d x
  | 0, _, _ => rfl
  | j+1, d, x => by
    show DH j (sh (lo d (j+1)) 1) (GF x (lo (lo d (j+1)) 1))=DH j (sh d 1) (GF x (lo d 1))
    rw [WK, WX, Lh]
def Vl:PF := fun t h κ κ0 => g5 t fun i => g4 t fun m => g3 t fun s => g2 t fun x => LF i κ0 fun i0 => LF m κ0 fun m0 => slE s κ0 fun p off len esz => Zj x κ0 fun x0 => B5 p h fun o => XS o κ0 fun nb c =>
  br (Nat.ble (Nat.succ i0) m0) (br (Nat.ble m0 len) (br (Nat.ble (Nat.add off len) nb) (br (Nat.beq esz 1) (br (Nat.ble m0 4611686018427387904)
    (Aa (Nat.sub m0 i0) fun j => Aa (lo (sh c (Nat.add off i0)) j) fun d => Tl j d x0 fun x => w2 t (.int .u64 x) fun t => w5 t (.int .i64 m0) fun t => κ j t) κ0) κ0) κ0) κ0) κ0
theorem Qw {d0 d1 d6 d7:V} {c2 c3 c4 c5 c6 c7:SQ} {h:Heap} {n p:K4} {off len cap m i x nb c:Nat} {ex sup:Bool} {prev:Option K4}
    (hp:A9 p h=some (.c (.b nb c) sup prev)) (hi:i<m) (hm:m≤len) (hl:off+len≤nb) (hb:m≤4611686018427387904) :
    Fz (.mk (.mk d0 d1 (.int .u64 x) (.sl p off len cap ex 1)) (.mk (.int .i64 m) (.int .i64 i) d6 d7) c2 c3 c4 c5 c6 c7) h n
      = .ok .nrm (.mk (.mk d0 d1 (.int .u64 (GF x (lo (sh c (off+i)) 1))) (.sl p off len cap ex 1)) (.mk (.int .i64 m) (.int .i64 (i+1)) d6 d7) c2 c3 c4 c5 c6 c7) h n := by
  unfold Fz
  show B4 (.int .i64 i) (.int .i64 m) _=_
  rw [Pg hi hb]
  show Aq 1 (Bi 1 (.sl p off len cap ex 1) (.int .i64 i) _) _=_
  rw [Tq (by omega) (by omega), Vn hp (by omega), Nat.mul_one]
  have e1:∀ (κ:V->R), OZ (.int .u64 x) (.int .u64 8) κ=κ (.int .u64 (Nat.mod (Nat.shiftLeft x 8) 18446744073709551616)) := fun κ => by
    have e0:OZ (.int .u64 x) (.int .u64 8) κ=Aa (Nat.mod (Nat.shiftLeft x 8) 18446744073709551616) fun r => κ (.int .u64 r) := rfl
    rw [e0, A8]
  have e2:∀ (a b:Nat) (κ:V->R), Va (.int .u64 a) (.int .u64 b) κ=κ (.int .u64 (Nat.lor a b)) := fun a b κ => by
    have e0:Va (.int .u64 a) (.int .u64 b) κ=Aa (Nat.lor a b) fun r => κ (.int .u64 r) := rfl
    rw [e0, A8]
  show Aq 1 (OZ (.int .u64 x) (.int .u64 8) _) _=_
  rw [e1, Qa (If _) (by decide), e2, Fa]
  show B0 (.int .i64 i) (.int .i64 1) _=_
  rw [Jb (by omega)]
theorem GN {d0 d1 d6 d7:V} {c2 c3 c4 c5 c6 c7:SQ} {h:Heap} {n p:K4} {off len cap m nb c:Nat} {ex sup:Bool} {prev:Option K4}
    (hp:A9 p h=some (.c (.b nb c) sup prev)) (hm:m≤len) (hl:off+len≤nb) (hb:m≤4611686018427387904) :
    ∀ (j i x:Nat), i+j≤m->∀ K, DX Fz (j+K) (.mk (.mk d0 d1 (.int .u64 x) (.sl p off len cap ex 1)) (.mk (.int .i64 m) (.int .i64 i) d6 d7) c2 c3 c4 c5 c6 c7) h n
      = DX Fz K (.mk (.mk d0 d1 (.int .u64 (DH j (sh c (off+i)) x)) (.sl p off len cap ex 1)) (.mk (.int .i64 m) (.int .i64 (i+j)) d6 d7) c2 c3 c4 c5 c6 c7) h n
  | 0, i, x, hj, K => by rw [Nat.zero_add]; rfl
  | j+1, i, x, hj, K => by
    rw [show j+1+K=(j+K)+1 by omega, DG]
    show P4 (Fz _ h n) (DX Fz (j+K))=_
    rw [Qw hp (by omega) hm hl hb]
    show DX Fz (j+K) _ h n=_
    rw [GN hp hm hl hb j (i+1) _ (by omega) K]
    have e:DH (j+1) (sh c (off+i)) x=DH j (sh (sh c (off+i)) 1) (GF x (lo (sh c (off+i)) 1)) := rfl
    rw [e, NM, show off+(i+1)=off+i+1 by omega, show i+1+j=i+(j+1) by omega]
theorem S5:KM Fz Vl := by
  intro t h κ κ0
  cases t with
  | mk c0 c1 c2 c3 c4 c5 c6 c7 =>
    cases c0 with
    | mk d0 d1 x s =>
      cases c1 with
      | mk m i d6 d7 =>
        obtain ⟨T, hT⟩:∃ T:S, T = .mk (.mk d0 d1 x s) (.mk m i d6 d7) c2 c3 c4 c5 c6 c7 := ⟨_, rfl⟩
        obtain ⟨G, hG⟩:∃ G:R->Prop, ∀ r, G r ↔ (r=κ0 ∨ ∃ j t', r=κ j t' ∧ ∀ k n, DX Fz (j+k) T h n=DX Fz k t' h n) := ⟨_, fun r => Iff.rfl⟩
        have g0:G κ0 := (hG _).2 (.inl rfl)
        rw [←hT]
        refine (hG _).1 ?_
        rw [hT]
        refine Fo (G := G) g0 fun i0 hi => Fo (G := G) g0 fun m0 hm => QK (G := G) g0 fun p off len cap ex esz hs => To (G := G) g0 fun x0 hx => Hp (G := G) (OM (G := G) g0 fun nb c sup prev hp => ?_)
        subst hi hm hs hx
        refine Dn (G := G) g0 fun b1 => Dn (G := G) g0 fun b2 => Dn (G := G) g0 fun b3 => Dn (G := G) g0 fun b4 => Dn (G := G) g0 fun b6 => ?_
        have b1 := Nat.le_of_ble_eq_true b1
        have b2 := Nat.le_of_ble_eq_true b2
        have b3:off+len≤nb := Nat.le_of_ble_eq_true b3
        have b4 := Nat.eq_of_beq_eq_true b4
        have b6 := Nat.le_of_ble_eq_true b6
        subst b4
        rw [A8, A8, OY, Lh]
        refine (hG _).2 (.inr ⟨Nat.sub m0 i0, _, rfl, fun K n => ?_⟩)
        rw [hT, GN hp b2 b3 b6 (Nat.sub m0 i0) i0 x0 (by show i0+(m0 - i0)≤m0; omega) K, show i0+Nat.sub m0 i0=m0 by show i0+(m0 - i0)=m0; omega]; rfl
theorem QL:Cg Fz=IJ Fz Vl := Jk S5
end Go.Ev

namespace Go.Ev
set_option linter.unusedVariables false
section
variable {P:Program} {ρ:Env} {B:Nat}
end
abbrev iI (n:Nat):V := .int .i64 n
abbrev iW (n:Nat):V := .int .u32 n
abbrev iB (n:Nat):V := .int .u8 n
abbrev iL (n:Nat):V := .int .u64 n
abbrev nR (t:S) (h:Heap) (n:K4):R := .ok .nrm t h n
abbrev rT (t:S) (h:Heap) (n:K4):R := .ok .ret t h n
def o8 (i:Nat):O8 := @Nat.rec (fun _ => O8) .d0 (fun i _ => @Nat.rec (fun _ => O8) .d1 (fun i _ => @Nat.rec (fun _ => O8) .d2 (fun i _ => @Nat.rec (fun _ => O8) .d3 (fun i _ => @Nat.rec (fun _ => O8) .d4 (fun i _ => @Nat.rec (fun _ => O8) .d5 (fun i _ => @Nat.rec (fun _ => O8) .d6 (fun _ _ => .d7) i) i) i) i) i) i) i
def o4 (i:Nat):O4 := @Nat.rec (fun _ => O4) .d0 (fun i _ => @Nat.rec (fun _ => O4) .d1 (fun i _ => @Nat.rec (fun _ => O4) .d2 (fun _ _ => .d3) i) i) i
def mS (l:List Nat):SM := @List.rec Nat (fun _ => Nat->SM) (fun _ => []) (fun p _ ih i => (⟨D.ofN (Nat.div p 16), D.ofN (Nat.mod p 16)⟩, ⟨o8 (Nat.div i 4), o4 (Nat.mod i 4)⟩)::ih (Nat.succ i)) l 0
end Go.Ev

namespace Go.Ev
set_option linter.unusedVariables false
abbrev L9 := Nat->Option (Array Value×TypeId×(Nat×Nat))
/-- The environment of a program whose blocks gl stay as they are. -/
def Xt (P:Program) (fs:List Nat) (gl:L9):Env := { HS P fs with gl := gl }
section
variable {P:Program} {ρ:Env} {B:Nat}
theorem DV.gl {fs:List Nat} {gl:L9} {f:FuncId} {e:Ent} (h:DV P (HS P fs) f e):DV P (Xt P fs gl) f e := h
/-- A table that stays. -/
def Wy (P:Program) (gl:L9) (name:String) (k:IntKind) (zs:List Int):Prop := ∃ g e fr, P.globalNamed name=some g∧gl g=some ((zs.map fun z => Value.int k z).toArray, e, fr)
theorem Wy.is {gl:L9} {name:String} {k:IntKind} {zs:List Int} {h:Heap} {n:K4} {φ:AI} {w:World} (t:Wy P gl name k zs) (hgl:ρ.gl=gl) (g:Gam ρ B h n φ w):Lib.TabIs P w name k zs := by
  obtain ⟨b, e, fr, h1, h2⟩ := t
  obtain ⟨_, h3⟩ := g.glob b _ e fr (by rw [hgl]; exact h2)
  unfold Lib.TabIs World.var?
  rw [h1, Option.bind_some, h3]
/-- The blocks of a world that a list names. -/
def J9 (w:World) (l:List Nat):L9 := fun b => if b∈l then (match w.heap[b]? with | some (.cells c e fr) => some (c, e, fr) | _ => none) else none
theorem Vz {P:Program} {fs:List Nat} {w:World} {l:List Nat}:Vy (Xt P fs (J9 w l)) w := fun b c e fr h => by
  have h:J9 w l b=some (c, e, fr) := h
  unfold J9 at h
  split at h
  · split at h
    · rename_i c' e' fr' hw
      cases h
      refine ⟨?_, hw⟩
      rcases Nat.lt_or_ge b w.heap.size with hb | hb
      · exact hb
      · rw [Array.getElem?_eq_none hb] at hw; cases hw
    · cases h
  · cases h
theorem Wy.of {w:World} {l:List Nat} {g:Nat} {name:String} {k:IntKind} {zs:List Int} (hg:P.globalNamed name=some g) (hl:g∈l) (h:Lib.TabIs P w name k zs):Wy P (J9 w l) name k zs := by
  unfold Lib.TabIs World.var? at h
  rw [hg, Option.bind_some] at h
  split at h
  · rename_i c e fr hw
    cases h
    refine ⟨g, e, fr, hg, ?_⟩
    unfold J9
    rw [if_pos hl, hw]
  · cases h
end
end Go.Ev

namespace Go.Ev
set_option linter.unusedVariables false
open Go.RowKit
section
variable {P:Program} {ρ:Env} {B:Nat}
/-- What stands below stays; new blocks are nothing to it. -/
theorem Gam.below {h:Heap} {n:K4} {φ:AI} {w w':World} (g:Gam ρ B h n φ w) (b:Below w.heap.size w w'):Gam ρ B h n φ w'∧Fr h h φ φ n n w w' := by
  obtain ⟨b1, b2, b3, b4, b5⟩ := b
  refine ⟨⟨Nat.le_trans g.base b4, g.dom, fun p b s t hp => ⟨(g.blk p b s t hp).1, Nat.lt_of_lt_of_le (g.blk p b s t hp).2 b4⟩, fun p o b s t ho hp => Ci (b5 b (g.blk p b s t hp).2) (g.obj p o b s t ho hp), g.sep, g.sup,
    fun b c e fr hb => ⟨(g.glob b c e fr hb).1, by rw [b5 b (Nat.lt_of_lt_of_le (g.glob b c e fr hb).1 g.base)]; exact (g.glob b c e fr hb).2⟩⟩,
    ⟨AI.le_refl φ, fun _ _ h => .inl h, Nat.le_refl _, b1, b2, b3, b4, fun b hb _ => b5 b hb, fun _ _ _ _ h => .inl h, fun _ _ h => h⟩⟩
end
theorem Yw {a:Int} (h:(Lit.int .i64 a).wf=true) : -9223372036854775808≤a∧a<9223372036854775808 := by
  simp [Lit.wf, IntKind.min, IntKind.max, IntKind.signed, IntKind.bits] at h
  omega
end Go.Ev

namespace Go.Ev
set_option linter.unusedVariables false
/-- The environment of a program with symbols, whose blocks gl stay as they are. -/
def JI (P:Program) (fs:List Nat) (v:Nat->Value) (gl:L9):Env := { HS P fs with v := v, gl := gl }
theorem Ab5 {P:Program} {fs:List Nat} {v:Nat->Value} {gl:L9} (h:∀ i, (v i).oneCell'=true):Bd (JI P fs v gl) := h
section
variable {P:Program} {ρ:Env} {B:Nat}
theorem DV.ar {fs:List Nat} {v:Nat->Value} {gl:L9} {f:FuncId} {e:Ent} (h:DV P (HS P fs) f e):DV P (JI P fs v gl) f e := h
theorem JD.mkA {fs:List Nat} {v:Nat->Value} {gl:L9} {T:FC} (h:∀ f e, Bh (Bb f) T=some e->Mv P (JI P fs v gl) B f e) (ha:∀ f∈fs, ∃ e, Bh (Bb f) T=some e∧DV P (JI P fs v gl) f e):JD P (JI P fs v gl) B T := by
  refine ⟨h, fun f A hA => ?_⟩
  have hA:@Bool.rec (fun _ => Option ApC) none (LM P f) (fs.contains f)=some A := hA
  cases hc:fs.contains f with
  | false => rw [hc] at hA; cases hA
  | true => exact ha f (List.contains_iff_mem.1 hc)
theorem IG {fs:List Nat} {v:Nat->Value} {w:World} {l:List Nat}:Vy (JI P fs v (J9 w l)) w := fun b c e fr h => Vz (P := P) (fs := fs) (w := w) (l := l) b c e fr h
theorem SU {w:World} {l:List Nat} {b:Nat} {c:Array Value} {e:TypeId} {fr:Nat×Nat} (hb:b∈l) (h:w.heap[b]? = some (.cells c e fr)):J9 w l b=some (c, e, fr) := by
  unfold J9
  rw [if_pos hb, h]
/-- A cell of a world. -/
theorem Kt {w:World} {a:Addr} {v:Value} (h:w.cell? a=some v):∃ b o c e fr, a=⟨b, o, none⟩∧w.heap[b]? = some (.cells c e fr)∧c[o]? = some v := by
  obtain ⟨b, o, sp⟩ := a
  unfold World.cell? at h
  split at h
  · rename_i c e fr hw
    split at h
    · cases h
    · rename_i hs
      cases sp with
      | none => exact ⟨b, o, c, e, fr, rfl, hw, h⟩
      | some x => exact absurd rfl hs
  · cases h
end
section
variable {ρ:Env} {φ:AI} {b o len cap lo hi hi' i:Nat} {c:Array Value} {e:TypeId} {fr:Nat×Nat}
end
end Go.Ev

namespace Go.Ev
set_option linter.unusedVariables false
theorem WQ (k:IntKind) (a b:Nat) (κ:V->R):B0 (.int k a) (.int k b) κ=κ (.int k ((a+b) % Mk k)) := by
  show kM k k (fun M => Aa (Nat.mod (Nat.add a b) M) fun r => κ (.int k r))=_
  rw [PD, Az.2 rfl, Ac, A8]; rfl
/-- A difference. -/
def Ib (k:IntKind) (a b:Nat):Nat := (a+(Mk k - b)) % Mk k
theorem Xa (k:IntKind) (a b:Nat) (κ:V->R):BM (.int k a) (.int k b) κ=κ (.int k (Ib k a b)) := by
  show kM k k (fun M => Aa (Nat.mod (Nat.add a (Nat.sub M b)) M) fun r => κ (.int k r))=_
  rw [PD, Az.2 rfl, Ac, A8]; rfl
theorem Xp (k:IntKind) (a b:Nat) (κ:V->R):JB (.int k a) (.int k b) κ=κ (.int k ((a*b) % Mk k)) := by
  show kM k k (fun M => Aa (Nat.mod (Nat.mul a b) M) fun r => κ (.int k r))=_
  rw [PD, Az.2 rfl, Ac, A8]; rfl
theorem CH (a b:Nat):Nat.beq a b=decide (a=b) := by
  rw [Bool.eq_iff_iff, decide_eq_true_iff]
  exact ⟨Nat.eq_of_beq_eq_true, fun h => by rw [h]; exact Nat.beq_refl b⟩
theorem UG (k:IntKind) (a b:Nat) (κ:V->R):Dk (.int k a) (.int k b) κ=κ (.bool (decide (a=b))) := by
  show kM k k (fun _ => BX (Nat.beq a b) fun r => κ (.bool r))=_
  rw [PD, Az.2 rfl, Ac, AY, CH]
theorem XD (k:IntKind) (a b:Nat) (κ:V->R):C0 (.int k a) (.int k b) κ=κ (.bool (decide (¬ a=b))) := by
  show kM k k (fun _ => br (Nat.beq a b) (κ (.bool false)) (κ (.bool true)))=_
  rw [PD, Az.2 rfl, Ac, CH]
  by_cases h:a=b
  · rw [decide_eq_true h, decide_eq_false (fun g => g h)]; rfl
  · rw [decide_eq_false h, decide_eq_true h]; rfl
/-- Signed numbers that are not negative, and unsigned ones, by their residues. -/
theorem Tu {k:IntKind} {a b:Nat} (ha:a<Hk k) (hb:b<Hk k):DY k a b=decide (a<b) := by
  unfold DY
  rw [AG ha, AG hb, Ak, Ak, CD]
  exact decide_eq_decide.2 Nat.succ_le_iff
theorem WP (k:IntKind) (a b:Nat) (κ:V->R):B4 (.int k a) (.int k b) κ=κ (.bool (DY k a b)) := by
  show kH k k (fun H => BX (Wp H a b) fun r => κ (.bool r))=_
  rw [QH, Az.2 rfl, Ac, AY]; rfl
theorem X5 (k:IntKind) (a b:Nat) (κ:V->R):CU (.int k a) (.int k b) κ=κ (.bool (DY k b a)) := by
  show kH k k (fun H => BX (Wp H b a) fun r => κ (.bool r))=_
  rw [QH, Az.2 rfl, Ac, AY]; rfl
theorem Xn (k:IntKind) (a b:Nat) (κ:V->R):Ir (.int k a) (.int k b) κ=κ (.bool (!DY k b a)) := by
  show kH k k (fun H => br (Wp H b a) (κ (.bool false)) (κ (.bool true)))=_
  rw [QH, Az.2 rfl, Ac, TL]; cases DY k b a <;> rfl
theorem X3 (k:IntKind) (a b:Nat) (κ:V->R):DQ (.int k a) (.int k b) κ=κ (.bool (!DY k a b)) := by
  show kH k k (fun H => br (Wp H a b) (κ (.bool false)) (κ (.bool true)))=_
  rw [QH, Az.2 rfl, Ac, TL]; cases DY k a b <;> rfl
theorem WT {k:IntKind} {a b:Nat} (ha:a<Hk k) (hb:b<Hk k) (h0:0<b) (κ:V->R):Lv (.int k a) (.int k b) κ=κ (.int k (a / b)) := by
  show br (AV k k) (br (Nat.ble (Nat.succ a) (Hk k)) (br (Nat.ble (Nat.succ b) (Hk k)) (br (Nat.ble 1 b) (Aa (Nat.div a b) fun r => κ (.int k r)) _) _) _) _=_
  rw [Az.2 rfl, Ac, Ab.2 ha, Ac, Ab.2 hb, Ac, Ab.2 h0, Ac, A8]; rfl
theorem X7 {k:IntKind} {a b:Nat} (ha:a<Hk k) (hb:b<Hk k) (h0:0<b) (κ:V->R):Xw (.int k a) (.int k b) κ=κ (.int k (a % b)) := by
  show br (Nat.ble (Nat.succ a) (Hk k)) (br (AV k k) (br (Nat.ble (Nat.succ a) (Hk k)) (br (Nat.ble (Nat.succ b) (Hk k)) (br (Nat.ble 1 b) (Aa (Nat.mod a b) fun r => κ (.int k r)) (.fail "")) (.fail "")) (.fail "")) (.fail "")) (MV k a k b κ)=_
  rw [show Nat.ble (Nat.succ a) (Hk k)=true from Ab.2 ha, Ac, Az.2 rfl, Ac, Ac, show Nat.ble (Nat.succ b) (Hk k)=true from Ab.2 hb, Ac, show Nat.ble 1 b=true from Ab.2 h0, Ac, A8]; rfl
theorem X6 (k:IntKind) (a b:Nat) (κ:V->R):LR (.int k a) (.int k b) κ=κ (.int k (a &&& b)) := by
  show br (AV k k) (Aa (Nat.land a b) fun r => κ (.int k r)) _=_
  rw [Az.2 rfl, Ac, A8]; rfl
theorem Zo (k:IntKind) (a b:Nat) (κ:V->R):Va (.int k a) (.int k b) κ=κ (.int k (a ||| b)) := by
  show br (AV k k) (Aa (Nat.lor a b) fun r => κ (.int k r)) _=_
  rw [Az.2 rfl, Ac, A8]; rfl
theorem WZ (k:IntKind) (a b:Nat) (κ:V->R):HM (.int k a) (.int k b) κ=κ (.int k (a ^^^ b)) := by
  show br (AV k k) (Aa (Nat.xor a b) fun r => κ (.int k r)) _=_
  rw [Az.2 rfl, Ac, A8]; rfl
/-- A number turned into one of another kind: not negative. -/
theorem Kp {k j:IntKind} {a:Nat} (h:a<Hk j) (κ:V->R):Cu k (.int j a) κ=κ (.int k (a % Mk k)) := by
  show br (Nat.ble (Nat.succ a) (Hk j)) (Aa (Nat.mod a (Mk k)) fun r => κ (.int k r)) _=_
  rw [Ab.2 h, Ac, A8]; rfl
theorem ZS (b:Bool) (x y:R):Bo (.bool b) x y=bif b then x else y := by cases b <;> rfl
theorem UA (b:Bool) (x y:V) (κ:V->R):AX (.bool b) x y κ=bif b then κ x else κ y := by cases b <;> rfl
theorem Xj (b:Bool) (κ:V->R):DP (.bool b) κ=κ (.bool (!b)) := by cases b <;> rfl
theorem XC (w b:Bool) (h:Heap) (n:K4) (F:KV->R) (κ:KV):Cm w (.bool b) h n F κ=bif b == w then F κ else κ AO h n := by cases w <;> cases b <;> rfl
theorem X8 (w b:Bool) (F:(V->R)->R) (κ:V->R):gdV w (.bool b) F κ=bif b == w then F κ else κ AO := by cases w <;> cases b <;> rfl
theorem Xl (v:V) (h:Heap) (n:K4) (κ:V->R):Bl (.rv v h n) κ=κ v := id rfl
theorem WN (v:V) (h:Heap) (n:K4) (κ:KV):Fq (.rv v h n) κ=κ v h n := id rfl
theorem NK (v:V) (h:Heap) (n:K4) (κ:KV):Ag (.rv v h n) κ=κ v h n := id rfl
theorem R1 (t:S) (h:Heap) (n:K4) (κ:S->Heap->K4->R):BQ (.ok .nrm t h n) κ=κ t h n := id rfl
theorem RF (i:Nat) (t:S) (h:Heap) (n:K4) (κ:S->Heap->K4->R):BQ (.ok (.exit i) t h n) κ = .ok (.exit i) t h n := id rfl
theorem RK (t:S) (h:Heap) (n:K4) (κ:S->Heap->K4->R):BQ (.ok .ret t h n) κ = .ok .ret t h n := id rfl
theorem OL (i:Nat) (t:S) (h:Heap) (n:K4) (κ:S->Heap->K4->R):Aq i (.ok .nrm t h n) κ=κ t h n := id rfl
theorem Pk (i:Nat) (t:S) (h:Heap) (n:K4) (κ:S->Heap->K4->R):Aq i (.ok .ret t h n) κ = .ok .ret t h n := id rfl
theorem P2 (i j:Nat) (t:S) (h:Heap) (n:K4) (κ:S->Heap->K4->R):Aq i (.ok (.exit j) t h n) κ=bif decide (j=i) then κ t h n else .ok (.exit j) t h n := by
  show br (Nat.beq j i) (κ t h n) (.ok (.exit j) t h n)=_
  rw [CH]; cases decide (j=i) <;> rfl
theorem RN (b:Bool) (x y:R) (κ:S->Heap->K4->R):BQ (bif b then x else y) κ=bif b then BQ x κ else BQ y κ := by cases b <;> rfl
theorem Ps (i:Nat) (b:Bool) (x y:R) (κ:S->Heap->K4->R):Aq i (bif b then x else y) κ=bif b then Aq i x κ else Aq i y κ := by cases b <;> rfl
theorem UK (b:Bool) (x y:R) (κ:V->R):Bl (bif b then x else y) κ=bif b then Bl x κ else Bl y κ := by cases b <;> rfl
theorem Tt (b:Bool) (x y:R) (κ:KV):Fq (bif b then x else y) κ=bif b then Fq x κ else Fq y κ := by cases b <;> rfl
/-- What a cell of an object is. -/
def ldO (o:Cf) (off:Nat) (κ:V->R):R := @Option.rec Ob (fun _ => R) (.fail "") (fun o => @Ob.rec (fun _ => R) (fun cs _ _ => EP cs off κ) (C1 "") (F5 "") (.fail "") (Aw "") o) o
theorem Yl (p:K4) (off:Nat) (h:Heap) (κ:V->R):AA (.ptr p off) h κ=ldO (A9 p h) off κ := by
  show LC p h (fun cs _ _ => EP cs off κ)=_
  rw [Ei]; unfold Hl ldO; rw [Ce]
theorem WU (xs:List V) (s:Bool) (pr:Option K4) (off:Nat) (κ:V->R):ldO (some (.c (.l xs) s pr)) off κ=DN off xs κ := id rfl
theorem Uw (x:V) (xs:List V) (κ:V->R):DN 0 (x::xs) κ=κ x := id rfl
theorem U7 (m:Nat) (x:V) (xs:List V) (κ:V->R):DN (m+1) (x::xs) κ=DN m xs κ := id rfl
theorem XB (off o:Nat) (p:K4) (κ:V->R):As off (.ptr p o) κ=κ (.ptr p (o+off)) := by
  show Aa (Nat.add o off) (fun o => κ (.ptr p o))=_
  rw [A8]; rfl
theorem QY (p:K4) (o:Nat) (κ:V->R):Ai (.ptr p o) κ=κ (.ptr p o) := id rfl
end Go.Ev

namespace Go.Ev
set_option linter.unusedVariables false
theorem D.nx_all (d:D):(d.toN=15 ∧ ∀ (k:D->R) (c:R), d.nx k c=c) ∨ ∃ e:D, e.toN=d.toN+1 ∧ ∀ (k:D->R) (c:R), d.nx k c=k e := by
  cases d
  case d0 => exact .inr ⟨.d1, rfl, fun _ _ => rfl⟩
  case d1 => exact .inr ⟨.d2, rfl, fun _ _ => rfl⟩
  case d2 => exact .inr ⟨.d3, rfl, fun _ _ => rfl⟩
  case d3 => exact .inr ⟨.d4, rfl, fun _ _ => rfl⟩
  case d4 => exact .inr ⟨.d5, rfl, fun _ _ => rfl⟩
  case d5 => exact .inr ⟨.d6, rfl, fun _ _ => rfl⟩
  case d6 => exact .inr ⟨.d7, rfl, fun _ _ => rfl⟩
  case d7 => exact .inr ⟨.d8, rfl, fun _ _ => rfl⟩
  case d8 => exact .inr ⟨.d9, rfl, fun _ _ => rfl⟩
  case d9 => exact .inr ⟨.d10, rfl, fun _ _ => rfl⟩
  case d10 => exact .inr ⟨.d11, rfl, fun _ _ => rfl⟩
  case d11 => exact .inr ⟨.d12, rfl, fun _ _ => rfl⟩
  case d12 => exact .inr ⟨.d13, rfl, fun _ _ => rfl⟩
  case d13 => exact .inr ⟨.d14, rfl, fun _ _ => rfl⟩
  case d14 => exact .inr ⟨.d15, rfl, fun _ _ => rfl⟩
  case d15 => exact .inl ⟨rfl, fun _ _ => rfl⟩
theorem K4.nx_all (p:K4) (h:p.toN<65535):∃ q:K4, q.toN=p.toN+1 ∧ ∀ k:K4->R, p.nx k=k q := by
  obtain ⟨a, b, c, d⟩ := p
  simp only [K4.toN] at h
  have hd0:D.d0.toN=0 := id rfl
  have ha := a.toN_lt; have hb := b.toN_lt; have hc := c.toN_lt; have hd := d.toN_lt
  rcases d.nx_all with ⟨d1, d2⟩ | ⟨e, d1, d2⟩
  · rcases c.nx_all with ⟨c1, c2⟩ | ⟨e, c1, c2⟩
    · rcases b.nx_all with ⟨b1, b2⟩ | ⟨e, b1, b2⟩
      · rcases a.nx_all with ⟨a1, a2⟩ | ⟨e, a1, a2⟩
        · omega
        · exact ⟨⟨e, .d0, .d0, .d0⟩, by simp only [K4.toN, hd0]; omega, fun k => by show d.nx _ (c.nx _ (b.nx _ (a.nx _ _)))=_; rw [d2, c2, b2, a2]⟩
      · exact ⟨⟨a, e, .d0, .d0⟩, by simp only [K4.toN, hd0]; omega, fun k => by show d.nx _ (c.nx _ (b.nx _ _))=_; rw [d2, c2, b2]⟩
    · exact ⟨⟨a, b, e, .d0⟩, by simp only [K4.toN, hd0]; omega, fun k => by show d.nx _ (c.nx _ _)=_; rw [d2, c2]⟩
  · exact ⟨⟨a, b, c, e⟩, by simp only [K4.toN]; omega, fun k => by show d.nx _ _=_; rw [d2]⟩
/-- The next place, where there is one. -/
def K4.up (p:K4):K4 := if h:p.toN<65535 then Classical.choose (p.nx_all h) else p
theorem K4.up_toN {p:K4} (h:p.toN<65535):p.up.toN=p.toN+1 := by
  unfold K4.up; rw [dif_pos h]; exact (Classical.choose_spec (p.nx_all h)).1
theorem K4.nx_up {p:K4} (h:p.toN<65535) (k:K4->R):p.nx k=k p.up := by
  unfold K4.up; rw [dif_pos h]; exact (Classical.choose_spec (p.nx_all h)).2 k
theorem K4.ne_of_lt {p q:K4} (h:p.toN<q.toN):p≠q := fun e => by subst e; omega
theorem EA {n:K4} (hn:n.toN<65535) (h:Heap) (o:Ob) (κ:Heap->K4->R):E4 h n o κ=κ (Af n h (some o)) n.up := by
  rw [Ht]
  have e:D6 h n o κ=n.nx fun n' => κ (Af n h (some o)) n' := AN _ _ _ _
  rw [e, K4.nx_up hn]
theorem QZ {n:K4} (hn:n.toN<65535) (h:Heap) (κ:KV):FH h n κ=κ (.map n) (Af n h (some (.m [] [] 0))) n.up := EA hn _ _ _
theorem Vd {n:K4} (hn:n.toN<65535) (l:List V) (h:Heap) (κ:KV):Fp (.agg l) h n κ=κ (.ptr n 0) (Af n h (some (.c (.l l) false none))) n.up := EA hn _ _ _
theorem Xz {n:K4} (hn:n.toN<65535) (cs:Cs) (h:Heap) (κ:KV):Rr cs h n κ=κ (.ptr n 0) (Af n h (some (.c cs false none))) n.up := EA hn _ _ _
theorem Tp {n:K4} (hn:n.toN<65535) (len esz:Nat) (l:List V) (h:Heap) (κ:KV):Fm false len esz l h n κ=κ (.sl n 0 len len true esz) (Af n h (some (.c (.l l) false none))) n.up := EA hn _ _ _
theorem UW {n:K4} (hn:n.toN<65535) (esz:Nat) (h:Heap) (κ:KV):Fm true 0 esz [] h n κ=κ (.sl n 0 0 0 true esz) (Af n h (some (.c (.b 0 0) false none))) n.up := EA hn _ _ _
theorem Yc {n:K4} (hn:n.toN<65535) {a b:Nat} (hab:a≤b) (hb:b≤281474976710656) (zero:List V) (hz:zero.length=1) (k j:IntKind) (ha:a<Hk k) (hb2:b<Hk j) (h:Heap) (κ:KV) :
    KD 1 true zero (.int k a) (.int j b) h n κ=κ (.sl n 0 a b true 1) (Af n h (some (.c (.b b 0) false none))) n.up := by
  show br (Nat.ble (Nat.succ a) (Hk k)) (br (Nat.ble (Nat.succ b) (Hk j)) (br (Nat.ble a b) (br (Nat.ble (Nat.mul 1 b) 281474976710656) (E4 h n (.c (.b b 0) false none) fun h' n' => GJ zero fun esz => κ (.sl n 0 a b true esz) h' n') _) _) _) _=_
  rw [Ab.2 ha, Ac, Ab.2 hb2, Ac, Ab.2 hab, Ac, Ab.2 (by show 1*b≤_; omega), Ac, EA hn, Df, hz]
theorem Jh {p:K4} {h:Heap} {cs:Cs} {s:Bool} {pr:Option K4} (hp:A9 p h=some (.c cs s pr)) (κ:Cs->Bool->Option K4->R):Hl p h κ=κ cs s pr := by
  unfold Hl; rw [Ce, hp]
theorem XZ {p:K4} {h:Heap} {es:List (V×V)} {bs:List Nat} {c:Nat} (hp:A9 p h=some (.m es bs c)) (κ:List (V×V)->List Nat->Nat->R):Mo p h κ=κ es bs c := by
  unfold Mo; rw [Ce, hp]
theorem R6:∀ {off:Nat} {xs:List V} {v:V} {κ:List V->R}, off<xs.length->BP off xs v κ=κ (xs.set off v)
  | 0, [], v, κ, h => by simp at h
  | 0, x::xs, v, κ, h => rfl
  | off+1, [], v, κ, h => by simp at h
  | off+1, x::xs, v, κ, h => R6 (off := off) (xs := xs) (v := v) (κ := fun zs => κ (x::zs)) (by simpa using h)
/-- One cell of a struct. -/
theorem YP {p:K4} {h:Heap} {xs:List V} {off:Nat} (hp:A9 p h=some (.c (.l xs) false none)) (ho:off<xs.length) (v:V) (κ:Heap->R):J5 h p off v κ=κ (Af p h (some (.c (.l (xs.set off v)) false none))) := by
  rw [J5, Js, Jh hp]
  show BP off xs v (fun zs => GP none h fun h => EE p h (some (.c (.l zs) false none)) κ)=_
  rw [R6 ho]
  exact AN _ _ _ _
theorem HA.setS_setS (d:D) (p:HA) (x y:Cf):HA.setS d (HA.setS d p x) y=HA.setS d p y := by cases d <;> cases p <;> rfl
theorem HB.setS_setS (d:D) (p:HB) (x y:HA):HB.setS d (HB.setS d p x) y=HB.setS d p y := by cases d <;> cases p <;> rfl
theorem HC.setS_setS (d:D) (p:HC) (x y:HB):HC.setS d (HC.setS d p x) y=HC.setS d p y := by cases d <;> cases p <;> rfl
theorem Heap.setS_setS (d:D) (p:Heap) (x y:HC):Heap.setS d (Heap.setS d p x) y=Heap.setS d p y := by cases d <;> cases p <;> rfl
theorem MP (p:K4) (h:Heap) (x y:Cf):Af p (Af p h x) y=Af p h y := by
  cases p
  simp only [Af, EE, Heap.setK_eq, HC.setK_eq, HB.setK_eq, HA.setK_eq, Heap.selK_eq, HC.selK_eq, HB.selK_eq, id, Heap.sel_setS_same, HC.sel_setS_same, HB.sel_setS_same, Heap.setS_setS, HC.setS_setS, HB.setS_setS, HA.setS_setS]
/-- A store of one cell to a struct. -/
def Ta (o:Cf) (h:Heap) (p:K4) (off:Nat) (v:V) (κ:Heap->R):R :=
  match o with
  | some (.c (.l xs) false none) => bif Nat.ble (off+1) xs.length then κ (Af p h (some (.c (.l (xs.set off v)) false none))) else J5 h p off v κ
  | _ => J5 h p off v κ
theorem I4 (h:Heap) (p:K4) (off:Nat) (v:V) (κ:Heap->R):J5 h p off v κ=Ta (A9 p h) h p off v κ := by
  unfold Ta
  split
  · rename_i xs hp
    cases hb:Nat.ble (off+1) xs.length with
    | true => exact YP hp (Ab.1 hb) v κ
    | false => rfl
  · rfl
theorem Xq (xs:List V) (h:Heap) (p:K4) (off:Nat) (v:V) (κ:Heap->R):Ta (some (.c (.l xs) false none)) h p off v κ=bif Nat.ble (off+1) xs.length then κ (Af p h (some (.c (.l (xs.set off v)) false none))) else J5 h p off v κ := id rfl
theorem UQ (p:K4) (off:Nat) (h:Heap) (k:IntKind) (r:Nat) (κ:Heap->R):Bt (.ptr p off) (.int k r) h κ=Ta (A9 p h) h p off (.int k r) κ := I4 _ _ _ _ _
theorem QS (p:K4) (off:Nat) (h:Heap) (b:Bool) (κ:Heap->R):Bt (.ptr p off) (.bool b) h κ=Ta (A9 p h) h p off (.bool b) κ := I4 _ _ _ _ _
theorem U9 (p:K4) (off:Nat) (h:Heap) (q:K4) (r:Nat) (κ:Heap->R):Bt (.ptr p off) (.ptr q r) h κ=Ta (A9 p h) h p off (.ptr q r) κ := I4 _ _ _ _ _
theorem TO (p:K4) (off:Nat) (h:Heap) (q:K4) (κ:Heap->R):Bt (.ptr p off) (.map q) h κ=Ta (A9 p h) h p off (.map q) κ := I4 _ _ _ _ _
theorem O7 (p:K4) (off:Nat) (h:Heap) (w:Nl) (κ:Heap->R):Bt (.ptr p off) (.nil w) h κ=Ta (A9 p h) h p off (.nil w) κ := I4 _ _ _ _ _
theorem Ra (p:K4) (off:Nat) (h:Heap) (q:K4) (a b c:Nat) (e:Bool) (z:Nat) (κ:Heap->R):Bt (.ptr p off) (.sl q a b c e z) h κ=Ta (A9 p h) h p off (.sl q a b c e z) κ := I4 _ _ _ _ _
theorem Vf (p:K4) (off:Nat) (h:Heap) (n c:Nat) (κ:Heap->R):Bt (.ptr p off) (.str n c) h κ=Ta (A9 p h) h p off (.str n c) κ := I4 _ _ _ _ _
theorem Tw (neg:Bool) (p:K4) (o:Nat) (κ:V->R):ET neg (.rf .ptr) (.ptr p o) (.nil .ptr) κ=κ (.bool neg) := by cases neg <;> rfl
theorem TT (neg:Bool) (w:Nl) (κ:V->R):ET neg (.rf w) (.nil w) (.nil w) κ=κ (.bool (!neg)) := by cases neg <;> cases w <;> rfl
theorem PQ (neg:Bool) (p:K4) (a b c:Nat) (e:Bool) (z:Nat) (κ:V->R):ET neg (.rf .sl) (.sl p a b c e z) (.nil .sl) κ=κ (.bool neg) := by cases neg <;> rfl
theorem Q7 (neg:Bool) (n c:Nat) (κ:V->R):ET neg (.rf .sl) (.oth (.rb n c)) (.nil .sl) κ=κ (.bool neg) := by cases neg <;> rfl
theorem QO {a b:Nat} (ha:a<18446744073709551616) (hb:b<18446744073709551616):(AQ (Hk .i64) (Mk .i64) a+1≤AQ (Hk .i64) (Mk .i64) b ↔ DY .i64 a b=true)∧(DY .i64 a b=false->AQ (Hk .i64) (Mk .i64) b≤AQ (Hk .i64) (Mk .i64) a) := by
  have h1:∀ x:Nat, x<18446744073709551616->(Nat.ble (Hk .i64) x=true∧9223372036854775808≤x∧AQ (Hk .i64) (Mk .i64) x=x - 9223372036854775808)∨(Nat.ble (Hk .i64) x=false∧x<9223372036854775808∧AQ (Hk .i64) (Mk .i64) x=x+9223372036854775808) := fun x hx => by
    unfold AQ
    rcases Nat.lt_or_ge x 9223372036854775808 with h | h
    · exact .inr ⟨AG h, h, by rw [AG (show x<Hk .i64 from h), Ak]; rfl⟩
    · exact .inl ⟨Ab.2 h, h, by rw [Ab.2 (show Hk .i64≤x from h), Ac]; rfl⟩
  have e:DY .i64 a b=br (Nat.ble (Hk .i64) a) (br (Nat.ble (Hk .i64) b) (Nat.ble (Nat.succ a) b) true) (br (Nat.ble (Hk .i64) b) false (Nat.ble (Nat.succ a) b)) := id rfl
  rw [e]
  have h2 := h1 a ha; have h3 := h1 b hb
  clear h1 e
  generalize AQ (Hk .i64) (Mk .i64) a=ka at *
  generalize AQ (Hk .i64) (Mk .i64) b=kb at *
  rcases h2 with ⟨a1, a2, a3⟩ | ⟨a1, a2, a3⟩ <;> rcases h3 with ⟨b1, b2, b3⟩ | ⟨b1, b2, b3⟩ <;> rw [a1, b1] <;> simp only [Ac, Ak, CD, decide_eq_true_eq, decide_eq_false_iff_not, Bool.true_eq_false, Bool.false_eq_true, iff_false, iff_true, Nat.succ_eq_add_one, false_implies, and_true, true_implies] <;> omega
theorem RD {a b:Nat} (ha:a<18446744073709551616) (hb:b<18446744073709551616) (κ:V->R):N7 (.int .i64 a) (.int .i64 b) κ=κ (.int .i64 (bif DY .i64 a b then b else a)) := by
  have on:∀ x, CI (Hk .i64) x x=true := fun x => by
    unfold CI
    rcases Nat.lt_or_ge x (Hk .i64) with h | h
    · rw [Ab.2 h, Ac]
    · rw [Ab.2 h]; cases Nat.ble (Nat.succ x) (Hk .i64) <;> rfl
  show br (AV .i64 .i64) (br (CI (Hk .i64) a a) (br (CI (Hk .i64) b b) (Vw (AQ (Hk .i64) (Mk .i64) a) (AQ (Hk .i64) (Mk .i64) a) (AQ (Hk .i64) (Mk .i64) b) (AQ (Hk .i64) (Mk .i64) b) (κ (.int .i64 b)) (κ (.int .i64 a))) (.fail "")) (.fail "")) (.fail "")=_
  rw [Az.2 rfl, Ac, on, Ac, on, Ac]
  unfold Vw
  obtain ⟨k1, k2⟩ := QO ha hb
  cases hl:DY .i64 a b with
  | true => rw [Ab.2 (k1.2 hl), Ac]; rfl
  | false =>
    have:¬ (AQ (Hk .i64) (Mk .i64) a+1≤AQ (Hk .i64) (Mk .i64) b) := fun h => by rw [k1.1 h] at hl; cases hl
    rw [AG (by show _<_; omega), Ak, Ab.2 (k2 hl), Ac]; rfl
theorem TY {a b:Nat} (ha:a<18446744073709551616) (hb:b<18446744073709551616) (κ:V->R):L5 (.int .i64 a) (.int .i64 b) κ=κ (.int .i64 (bif DY .i64 b a then b else a)) := by
  have on:∀ x, CI (Hk .i64) x x=true := fun x => by
    unfold CI
    rcases Nat.lt_or_ge x (Hk .i64) with h | h
    · rw [Ab.2 h, Ac]
    · rw [Ab.2 h]; cases Nat.ble (Nat.succ x) (Hk .i64) <;> rfl
  show br (AV .i64 .i64) (br (CI (Hk .i64) a a) (br (CI (Hk .i64) b b) (Vw (AQ (Hk .i64) (Mk .i64) b) (AQ (Hk .i64) (Mk .i64) b) (AQ (Hk .i64) (Mk .i64) a) (AQ (Hk .i64) (Mk .i64) a) (κ (.int .i64 b)) (κ (.int .i64 a))) (.fail "")) (.fail "")) (.fail "")=_
  rw [Az.2 rfl, Ac, on, Ac, on, Ac]
  unfold Vw
  obtain ⟨k1, k2⟩ := QO hb ha
  cases hl:DY .i64 b a with
  | true => rw [Ab.2 (k1.2 hl), Ac]; rfl
  | false =>
    have:¬ (AQ (Hk .i64) (Mk .i64) b+1≤AQ (Hk .i64) (Mk .i64) a) := fun h => by rw [k1.1 h] at hl; cases hl
    rw [AG (by show _<_; omega), Ak, Ab.2 (k2 hl), Ac]; rfl
theorem Vs {a b:Nat} (ha:a<9223372036854775808) (hb:b<9223372036854775808):DY .i64 a b=decide (a<b) := Tu ha hb
theorem Ve {a b:Nat} (ha:9223372036854775808≤a) (hb:b<9223372036854775808):DY .i64 a b=true := by
  unfold DY; rw [Ab.2 (show Hk .i64≤a from ha), AG (show b<Hk .i64 from hb)]; rfl
theorem Ue {a b:Nat} (ha:a<9223372036854775808) (hb:9223372036854775808≤b):DY .i64 a b=false := by
  unfold DY; rw [Ab.2 (show Hk .i64≤b from hb), AG (show a<Hk .i64 from ha)]; rfl
theorem Xr {a b:Nat} (ha:9223372036854775808≤a) (hb:9223372036854775808≤b):DY .i64 a b=decide (a<b) := by
  unfold DY; rw [Ab.2 (show Hk .i64≤a from ha), Ab.2 (show Hk .i64≤b from hb), Ac, Ac, CD]; exact decide_eq_decide.2 Nat.succ_le_iff
theorem ltu {k:IntKind} {a b:Nat} (hk:Hk k=Mk k) (ha:a<Mk k) (hb:b<Mk k):DY k a b=decide (a<b) := Tu (by rw [hk]; exact ha) (by rw [hk]; exact hb)
theorem Xx {a b:Nat} (ha:a<18446744073709551616) (hb:b<18446744073709551616):DY .u64 a b=decide (a<b) := ltu rfl ha hb
theorem Li {a b:Nat} (h:b≤a) (ha:a<18446744073709551616):Ib .i64 a b=a - b := by
  unfold Ib
  show (a+(18446744073709551616 - b)) % 18446744073709551616=_
  omega
theorem Rl:Ib .i64 0 1=18446744073709551615 := by decide
theorem QE:Ib .i64 18446744073709551615 1=18446744073709551614 := by decide
end Go.Ev

namespace Go.Ev
set_option linter.unusedVariables false
/-- A text, bytes in memory, bytes of memory that stays. -/
def sb (l:List UInt8):V := .str l.length (Ar l)
def cb (l:List UInt8):Cs := .b l.length (Ar l)
def GI (l:List UInt8):V := .oth (.rb l.length (Ar l))
theorem G3 (l:List UInt8) (i m:Nat):lo (sh (Ar l) i) m=Ar ((l.drop i).take m) := by
  rw [Du, E0, IR, Ig]
theorem UH (l:List UInt8):lo (Ar l) l.length=Ar l := by
  rw [Du, Ig, List.take_length]
theorem NE (a b:List UInt8):Ar a+up (Ar b) a.length=Ar (a++b) := by
  rw [Rh, He]
theorem CO {l:List UInt8} {i m:Nat} (h:i+m≤l.length):((l.drop i).take m).length=m := by
  rw [List.length_take, List.length_drop]; omega
theorem Gc {l:List UInt8} {i m:Nat} (h:i+m≤l.length) (κ:Cs->R):AZ (cb l) i m κ=κ (cb ((l.drop i).take m)) := by
  show br (Nat.ble (Nat.add i m) l.length) (Aa (lo (sh (Ar l) i) m) fun r => κ (.b m r)) _=_
  rw [show Nat.ble (Nat.add i m) l.length=true from Ab.2 h, Ac, A8, G3]
  unfold cb; rw [CO h]
theorem We (a b:List UInt8) (κ:Cs->R):Ss (cb a) (cb b) κ=κ (cb (a++b)) := by
  show Aa (Nat.add a.length b.length) (fun l => Aa (Nat.add (lo (Ar a) a.length) (up (Ar b) a.length)) fun r => κ (.b l r))=_
  rw [A8, A8, UH]
  show κ (.b (a.length+b.length) (Ar a+up (Ar b) a.length))=_
  rw [NE]; unfold cb; rw [List.length_append]
theorem Wi {a b:List UInt8} {i:Nat} (h:i+b.length≤a.length) (κ:Cs->R):NB (cb a) i (cb b) κ=κ (cb (a.take i++(b++a.drop (i+b.length)))) := by
  show br (Nat.ble (Nat.add i b.length) a.length) (Aa (Nat.add (lo (Ar a) i) (up (Nat.add (lo (Ar b) b.length) (up (sh (Ar a) (Nat.add i b.length)) b.length)) i)) fun r => κ (.b a.length r)) _=_
  rw [show Nat.ble (Nat.add i b.length) a.length=true from Ab.2 h, Ac, A8, UH]
  have e1:sh (Ar a) (Nat.add i b.length)=Ar (a.drop (i+b.length)) := by rw [E0, IR]; rfl
  have e2:Nat.add (Ar b) (up (sh (Ar a) (Nat.add i b.length)) b.length)=Ar (b++a.drop (i+b.length)) := by rw [e1]; exact NE _ _
  have e3:lo (Ar a) i=Ar (a.take i) := by rw [Du, Ig]
  have e4:i=(a.take i).length := by rw [List.length_take]; omega
  rw [e2, e3]
  have e5:Nat.add (Ar (a.take i)) (up (Ar (b++a.drop (i+b.length))) i)=Ar (a.take i++(b++a.drop (i+b.length))) := by
    have := NE (a.take i) (b++a.drop (i+b.length))
    rw [←e4] at this; exact this
  rw [e5]
  unfold cb
  have e6:(a.take i++(b++a.drop (i+b.length))).length=a.length := by simp only [List.length_append, List.length_take, List.length_drop]; omega
  rw [e6]
theorem TG (a b:List UInt8):DJ a.length (Ar a) b.length (Ar b)=decide (a=b) := by
  unfold DJ
  rw [CH, CH]
  by_cases h:a=b
  · subst h; simp
  · rw [decide_eq_false h]
    by_cases hl:a.length=b.length
    · rw [decide_eq_true hl, Bool.true_and, decide_eq_false (fun he => h (J0 hl he))]
    · rw [decide_eq_false hl]; rfl
theorem Vi {p:K4} {h:Heap} {l:List UInt8} {s:Bool} {pr:Option K4} {off len cap:Nat} {ex:Bool} (hp:A9 p h=some (.c (cb l) s pr)) (hl:off+len≤l.length) (κ:V->R):GE (.sl p off len cap ex 1) h κ=κ (sb ((l.drop off).take len)) := by
  show br (Nat.beq 1 1) (LC p h fun cs _ _ => AZ cs off len fun y => @Cs.rec (fun _ => R) (fun l => CK l (fun m c => κ (.str m c)) (.fail "")) (fun m c => κ (.str m c)) y) (.fail "")=_
  rw [Nat.beq_refl, Ac, Ei, Jh hp, Gc hl]; rfl
theorem Yo {p:K4} {h:Heap} {l:List UInt8} {s:Bool} {pr:Option K4} {off len cap:Nat} {ex:Bool} (hp:A9 p h=some (.c (cb l) s pr)) (hl:off+len≤l.length) (κ:Nat->Cs->R):H5 1 (.sl p off len cap ex 1) h κ=κ len (cb ((l.drop off).take len)) := by
  show br (Nat.beq 1 1) (Hl p h fun cs _ _ => Aa (Nat.mul len 1) fun m => AZ cs off m fun y => κ len y) (.fail "")=_
  rw [Nat.beq_refl, Ac, Jh hp, A8, show Nat.mul len 1=len from Nat.mul_one len, Gc hl]
theorem RQ {m:Nat} (hm:0<m) (hm2:m≤1000000000000) {n:K4} (hn:n.toN<65535) (y:Cs) (h:Heap) (κ:KV):Ck 1 1 (.nil .sl) m y h n κ=κ (.sl n 0 m m false 1) (Af n h (some (.c y false none))) n.up := by
  show br (Nat.beq m 0) (κ (.nil .sl) h n) (br (Nat.ble (Nat.mul (Nat.add (Nat.mul 4 m) 4096) 1) 281474976710656) (E4 h n (.c y false none) fun h' n' => κ (.sl n 0 m m false 1) h' n') (.fail ""))=_
  rw [CH, decide_eq_false (by omega), Ak, show Nat.ble (Nat.mul (Nat.add (Nat.mul 4 m) 4096) 1) 281474976710656=true from Ab.2 (by show (4*m+4096)*1≤_; omega), Ac, EA hn]
theorem OF {x:V} (hx:x = .nil .sl ∨ ∃ p off len cap ex, x = .sl p off len cap ex 1) (y:Cs) (h:Heap) (n:K4) (κ:KV):Ck 1 1 x 0 y h n κ=κ x h n := by
  rcases hx with rfl | ⟨p, off, len, cap, ex, rfl⟩ <;> rfl
/-- Bytes of one's own, full: they grow, and lie anew. -/
theorem GQ {p:K4} {h:Heap} {a b:List UInt8} {pr:Option K4} (hp:A9 p h=some (.c (cb a) false pr)) {ex:Bool} (hb:0<b.length) (hm2:a.length+b.length≤1000000000000) {n:K4} (hn:n.toN<65535) (κ:KV) :
    Ck 1 1 (.sl p 0 a.length a.length ex 1) b.length (cb b) h n κ=if ex then κ (.sl n 0 (a++b).length (a++b).length false 1) (Af n h (some (.c (cb (a++b)) false none))) n.up
      else κ (.sl n 0 (a++b).length (a++b).length false 1) (Af n (Af p (F4 pr h) (some (.c (cb a) true none))) (some (.c (cb (a++b)) false (some p)))) n.up := by
  show br (Nat.beq 1 1) (br (Nat.beq b.length 0) (κ (.sl p 0 a.length a.length ex 1) h n) (Aa (Nat.add a.length b.length) fun need => br (Nat.ble need a.length) (Aa (Nat.add 0 (Nat.mul a.length 1)) fun j => Fn h p j (cb b) fun h' => κ (.sl p 0 need a.length ex 1) h' n)
    (br (Nat.ble (Nat.mul (Nat.add (Nat.mul 4 need) 4096) 1) 281474976710656)
      (LC p h fun cs sup prev => Aa (Nat.mul a.length 1) fun l => AZ cs 0 l fun x => Ss x (cb b) fun z =>
        br ex (E4 h n (.c z false none) fun h' n' => κ (.sl n 0 need need false 1) h' n')
          (br sup (.fail "") (Aa (Nat.add 0 l) fun j => AZ cs 0 j fun old => GP prev h fun h => EE p h (some (.c old true none)) fun h =>
            E4 h n (.c z false (some p)) fun h' n' => κ (.sl n 0 need need false 1) h' n'))) (.fail "")))) (.fail "")=_
  have e1:∀ l:List UInt8, (l.drop 0).take l.length=l := fun l => by rw [List.drop_zero, List.take_length]
  have e3:Nat.ble (Nat.mul (Nat.add (Nat.mul 4 (Nat.add a.length b.length)) 4096) 1) 281474976710656=true := Ab.2 (by show (4*(a.length+b.length)+4096)*1≤_; omega)
  have e4:Nat.ble (Nat.add a.length b.length) a.length=false := AG (by show a.length<a.length+b.length; omega)
  rw [Nat.beq_refl, Ac, CH, decide_eq_false (by omega), Ak, A8, e4, Ak, e3, Ac, Ei, Jh hp, A8, show Nat.mul a.length 1=a.length from Nat.mul_one _, Gc (by omega), e1, We]
  have e2:Nat.add a.length b.length=(a++b).length := by rw [List.length_append]; rfl
  rw [e2]
  cases ex with
  | true => rw [Ac, EA hn]; rfl
  | false =>
    rw [Ak, Ak, A8, show Nat.add 0 a.length=a.length from Nat.zero_add _, Gc (by omega), e1, Ge, AN, EA hn]; rfl
end Go.Ev

namespace Go.Ev
set_option linter.unusedVariables false
theorem X4 (c:Gl) (en:List V->(S->R)->R) (bo:Gl->S->Heap->K4->R) (re:S->Heap->K4->R) (args:List V) (h:Heap) (n:K4):NZ c (some (.code en bo re)) args h n=en args fun t => Ko (bo c t h n) re := id rfl
theorem YZ (v:V) (l:List V) (k:V->List V->R):LY (v::l) k=k v l := id rfl
theorem Z2 (k:R):Tb [] k=k := id rfl
theorem Vp (t:S) (h:Heap) (n:K4) (res:S->Heap->K4->R):Ko (.ok .ret t h n) res=res t h n := id rfl
theorem Vu (t:S) (h:Heap) (n:K4) (res:S->Heap->K4->R):Ko (.ok .nrm t h n) res=res t h n := id rfl
theorem TD (b:Bool) (x y:R) (res:S->Heap->K4->R):Ko (bif b then x else y) res=bif b then Ko x res else Ko y res := by cases b <;> rfl
theorem Ab1 (t:S) (h:Heap) (n:K4):rT t h n = .ok .ret t h n := id rfl
theorem Aa9 (t:S) (h:Heap) (n:K4):nR t h n = .ok .nrm t h n := id rfl
theorem Zn (r:Nat):iI r = .int .i64 r := id rfl
theorem Aap (v:V) (κ:V->R):Bl (AW v) κ=κ v := id rfl
end Go.Ev

namespace Go.Ev
set_option linter.unusedVariables false
def VJ (o:Cf) (κ:List (V×V)->List Nat->Nat->R):R :=
  @Option.rec Ob (fun _ => R) (.fail "") (fun o => @Ob.rec (fun _ => R) (C1 "") κ (F5 "") (.fail "") (Aw "") o) o
theorem Up (es:List (V×V)) (bs:List Nat) (c:Nat) (κ:List (V×V)->List Nat->Nat->R):VJ (some (.m es bs c)) κ=κ es bs c := id rfl
theorem JC (p:K4) (h:Heap) (κ:List (V×V)->List Nat->Nat->R):Mo p h κ=VJ (A9 p h) κ := by unfold Mo; rw [Ce]; rfl
theorem Aac (p:K4) (a c:Nat) (w:V) (h:Heap) (κ:Heap->R):NL (.sc .s) (.map p) (.str a c) w h κ=VJ (A9 p h) fun es bs k => EG (.sc .s) (.str a c) w es fun es' => Tc es' bs k fun bs' k' => κ (Af p h (some (.m es' bs' k'))) := by
  show Ow p h (fun es bs c' k => EG (.sc .s) (.str a c) w es fun es => Tc es bs c' fun bs c => k es bs c) κ=_
  rw [IF, JC]
  simp only [AN]
theorem Zg (z:V) (p:K4) (a c:Nat) (h:Heap) (κ:V->R):IA (.sc .s) z false (.map p) (.str a c) h κ=VJ (A9 p h) fun es _ _ => EI (.sc .s) (.str a c) es κ (κ z) := by
  show R8 p h (fun es _ _ => EI (.sc .s) (.str a c) es (fun r => κ r) (κ z))=_
  rw [Fc, JC]
theorem Xe (p:K4) (a c:Nat) (h:Heap) (κ:Heap->R):P1 (.sc .s) (.map p) (.str a c) h κ=VJ (A9 p h) fun es bs k => HF (.sc .s) (.str a c) es fun es2 => HG (.sc .s) (.str a c) es bs fun bs' => κ (Af p h (some (.m es2 bs' k))) := by
  show Ow p h (fun es bs c' k => HF (.sc .s) (.str a c) es fun es2 => HG (.sc .s) (.str a c) es bs fun bs => k es2 bs c') κ=_
  rw [IF, JC]
  simp only [AN]
theorem YA (es:List (V×V)) (κ:Nat->R):Tf es κ=κ es.length := by
  induction es generalizing κ with
  | nil => rfl
  | cons e es ih => exact (ih fun n => Aa (Nat.succ n) κ).trans (A8 _ _)
theorem CV {m:Nat} (h:m<9223372036854775808) (κ:V->R):Dr m κ=κ (.int .i64 m) := by
  show br (Nat.ble (Nat.succ m) 9223372036854775808) (κ (.int .i64 m)) (.fail "")=_
  rw [show Nat.ble (Nat.succ m) 9223372036854775808=true from Ab.2 h, Ac]
theorem WW (p:K4) (h:Heap) (κ:V->R):Rs (.map p) h κ=VJ (A9 p h) fun es _ _ => Dr es.length κ := by
  show R8 p h (fun es _ _ => Tf es fun m => Dr m κ)=_
  rw [Fc, JC]
  simp only [YA]
theorem Mu (k:V) (κf:V->R) (κn:R):EI (.sc .s) k [] κf κn=κn := id rfl
theorem ME (a c m d:Nat) (w:V) (es:List (V×V)) (κf:V->R) (κn:R):EI (.sc .s) (.str a c) ((.str m d, w)::es) κf κn=bif DJ a c m d then κf w else EI (.sc .s) (.str a c) es κf κn := by
  show BX (DJ a c m d) (fun r => br r (κf w) (EI (.sc .s) (.str a c) es κf κn))=_
  rw [AY]; cases DJ a c m d <;> rfl
theorem OP (k v:V) (κ:List (V×V)->R):EG (.sc .s) k v [] κ=κ [(k, v)] := id rfl
theorem ON (a c m d:Nat) (v w:V) (es:List (V×V)) (κ:List (V×V)->R):EG (.sc .s) (.str a c) v ((.str m d, w)::es) κ=bif DJ a c m d then κ ((.str a c, v)::es) else EG (.sc .s) (.str a c) v es fun l => κ ((.str m d, w)::l) := by
  show BX (DJ a c m d) (fun r => br r (κ ((.str a c, v)::es)) (EG (.sc .s) (.str a c) v es fun l => κ ((.str m d, w)::l)))=_
  rw [AY]; cases DJ a c m d <;> rfl
theorem OC (k:V) (κ:List (V×V)->R):HF (.sc .s) k [] κ=κ [] := id rfl
theorem OO (a c m d:Nat) (w:V) (es:List (V×V)) (κ:List (V×V)->R):HF (.sc .s) (.str a c) ((.str m d, w)::es) κ=bif DJ a c m d then κ es else HF (.sc .s) (.str a c) es fun l => κ ((.str m d, w)::l) := by
  show BX (DJ a c m d) (fun r => br r (κ es) (HF (.sc .s) (.str a c) es fun l => κ ((.str m d, w)::l)))=_
  rw [AY]; cases DJ a c m d <;> rfl
theorem Pt (k:V) (bs:List Nat) (κ:List Nat->R):HG (.sc .s) k [] bs κ=κ bs := id rfl
theorem OB (a c m d b:Nat) (w:V) (es:List (V×V)) (bs:List Nat) (κ:List Nat->R):HG (.sc .s) (.str a c) ((.str m d, w)::es) (b::bs) κ=bif DJ a c m d then κ bs else HG (.sc .s) (.str a c) es bs fun l => κ (b::l) := by
  show BX (DJ a c m d) (fun r => br r (κ bs) (HG (.sc .s) (.str a c) es bs fun l => κ (b::l)))=_
  rw [AY]; cases DJ a c m d <;> rfl
theorem Lo (a c m d:Nat):DJ a c m d=(decide (a=m)&&decide (c=d)) := by unfold DJ; rw [CH, CH]
theorem P7:∀ (es:List (V×V)) (bs:List Nat), Gv es bs=decide (es.length=bs.length)
  | [], [] => rfl
  | [], _::_ => rfl
  | _::_, [] => rfl
  | e::es, b::bs => by
    have := P7 es bs
    show Gv es bs=_
    rw [this]; simp
theorem Wg (bs:List Nat) (c:Nat) (κ:List Nat->R):Ry bs c κ=κ (bs++[c]) := by
  induction bs generalizing κ with
  | nil => rfl
  | cons b bs ih => exact ih fun l => κ (b::l)
theorem WI (es:List (V×V)) (bs:List Nat) (c:Nat) (κ:List Nat->Nat->R):Tc es bs c κ=bif decide (es.length=bs.length) then κ bs c else κ (bs++[c]) (c+1) := by
  unfold Tc
  rw [P7]
  cases decide (es.length=bs.length) with
  | true => rfl
  | false =>
    rw [Ak, Wg, A8]; rfl
theorem TB (x v:V) (xs:List V) (κ:List V->R):BP 0 (x::xs) v κ=κ (v::xs) := id rfl
theorem Tg (m:Nat) (x v:V) (xs:List V) (κ:List V->R):BP (m+1) (x::xs) v κ=BP m xs v fun zs => κ (x::zs) := id rfl
theorem Th (o:Nat) (k:IntKind) (r:Nat) (z:List V) (κ:List V->R):AD o (.int k r) z κ=BP o z (.int k r) κ := id rfl
theorem Rw (o:Nat) (b:Bool) (z:List V) (κ:List V->R):AD o (.bool b) z κ=BP o z (.bool b) κ := id rfl
theorem TZ (o:Nat) (p:K4) (r:Nat) (z:List V) (κ:List V->R):AD o (.ptr p r) z κ=BP o z (.ptr p r) κ := id rfl
theorem TN (o:Nat) (p:K4) (z:List V) (κ:List V->R):AD o (.map p) z κ=BP o z (.map p) κ := id rfl
theorem TF (o:Nat) (a c:Nat) (z:List V) (κ:List V->R):AD o (.str a c) z κ=BP o z (.str a c) κ := id rfl
theorem KE (o:Nat) (w:Nl) (z:List V) (κ:List V->R):AD o (.nil w) z κ=BP o z (.nil w) κ := id rfl
theorem Pn (o:Nat) (q:K4) (a b c:Nat) (e:Bool) (x:Nat) (z:List V) (κ:List V->R):AD o (.sl q a b c e x) z κ=BP o z (.sl q a b c e x) κ := id rfl
def Y5 (o:Cf) (m off:Nat) (κ:V->R):R := @Option.rec Ob (fun _ => R) (.fail "") (fun o => @Ob.rec (fun _ => R) (fun cs _ _ => AZ cs off m fun y => ED y fun l => κ (.agg l)) (C1 "") (F5 "") (.fail "") (Aw "") o) o
theorem Xm (m:Nat) (p:K4) (off:Nat) (h:Heap) (κ:V->R):Lp m (.ptr p off) h κ=Y5 (A9 p h) m off κ := by
  show LC p h (fun cs _ _ => AZ cs off m fun y => ED y fun l => κ (.agg l))=_
  rw [Ei]; unfold Hl Y5; rw [Ce]
theorem K4.nx16_all (p:K4) (h:p.toN<65520):∃ q:K4, q.toN=(p.toN / 16+1)*16∧q.d = .d0 ∧ ∀ k:K4->R, p.nx16 k=k q := by
  obtain ⟨a, b, c, d⟩ := p
  simp only [K4.toN] at h
  have hd0:D.d0.toN=0 := rfl
  have ha := a.toN_lt; have hb := b.toN_lt; have hc := c.toN_lt; have hd := d.toN_lt
  rcases c.nx_all with ⟨c1, c2⟩ | ⟨e, c1, c2⟩
  · rcases b.nx_all with ⟨b1, b2⟩ | ⟨e, b1, b2⟩
    · rcases a.nx_all with ⟨a1, a2⟩ | ⟨e, a1, a2⟩
      · omega
      · exact ⟨⟨e, .d0, .d0, .d0⟩, by simp only [K4.toN, hd0]; omega, rfl, fun k => by show c.nx _ (b.nx _ (a.nx _ _))=_; rw [c2, b2, a2]⟩
    · exact ⟨⟨a, e, .d0, .d0⟩, by simp only [K4.toN, hd0]; omega, rfl, fun k => by show c.nx _ (b.nx _ _)=_; rw [c2, b2]⟩
  · exact ⟨⟨a, b, e, .d0⟩, by simp only [K4.toN, hd0]; omega, rfl, fun k => by show c.nx _ _=_; rw [c2]⟩
open Classical in
def K4.up16 (p:K4):K4 := if h:p.toN<65520 then Classical.choose (p.nx16_all h) else p
theorem K4.up16_toN {p:K4} (h:p.toN<65520):p.up16.toN=(p.toN / 16+1)*16 := by
  unfold K4.up16; rw [dif_pos h]; exact (Classical.choose_spec (p.nx16_all h)).1
theorem K4.nx16_up {p:K4} (h:p.toN<65520) (k:K4->R):p.nx16 k=k p.up16 := by
  unfold K4.up16; rw [dif_pos h]; exact (Classical.choose_spec (p.nx16_all h)).2.2 k
def K4.pl (p:K4) (j:D):K4 := ⟨p.a, p.b, p.c, j⟩
theorem K4.pl_toN {p:K4} (h:p.toN<65520) (j:D):(p.up16.pl j).toN=(p.toN / 16+1)*16+j.toN := by
  have h1 := K4.up16_toN h
  have h2:p.up16.d = .d0 := by unfold K4.up16; rw [dif_pos h]; exact (Classical.choose_spec (p.nx16_all h)).2.1
  rw [←h1]
  unfold K4.pl
  simp only [K4.toN, h2]
  show _=_+(D.d0.toN)+_
  rw [show D.d0.toN=0 from rfl, Nat.add_zero]
theorem UN {n:K4} (h:n.toN<65000) (κ:K4->K4->R):OI n κ=κ n.up16 n.up16.up16 := by
  show n.nx16 (fun b => b.nx16 fun n => κ b n)=_
  have := K4.up16_toN (p := n) (by omega)
  rw [K4.nx16_up (by omega), K4.nx16_up (by omega)]
/-- What is asked of a place that is to be free. -/
def frO (o:Cf) (κ:R):R := Gi o κ
theorem KU (κ:R):frO none κ=κ := id rfl
theorem Aav (b:K4) (j:D) (h:Heap) (κ:R):Xo b j h κ=frO (A9 (b.pl j) h) κ := by
  show b.at j (fun r => B5 r h fun x => Gi x κ)=_
  rw [K4.at_eq, Ba]; rfl
theorem ZQ (b:K4) (j:D) (h:Heap) (F:K4->R) (κ:V->Heap->R):Zw b j h F κ=frO (A9 (b.pl j) h) (Fq (F (b.pl j)) fun v h _ => κ v h) := by
  show b.at j (fun r => B5 r h fun x => Gi x (Fq (F r) fun v h _ => κ v h))=_
  rw [K4.at_eq, Ba]; rfl
theorem Am {p q:K4} (h:q.toN<p.toN) (hp:Heap) (o:Option Ob):A9 q (Af p hp o)=A9 q hp := A6 _ _ fun e => by subst e; omega
theorem AB {p q:K4} (h:p.toN<q.toN) (hp:Heap) (o:Option Ob):A9 q (Af p hp o)=A9 q hp := A6 _ _ fun e => by subst e; omega
theorem Rg (v:V) (h:Heap) (n:K4) (κ:KV):CS (.rv v h n) κ=κ v h n := id rfl
theorem Xc (p:K4) {h:Heap} {n:K4} (hn:n.toN<65535) (κ:KV):T5 (.map p) h n κ=VJ (A9 p h) fun _ _ c => κ (.ptr n 0) (Af n h (some (.it p c [] c))) n.up := by
  show R8 p h (fun _ _ c => E4 h n (.it p c [] c) fun h' n' => κ (.ptr n 0) h' n')=_
  rw [Fc, JC]
  simp only [EA hn]
def itO (o:Cf) (κ0:R) (κ:K4->Nat->List Nat->Nat->R):R := @Option.rec Ob (fun _ => R) (.fail "") (fun o => @Ob.rec (fun _ => R) (C1 "") (C1 "") κ κ0 (Aw "") o) o
theorem TE (p:K4) (a:Nat) (l:List Nat) (c:Nat) (κ0:R) (κ:K4->Nat->List Nat->Nat->R):itO (some (.it p a l c)) κ0 κ=κ p a l c := id rfl
theorem X9 (q:K4) (h:Heap) (κ0:R) (κ:K4->Nat->List Nat->Nat->R):VT q h κ0 κ=itO (A9 q h) κ0 κ := Ba _ _ _
theorem Xh (q:K4) (h:Heap) (n:K4) (κ:KV):SH (.ptr q 0) h n κ=itO (A9 q h) (κ (.tup [.bool false]) h n) fun p since seen c => VJ (A9 p h) fun es bs clk => br (HO since bs) (br (Nat.ble since c)
    (Gm seen (P3 q p since seen clk h n κ) es bs (κ (.tup [.bool false]) h n)) (.fail "")) (.fail "") := by
  show br (Nat.beq 0 0) (VT q h (κ (.tup [.bool false]) h n) fun p since seen c => R8 p h fun es bs clk => br (HO since bs) (br (Nat.ble since c) (Gm seen (P3 q p since seen clk h n κ) es bs (κ (.tup [.bool false]) h n)) (.fail "")) (.fail "")) (.fail "")=_
  rw [Nat.beq_refl, Ac, X9, Fc]
  simp only [JC]
theorem Ke (seen:List Nat) (leaf:V×V->Nat->R) (bs:List Nat) (none:R):Gm seen leaf [] bs none=none := id rfl
theorem JM (seen:List Nat) (leaf:V×V->Nat->R) (e:V×V) (es:List (V×V)) (b:Nat) (bs:List Nat) (none:R):Gm seen leaf (e::es) (b::bs) none=br (FX b seen) (Gm seen leaf es bs none) (FS seen leaf es bs (leaf e b)) := id rfl
theorem Kl (seen:List Nat) (leaf:V×V->Nat->R) (bs:List Nat) (acc:R):FS seen leaf [] bs acc=acc := id rfl
theorem OD (b:Nat):FX b []=false := id rfl
theorem ML (b x:Nat) (l:List Nat):FX b (x::l)=(decide (x=b) || FX b l) := by
  show br (Nat.beq x b) true (FX b l)=_
  rw [CH]; cases decide (x=b) <;> rfl
theorem MM (s:Nat):HO s []=true := id rfl
theorem Lf (s b:Nat) (bs:List Nat):HO s (b::bs)=(decide (b<s)&&HO s bs) := by
  show br (Nat.ble (Nat.succ b) s) (HO s bs) false=_
  rw [CD]
  cases h:decide (Nat.succ b≤s) with
  | true => rw [decide_eq_true (show b<s from of_decide_eq_true h)]; rfl
  | false => rw [decide_eq_false (show ¬ b<s from of_decide_eq_false h)]; rfl
theorem QG (q p:K4) (since:Nat) (seen:List Nat) (clk:Nat) (h:Heap) (n:K4) (κ:KV) (k x:V) (b:Nat):P3 q p since seen clk h n κ (k, x) b=κ (.tup [.bool true, k, x]) (Af q h (some (.it p since (b::seen) clk))) n := by
  show Bn q h (some (.it p since (b::seen) clk)) (fun h' => κ (.tup [.bool true, k, x]) h' n)=_
  rw [Bs, AN]
theorem W7 (b:Bool) (x y:R):br b x y=bif b then x else y := by cases b <;> rfl
theorem UJ (q:K4) (h:Heap) (n:K4) (κ:KV):Nn (.ptr q 0) h n κ=itO (A9 q h) (.fail "") fun p since seen c => VJ (A9 p h) fun es bs clk => bif decide (clk=c) then (@List.rec Nat (fun _ => R) (.fail "") (fun s _ _ => G0 s es bs fun k x => κ (.tup [k, x]) h n) seen) else .fail "" := by
  show br (Nat.beq 0 0) (VT q h (.fail "") fun p since seen c => R8 p h fun es bs clk => br (Nat.beq clk c) (@List.rec Nat (fun _ => R) (.fail "") (fun s _ _ => G0 s es bs fun k x => κ (.tup [k, x]) h n) seen) (.fail "")) (.fail "")=_
  rw [Nat.beq_refl, Ac, X9, Fc]
  simp only [JC, CH, W7]
theorem L6 (s:Nat) (k x:V) (es:List (V×V)) (b:Nat) (bs:List Nat) (κ:V->V->R):G0 s ((k, x)::es) (b::bs) κ=bif decide (b=s) then κ k x else G0 s es bs κ := by
  show br (Nat.beq b s) (κ k x) (G0 s es bs κ)=_
  rw [CH, W7]
theorem Tm (x:V) (l:List V) (κ:V->R):BT 0 (.tup (x::l)) κ=κ x := id rfl
theorem Vr (x y:V) (l:List V) (κ:V->R):BT 1 (.tup (x::y::l)) κ=κ y := id rfl
theorem Vo (x y z:V) (l:List V) (κ:V->R):BT 2 (.tup (x::y::z::l)) κ=κ z := id rfl
theorem Ze (c:Gl) (f:Nat) (its:List Nat) (rd:Rd) (s:V) (h:Heap) (n:K4) (hits:∀ g κ, g∈its->HJ g its κ=κ) (g:Nat) (caps:List V) (hs:s = .fn g caps) (hg:g∈its) (hn:n.toN<65000) :
    NZ c (some (.ap f its rd)) [.nil .sl, s] h n=CS (c (Bb g) (.oth (.yl n.up)::caps) (Af n.up (Af n h (some (.c (.l [.nil .sl]) false none))) (some (.lp f n))) n.up.up) fun _ h m => B5 n.up h fun o => Wn o (LC n h fun cs _ _ => EP cs 0 fun sv => Bn n h none fun h => Bn n.up h none fun h => .rv sv h m) := by
  subst hs
  have h1 := K4.up_toN (p := n) (by omega)
  show HJ g its (Bn n h (some (.c (.l [.nil .sl]) false none)) fun h => n.nx fun n1 => Bn n1 h (some (.lp f n)) fun h => n1.nx fun n2 =>
      CS (c (Bb g) (.oth (.yl n1)::caps) h n2) fun _ h m =>
        B5 n1 h fun o => Wn o (LC n h fun cs _ _ => EP cs 0 fun sv => Bn n h none fun h => Bn n1 h none fun h => .rv sv h m))=_
  rw [hits g _ hg, Bs, AN, K4.nx_up (by omega), Bs, AN, K4.nx_up (by omega)]
def lpO (o:Cf) (κ:Nat->K4->R):R := @Option.rec Ob (fun _ => R) (.fail "") (fun o => @Ob.rec (fun _ => R) (C1 "") (C1 "") (F5 "") (.fail "") (fun f box => κ f box) o) o
theorem UE (f:Nat) (b:K4) (κ:Nat->K4->R):lpO (some (.lp f b)) κ=κ f b := id rfl
theorem Xb (c:Gl) (p:K4) (x:V) (h:Heap) (n:K4) (κ:KV):S2 c (.oth (.yl p)) [x] h n κ=lpO (A9 p h) fun f box => CS (c (Bb f) [.oth .no, .ptr box 0, x] (Af p h none) n) fun v h n => κ v (Af p h (some (.lp f box))) n := by
  show B5 p h (fun o => @Option.rec Ob (fun _ => R) (.fail "") (fun o => @Ob.rec (fun _ => R) (C1 "") (C1 "") (F5 "") (.fail "")
    (fun f box => Bn p h none fun h => CS (c (Bb f) [.oth .no, .ptr box 0, x] h n) fun v h n => Bn p h (some (.lp f box)) fun h => κ v h n) o) o)=_
  rw [Ba]
  unfold lpO
  simp only [Bs, AN]
theorem XY (c:Gl) (f:Nat) (its:List Nat) (rd:Rd) (b x:V) (h:Heap) (n:K4):NZ c (some (.ap f its rd)) [.oth .no, b, x] h n=rd c b x h n := id rfl
def VX (o:Cf) (off m:Nat) (κ:Cs->R):R := @Option.rec Ob (fun _ => R) (.fail "") (fun o => @Ob.rec (fun _ => R) (fun cs _ _ => AZ cs off m κ) (C1 "") (F5 "") (.fail "") (Aw "") o) o
theorem WL (z eb:Nat) (u:V) (p:K4) (off len cap:Nat) (ex:Bool) (h:Heap) (n:K4) (κ:KV):EK z eb u (.sl p off len cap ex z) h n κ=VX (A9 p h) off (len*z) fun y => Ck z eb u len y h n κ := by
  show br (Nat.beq z z) (Hl p h fun cs _ _ => Aa (Nat.mul len z) fun m => AZ cs off m fun y => Ck z eb u len y h n κ) (.fail "")=_
  rw [Nat.beq_refl, Ac]
  unfold Hl VX
  rw [Ce]
  simp only [A8]; rfl
theorem Uq {z eb m:Nat} (hm:0<m) (hs:(4*m+4096)*eb≤281474976710656) {n:K4} (hn:n.toN<65535) (y:Cs) (h:Heap) (κ:KV):Ck z eb (.nil .sl) m y h n κ=κ (.sl n 0 m m false z) (Af n h (some (.c y false none))) n.up := by
  show br (Nat.beq m 0) (κ (.nil .sl) h n) (br (Nat.ble (Nat.mul (Nat.add (Nat.mul 4 m) 4096) eb) 281474976710656) (E4 h n (.c y false none) fun h' n' => κ (.sl n 0 m m false z) h' n') (.fail ""))=_
  rw [CH, decide_eq_false (by omega), Ak, show Nat.ble (Nat.mul (Nat.add (Nat.mul 4 m) 4096) eb) 281474976710656=true from Ab.2 hs, Ac, EA hn]
theorem Zr (z:Nat) {p:K4} {off len cap:Nat} {ex:Bool} {k:IntKind} {a:Nat} (ha:a<Hk k) (hl:a<len) (κ:V->R):Bi z (.sl p off len cap ex z) (.int k a) κ=κ (.ptr p (off+a*z)) := by
  show br (Nat.ble (Nat.succ a) (Hk k)) (br (Nat.beq z z) (br (Nat.ble (Nat.succ a) len) (Aa (Nat.add off (Nat.mul a z)) fun o => κ (.ptr p o)) (.fail "")) (.fail "")) (.fail "")=_
  rw [show Nat.ble (Nat.succ a) (Hk k)=true from Ab.2 ha, Ac, Nat.beq_refl, Ac, show Nat.ble (Nat.succ a) len=true from Ab.2 hl, Ac, A8]; rfl
theorem WJ {z:Nat} {p:K4} {off len cap:Nat} {ex:Bool} {a:Nat} (ha:a<9223372036854775808) (hl:a<len) (κ:V->R):Bi z (.sl p off len cap ex z) (.int .i64 a) κ=κ (.ptr p (off+a*z)) := Zr z (k := .i64) ha hl κ
theorem Qo {n:K4} (hn:n.toN<65535) (p:K4) (h:Heap) (κ:KV):Fp (.map p) h n κ=κ (.ptr n 0) (Af n h (some (.c (.l [.map p]) false none))) n.up := EA hn _ _ _
theorem Ab2:Hk .i64=9223372036854775808 := rfl
theorem Xf {p:K4} {off len cap:Nat} {ex:Bool} {z:Nat} (h:len<9223372036854775808) (κ:V->R):B1 (.sl p off len cap ex z) κ=κ (.int .i64 len) := CV h κ
theorem U6 (κ:V->R):B1 (.nil .sl) κ=κ (.int .i64 0) := id rfl
theorem V1 {n c:Nat} (h:n<9223372036854775808) (κ:V->R):B1 (.oth (.rb n c)) κ=κ (.int .i64 n) := CV h κ
theorem V3 {l:List RV} {m z:Nat} (h:m<9223372036854775808) (κ:V->R):B1 (.oth (.rx l m z)) κ=κ (.int .i64 m) := CV h κ
/-- Nothing stands where nothing was Kh. -/
def AH (h:Heap) (n:K4):Prop := ∀ q:K4, n.toN≤q.toN->A9 q h=none
theorem V5 (a b c:V) (s:Bool) (pr:Option K4) (κ:V->R):Y5 (some (.c (.l [a, b, c]) s pr)) 3 0 κ=κ (.agg [a, b, c]) := id rfl
theorem UD (a b c:V) (s:Bool) (pr:Option K4) (κ:Cs->R):VX (some (.c (.l [a, b, c]) s pr)) 0 3 κ=κ (.l [a, b, c]) := id rfl
theorem Ts (a:V) (s:Bool) (pr:Option K4) (κ:Cs->R):VX (some (.c (.l [a]) s pr)) 0 1 κ=κ (.l [a]) := id rfl
theorem QT (a b c x y z:V) (κ:List V->R):Ji 0 3 (.agg [a, b, c]) [x, y, z] κ=κ [a, b, c] := id rfl
theorem TM (body:S->Heap->K4->R) (t:S) (h:Heap) (n:K4):Cg body t h n=P4 (body t h n) fun t h n => P4 (body t h n) (DX body 999999998) := id rfl
theorem F3 (body:S->Heap->K4->R) (t:S) (h:Heap) (n:K4):Cg body t h n=P4 (body t h n) (DX body 999999999) := id rfl
theorem E8 (body:S->Heap->K4->R) (m:Nat) (t:S) (h:Heap) (n:K4):DX body (m+1) t h n=P4 (body t h n) (DX body m) := id rfl
theorem H3 (t:S) (h:Heap) (n:K4) (κ:S->Heap->K4->R):P4 (.ok .nrm t h n) κ=κ t h n := id rfl
theorem My (i:Nat) (t:S) (h:Heap) (n:K4) (κ:S->Heap->K4->R):P4 (.ok (.exit i) t h n) κ = .ok (.exit i) t h n := id rfl
theorem WR (t:S) (h:Heap) (n:K4) (κ:S->Heap->K4->R):P4 (.ok .ret t h n) κ = .ok .ret t h n := id rfl
theorem Xd (b:Bool) (x y:R) (κ:S->Heap->K4->R):P4 (bif b then x else y) κ=bif b then P4 x κ else P4 y κ := by cases b <;> rfl
theorem QN (p:K4) (h:Heap) (i:Nat) (κ:V->R):LC p h (fun cs _ _ => EP cs i κ)=ldO (A9 p h) i κ := Yl p i h κ
theorem OR (p:K4) (h:Heap) (κ:R):B5 p h (fun o => Wn o κ)=Wn (A9 p h) κ := Ba _ _ _
theorem Tn (f:Nat) (b:K4) (κ:R):Wn (some (.lp f b)) κ=κ := id rfl
theorem Re (p:K4) (h:Heap) (o:Cf) (κ:Heap->R):Bn p h o κ=κ (Af p h o) := by rw [Bs, AN]
/-- All that a text is told by. -/
theorem qa:type_of% (And.intro (And.intro (And.intro (And.intro (And.intro (And.intro (And.intro @X4 @YZ) (And.intro @Z2 (And.intro @Vp @Vu))) (And.intro (And.intro @TD (And.intro @Ab1 @Aa9)) (And.intro @Zn (And.intro @Aap @WQ)))) (And.intro (And.intro (And.intro @Xa (And.intro @Xp @UG)) (And.intro @XD (And.intro @WP @X5))) (And.intro (And.intro @Xn (And.intro @X3 @RD)) (And.intro @TY (And.intro @ZS @UA))))) (And.intro (And.intro (And.intro (And.intro @Xj (And.intro @XC @X8)) (And.intro @Xl (And.intro @WN @NK))) (And.intro (And.intro @R1 (And.intro @RF @RK)) (And.intro @OL (And.intro @Pk @P2)))) (And.intro (And.intro (And.intro @RN (And.intro @Ps @UK)) (And.intro @Tt (And.intro @Yl @WU))) (And.intro (And.intro @Uw (And.intro @U7 @XB)) (And.intro @QY (And.intro @UQ @QS)))))) (And.intro (And.intro (And.intro (And.intro (And.intro @U9 (And.intro @TO @O7)) (And.intro @Ra (And.intro @Vf @Xq))) (And.intro (And.intro @Tw (And.intro @TT @PQ)) (And.intro @Q7 (And.intro @A7 @MP)))) (And.intro (And.intro (And.intro @CD (And.intro @Vs @Ve)) (And.intro @Ue (And.intro @Xr @Xx))) (And.intro (And.intro @Li (And.intro @Rl @QE)) (And.intro @Aac (And.intro @Up @Zg))))) (And.intro (And.intro (And.intro (And.intro @Xe (And.intro @WW @CV)) (And.intro @Mu (And.intro @ME @OP))) (And.intro (And.intro @ON (And.intro @OC @OO)) (And.intro @Pt (And.intro @OB @Lo)))) (And.intro (And.intro (And.intro @WI (And.intro @TB @Tg)) (And.intro @Th (And.intro @Rw @TZ))) (And.intro (And.intro @TN (And.intro @TF @KE)) (And.intro @Pn (And.intro @Xm @UN))))))) (And.intro (And.intro (And.intro (And.intro (And.intro (And.intro @Aav @ZQ) (And.intro @KU (And.intro @Am @AB))) (And.intro (And.intro @Rg (And.intro @Xc @Xh)) (And.intro @TE (And.intro @Ke @JM)))) (And.intro (And.intro (And.intro @Kl (And.intro @OD @ML)) (And.intro @MM (And.intro @Lf @QG))) (And.intro (And.intro @W7 (And.intro @UJ @L6)) (And.intro @Tm (And.intro @Vr @Vo))))) (And.intro (And.intro (And.intro (And.intro @UE (And.intro @Xb @XY)) (And.intro @EA (And.intro @QZ @Vd))) (And.intro (And.intro @Xz (And.intro @Tp @UW)) (And.intro @Kp (And.intro @WT @X7)))) (And.intro (And.intro (And.intro @X6 (And.intro @Zo @WZ)) (And.intro @WL (And.intro @Uq @WJ))) (And.intro (And.intro @Qo (And.intro @Ab2 @Xf)) (And.intro @U6 (And.intro @V1 @V3)))))) (And.intro (And.intro (And.intro (And.intro (And.intro @V5 (And.intro @UD @Ts)) (And.intro @QT (And.intro @H3 @My))) (And.intro (And.intro @WR (And.intro @Xd @QN)) (And.intro @OR (And.intro @Tn @Re)))) (And.intro (And.intro (And.intro @cond_true.{1} (And.intro @cond_false.{1} @List.set_cons_zero.{0})) (And.intro @List.set_cons_succ.{0} (And.intro @List.length_cons.{0} @List.length_nil.{0}))) (And.intro (And.intro @decide_true (And.intro @decide_false @Nat.zero_add)) (And.intro @beq_self_eq_true.{0} (And.intro @Bool.not_true @Bool.not_false))))) (And.intro (And.intro (And.intro (And.intro @bne_self_eq_false.{0} (And.intro @Nat.mod_eq_of_lt @decide_eq_true)) (And.intro @decide_eq_false (And.intro @List.nil_append.{0} @List.cons_append.{0}))) (And.intro (And.intro @List.take_zero.{0} (And.intro @List.drop_zero.{0} @List.drop_succ_cons.{0})) (And.intro @List.take_succ_cons.{0} (And.intro @List.drop_nil.{0} @List.append_nil.{0})))) (And.intro (And.intro (And.intro @Bool.and_true (And.intro @Bool.true_and @Bool.and_false)) (And.intro @Bool.false_and (And.intro @Bool.or_true @Bool.true_or))) (And.intro (And.intro @Bool.or_false (And.intro @Bool.false_or @Nat.one_mul)) (And.intro @Nat.mul_one (And.intro @not_true_eq_false @not_false_eq_true)))))))) := And.intro (And.intro (And.intro (And.intro (And.intro (And.intro (And.intro @X4 @YZ) (And.intro @Z2 (And.intro @Vp @Vu))) (And.intro (And.intro @TD (And.intro @Ab1 @Aa9)) (And.intro @Zn (And.intro @Aap @WQ)))) (And.intro (And.intro (And.intro @Xa (And.intro @Xp @UG)) (And.intro @XD (And.intro @WP @X5))) (And.intro (And.intro @Xn (And.intro @X3 @RD)) (And.intro @TY (And.intro @ZS @UA))))) (And.intro (And.intro (And.intro (And.intro @Xj (And.intro @XC @X8)) (And.intro @Xl (And.intro @WN @NK))) (And.intro (And.intro @R1 (And.intro @RF @RK)) (And.intro @OL (And.intro @Pk @P2)))) (And.intro (And.intro (And.intro @RN (And.intro @Ps @UK)) (And.intro @Tt (And.intro @Yl @WU))) (And.intro (And.intro @Uw (And.intro @U7 @XB)) (And.intro @QY (And.intro @UQ @QS)))))) (And.intro (And.intro (And.intro (And.intro (And.intro @U9 (And.intro @TO @O7)) (And.intro @Ra (And.intro @Vf @Xq))) (And.intro (And.intro @Tw (And.intro @TT @PQ)) (And.intro @Q7 (And.intro @A7 @MP)))) (And.intro (And.intro (And.intro @CD (And.intro @Vs @Ve)) (And.intro @Ue (And.intro @Xr @Xx))) (And.intro (And.intro @Li (And.intro @Rl @QE)) (And.intro @Aac (And.intro @Up @Zg))))) (And.intro (And.intro (And.intro (And.intro @Xe (And.intro @WW @CV)) (And.intro @Mu (And.intro @ME @OP))) (And.intro (And.intro @ON (And.intro @OC @OO)) (And.intro @Pt (And.intro @OB @Lo)))) (And.intro (And.intro (And.intro @WI (And.intro @TB @Tg)) (And.intro @Th (And.intro @Rw @TZ))) (And.intro (And.intro @TN (And.intro @TF @KE)) (And.intro @Pn (And.intro @Xm @UN))))))) (And.intro (And.intro (And.intro (And.intro (And.intro (And.intro @Aav @ZQ) (And.intro @KU (And.intro @Am @AB))) (And.intro (And.intro @Rg (And.intro @Xc @Xh)) (And.intro @TE (And.intro @Ke @JM)))) (And.intro (And.intro (And.intro @Kl (And.intro @OD @ML)) (And.intro @MM (And.intro @Lf @QG))) (And.intro (And.intro @W7 (And.intro @UJ @L6)) (And.intro @Tm (And.intro @Vr @Vo))))) (And.intro (And.intro (And.intro (And.intro @UE (And.intro @Xb @XY)) (And.intro @EA (And.intro @QZ @Vd))) (And.intro (And.intro @Xz (And.intro @Tp @UW)) (And.intro @Kp (And.intro @WT @X7)))) (And.intro (And.intro (And.intro @X6 (And.intro @Zo @WZ)) (And.intro @WL (And.intro @Uq @WJ))) (And.intro (And.intro @Qo (And.intro @Ab2 @Xf)) (And.intro @U6 (And.intro @V1 @V3)))))) (And.intro (And.intro (And.intro (And.intro (And.intro @V5 (And.intro @UD @Ts)) (And.intro @QT (And.intro @H3 @My))) (And.intro (And.intro @WR (And.intro @Xd @QN)) (And.intro @OR (And.intro @Tn @Re)))) (And.intro (And.intro (And.intro @cond_true.{1} (And.intro @cond_false.{1} @List.set_cons_zero.{0})) (And.intro @List.set_cons_succ.{0} (And.intro @List.length_cons.{0} @List.length_nil.{0}))) (And.intro (And.intro @decide_true (And.intro @decide_false @Nat.zero_add)) (And.intro @beq_self_eq_true.{0} (And.intro @Bool.not_true @Bool.not_false))))) (And.intro (And.intro (And.intro (And.intro @bne_self_eq_false.{0} (And.intro @Nat.mod_eq_of_lt @decide_eq_true)) (And.intro @decide_eq_false (And.intro @List.nil_append.{0} @List.cons_append.{0}))) (And.intro (And.intro @List.take_zero.{0} (And.intro @List.drop_zero.{0} @List.drop_succ_cons.{0})) (And.intro @List.take_succ_cons.{0} (And.intro @List.drop_nil.{0} @List.append_nil.{0})))) (And.intro (And.intro (And.intro @Bool.and_true (And.intro @Bool.true_and @Bool.and_false)) (And.intro @Bool.false_and (And.intro @Bool.or_true @Bool.true_or))) (And.intro (And.intro @Bool.or_false (And.intro @Bool.false_or @Nat.one_mul)) (And.intro @Nat.mul_one (And.intro @not_true_eq_false @not_false_eq_true)))))))
end Go.Ev

namespace Go.Ev
set_option linter.unusedVariables false
theorem K4.beq_self (p:K4):p.beq p=true := K4.beq_iff.2 rfl
theorem KO (k:IntKind) (r:Nat) (κ:R):Bf (.int k r) (.int k r) κ=κ := by
  show br (AV k k) (br (Nat.beq r r) κ _) _=_
  rw [Az.2 rfl, Nat.beq_refl]; rfl
theorem XI (p:K4) (o:Nat) (κ:R):Bf (.ptr p o) (.ptr p o) κ=κ := by
  show br (K4.beq p p) (br (Nat.beq o o) κ _) _=_
  rw [K4.beq_self, Nat.beq_refl]; rfl
theorem Y4 (p:K4) (κ:R):Bf (.map p) (.map p) κ=κ := by
  show br (K4.beq p p) κ _=_
  rw [K4.beq_self]; rfl
theorem XP (w:Nl) (κ:R):Bf (.nil w) (.nil w) κ=κ := by cases w <;> rfl
theorem YB (p:K4) (a b c:Nat) (e:Bool) (z:Nat) (κ:R):Bf (.sl p a b c e z) (.sl p a b c e z) κ=κ := by
  show br (K4.beq p p) (br (and (Nat.beq a a) (and (Nat.beq b b) (and (Nat.beq c c) (and (Bool.rec (Bool.rec true false e) e e) (Nat.beq z z))))) κ _) _=_
  rw [K4.beq_self]; simp only [Nat.beq_refl]; cases e <;> rfl
def IK (es:List (V×V)):Prop := ∀ e∈es, ∃ r w, e=(.int .i64 r, w)
theorem IK.nil:IK [] := fun e h => by cases h
theorem Z4 (k:Nat) (w:V):∀ es:List (V×V), IK es->∃ es', (∀ κ:List (V×V)->R, EG (.sc .i) (.int .i64 k) w es κ=κ es')∧IK es'∧es'.length≤es.length+1
  | [], _ => ⟨[(.int .i64 k, w)], fun κ => rfl, fun e he => by rcases List.mem_singleton.1 he with rfl; exact ⟨k, w, rfl⟩, by simp⟩
  | e::es, h => by
    obtain ⟨r, u, rfl⟩ := h e List.mem_cons_self
    have hes:IK es := fun x hx => h x (List.mem_cons_of_mem _ hx)
    obtain ⟨es', h1, h2, h3⟩ := Z4 k w es hes
    cases hb:Nat.beq k r with
    | true => exact ⟨(.int .i64 k, w)::es, fun κ => by
        show BX (Nat.beq k r) (fun q => br q (κ ((.int .i64 k, w)::es)) (EG (.sc .i) (.int .i64 k) w es fun l => κ ((.int .i64 r, u)::l)))=_
        rw [AY, hb]; rfl, fun x hx => by
        rcases List.mem_cons.1 hx with rfl | hx
        · exact ⟨k, w, rfl⟩
        · exact hes x hx, by simp⟩
    | false => exact ⟨(.int .i64 r, u)::es', fun κ => by
        show BX (Nat.beq k r) (fun q => br q (κ ((.int .i64 k, w)::es)) (EG (.sc .i) (.int .i64 k) w es fun l => κ ((.int .i64 r, u)::l)))=_
        rw [AY, hb]; exact h1 _, fun x hx => by
        rcases List.mem_cons.1 hx with rfl | hx
        · exact ⟨r, u, rfl⟩
        · exact h2 x hx, by simp only [List.length_cons]; omega⟩
theorem Aec {q:K4} {h:Heap} {es:List (V×V)} {bs:List Nat} {c:Nat} (hq:A9 q h=some (.m es bs c)) (hk:IK es) (k:Nat) (w:V) :
    ∃ es' bs' c', (∀ κ:Heap->R, NL (.sc .i) (.map q) (.int .i64 k) w h κ=κ (Af q h (some (.m es' bs' c'))))∧IK es' := by
  obtain ⟨es', h1, h2, h3⟩ := Z4 k w es hk
  refine ⟨es', if es'.length=bs.length then bs else bs++[c], if es'.length=bs.length then c else c+1, fun κ => ?_, h2⟩
  show Ow q h (fun es bs c' k' => EG (.sc .i) (.int .i64 k) w es fun es => Tc es bs c' fun bs c => k' es bs c) κ=_
  rw [IF, XZ hq, h1]
  rw [UO]; exact AN _ _ _ _
def HP (p:K4) (h:Heap) (c:V) (l:List UInt8):Prop := (c = .nil .sl∧l=[]) ∨ ∃ ex, c = .sl p 0 l.length l.length ex 1∧A9 p h=some (.c (cb l) false none)
theorem HP.frame {p:K4} {h h':Heap} {c:V} {l:List UInt8} (H:HP p h c l) (e:A9 p h'=A9 p h):HP p h' c l := by
  rcases H with H | ⟨ex, h1, h2⟩
  · exact .inl H
  · exact .inr ⟨ex, h1, e.trans h2⟩
theorem HP.len {p:K4} {h:Heap} {c:V} {l:List UInt8} (H:HP p h c l) (hl:l.length<9223372036854775808) (κ:V->R):B1 c κ=κ (.int .i64 l.length) := by
  rcases H with ⟨rfl, rfl⟩ | ⟨ex, rfl, h2⟩
  · rfl
  · exact CV hl κ
theorem Il:∀ m:Nat, Ar (List.replicate m 0)=0
  | 0 => rfl
  | m+1 => by rw [List.replicate_succ]; show (0:UInt8).toNat+256*Ar (List.replicate m 0)=0; rw [Il m]; rfl
theorem NH (u:V) {m:Nat} (hm:m≤1000000000000) (h:Heap) (n:K4) (κ:KV):Fh 1 1 true [.int .u8 0] u (.int .i64 m) h n κ=Ck 1 1 u m (cb (List.replicate m 0)) h n κ := by
  show br (Nat.ble (Nat.succ m) 9223372036854775808) (br (Nat.ble (Nat.mul 1 m) 281474976710656) (Ck 1 1 u m (.b m 0) h n κ) (.fail "")) (.fail "")=_
  rw [show Nat.ble (Nat.succ m) 9223372036854775808=true from Ab.2 (by omega), Ac, show Nat.ble (Nat.mul 1 m) 281474976710656=true from Ab.2 (by rw [show Nat.mul 1 m=m from Nat.one_mul m]; omega), Ac]
  unfold cb
  rw [Il, List.length_replicate]
theorem Ub {p:K4} {h:Heap} {c:V} {bs:List UInt8} (H:HP p h c bs) {m:Nat} (hm:0<m) (hb:bs.length+m≤1000000000) {n:K4} (hn:n.toN<65000) (hpn:p.toN<n.toN) :
    ∃ h' pr, (∀ κ:KV, Fh 1 1 true [.int .u8 0] c (.int .i64 m) h n κ=κ (.sl n 0 (bs++List.replicate m 0).length (bs++List.replicate m 0).length false 1) h' n.up)∧A9 n h'=some (.c (cb (bs++List.replicate m 0)) false pr)∧(pr=none∨pr=some p) ∧
      (∀ q:K4, q≠n->q≠p->A9 q h'=A9 q h) := by
  rcases H with ⟨rfl, rfl⟩ | ⟨ex, rfl, h2⟩
  · refine ⟨_, none, fun κ => ?_, A7 _ _ _, .inl rfl, fun q hq _ => A6 _ _ (Ne.symm hq)⟩
    rw [NH _ (by omega), RQ hm (by omega) (by omega), List.nil_append, List.length_replicate]
  · have hl:(List.replicate m (0:UInt8)).length=m := List.length_replicate
    cases ex with
    | true =>
      refine ⟨_, none, fun κ => ?_, A7 _ _ _, .inl rfl, fun q hq _ => A6 _ _ (Ne.symm hq)⟩
      have e := GQ h2 (ex := true) (b := List.replicate m 0) (by omega) (by omega) (n := n) (by omega) κ
      rw [hl] at e
      rw [NH _ (by omega), e, if_pos rfl]
    | false =>
      refine ⟨Af n (Af p h (some (.c (cb bs) true none))) (some (.c (cb (bs++List.replicate m 0)) false (some p))), some p, fun κ => ?_, A7 _ _ _, .inr rfl, fun q hq h3 => (A6 _ _ (Ne.symm hq)).trans (A6 _ _ (Ne.symm h3))⟩
      have e := GQ h2 (ex := false) (b := List.replicate m 0) (by omega) (by omega) (n := n) (by omega) κ
      rw [hl] at e
      rw [NH _ (by omega), e, if_neg (by decide)]; rfl
/-- Bytes that are copied from. -/
def De (v:V) (l:List UInt8) (h:Heap):Prop := v=GI l∨(v = .nil .sl∧l=[]) ∨ ∃ p off cap ex L s pr, v = .sl p off l.length cap ex 1∧A9 p h=some (.c (cb L) s pr)∧off+l.length≤L.length∧(L.drop off).take l.length=l
theorem De.len {v:V} {l:List UInt8} {h:Heap} (H:De v l h) (hl:l.length<9223372036854775808) (κ:V->R):B1 v κ=κ (.int .i64 l.length) := by
  rcases H with rfl | ⟨rfl, rfl⟩ | ⟨p, off, cap, ex, L, s, pr, rfl, h1, h2, h3⟩
  · exact CV hl κ
  · rfl
  · exact CV hl κ
theorem De.src {v:V} {l:List UInt8} {h:Heap} (H:De v l h):∃ y, (∀ κ:Nat->Cs->R, H5 1 v h κ=κ l.length y)∧(0<l.length->y=cb l) := by
  rcases H with rfl | ⟨rfl, rfl⟩ | ⟨p, off, cap, ex, L, s, pr, rfl, h1, h2, h3⟩
  · exact ⟨cb l, fun κ => rfl, fun _ => rfl⟩
  · exact ⟨.l [], fun κ => rfl, fun h => by cases h⟩
  · refine ⟨cb l, fun κ => ?_, fun _ => rfl⟩
    rw [Yo h1 h2, h3]
theorem De.frame {v:V} {l:List UInt8} {h h':Heap} (H:De v l h) (e:∀ p:K4, (∃ off cap ex, v = .sl p off l.length cap ex 1)->A9 p h'=A9 p h):De v l h' := by
  rcases H with H | H | ⟨p, off, cap, ex, L, s, pr, rfl, h1, h2, h3⟩
  · exact .inl H
  · exact .inr (.inl H)
  · exact .inr (.inr ⟨p, off, cap, ex, L, s, pr, rfl, (e p ⟨off, cap, ex, rfl⟩).trans h1, h2, h3⟩)
theorem Z0 {v:V} {h:Heap} (H:De v [] h) {p:K4} {off len cap:Nat} {ex:Bool} (κ:V->Heap->R):HR 1 (.sl p off len cap ex 1) v h κ=κ (.int .i64 0) h := by
  obtain ⟨y, h1, _⟩ := H.src
  show H5 1 v h (fun m y => _)=_
  rw [h1]
  show br (Nat.beq 1 1) (Aa (@Bool.rec (fun _ => Nat) len 0 (Nat.ble 0 len)) fun k => br (Nat.beq k 0) (κ (.int .i64 0) h) (Aa (Nat.mul k 1) fun j => AZ y 0 j fun y => Fn h p off y fun h => Dr k fun v => κ v h)) (.fail "")=_
  rw [Nat.beq_refl, Ac, A8, show Nat.ble 0 len=true from Ab.2 (Nat.zero_le _)]; rfl
theorem Yf {v:V} {h:Heap} (H:De v [] h) (κ:V->Heap->R):HR 1 (.nil .sl) v h κ=κ (.int .i64 0) h := by
  obtain ⟨y, h1, _⟩ := H.src
  show H5 1 v h (fun m y => _)=_
  rw [h1]; rfl
theorem PZ {v:V} {l bs:List UInt8} {h:Heap} (H:De v l h) (h0:0<l.length) {p:K4} {off len cap:Nat} {ex:Bool} {pr:Option K4} (hp:A9 p h=some (.c (cb bs) false pr)) (hl:l.length≤len) (hl2:off+l.length≤bs.length) (hl3:l.length<9223372036854775808) (κ:V->Heap->R) :
    HR 1 (.sl p off len cap ex 1) v h κ=κ (.int .i64 l.length) (Af p (F4 pr h) (some (.c (cb (bs.take off++(l++bs.drop (off+l.length)))) false none))) := by
  obtain ⟨y, h1, h2⟩ := H.src
  have hy := h2 h0; subst hy
  show H5 1 v h (fun m y => _)=_
  rw [h1]
  show br (Nat.beq 1 1) (Aa (@Bool.rec (fun _ => Nat) len l.length (Nat.ble l.length len)) fun k => br (Nat.beq k 0) (κ (.int .i64 0) h) (Aa (Nat.mul k 1) fun j => AZ (cb l) 0 j fun y => Fn h p off y fun h => Dr k fun v => κ v h)) (.fail "")=_
  rw [Nat.beq_refl, Ac, A8, show Nat.ble l.length len=true from Ab.2 hl]
  show br (Nat.beq l.length 0) (κ (.int .i64 0) h) (Aa (Nat.mul l.length 1) fun j => AZ (cb l) 0 j fun y => Fn h p off y fun h => Dr l.length fun v => κ v h)=_
  rw [CH, decide_eq_false (by omega), Ak, A8, show Nat.mul l.length 1=l.length from Nat.mul_one _, Gc (by omega), List.drop_zero, List.take_length, Hh]
  unfold Eg
  rw [Jh hp, Ak, Wi hl2, Ge, AN, CV hl3]
theorem HP.same {p:K4} {h:Heap} {c:V} {l:List UInt8} (H:HP p h c l) (κ:R):Bf c c κ=κ := by
  rcases H with ⟨rfl, rfl⟩ | ⟨ex, rfl, h2⟩
  · exact XP _ _
  · exact YB _ _ _ _ _ _ _
theorem P0 {a b:Nat} (h:a<b) (hb:b<4611686018427387904):9223372036854775808≤Ib .i64 a b∧Ib .i64 a b<18446744073709551616 := by
  unfold Ib
  rw [show Mk .i64=18446744073709551616 from rfl, Nat.mod_eq_of_lt (by omega)]
  omega
theorem NI {a b:Nat} (ha:a<4611686018427387904) (hb:b<4611686018427387904) (κ:V->R):N7 (.int .i64 (Ib .i64 a b)) (.int .i64 0) κ=κ (.int .i64 (a - b)) := by
  rcases Nat.lt_or_ge a b with h | h
  · obtain ⟨h1, h2⟩ := P0 h hb
    rw [RD h2 (by omega), Ve h1 (by omega), show a - b=0 by omega]; rfl
  · rw [Li h (by omega), RD (by omega) (by omega), Vs (by omega) (by omega), decide_eq_false (by omega)]; rfl
theorem NS {a b:Nat} (ha:a<4611686018427387904) (hb:b<4611686018427387904):DY .i64 0 (Ib .i64 a b)=decide (b<a) := by
  rcases Nat.lt_or_ge a b with h | h
  · obtain ⟨h1, h2⟩ := P0 h hb
    rw [Ue (by omega) h1, decide_eq_false (by omega)]
  · rw [Li h (by omega), Vs (by omega) (by omega)]
    by_cases h3:b<a
    · rw [decide_eq_true h3, decide_eq_true (by omega)]
    · rw [decide_eq_false h3, decide_eq_false (by omega)]
theorem Fe:(false == true)=false := id rfl
theorem Fg:(true == true)=true := id rfl
theorem Uu {p:K4} {o len cap a:Nat} {ex:Bool} (ha:a≤len) (hl:len≤cap) (ha2:a<9223372036854775808) (κ:V->R):DW 1 (.sl p o len cap ex 1) (some (.int .i64 a)) none κ=κ (.sl p (o+a) (len - a) (cap - a) ex 1) := by
  show br (Nat.ble (Nat.succ a) 9223372036854775808) (br (Nat.beq 1 1) (br (Nat.ble a len) (br (Nat.ble len cap) (Aa (Nat.sub len a) fun l => Aa (Nat.sub cap a) fun c => Aa (Nat.add o (Nat.mul a 1)) fun o => κ (.sl p o l c ex 1)) (.fail "")) (.fail "")) (.fail "")) (.fail "")=_
  rw [show Nat.ble (Nat.succ a) 9223372036854775808=true from Ab.2 (by omega), Ac, Nat.beq_refl, Ac, Ab.2 ha, Ac, Ab.2 hl, Ac, A8, A8, A8, show Nat.mul a 1=a from Nat.mul_one a]; rfl
theorem Qg (κ:V->R):DW 1 (.nil .sl) (some (.int .i64 0)) none κ=κ (.nil .sl) := id rfl
theorem NT {p:K4} {o len cap a b:Nat} {ex:Bool} (ha:a≤b) (hl:b≤cap) (ha2:b<9223372036854775808) (κ:V->R):DW 1 (.sl p o len cap ex 1) (some (.int .i64 a)) (some (.int .i64 b)) κ=κ (.sl p (o+a) (b - a) (cap - a) ex 1) := by
  show br (Nat.ble (Nat.succ b) 9223372036854775808) (br (Nat.ble (Nat.succ a) 9223372036854775808) (br (Nat.beq 1 1) (br (Nat.ble a b) (br (Nat.ble b cap) (Aa (Nat.sub b a) fun l => Aa (Nat.sub cap a) fun c => Aa (Nat.add o (Nat.mul a 1)) fun o => κ (.sl p o l c ex 1)) (.fail "")) (.fail "")) (.fail "")) (.fail "")) (.fail "")=_
  rw [show Nat.ble (Nat.succ b) 9223372036854775808=true from Ab.2 (by omega), Ac, show Nat.ble (Nat.succ a) 9223372036854775808=true from Ab.2 (by omega), Ac, Nat.beq_refl, Ac, Ab.2 ha, Ac, Ab.2 hl, Ac, A8, A8, A8, show Nat.mul a 1=a from Nat.mul_one a]; rfl
theorem VQ (κ:V->R):DW 1 (.nil .sl) (some (.int .i64 0)) (some (.int .i64 0)) κ=κ (.nil .sl) := id rfl
theorem WF {p:K4} {o len cap b:Nat} {ex:Bool} (hl:b≤cap) (ha2:b<9223372036854775808) (κ:V->R):DW 1 (.sl p o len cap ex 1) none (some (.int .i64 b)) κ=κ (.sl p o b cap ex 1) := by
  show br (Nat.ble (Nat.succ b) 9223372036854775808) (br (Nat.beq 1 1) (br (Nat.ble 0 b) (br (Nat.ble b cap) (Aa (Nat.sub b 0) fun l => Aa (Nat.sub cap 0) fun c => Aa (Nat.add o (Nat.mul 0 1)) fun o => κ (.sl p o l c ex 1)) (.fail "")) (.fail "")) (.fail "")) (.fail "")=_
  rw [show Nat.ble (Nat.succ b) 9223372036854775808=true from Ab.2 (by omega), Ac, Nat.beq_refl, Ac, show Nat.ble 0 b=true from Ab.2 (Nat.zero_le _), Ac, Ab.2 hl, Ac, A8, A8, A8, show Nat.mul 0 1=0 from rfl]; rfl
theorem ZN {l:List UInt8} {b:Nat} (hl:b≤l.length) (ha2:b<9223372036854775808) (κ:V->R):DW 1 (GI l) none (some (.int .i64 b)) κ=κ (GI (l.take b)) := by
  show br (Nat.ble (Nat.succ b) 9223372036854775808) (br (Nat.beq 1 1) (br (Nat.ble 0 b) (br (Nat.ble b l.length) (Aa (Nat.sub b 0) fun k => Aa (Ev.lo (sh (Ar l) 0) k) fun r => κ (.oth (.rb k r))) (.fail "")) (.fail "")) (.fail "")) (.fail "")=_
  rw [show Nat.ble (Nat.succ b) 9223372036854775808=true from Ab.2 (by omega), Ac, Nat.beq_refl, Ac, show Nat.ble 0 b=true from Ab.2 (Nat.zero_le _), Ac, Ab.2 hl, Ac, A8, A8, G3, List.drop_zero]
  show κ (.oth (.rb b (Ar (l.take b))))=κ (.oth (.rb (l.take b).length (Ar (l.take b))))
  rw [List.length_take, Nat.min_eq_left hl]
theorem JW {bs l:List UInt8} {off:Nat} (h:off+l.length≤bs.length):(bs.take off++(l++bs.drop (off+l.length))).length=bs.length := by
  simp only [List.length_append, List.length_take, List.length_drop]; omega
theorem Ws {pc:K4} {h:Heap} {cv v:V} {bs l:List UInt8} {off:Nat} (ho:HP pc h cv bs) (hs:De v l h) (hoff:off+l.length≤bs.length) (hb:bs.length<1000000000) :
    ∃ h', (∀ κ:Heap->R, DW 1 cv (some (.int .i64 off)) none (fun z => HR 1 z v h fun _ h => κ h)=κ h')∧HP pc h' cv (bs.take off++(l++bs.drop (off+l.length))) ∧ ∀ q, q≠pc->A9 q h'=A9 q h := by
  rcases ho with ⟨rfl, rfl⟩ | ⟨ex, rfl, h2⟩
  · obtain rfl:off=0 := by simp only [List.length_nil] at hoff; omega
    obtain rfl:l=[] := List.length_eq_zero_iff.1 (by simp only [List.length_nil] at hoff; omega)
    exact ⟨h, fun κ => by rw [Qg, Yf hs], .inl ⟨rfl, rfl⟩, fun q _ => rfl⟩
  · cases l with
    | nil =>
      refine ⟨h, fun κ => by rw [Uu (by simp only [List.length_nil] at hoff; omega) (Nat.le_refl _) (by simp only [List.length_nil] at hoff; omega), Z0 hs], .inr ⟨ex, ?_, ?_⟩, fun q _ => rfl⟩
      · rw [JW hoff]
      · rw [h2, List.length_nil, Nat.add_zero, List.nil_append, List.take_append_drop]
    | cons u l =>
      refine ⟨_, fun κ => by rw [Uu (by omega) (Nat.le_refl _) (by omega), PZ hs (by rw [List.length_cons]; omega) h2 (by omega) (by omega) (by omega)], .inr ⟨ex, ?_, ?_⟩, fun q hq => ?_⟩
      · rw [JW hoff]
      · show A9 pc (Af pc h _)=_
        rw [A7, Nat.zero_add]
      · exact A6 _ _ (Ne.symm hq)
theorem VA {a b:Nat} (h:a+b<18446744073709551616):Ib .i64 (a+b) a=b := by rw [Li (by omega) h]; omega
/-- Bytes that were laid anew are written over, all that is new. -/
theorem Wm {p n:K4} {h':Heap} {v:V} {bs l:List UInt8} {pr:Option K4} (hp:A9 n h'=some (.c (cb (bs++List.replicate l.length 0)) false pr)) (hpr:pr=none∨pr=some p) (hs:De v l h') (h0:0<l.length) (hb:bs.length+l.length<1000000000) :
    ∃ h2, (∀ κ:Heap->R, HR 1 (.sl n bs.length l.length l.length false 1) v h' (fun _ h => κ h)=κ h2)∧A9 n h2=some (.c (cb (bs++l)) false none) ∧ ∀ q, q≠n->q≠p->A9 q h2=A9 q h' := by
  have hl:(bs++List.replicate l.length (0:UInt8)).length=bs.length+l.length := by rw [List.length_append, List.length_replicate]
  have e := fun κ:Heap->R => PZ hs h0 (ex := false) (off := bs.length) (len := l.length) (cap := l.length) hp (Nat.le_refl _) (by omega) (by omega) fun _ h => κ h
  have e2:(bs++List.replicate l.length (0:UInt8)).take bs.length++(l++(bs++List.replicate l.length (0:UInt8)).drop (bs.length+l.length))=bs++l := by
    rw [List.take_left, List.drop_eq_nil_of_le (by omega), List.append_nil]
  rw [e2] at e
  refine ⟨_, e, A7 _ _ _, fun q h1 h2 => ?_⟩
  rw [A6 _ _ (Ne.symm h1)]
  rcases hpr with rfl | rfl
  · rfl
  · exact A6 _ _ (Ne.symm h2)
end Go.Ev

namespace Go.Ev
set_option linter.unusedVariables false
theorem VS {v b:Nat} (hv:v<18446744073709551616) (hb:b≤64) (κ:V->R):Gf (.int .u64 v) (.int .i64 b) κ=κ (.int .u64 (v >>> b)) := by
  show br (Nat.ble (Nat.succ b) 9223372036854775808) (br (Nat.ble (Nat.succ v) 18446744073709551616) (br (Nat.ble b 64) (Aa (Nat.shiftRight v b) fun r => κ (.int .u64 r)) (κ (.int .u64 0))) (.fail "")) (.fail "")=_
  rw [show Nat.ble (Nat.succ b) 9223372036854775808=true from Ab.2 (by omega), Ac, show Nat.ble (Nat.succ v) 18446744073709551616=true from Ab.2 (by omega), Ac, Ab.2 hb, Ac, A8]; rfl
theorem Qp {v:Nat} (hv:v<18446744073709551616) (κ:V->R):Cu .u8 (.int .u64 v) κ=κ (.int .u8 (v % 256)) := Kp (k := .u8) (j := .u64) hv κ
theorem Zt {r:Nat} (hr:r<256) {n:K4} (hn:n.toN<65535) (h:Heap) (κ:KV):Fm true 1 1 [.int .u8 r] h n κ=κ (.sl n 0 1 1 true 1) (Af n h (some (.c (cb [UInt8.ofNat r]) false none))) n.up := by
  show br (Nat.ble r 255) (Aa (Nat.succ 0) fun m => Aa (Nat.add r (Nat.mul 256 0)) fun c => E4 h n (.c (.b m c) false none) fun h' n' => κ (.sl n 0 1 1 true 1) h' n') (.fail "")=_
  rw [show Nat.ble r 255=true from Ab.2 (by omega), Ac, A8, A8, EA hn]
  have e:(UInt8.ofNat r).toNat=r := by show r % 256=r; omega
  show κ _ (Af n h (some (.c (.b 1 r) false none))) n.up=κ _ (Af n h (some (.c (.b 1 ((UInt8.ofNat r).toNat+256*0)) false none))) n.up
  rw [e]; rfl
/-- Bytes that may still know what they grew from. -/
def Fs (lo:Nat) (n:K4) (h:Heap) (c:V) (l:List UInt8):Prop := (c = .nil .sl∧l=[]) ∨ ∃ p ex pr, c = .sl p 0 l.length l.length ex 1∧A9 p h=some (.c (cb l) false pr)∧lo≤p.toN∧p.toN<n.toN∧(pr=none ∨ ∃ q, pr=some q∧lo≤q.toN∧q.toN<n.toN)
theorem Fs.frame {lo:Nat} {n n':K4} {h h':Heap} {c:V} {l:List UInt8} (H:Fs lo n h c l) (hn:n.toN≤n'.toN) (e:∀ q:K4, lo≤q.toN->q.toN<n.toN->A9 q h'=A9 q h):Fs lo n' h' c l := by
  rcases H with H | ⟨p, ex, pr, h1, h2, h3, h4, h5⟩
  · exact .inl H
  · refine .inr ⟨p, ex, pr, h1, (e p h3 h4).trans h2, h3, by omega, ?_⟩
    rcases h5 with h5 | ⟨q, h5, h6, h7⟩
    · exact .inl h5
    · exact .inr ⟨q, h5, h6, by omega⟩
theorem Fs.nil {lo:Nat} {n:K4} {h:Heap}:Fs lo n h (.nil .sl) [] := .inl ⟨rfl, rfl⟩
theorem Fs.len {lo:Nat} {n:K4} {h:Heap} {c:V} {l:List UInt8} (H:Fs lo n h c l) (hl:l.length<9223372036854775808) (κ:V->R):B1 c κ=κ (.int .i64 l.length) := by
  rcases H with ⟨rfl, rfl⟩ | ⟨p, ex, pr, rfl, _⟩
  · rfl
  · exact CV hl κ
theorem Fs.src {lo:Nat} {n:K4} {h:Heap} {c:V} {l:List UInt8} (H:Fs lo n h c l):De c l h := by
  rcases H with ⟨rfl, rfl⟩ | ⟨p, ex, pr, rfl, h2, _⟩
  · exact .inr (.inl ⟨rfl, rfl⟩)
  · exact .inr (.inr ⟨p, 0, l.length, ex, l, false, pr, rfl, h2, by omega, by rw [List.drop_zero, List.take_length]⟩)
theorem grow {lo:Nat} {n:K4} {h:Heap} {c:V} {l b:List UInt8} (H:Fs lo n h c l) (hlo:lo≤n.toN) (hb:l.length+b.length≤1000000000) (hn:n.toN<65000) {y:Cs} (hy:0<b.length->y=cb b) :
    ∃ c' h' n', (∀ κ:KV, Ck 1 1 c b.length y h n κ=κ c' h' n')∧Fs lo n' h' c' (l++b)∧n.toN≤n'.toN∧n'.toN≤n.toN+1∧(∀ q:K4, q.toN<lo->A9 q h'=A9 q h)∧(AH h n->AH h' n') := by
  have u1 := K4.up_toN (p := n) (by omega)
  rcases Nat.eq_zero_or_pos b.length with h0 | h0
  · obtain rfl := List.length_eq_zero_iff.1 h0
    refine ⟨c, h, n, fun κ => OF ?_ _ _ _ _, by rw [List.append_nil]; exact H, by omega, by omega, fun q _ => rfl, fun h => h⟩
    rcases H with ⟨rfl, _⟩ | ⟨p, ex, pr, rfl, _⟩
    · exact .inl rfl
    · exact .inr ⟨p, _, _, _, ex, rfl⟩
  · obtain rfl := hy h0
    rcases H with ⟨rfl, rfl⟩ | ⟨p, ex, pr, rfl, h2, h3, h4, h5⟩
    · refine ⟨_, _, _, fun κ => RQ h0 (by omega) (by omega) _ _ _, ?_, by omega, by omega, fun q hq => Am (by omega) _ _, fun hf q hq => (AB (by omega) _ _).trans (hf q (by omega))⟩
      exact .inr ⟨n, false, none, rfl, A7 _ _ _, hlo, by omega, .inl rfl⟩
    · cases ex with
      | true =>
        refine ⟨_, _, _, fun κ => (GQ h2 h0 (by omega) (by omega) κ).trans (if_pos rfl), ?_, by omega, by omega, fun q hq => Am (by omega) _ _, fun hf q hq => (AB (by omega) _ _).trans (hf q (by omega))⟩
        exact .inr ⟨n, false, none, rfl, A7 _ _ _, hlo, by omega, .inl rfl⟩
      | false =>
        refine ⟨_, _, _, fun κ => (GQ h2 h0 (by omega) (by omega) κ).trans (if_neg (by decide)), ?_, by omega, by omega, fun q hq => ?_, fun hf q hq => ?_⟩
        · exact .inr ⟨n, false, some p, rfl, A7 _ _ _, hlo, by omega, .inr ⟨p, rfl, h3, by omega⟩⟩
        · rw [Am (by omega), Am (by omega)]
          rcases h5 with rfl | ⟨r, rfl, h6, h7⟩
          · rfl
          · exact A6 _ _ (K4.ne_of_lt (by omega)).symm
        · rw [AB (by omega), AB (by omega)]
          rcases h5 with rfl | ⟨r, rfl, h6, h7⟩
          · exact hf q (by omega)
          · exact (A6 _ _ (K4.ne_of_lt (by omega))).trans (hf q (by omega))
/-- .. by what is copied from. -/
theorem GO {lo:Nat} {n:K4} {h:Heap} {c v:V} {l b:List UInt8} (H:Fs lo n h c l) (hs:De v b h) (hlo:lo≤n.toN) (hb:l.length+b.length≤1000000000) (hn:n.toN<65000) :
    ∃ c' h' n', (∀ κ:KV, EK 1 1 c v h n κ=κ c' h' n')∧Fs lo n' h' c' (l++b)∧n.toN≤n'.toN∧n'.toN≤n.toN+1∧(∀ q:K4, q.toN<lo->A9 q h'=A9 q h)∧(AH h n->AH h' n') := by
  obtain ⟨y, h1, h2⟩ := hs.src
  obtain ⟨c', h', n', e, r⟩ := grow H hlo hb hn h2
  refine ⟨c', h', n', fun κ => ?_, r⟩
  show H5 1 v h (fun m y => Ck 1 1 c m y h n κ)=_
  rw [h1, e]
end Go.Ev

namespace Go.Ev
open Go.RowKit Go.ChangeShapes
set_option linter.unusedVariables false
/-- The blocks of the list stay. -/
def Dj (ρ:Env) (w:World) (bl:List Nat):Prop := ∀ b∈bl, ∀ c e fr, w.heap[b]? = some (.cells c e fr)->ρ.gl b=some (c, e, fr)
theorem Dj.sub {ρ:Env} {w:World} {bl cl:List Nat} (h:Dj ρ w bl) (hs:∀ b∈cl, b∈bl):Dj ρ w cl := fun b hb => h b (hs b hb)
theorem Et {P:Program} {fs:List Nat} {v:Nat->Value} {w:World} {l:List Nat}:Dj (JI P fs v (J9 w l)) w l := fun b hb c e fr h => SU hb h
/-- Bytes, or nil. -/
def Ly:Option (List UInt8)->RV
  | none => .nl
  | some l => .y l.length (Ar l)
theorem Kw {w:World} {a:Addr}:∀ n:Nat, (∀ i, i<n->∃ z:Int, w.cell? (a.add i)=some (.int .u8 z)∧(Lit.int .u8 z).wf=true)->∃ l:List UInt8, l.length=n ∧ ∀ j (h:j<l.length), w.cell? (a.add j)=some (.int .u8 (l[j].toNat:Int))
  | 0, _ => ⟨[], rfl, fun j hj => absurd hj (Nat.not_lt_zero _)⟩
  | n+1, h => by
    obtain ⟨l, hl, hc⟩ := Kw n (fun i hi => h i (by omega))
    obtain ⟨z, hz, hw⟩ := h n (Nat.lt_succ_self _)
    have hb:0≤z∧z<256 := by
      simp [Lit.wf, IntKind.min, IntKind.max, IntKind.signed, IntKind.bits] at hw
      omega
    refine ⟨l++[UInt8.ofNat z.toNat], by rw [List.length_append, hl]; rfl, fun j hj => ?_⟩
    by_cases hjn:j<n
    · rw [List.getElem_append_left (by omega)]
      exact hc j (by omega)
    · have hj':j<n+1 := by rw [List.length_append, hl] at hj; exact hj
      obtain rfl:j=n := by omega
      rw [List.getElem_append_right (by omega), hz]
      have e1:(UInt8.ofNat z.toNat).toNat=z.toNat := by simp; omega
      simp only [List.getElem_singleton]
      rw [e1]
      congr 2
      omega
/-- A slice of bytes. -/
theorem XK {P:Program} {H:Type} {enc:TypeId×Value->H} {w:World} {base:Nat} {spare:Nat->Bool} {held:Bool} {fuel:Nat} {t e:TypeId} {cs:List Value} {x:DataW H×List MemPlace}
    (ht:P.underlying t=some (.slice e)) (he:P.underlying e=some (.int .u8)) (ce:P.cellsOf e=1) (h:DataW.trod enc P w base spare held fuel t cs=some x) :
    ∃ (v:Value) (o:Option (List UInt8)) (bl:List Nat), cs=[v]∧(∀ l, o=some l->l.length≤maxLen) ∧ ∀ ρ, Dj ρ w bl->EV ρ (Ly o) v := by
  rcases Go.Deep.open_slice1 ht ce h with ⟨hc, _⟩ | ⟨a, len, cap, m, n, V, D, Pl, hc, _, hl, hm, hmm, _, hx⟩
  · exact ⟨_, none, [], hc, (fun l h => by cases h), fun ρ _ => rfl⟩
  · have hlm:len≤m := by rw [hmm]; split <;> omega
    obtain ⟨l, hll, hlc⟩ := Kw (w := w) (a := a) len fun i hi => by
      obtain ⟨e1, e2⟩ := hx i (by omega)
      obtain ⟨z, ez, _, wz⟩ := DataW.trod_int he e2
      simp at ez
      exact ⟨z, by rw [e1, ez], wz⟩
    subst hll
    refine ⟨_, some l, [a.block], hc, (fun l' h => by cases h; omega), fun ρ hg => ?_⟩
    refine ⟨a, cap, rfl, hl, QX l, fun hpos => ?_⟩
    have h0 := hlc 0 hpos
    obtain ⟨b, o, c, e', fr, ea, hw, hco⟩ := Kt (show w.cell? a=_ from h0)
    refine ⟨b, o, c, e', fr, ea, hg b (by rw [ea]; simp) c e' fr hw, fun j hj => ?_⟩
    have h1 := hlc j hj
    rw [ea, Go.WideShapes.add_plain] at h1
    have h1:c[o+j]? = some (.int .u8 (l[j].toNat:Int)) := by simpa [World.cell?, hw] using h1
    rw [h1, GZ l j hj]
/-- Elements of one cell each, in memory: a slice that is told. -/
theorem TH {w:World} {a:Addr} {len cap:Nat} (hl:len≤cap) {l:List RV} {bl:List Nat} (hll:l.length=len) (hc:∀ ρ, Dj ρ w bl->∀ j r, l[j]? = some r->∃ v, w.cell? (a.add j)=some v∧EV ρ r v) :
    ∀ ρ φ, Dj ρ w (a.block::bl)->Ao ρ φ (.oth (.rx l len 1)) (.slice (some a) len cap) := by
  intro ρ φ hg
  have hg2 := hg.sub (cl := bl) fun b hb => List.mem_cons_of_mem _ hb
  simp only [Ao]
  refine ⟨a, cap, rfl, hl, by rw [hll, Nat.mul_one], fun hpos => ?_⟩
  obtain ⟨v0, hv0, _⟩ := hc ρ hg2 0 (l[0]'(by omega)) (List.getElem?_eq_getElem _)
  obtain ⟨b, o, c, e', fr, ea, hw, hco⟩ := Kt (show w.cell? a=_ from hv0)
  refine ⟨b, o, c, e', fr, ea, hg b (by rw [ea]; simp) c e' fr hw, fun j r hj => ?_⟩
  obtain ⟨v, hv, hr⟩ := hc ρ hg2 j r hj
  rw [ea, Go.WideShapes.add_plain] at hv
  exact ⟨v, by simpa [World.cell?, hw] using hv, hr⟩
/-- A slice of slices of bytes. -/
theorem W2 {P:Program} {H:Type} {enc:TypeId×Value->H} {w:World} {base:Nat} {spare:Nat->Bool} {held:Bool} {fuel:Nat} {t e e2:TypeId} {cs:List Value} {x:DataW H×List MemPlace}
    (ht:P.underlying t=some (.slice e)) (he:P.underlying e=some (.slice e2)) (he2:P.underlying e2=some (.int .u8)) (ce:P.cellsOf e=1) (ce2:P.cellsOf e2=1) (h:DataW.trod enc P w base spare held fuel t cs=some x) :
    cs=[.slice none 0 0] ∨ ∃ a len cap, cs=[.slice (some a) len cap]∧len≤maxLen ∧ ∃ (l:List (Option (List UInt8))) (bl:List Nat), l.length=len∧(∀ o∈l, ∀ b, o=some b->b.length≤maxLen) ∧
      ∀ ρ φ, Dj ρ w bl->Ao ρ φ (.oth (.rx (l.map Ly) len 1)) (.slice (some a) len cap) := by
  rcases Go.Deep.open_slice1 ht ce h with ⟨hc, _⟩ | ⟨a, len, cap, m, n, V, D, Pl, hc, _, hl, hm, hmm, _, hx⟩
  · exact .inl hc
  · have hlm:len≤m := by rw [hmm]; split <;> omega
    have one:∀ i, i<len->∃ (o:Option (List UInt8)) (bl:List Nat), (∀ b, o=some b->b.length≤maxLen) ∧ ∃ v, w.cell? (a.add i)=some v ∧ ∀ ρ, Dj ρ w bl->EV ρ (Ly o) v := fun i hi => by
      obtain ⟨e1, e3⟩ := hx i (by omega)
      obtain ⟨v, o, bl, h1, h2, h3⟩ := XK he he2 ce2 e3
      simp at h1
      exact ⟨o, bl, h2, v, by rw [e1, h1], h3⟩
    have all:∀ k, k≤len->∃ (l:List (Option (List UInt8))) (bl:List Nat), l.length=k∧(∀ o∈l, ∀ b, o=some b->b.length≤maxLen) ∧ ∀ ρ, Dj ρ w bl->∀ j r, (l.map Ly)[j]? = some r->∃ v, w.cell? (a.add j)=some v∧EV ρ r v := by
      intro k
      induction k with
      | zero => exact fun _ => ⟨[], [], rfl, (fun o ho => by cases ho), fun ρ _ j r h => by simp at h⟩
      | succ k ih =>
        intro hk
        obtain ⟨l, bl, h1, h2, h3⟩ := ih (by omega)
        obtain ⟨o, cl, g1, v, g2, g3⟩ := one k (by omega)
        refine ⟨l++[o], bl++cl, by simp [h1], fun o' ho => ?_, fun ρ hg j r hj => ?_⟩
        · rcases List.mem_append.1 ho with ho | ho
          · exact h2 o' ho
          · rw [List.mem_singleton.1 ho]; exact g1
        · rw [List.map_append] at hj
          by_cases hjn:j<k
          · rw [List.getElem?_append_left (by simp; omega)] at hj
            exact h3 ρ (hg.sub fun b hb => List.mem_append_left _ hb) j r hj
          · rw [List.getElem?_append_right (by simp; omega)] at hj
            rcases Nat.eq_zero_or_pos (j - (l.map Ly).length) with h | h
            · rw [h] at hj
              simp at hj
              subst hj
              obtain rfl:j=k := by simp at h; omega
              exact ⟨v, g2, g3 ρ (hg.sub fun b hb => List.mem_append_right _ hb)⟩
            · rw [List.getElem?_eq_none (by simp at h ⊢; omega)] at hj; cases hj
    obtain ⟨l, bl, h1, h2, h3⟩ := all len (Nat.le_refl _)
    refine .inr ⟨a, len, cap, hc, by omega, l, a.block::bl, h1, h2, fun ρ φ hg => ?_⟩
    exact TH hl (by simp [h1]) h3 ρ φ hg
/-- A slice of ints. -/
theorem VH {P:Program} {H:Type} {enc:TypeId×Value->H} {w:World} {base:Nat} {spare:Nat->Bool} {held:Bool} {fuel:Nat} {t e:TypeId} {cs:List Value} {x:DataW H×List MemPlace}
    (ht:P.underlying t=some (.slice e)) (he:P.underlying e=some (.int .i64)) (ce:P.cellsOf e=1) (h:DataW.trod enc P w base spare held fuel t cs=some x) :
    cs=[.slice none 0 0] ∨ ∃ a len cap, cs=[.slice (some a) len cap]∧len≤maxLen ∧ ∃ (l:List Nat) (bl:List Nat), l.length=len∧(∀ o∈l, o<18446744073709551616) ∧
      ∀ ρ φ, Dj ρ w bl->Ao ρ φ (.oth (.rx (l.map (RV.i .i64)) len 1)) (.slice (some a) len cap) := by
  rcases Go.Deep.open_slice1 ht ce h with ⟨hc, _⟩ | ⟨a, len, cap, m, n, V, D, Pl, hc, _, hl, hm, hmm, _, hx⟩
  · exact .inl hc
  · have hlm:len≤m := by rw [hmm]; split <;> omega
    have one:∀ i, i<len->∃ (o:Nat) (bl:List Nat), o<18446744073709551616 ∧ ∃ v, w.cell? (a.add i)=some v ∧ ∀ ρ, Dj ρ w bl->EV ρ (.i .i64 o) v := fun i hi => by
      obtain ⟨e1, e3⟩ := hx i (by omega)
      obtain ⟨z, ez, _, wz⟩ := DataW.trod_int he e3
      simp at ez
      have hb := Yw wz
      obtain ⟨r, hr, hz⟩:∃ r:Nat, r<18446744073709551616∧z=C8 .i64 r := by
        rcases Int.lt_or_le z 0 with hn | hn
        · refine ⟨(z+18446744073709551616).toNat, by omega, ?_⟩
          rw [Co (show ¬ (z+18446744073709551616).toNat<Hk .i64 by show ¬ _<9223372036854775808; omega)]
          show z=((z+18446744073709551616).toNat:Int) - (18446744073709551616:Nat); omega
        · refine ⟨z.toNat, by omega, ?_⟩
          rw [Al (show z.toNat<Hk .i64 by show _<9223372036854775808; omega)]; omega
      exact ⟨r, [], hr, .int .i64 z, by rw [e1, ez], fun ρ _ => ⟨hr, by rw [hz]⟩⟩
    have all:∀ k, k≤len->∃ (l:List Nat) (bl:List Nat), l.length=k∧(∀ o∈l, o<18446744073709551616) ∧ ∀ ρ, Dj ρ w bl->∀ j r, (l.map (RV.i .i64))[j]? = some r->∃ v, w.cell? (a.add j)=some v∧EV ρ r v := by
      intro k
      induction k with
      | zero => exact fun _ => ⟨[], [], rfl, (fun o ho => by cases ho), fun ρ _ j r h => by simp at h⟩
      | succ k ih =>
        intro hk
        obtain ⟨l, bl, h1, h2, h3⟩ := ih (by omega)
        obtain ⟨o, cl, g1, v, g2, g3⟩ := one k (by omega)
        refine ⟨l++[o], bl++cl, by simp [h1], fun o' ho => ?_, fun ρ hg j r hj => ?_⟩
        · rcases List.mem_append.1 ho with ho | ho
          · exact h2 o' ho
          · rw [List.mem_singleton.1 ho]; exact g1
        · rw [List.map_append] at hj
          by_cases hjn:j<k
          · rw [List.getElem?_append_left (by simp; omega)] at hj
            exact h3 ρ (hg.sub fun b hb => List.mem_append_left _ hb) j r hj
          · rw [List.getElem?_append_right (by simp; omega)] at hj
            rcases Nat.eq_zero_or_pos (j - (l.map (RV.i .i64)).length) with h | h
            · rw [h] at hj
              simp at hj
              subst hj
              obtain rfl:j=k := by simp at h; omega
              exact ⟨v, g2, g3 ρ (hg.sub fun b hb => List.mem_append_right _ hb)⟩
            · rw [List.getElem?_eq_none (by simp at h ⊢; omega)] at hj; cases hj
    obtain ⟨l, bl, h1, h2, h3⟩ := all len (Nat.le_refl _)
    refine .inr ⟨a, len, cap, hc, by omega, l, a.block::bl, h1, h2, fun ρ φ hg => ?_⟩
    exact TH hl (by simp [h1]) h3 ρ φ hg
theorem KJ {l:List RV} {m i:Nat} (hi:i<m) (h2:i<9223372036854775808) (κ:V->R):Bi 1 (.oth (.rx l m 1)) (.int .i64 i) κ=κ (.oth (.rp (l.drop i))) := by
  show br (Nat.ble (Nat.succ i) 9223372036854775808) (br (Nat.beq 1 1) (br (Nat.ble (Nat.succ i) m) (Aa (Nat.mul i 1) fun j => κ (.oth (.rp (l.drop j)))) (.fail "")) (.fail "")) (.fail "")=_
  rw [show Nat.ble (Nat.succ i) 9223372036854775808=true from Ab.2 h2, Ac, Nat.beq_refl, Ac, show Nat.ble (Nat.succ i) m=true from Ab.2 hi, Ac, A8, show Nat.mul i 1=i from Nat.mul_one i]
theorem L1 (r:RV) (l:List RV) (h:Heap) (κ:V->R):AA (.oth (.rp (r::l))) h κ=κ r.v := id rfl
end Go.Ev

namespace Go.Ev
set_option linter.unusedVariables false
def Oc (o:Cf):Bool := @Option.rec Ob (fun _ => Bool) true (fun _ => false) o
theorem Ep {o:Cf} (h:Oc o=true):o=none := by cases o with
  | none => rfl
  | some _ => cases h
theorem AM {a b:Bool} (h:and a b=true):a=true∧b=true := by cases a <;> cases b <;> first | exact ⟨rfl, rfl⟩ | cases h
def Oe (p:HA):Bool := @HA.rec (fun _ => Bool) (fun A B C E F G I J L M N O P Q T U => and (Oc A) (and (Oc B) (and (Oc C) (and (Oc E) (and (Oc F) (and (Oc G) (and (Oc I) (and (Oc J) (and (Oc L) (and (Oc M) (and (Oc N) (and (Oc O) (and (Oc P) (and (Oc Q) (and (Oc T) (Oc U)))))))))))))))) p
def Od (p:HB):Bool := @HB.rec (fun _ => Bool) (fun A B C E F G I J L M N O P Q T U => and (Oe A) (and (Oe B) (and (Oe C) (and (Oe E) (and (Oe F) (and (Oe G) (and (Oe I) (and (Oe J) (and (Oe L) (and (Oe M) (and (Oe N) (and (Oe O) (and (Oe P) (and (Oe Q) (and (Oe T) (Oe U)))))))))))))))) p
def Pc (p:HC):Bool := @HC.rec (fun _ => Bool) (fun A B C E F G I J L M N O P Q T U => and (Od A) (and (Od B) (and (Od C) (and (Od E) (and (Od F) (and (Od G) (and (Od I) (and (Od J) (and (Od L) (and (Od M) (and (Od N) (and (Od O) (and (Od P) (and (Od Q) (and (Od T) (Od U)))))))))))))))) p
theorem EJ {p:HA} (h:Oe p=true) (d:D):HA.sel d p=none := by
  cases p with | mk A B C E F G I J L M N O P Q T U =>
  unfold Oe at h
  dsimp only at h
  obtain ⟨a0, h⟩ := AM h
  obtain ⟨a1, h⟩ := AM h
  obtain ⟨a2, h⟩ := AM h
  obtain ⟨a3, h⟩ := AM h
  obtain ⟨a4, h⟩ := AM h
  obtain ⟨a5, h⟩ := AM h
  obtain ⟨a6, h⟩ := AM h
  obtain ⟨a7, h⟩ := AM h
  obtain ⟨a8, h⟩ := AM h
  obtain ⟨a9, h⟩ := AM h
  obtain ⟨a10, h⟩ := AM h
  obtain ⟨a11, h⟩ := AM h
  obtain ⟨a12, h⟩ := AM h
  obtain ⟨a13, h⟩ := AM h
  obtain ⟨a14, h⟩ := AM h
  cases d
  · exact Ep a0
  · exact Ep a1
  · exact Ep a2
  · exact Ep a3
  · exact Ep a4
  · exact Ep a5
  · exact Ep a6
  · exact Ep a7
  · exact Ep a8
  · exact Ep a9
  · exact Ep a10
  · exact Ep a11
  · exact Ep a12
  · exact Ep a13
  · exact Ep a14
  · exact Ep h
theorem EN {p:HB} (h:Od p=true) (c d:D):HA.sel d (HB.sel c p)=none := by
  cases p with | mk A B C E F G I J L M N O P Q T U =>
  unfold Od at h
  dsimp only at h
  obtain ⟨a0, h⟩ := AM h
  obtain ⟨a1, h⟩ := AM h
  obtain ⟨a2, h⟩ := AM h
  obtain ⟨a3, h⟩ := AM h
  obtain ⟨a4, h⟩ := AM h
  obtain ⟨a5, h⟩ := AM h
  obtain ⟨a6, h⟩ := AM h
  obtain ⟨a7, h⟩ := AM h
  obtain ⟨a8, h⟩ := AM h
  obtain ⟨a9, h⟩ := AM h
  obtain ⟨a10, h⟩ := AM h
  obtain ⟨a11, h⟩ := AM h
  obtain ⟨a12, h⟩ := AM h
  obtain ⟨a13, h⟩ := AM h
  obtain ⟨a14, h⟩ := AM h
  cases c
  · exact EJ a0 d
  · exact EJ a1 d
  · exact EJ a2 d
  · exact EJ a3 d
  · exact EJ a4 d
  · exact EJ a5 d
  · exact EJ a6 d
  · exact EJ a7 d
  · exact EJ a8 d
  · exact EJ a9 d
  · exact EJ a10 d
  · exact EJ a11 d
  · exact EJ a12 d
  · exact EJ a13 d
  · exact EJ a14 d
  · exact EJ h d
theorem Aao {p:HC} (h:Pc p=true) (b c d:D):HA.sel d (HB.sel c (HC.sel b p))=none := by
  cases p with | mk A B C E F G I J L M N O P Q T U =>
  unfold Pc at h
  dsimp only at h
  obtain ⟨a0, h⟩ := AM h
  obtain ⟨a1, h⟩ := AM h
  obtain ⟨a2, h⟩ := AM h
  obtain ⟨a3, h⟩ := AM h
  obtain ⟨a4, h⟩ := AM h
  obtain ⟨a5, h⟩ := AM h
  obtain ⟨a6, h⟩ := AM h
  obtain ⟨a7, h⟩ := AM h
  obtain ⟨a8, h⟩ := AM h
  obtain ⟨a9, h⟩ := AM h
  obtain ⟨a10, h⟩ := AM h
  obtain ⟨a11, h⟩ := AM h
  obtain ⟨a12, h⟩ := AM h
  obtain ⟨a13, h⟩ := AM h
  obtain ⟨a14, h⟩ := AM h
  cases b
  · exact EN a0 c d
  · exact EN a1 c d
  · exact EN a2 c d
  · exact EN a3 c d
  · exact EN a4 c d
  · exact EN a5 c d
  · exact EN a6 c d
  · exact EN a7 c d
  · exact EN a8 c d
  · exact EN a9 c d
  · exact EN a10 c d
  · exact EN a11 c d
  · exact EN a12 c d
  · exact EN a13 c d
  · exact EN a14 c d
  · exact EN h c d
def RX (f:D->Bool):Bool := and (f .d0) (and (f .d1) (and (f .d2) (and (f .d3) (and (f .d4) (and (f .d5) (and (f .d6) (and (f .d7) (and (f .d8) (and (f .d9) (and (f .d10) (and (f .d11) (and (f .d12) (and (f .d13) (and (f .d14) (f .d15)))))))))))))))
theorem NN {f:D->Bool} (h:RX f=true) (d:D):f d=true := by
  unfold RX at h
  obtain ⟨a0, h⟩ := AM h
  obtain ⟨a1, h⟩ := AM h
  obtain ⟨a2, h⟩ := AM h
  obtain ⟨a3, h⟩ := AM h
  obtain ⟨a4, h⟩ := AM h
  obtain ⟨a5, h⟩ := AM h
  obtain ⟨a6, h⟩ := AM h
  obtain ⟨a7, h⟩ := AM h
  obtain ⟨a8, h⟩ := AM h
  obtain ⟨a9, h⟩ := AM h
  obtain ⟨a10, h⟩ := AM h
  obtain ⟨a11, h⟩ := AM h
  obtain ⟨a12, h⟩ := AM h
  obtain ⟨a13, h⟩ := AM h
  obtain ⟨a14, h⟩ := AM h
  cases d
  · exact a0
  · exact a1
  · exact a2
  · exact a3
  · exact a4
  · exact a5
  · exact a6
  · exact a7
  · exact a8
  · exact a9
  · exact a10
  · exact a11
  · exact a12
  · exact a13
  · exact a14
  · exact h
end Go.Ev

namespace Go.Ev
set_option linter.unusedVariables false
def WY (n:K4) (p:HC):Bool := RX fun b => RX fun c => RX fun d => @Bool.rec (fun _ => Bool) true (Oc (HA.sel d (HB.sel c (HC.sel b p)))) (Nat.ble n.toN (K4.toN ⟨.d0, b, c, d⟩))
theorem Wt {n:K4} {p:HC} (h:WY n p=true) (b c d:D) (hn:n.toN≤(K4.toN ⟨.d0, b, c, d⟩)):HA.sel d (HB.sel c (HC.sel b p))=none := by
  have h1 := NN (NN (NN h b) c) d
  rw [show Nat.ble n.toN (K4.toN ⟨.d0, b, c, d⟩)=true from Nat.ble_eq_true_of_le hn] at h1
  exact Ep h1
def Vq (n:K4) (p:Heap):Bool := and (WY n (Heap.sel .d0 p)) (RX fun a => @D.rec (fun _ => Bool) true (Pc (Heap.sel .d1 p)) (Pc (Heap.sel .d2 p)) (Pc (Heap.sel .d3 p)) (Pc (Heap.sel .d4 p)) (Pc (Heap.sel .d5 p)) (Pc (Heap.sel .d6 p)) (Pc (Heap.sel .d7 p)) (Pc (Heap.sel .d8 p)) (Pc (Heap.sel .d9 p)) (Pc (Heap.sel .d10 p)) (Pc (Heap.sel .d11 p)) (Pc (Heap.sel .d12 p)) (Pc (Heap.sel .d13 p)) (Pc (Heap.sel .d14 p)) (Pc (Heap.sel .d15 p)) a)
theorem VV {n:K4} {p:Heap} (h:Vq n p=true):AH p n := by
  obtain ⟨h1, h2⟩ := AM h
  rintro ⟨a, b, c, d⟩ hq
  show HA.sel d (HB.sel c (HC.sel b (Heap.sel a p)))=none
  have h3 := NN h2 a
  cases a
  · exact Wt h1 b c d hq
  all_goals exact Aao h3 b c d
def Xk (r:R):Bool :=
  @R.rec (fun _ => Bool) (fun _ _ _ _ => false) (fun v h n => and (Ic v) (and (Nat.ble n.toN 4000) (Vq n h))) (fun _ => false) (fun _ _ _ _ => false) r
theorem VC {r:R} (h:Xk r=true):∃ h n, r = .rv (.bool true) h n∧n.toN≤4000∧AH h n := by
  cases r with
  | rv v hh n =>
    obtain ⟨h1, h2⟩ := AM (show and (Ic v) (and (Nat.ble n.toN 4000) (Vq n hh))=true from h)
    obtain ⟨h2, h3⟩ := AM h2
    exact ⟨hh, n, by rw [Kj h1], Nat.le_of_ble_eq_true h2, VV h3⟩
  | _ => cases h
end Go.Ev

namespace Go.Ev
open Go.RowKit Go.ChangeShapes
set_option linter.unusedVariables false
theorem MZ {w:World} {a:Addr} {α:Type} {f:α->RV} {Q:α->Prop}:∀ k:Nat, (∀ i, i<k->∃ (o:α) (bl:List Nat), Q o ∧ ∃ v, w.cell? (a.add i)=some v ∧ ∀ ρ, Dj ρ w bl->EV ρ (f o) v) →
    ∃ (l:List α) (bl:List Nat), l.length=k∧(∀ o∈l, Q o) ∧ ∀ ρ, Dj ρ w bl->∀ j r, (l.map f)[j]? = some r->∃ v, w.cell? (a.add j)=some v∧EV ρ r v
  | 0, _ => ⟨[], [], rfl, (fun o ho => by cases ho), fun ρ _ j r h => by simp at h⟩
  | k+1, one => by
    obtain ⟨l, bl, h1, h2, h3⟩ := MZ k fun i hi => one i (by omega)
    obtain ⟨o, cl, g1, v, g2, g3⟩ := one k (by omega)
    refine ⟨l++[o], bl++cl, by simp [h1], fun o' ho => ?_, fun ρ hg j r hj => ?_⟩
    · rcases List.mem_append.1 ho with ho | ho
      · exact h2 o' ho
      · rw [List.mem_singleton.1 ho]; exact g1
    · rw [List.map_append] at hj
      by_cases hjn:j<k
      · rw [List.getElem?_append_left (by simp; omega)] at hj
        exact h3 ρ (hg.sub fun b hb => List.mem_append_left _ hb) j r hj
      · rw [List.getElem?_append_right (by simp; omega)] at hj
        rcases Nat.eq_zero_or_pos (j - (l.map f).length) with h | h
        · rw [h] at hj
          simp at hj
          subst hj
          obtain rfl:j=k := by simp at h; omega
          exact ⟨v, g2, g3 ρ (hg.sub fun b hb => List.mem_append_right _ hb)⟩
        · rw [List.getElem?_eq_none (by simp at h ⊢; omega)] at hj; cases hj
/-- A slice of bools. -/
theorem Wq {P:Program} {H:Type} {enc:TypeId×Value->H} {w:World} {base:Nat} {spare:Nat->Bool} {held:Bool} {fuel:Nat} {t e:TypeId} {cs:List Value} {x:DataW H×List MemPlace}
    (ht:P.underlying t=some (.slice e)) (he:P.underlying e=some .bool) (ce:P.cellsOf e=1) (h:DataW.trod enc P w base spare held fuel t cs=some x) :
    cs=[.slice none 0 0] ∨ ∃ a len cap, cs=[.slice (some a) len cap]∧len≤maxLen ∧ ∃ (l:List Bool) (bl:List Nat), l.length=len ∧
      ∀ ρ φ, Dj ρ w bl->Ao ρ φ (.oth (.rx (l.map RV.b) len 1)) (.slice (some a) len cap) := by
  rcases Go.Deep.open_slice1 ht ce h with ⟨hc, _⟩ | ⟨a, len, cap, m, n, V, D, Pl, hc, _, hl, hm, hmm, _, hx⟩
  · exact .inl hc
  · have hlm:len≤m := by rw [hmm]; split <;> omega
    obtain ⟨l, bl, h1, _, h3⟩ := MZ (w := w) (a := a) (f := RV.b) (Q := fun _ => True) len fun i hi => by
      obtain ⟨e1, e3⟩ := hx i (by omega)
      obtain ⟨z, ez, _⟩ := DataW.trod_bool he e3
      simp at ez
      exact ⟨z, [], trivial, .bool z, by rw [e1, ez], fun ρ _ => rfl⟩
    exact .inr ⟨a, len, cap, hc, by omega, l, a.block::bl, h1, fun ρ φ hg => TH hl (by simp [h1]) h3 ρ φ hg⟩
end Go.Ev
