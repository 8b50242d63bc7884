/- AN EVALUATOR OF THE MODEL OF Go, PROVED SOUND, PART 5: what it says of a call holds in every world, on every tape. Conditions: none of its own; each theorem bears its premises. -/
import Derived.Test.YtdgefeadbcbglaaDoorMEv4
import Derived.ChangeSame
import Derived.Deep.Slices
import Derived.Shelf.Strconv.Itoa1
import GoSem.ClaimGoes
noncomputable section
set_option linter.unusedSimpArgs false
set_option linter.unusedVariables false
namespace Go.Ev
set_option linter.unusedVariables false
/-- What a function is: code, or a step of the evaluator's own. -/
inductive Ent where
  | code (entry:List V->(S->R)->R) (body:DZ->S->Heap->K4->R) (res:S->Heap->K4->R)
  | prim (p:Nq)
  | br (k:Nat) (entry:List V->(S->R)->R) (body:DZ->S->Heap->K4->R) (res:S->Heap->K4->R)
  | ap (f:Nat) (its:List Nat) (rd:Rd)
  | tree (p:Nq)
abbrev DF := Option Ent
/-- Sixteen functions. -/
inductive FA where
  | mk (A B C E F G I J L M N O P Q T U:DF)
def FA.sel (d:D) (p:FA):DF :=
  @FA.rec (fun _ => DF) (fun A B C E F G I J L M N O P Q T U => @D.rec (fun _ => DF) A B C E F G I J L M N O P Q T U d) p
def Abb (p:FA) (k:DF->R):R := @FA.rec (fun _ => R) (fun A B C E F G I J L M N O P Q T U => k A) p
def Abz (p:FA) (k:DF->R):R := @FA.rec (fun _ => R) (fun A B C E F G I J L M N O P Q T U => k B) p
def Acq (p:FA) (k:DF->R):R := @FA.rec (fun _ => R) (fun A B C E F G I J L M N O P Q T U => k C) p
def Ad5 (p:FA) (k:DF->R):R := @FA.rec (fun _ => R) (fun A B C E F G I J L M N O P Q T U => k E) p
def Ae8 (p:FA) (k:DF->R):R := @FA.rec (fun _ => R) (fun A B C E F G I J L M N O P Q T U => k F) p
def Adi (p:FA) (k:DF->R):R := @FA.rec (fun _ => R) (fun A B C E F G I J L M N O P Q T U => k G) p
def Aa3 (p:FA) (k:DF->R):R := @FA.rec (fun _ => R) (fun A B C E F G I J L M N O P Q T U => k I) p
def Abw (p:FA) (k:DF->R):R := @FA.rec (fun _ => R) (fun A B C E F G I J L M N O P Q T U => k J) p
def Ac9 (p:FA) (k:DF->R):R := @FA.rec (fun _ => R) (fun A B C E F G I J L M N O P Q T U => k L) p
def Aa8 (p:FA) (k:DF->R):R := @FA.rec (fun _ => R) (fun A B C E F G I J L M N O P Q T U => k M) p
def YG (p:FA) (k:DF->R):R := @FA.rec (fun _ => R) (fun A B C E F G I J L M N O P Q T U => k N) p
def Z1 (p:FA) (k:DF->R):R := @FA.rec (fun _ => R) (fun A B C E F G I J L M N O P Q T U => k O) p
def YS (p:FA) (k:DF->R):R := @FA.rec (fun _ => R) (fun A B C E F G I J L M N O P Q T U => k P) p
def Ye (p:FA) (k:DF->R):R := @FA.rec (fun _ => R) (fun A B C E F G I J L M N O P Q T U => k Q) p
def Zj (p:FA) (k:DF->R):R := @FA.rec (fun _ => R) (fun A B C E F G I J L M N O P Q T U => k T) p
def Yz (p:FA) (k:DF->R):R := @FA.rec (fun _ => R) (fun A B C E F G I J L M N O P Q T U => k U) p
def FA.selK (d:D):FA->(DF->R)->R :=
  @D.rec (fun _ => FA->(DF->R)->R) Abb Abz Acq Ad5 Ae8 Adi Aa3 Abw Ac9 Aa8 YG Z1 YS Ye Zj Yz d
theorem FA.selK_eq (d:D) (p:FA) (k:DF->R):FA.selK d p k=k (FA.sel d p) := by
  cases d <;> cases p <;> rfl
/-- Of those sixteen. -/
inductive FB where
  | mk (A B C E F G I J L M N O P Q T U:FA)
def FB.sel (d:D) (p:FB):FA :=
  @FB.rec (fun _ => FA) (fun A B C E F G I J L M N O P Q T U => @D.rec (fun _ => FA) A B C E F G I J L M N O P Q T U d) p
def Aaw (p:FB) (k:FA->R):R := @FB.rec (fun _ => R) (fun A B C E F G I J L M N O P Q T U => k A) p
def Ab3 (p:FB) (k:FA->R):R := @FB.rec (fun _ => R) (fun A B C E F G I J L M N O P Q T U => k B) p
def Ad9 (p:FB) (k:FA->R):R := @FB.rec (fun _ => R) (fun A B C E F G I J L M N O P Q T U => k C) p
def Abf (p:FB) (k:FA->R):R := @FB.rec (fun _ => R) (fun A B C E F G I J L M N O P Q T U => k E) p
def Ae9 (p:FB) (k:FA->R):R := @FB.rec (fun _ => R) (fun A B C E F G I J L M N O P Q T U => k F) p
def Acs (p:FB) (k:FA->R):R := @FB.rec (fun _ => R) (fun A B C E F G I J L M N O P Q T U => k G) p
def Ade (p:FB) (k:FA->R):R := @FB.rec (fun _ => R) (fun A B C E F G I J L M N O P Q T U => k I) p
def Adk (p:FB) (k:FA->R):R := @FB.rec (fun _ => R) (fun A B C E F G I J L M N O P Q T U => k J) p
def Aak (p:FB) (k:FA->R):R := @FB.rec (fun _ => R) (fun A B C E F G I J L M N O P Q T U => k L) p
def Ace (p:FB) (k:FA->R):R := @FB.rec (fun _ => R) (fun A B C E F G I J L M N O P Q T U => k M) p
def XC (p:FB) (k:FA->R):R := @FB.rec (fun _ => R) (fun A B C E F G I J L M N O P Q T U => k N) p
def YJ (p:FB) (k:FA->R):R := @FB.rec (fun _ => R) (fun A B C E F G I J L M N O P Q T U => k O) p
def Z3 (p:FB) (k:FA->R):R := @FB.rec (fun _ => R) (fun A B C E F G I J L M N O P Q T U => k P) p
def Ym (p:FB) (k:FA->R):R := @FB.rec (fun _ => R) (fun A B C E F G I J L M N O P Q T U => k Q) p
def XL (p:FB) (k:FA->R):R := @FB.rec (fun _ => R) (fun A B C E F G I J L M N O P Q T U => k T) p
def Zs (p:FB) (k:FA->R):R := @FB.rec (fun _ => R) (fun A B C E F G I J L M N O P Q T U => k U) p
def FB.selK (d:D):FB->(FA->R)->R :=
  @D.rec (fun _ => FB->(FA->R)->R) Aaw Ab3 Ad9 Abf Ae9 Acs Ade Adk Aak Ace XC YJ Z3 Ym XL Zs d
theorem FB.selK_eq (d:D) (p:FB) (k:FA->R):FB.selK d p k=k (FB.sel d p) := by
  cases d <;> cases p <;> rfl
/-- The table of the functions. -/
inductive FC where
  | mk (A B C E F G I J L M N O P Q T U:FB)
def FC.sel (d:D) (p:FC):FB :=
  @FC.rec (fun _ => FB) (fun A B C E F G I J L M N O P Q T U => @D.rec (fun _ => FB) A B C E F G I J L M N O P Q T U d) p
def ZY (p:FC) (k:FB->R):R := @FC.rec (fun _ => R) (fun A B C E F G I J L M N O P Q T U => k A) p
def Acx (p:FC) (k:FB->R):R := @FC.rec (fun _ => R) (fun A B C E F G I J L M N O P Q T U => k B) p
def Ac4 (p:FC) (k:FB->R):R := @FC.rec (fun _ => R) (fun A B C E F G I J L M N O P Q T U => k C) p
def Aba (p:FC) (k:FB->R):R := @FC.rec (fun _ => R) (fun A B C E F G I J L M N O P Q T U => k E) p
def Aan (p:FC) (k:FB->R):R := @FC.rec (fun _ => R) (fun A B C E F G I J L M N O P Q T U => k F) p
def ZV (p:FC) (k:FB->R):R := @FC.rec (fun _ => R) (fun A B C E F G I J L M N O P Q T U => k G) p
def Aac (p:FC) (k:FB->R):R := @FC.rec (fun _ => R) (fun A B C E F G I J L M N O P Q T U => k I) p
def Abi (p:FC) (k:FB->R):R := @FC.rec (fun _ => R) (fun A B C E F G I J L M N O P Q T U => k J) p
def Ad4 (p:FC) (k:FB->R):R := @FC.rec (fun _ => R) (fun A B C E F G I J L M N O P Q T U => k L) p
def Ae5 (p:FC) (k:FB->R):R := @FC.rec (fun _ => R) (fun A B C E F G I J L M N O P Q T U => k M) p
def XQ (p:FC) (k:FB->R):R := @FC.rec (fun _ => R) (fun A B C E F G I J L M N O P Q T U => k N) p
def Z7 (p:FC) (k:FB->R):R := @FC.rec (fun _ => R) (fun A B C E F G I J L M N O P Q T U => k O) p
def Xx (p:FC) (k:FB->R):R := @FC.rec (fun _ => R) (fun A B C E F G I J L M N O P Q T U => k P) p
def Yf (p:FC) (k:FB->R):R := @FC.rec (fun _ => R) (fun A B C E F G I J L M N O P Q T U => k Q) p
def Zq (p:FC) (k:FB->R):R := @FC.rec (fun _ => R) (fun A B C E F G I J L M N O P Q T U => k T) p
def Z4 (p:FC) (k:FB->R):R := @FC.rec (fun _ => R) (fun A B C E F G I J L M N O P Q T U => k U) p
def FC.selK (d:D):FC->(FB->R)->R :=
  @D.rec (fun _ => FC->(FB->R)->R) ZY Acx Ac4 Aba Aan ZV Aac Abi Ad4 Ae5 XQ Z7 Xx Yf Zq Z4 d
theorem FC.selK_eq (d:D) (p:FC) (k:FB->R):FC.selK d p k=k (FC.sel d p) := by
  cases d <;> cases p <;> rfl
def C5 (k:K3) (T:FC):DF := FA.sel k.c (FB.sel k.b (FC.sel k.a T))
def V6 (k:K3) (T:FC) (κ:DF->R):R := @K3.rec (fun _ => R) (fun a b c => FC.selK a T fun x => FB.selK b x fun y => FA.selK c y κ) k
theorem Q6 (k:K3) (T:FC) (κ:DF->R):V6 k T κ=κ (C5 k T) := by
  cases k; simp only [V6, C5, FC.selK_eq, FB.selK_eq, FA.selK_eq]
abbrev Od (ps:List K2):List V->Regs->(Regs->R)->R :=
  @List.rec K2 (fun _ => List V->Regs->(Regs->R)->R) (fun l t κ => T8 l (κ t)) (fun p _ ih l t κ => Nz l fun v l => MZ p t v fun t => ih l t κ) ps
theorem Oj:∀ (ps:List K2) (l:List V) (t:Regs) (κ:Regs->R), Od ps l t κ=RR l ps t κ
  | [], l, t, κ => by cases l <;> rfl
  | p::ps, l, t, κ => by
    cases l with
    | nil => rfl
    | cons v l =>
      show MZ p t v (fun t => Od ps l t κ)=MZ p t v fun t => RR l ps t κ
      rw [Nx, Nx, Oj]
def KJ (r:R) (res:S->Heap->K4->R):R :=
  @R.rec (fun _ => R) (fun e t h n => @Ex.rec (fun _ => R) (res t h n) (AV "") (res t h n) e) (Cb "") (fun w => .fail w) (fun _ _ a b => .both a b) r
def KW (r:R):R := @R.rec (fun _ => R) (Fp "") (fun v h n => .rv v h n) (fun w => .fail w) (Fp "") r
def VY (v:V) (yes no:R):R :=
  @V.rec (fun _ => R) (fun _ => Unit) (fun _ _ => no) (fun _ => no) (fun _ _ => no) (fun _ _ _ _ _ _ => no) (fun _ _ => no) (fun _ _ => no) (fun _ => no) (fun _ => no) (fun _ _ _ => no) (fun _ _ => no)
    (fun o => @Ot.rec (fun _ => R) no (fun _ => no) (fun _ => no) yes (fun _ _ _ => no) (fun _ _ => no) no (fun _ _ => no) (fun _ _ _ _ => no) (fun _ _ _ _ => no) (fun _ _ _ => no) (fun _ _ => no) (fun _ _ => no) (fun _ _ _ => no) (fun _ => no) o) () (fun _ _ _ _ => ()) v
def ZJ (f:Nat) (its:List Nat) (rd:Rd) (cf:DZ) (args:List V) (h:Heap) (n:K4):R :=
  Nz args fun v l => VY v (Nz l fun b l => Nz l fun x l => T8 l (rd cf b x h n)) (X6 f its cf args h n)
def NO (cf:DZ) (o:DF) (args:List V) (h:Heap) (n:K4):R :=
  @Option.rec Ent (fun _ => R) (.fail "") (fun e => @Ent.rec (fun _ => R) (fun entry body res => entry args fun t => KJ (body cf t h n) res) (fun p => KW (p args h n)) (fun k entry body res => KW (Zy k (fun hs => entry args fun t => KJ (body cf t hs n) res) args h n)) (fun f its rd => ZJ f its rd cf args h n) (fun p => p args h n) e) o
/-- What a call comes to. -/
def Ar (T:FC) (m:Nat):DZ :=
  @Nat.rec (fun _ => DZ) (Fp "") (fun _ ih f args h n => V6 f T fun o => NO ih o args h n) m
/-- The kept registers out of all of them. -/
abbrev Xq (sm:SM) (t:Regs):S := @List.rec (K2×SL) (fun _ => S) Fi (fun x _ ih => S.put x.2 ih (Bg x.1 t)) sm
theorem Qj {t:Regs}:∀ {sm:SM}, PK sm=true->∀ {p:K2} {s:SL}, CJ p sm=some s->S.get s (Xq sm t)=Bg p t
  | [], _, p, s, h => by cases h
  | x::l, hok, p, s, h => by
    simp only [PK, Bool.and_eq_true] at hok
    have e1:Xq (x::l) t=S.put x.2 (Xq l t) (Bg x.1 t) := rfl
    rw [e1]
    simp only [CJ] at h
    cases hb:K2.beq x.1 p with
    | true =>
      rw [hb] at h
      have h:some x.2=some s := h
      cases h
      rw [S.get_put_same, K2.beq_iff.1 hb]
    | false =>
      rw [hb] at h
      have h:CJ p l=some s := h
      have hne:x.2≠s := fun e => by
        have := List.all_eq_true.1 hok.1 _ (Hl h)
        rw [←e] at this
        simp [SL.beq, O8.beq_self, O4.beq_self] at this
      rw [S.get_put_ne _ _ hne]
      exact Qj hok.2 h
abbrev SZ (sm:SM) (r:ARes) (t:S) (h:Heap) (κ:V->R):R :=
  @ARes.rec (fun _ => R) (fun p => Bi sm [] t (.t p) κ) (fun p m => Bi sm [] t (.t p) fun v => JP v fun q off => Nm q h fun cs _ _ =>
    @Option.rec Nat (fun _ => R) (Ge cs off κ) (fun m => Bh cs off m fun y => E4 y fun l => κ (.agg l)) m) r
abbrev QE (sm:SM) (rs:List ARes) (t:S) (h:Heap):(List V->R)->R :=
  @List.rec ARes (fun _ => (List V->R)->R) (fun κ => κ []) (fun r _ ih κ => SZ sm r t h fun v => ih fun vs => κ (v::vs)) rs
abbrev NT (sm:SM) (rs:List ARes) (t:S) (h:Heap) (n:K4):R :=
  QE sm rs t h fun l => @List.rec V (fun _ => R) (.rv (.tup []) h n) (fun v vs _ => @List.rec V (fun _ => R) (.rv v h n) (fun _ _ _ => .rv (.tup l) h n) vs) l
/-- A function as it is run. -/
abbrev Aao (sm:SM) (a:AFn):Ent := @AFn.rec (fun _ => Ent) (fun ps c rs => .code (fun l κ => Od ps l Kg fun t => κ (Xq sm t)) (fun cf t h n => HI sm cf c r0 [] t h n) (fun t h n => NT sm rs t h n)) a
def ARes.reg (r:ARes):K2 := @ARes.rec (fun _ => K2) (fun p => p) (fun p _ => p) r
def okF (sm:SM) (a:AFn):Bool := PK sm&&(JU sm a.code (fun _ => true) []&&a.rs.all fun r => HS sm r.reg)
abbrev Yy (sm:SM) (o:Option AFn):DF := @Option.rec AFn (fun _ => DF) none (fun a => some (Aao sm a)) o
def okO (sm:SM) (o:Option AFn):Bool := @Option.rec AFn (fun _ => Bool) false (fun a => okF sm a) o
section
variable {P:Program} {ρ:Env} {B:Nat}
/-- It is that function. -/
def B1 (P:Program) (f:FuncId) (e:Ent):Prop := ∃ sm:SM, Yy sm (Kv P f)=some e∧okO sm (Kv P f)=true
theorem B1.mk {f:FuncId} {e:Ent} (sm:SM) (h:Yy sm (Kv P f)=some e) (k:okO sm (Kv P f)=true):B1 P f e := ⟨sm, h, k⟩
/-- It is that function, run on what it can reach. -/
def Abe (P:Program) (f:FuncId) (e:Ent):Prop := ∃ k en bo re, e = .br k en bo re∧B1 P f (.code en bo re)
/-- It ranges over a function. -/
def Ih (P:Program) (ρ:Env) (f:FuncId) (e:Ent):Prop := ∃ its rd A, e = .ap f its rd∧ρ.ap f=some A∧Lq P f=some A∧TV P A=some rd ∧ ∀ g∈its, JN P g
/-- A step of the evaluator's own that may come to many ways. -/
def Uk (P:Program) (ρ:Env) (B:Nat) (f:FuncId) (p:Nq):Prop :=
  ∀ args h n (Φ:R->Prop), (p args h n).sat Φ->∀ φ w (xs:Array Value), Gam ρ B h n φ w->By ρ φ args xs.toList →
    Le P f xs w fun x w' => ∃ v h1 n1 φ', Φ (.rv v h1 n1)∧Fr h h1 φ φ' n n1 w w'∧Gam ρ B h1 n1 φ' w'∧As ρ φ' v x
def LJ (P:Program) (ρ:Env) (B:Nat) (f:FuncId) (e:Ent):Prop := (B1 P f e∨Abe P f e)∨((∃ p, e = .prim p∧Nb P ρ B f p)∨(Ih P ρ f e ∨ ∃ p, e = .tree p∧Uk P ρ B f p))
def Jo (P:Program) (ρ:Env) (B:Nat) (T:FC):Prop := (∀ f e, C5 (Bz f) T=some e->LJ P ρ B f e) ∧ ∀ f A, ρ.ap f=some A->∃ e, C5 (Bz f) T=some e∧Ih P ρ f e
theorem MN {r:R} {Φ:R->Prop} (h:(KW r).sat Φ):∃ v h1 n1, r = .rv v h1 n1∧Φ (.rv v h1 n1) := by
  cases r with
  | rv v h1 n1 => exact ⟨v, h1, n1, rfl, h⟩
  | _ => exact h.elim
theorem SF {sm:SM} {r:ARes} {t:Regs} {t':S} (ri:RI sm [] [] t t') (hk:HS sm r.reg=true) (hp:Heap) (κ:V->R):SZ sm r t' hp κ=Kw r t hp κ := by
  have kn:∀ p, HS sm p=true->E1 sm [] p=true := fun p h => by unfold E1; rw [h, Bool.or_true]
  cases r with
  | tmp p => show Bi sm [] t' (.t p) κ=HW p t κ; rw [ri.tell (kn p hk), CY]
  | cel p m =>
    show Bi sm [] t' (.t p) _=HW p t _
    rw [ri.tell (kn p hk), CY, EF]
theorem OL {sm:SM} {t:Regs} {t':S} (ri:RI sm [] [] t t') {hp:Heap}:∀ {rs:List ARes} {κ:List V->R}, (∀ r∈rs, HS sm r.reg=true)->QE sm rs t' hp κ=JI rs t hp κ
  | [], κ, _ => rfl
  | r::rs, κ, h => by
    have e1:QE sm (r::rs) t' hp κ=SZ sm r t' hp fun v => QE sm rs t' hp fun vs => κ (v::vs) := rfl
    have e2:JI (r::rs) t hp κ=Kw r t hp fun v => JI rs t hp fun vs => κ (v::vs) := rfl
    rw [e1, e2, SF ri (h r (List.mem_cons_self ..))]
    congr 1; funext v
    exact OL ri fun r hr => h r (List.mem_cons_of_mem _ hr)
theorem SA {sm:SM} {t:Regs} {t':S} (ri:RI sm [] [] t t') {hp:Heap} {n:K4} {rs:List ARes} (h:∀ r∈rs, HS sm r.reg=true):NT sm rs t' hp n=PD rs t hp n := OL ri h
/-- What is asked behind a body. -/
def YX (res:S->Heap->K4->R) (Φ:R->Prop):R->Prop
  | .ok .nrm t h n => (res t h n).sat Φ
  | .ok .ret t h n => (res t h n).sat Φ
  | _ => False
theorem JY {res:S->Heap->K4->R} {Φ:R->Prop}:∀ {r:R}, (KJ r res).sat Φ->r.sat (YX res Φ)
  | .ok e t h n, hs => by
    cases e with
    | nrm => exact hs
    | ret => exact hs
    | exit j => exact hs.elim
  | .rv _ _ _, hs => hs.elim
  | .fail _, hs => hs.elim
  | .both a b, hs => ⟨JY (r := a) hs.1, JY (r := b) hs.2⟩
theorem UO {r:ARes} {t:Regs} {h:Heap} {κ:V->R} (hg:(Kw r t h κ).good):∃ v, Kw r t h κ=κ v := by
  cases r with
  | tmp p => exact ⟨_, CY p t κ⟩
  | cel p m =>
    have e1:Kw (.cel p m) t h κ=JP (Bg p t) fun q off => Ht q h fun cs _ _ =>
        @Option.rec Nat (fun _ => R) (Ge cs off κ) (fun m => Bh cs off m fun y => E4 y fun l => κ (.agg l)) m := CY p t _
    rw [e1] at hg
    obtain ⟨q, off, hv, e2⟩ := Dt hg
    rw [e2] at hg
    obtain ⟨cs, sup, prev, hq, e3⟩ := Dd hg
    rw [e3] at hg
    cases m with
    | none =>
      obtain ⟨v, _, e4⟩ := Hz (show R.good (Ge cs off κ) from hg)
      exact ⟨v, e1.trans (e2.trans (e3.trans e4))⟩
    | some m =>
      obtain ⟨hle, y, hyl, hya, e4⟩ := CL (show R.good (Bh cs off m fun y => E4 y fun l => κ (.agg l)) from hg)
      obtain ⟨l, e5, _, _⟩ := G0 y fun l => κ (.agg l)
      exact ⟨.agg l, e1.trans (e2.trans (e3.trans (Eq.trans e4 e5)))⟩
theorem Qq:∀ {rs:List ARes} {t:Regs} {h:Heap} {κ:List V->R}, (JI rs t h κ).good->∃ vs, JI rs t h κ=κ vs
  | [], t, h, κ, _ => ⟨[], rfl⟩
  | r::rs, t, h, κ, hg => by
    have hg:R.good (Kw r t h fun v => JI rs t h fun vs => κ (v::vs)) := hg
    obtain ⟨v, e1⟩ := UO hg
    rw [e1] at hg
    obtain ⟨vs, e2⟩ := Qq hg
    exact ⟨v::vs, Eq.trans e1 e2⟩
theorem UJ {rs:List ARes} {t:Regs} {h:Heap} {n:K4} (hg:(PD rs t h n).good):∃ v, PD rs t h n = .rv v h n := by
  obtain ⟨vs, e⟩ := Qq (show R.good (JI rs t h _) from hg)
  have e:PD rs t h n=_ := e
  match vs, e with
  | [], e => exact ⟨_, e⟩
  | [u], e => exact ⟨_, e⟩
  | u::u'::us, e => exact ⟨_, e⟩
theorem LN (hρ:Bo ρ) (hm:P.follows .mixedOrders=true) {cf:CF} {cf2:DZ} (hct:IT P ρ B cf) (hR:Iu P ρ B cf) (h2:∀ f, cf2 (Bz f)=cf f) {f:FuncId} {e:Ent} (he:B1 P f e) {args:List V} {h:Heap} {n:K4} {Φ:R->Prop}
    (hr:(NO cf2 (some e) args h n).sat Φ) {φ:AT} {w:World} {xs:Array Value} (g:Gam ρ B h n φ w) (hxs:By ρ φ args xs.toList) :
    Le P f xs w fun x w' => ∃ v h1 n1 φ', Φ (.rv v h1 n1)∧Fr h h1 φ φ' n n1 w w'∧Gam ρ B h1 n1 φ' w'∧As ρ φ' v x := by
  obtain ⟨sm, hd, hok⟩ := he
  cases hf:Kv P f with
  | none => rw [hf] at hd; cases hd
  | some a =>
    rw [hf] at hd hok
    obtain ⟨fn, c, ps, rs, hfn, hb, hps, hrs, hname, rfl⟩ := Pq hf
    have hd:some (Ent.code (fun l κ => Od ps l Kg fun t => κ (Xq sm t)) (fun cf t h n => HI sm cf (B8 P fn.ntmps c) r0 [] t h n) (fun t h n => NT sm rs t h n))=some e := hd
    cases hd
    have hok:(PK sm&&(JU sm (B8 P fn.ntmps c) (fun _ => true) []&&rs.all fun r => HS sm r.reg))=true := hok
    rw [Bool.and_eq_true, Bool.and_eq_true] at hok
    obtain ⟨hsm, hok⟩ := hok
    have inj:∀ {p q s}, CJ p sm=some s->CJ q sm=some s->p=q := fun h h' => OI hsm h h'
    have hr:(Od ps args Kg (fun t => KJ (HI sm cf2 (B8 P fn.ntmps c) r0 [] (Xq sm t) h n) fun t h n => NT sm rs t h n)).sat Φ := hr
    rw [Oj] at hr
    obtain ⟨hlen, t0, e2, H0⟩ := Mf (k := 0) (fun i s hi => by
      obtain ⟨hi', hi2⟩ := List.getElem?_eq_some_iff.1 hi
      simp at hi2; omega) hps (R.sat_good hr)
    rw [e2] at hr
    simp only [List.length_range] at hlen
    have hxl:xs.size=args.length := by have := B5 hxs; simpa using this
    have hxN:xs.size≤fn.ntmps := by
      rcases Nat.eq_zero_or_pos xs.size with h0 | h0
      · omega
      · have := LX hps (xs.size - 1) (List.mem_range.2 (by omega)); omega
    have hT:TR ρ fn.ntmps φ t0 { tmps := xs++Array.replicate (fn.ntmps - xs.size) undef, defers := [] } := {
      size := by simp; omega
      defers := rfl
      at_ := fun s p hs hp => by
        rw [H0 s p hp, if_pos (Nat.zero_le _), Nat.sub_zero, OS]
        show As ρ φ _ ((xs++Array.replicate (fn.ntmps - xs.size) undef).getD s undef)
        rw [Array.getD_eq_getD_getElem?]
        by_cases hsx:s<xs.size
        · rw [Array.getElem?_append_left hsx]
          have hsa:s<args.length := by omega
          rw [List.getElem?_eq_getElem hsa]
          obtain ⟨x, hx, hrx⟩ := (Cr.1 hxs).2 s _ (List.getElem?_eq_getElem hsa)
          rw [Array.getElem?_toList] at hx
          rw [hx]; exact hrx
        · rw [Array.getElem?_append_right (by omega), Array.getElem?_replicate, if_pos (by omega), List.getElem?_eq_none (by omega)]
          exact EZ }
    have hx := JY hr
    have hOK := (Xd (N := fn.ntmps) (sm := sm) hρ hm hct hR h2 c).join hok.1 (RI.start inj fun p s hs => Qj hsm hs) hx
    intro o a K Q hK
    have hcf':(callFunc f xs).run P w = .ok (.enter f xs) w := by
      have hname':fn.name ≠ "runtime.NumGoroutine" := by simpa using hname
      simp [callFunc, hfn, hname', hb]
    rw [hcf']
    refine calls_of_wp hfn hb (hOK φ _ w hT g _ fun e t1 h2' n2 hres φ' a' w' tf f1 g1 T1 hk => ?_)
    have fin:(NT sm rs t1 h2' n2).sat Φ->∃ X, (results fn a'.tmps).run P w' = .ok X w'∧K (a.put o.dst X) w' := fun hres => by
      rw [SA (RI.start inj hk) fun r hr => List.all_eq_true.1 hok.2 r hr] at hres
      obtain ⟨v, hv⟩ := UJ (R.sat_good hres)
      obtain ⟨_, _, Hres⟩ := R4 (ρ := ρ) (B := B) hrs hv
      rw [hv] at hres
      obtain ⟨X, hX, hrX⟩ := Hres φ' a' w' T1 g1
      exact ⟨X, hX, hK X w' ⟨v, h2', n2, φ', hres, f1, g1, hrX⟩⟩
    cases e with
    | nrm => obtain ⟨X, hX, hKX⟩ := fin hres; exact ⟨T1.defers, X, hX, hKX⟩
    | exit id => exact hres.elim
    | ret => obtain ⟨X, hX, hKX⟩ := fin hres; exact ⟨T1.defers, X, hX, hKX⟩
/-- THE CALL IS SOUND. -/
theorem RP (hρ:Bo ρ) (hm:P.follows .mixedOrders=true) {T:FC} (hT:Jo P ρ B T):∀ m, IT P ρ B (fun f => Ar T m (Bz f))∧Iu P ρ B (fun f => Ar T m (Bz f)) := by
  intro m
  induction m with
  | zero => exact ⟨fun f args h n Φ hr => hr.elim, fun f A fn hA box x h n Φ hr => hr.elim⟩
  | succ m ih =>
    obtain ⟨hct, hR⟩ := ih
    have e1:∀ f args h n, Ar T (m+1) (Bz f) args h n=NO (Ar T m) (C5 (Bz f) T) args h n := fun f args h n => Q6 (Bz f) T fun o => NO (Ar T m) o args h n
    refine ⟨fun f args h n Φ hr φ w xs g hxs => ?_, fun f A fn hA box x h n Φ hr φ w tmps X l D g hrec unc hsz hbox hX => ?_⟩
    · have hr:(Ar T (m+1) (Bz f) args h n).sat Φ := hr
      rw [e1] at hr
      cases ho:C5 (Bz f) T with
      | none => rw [ho] at hr; exact hr.elim
      | some e =>
        rw [ho] at hr
        rcases hT.1 f e ho with (he | ⟨k, en, bo, re, rfl, he⟩) | (⟨p, rfl, hp⟩ | (⟨its, rd, A, rfl, hA, h1, h2, h3⟩ | ⟨p, rfl, hp⟩))
        · exact LN hρ hm hct hR (fun _ => rfl) he hr g hxs
        · obtain ⟨v, h1, n1, hr, hΦ⟩ := MN (show (KW (Zy k (fun hs => en args fun t => KJ (bo (Ar T m) t hs n) re) args h n)).sat Φ from hr)
          intro o a K Q hK
          exact WZ hr g hxs (fun hs Φ hsat gs => LN hρ hm hct hR (fun _ => rfl) he (h := hs) hsat gs hxs) o a K Q fun x w' ⟨φ', f1, g1, r1⟩ => hK x w' ⟨v, h1, n1, φ', hΦ, f1, g1, r1⟩
        · obtain ⟨v, h1, n1, hr, hΦ⟩ := MN (show (KW (p args h n)).sat Φ from hr)
          intro o a K Q hK
          exact hp args h n v h1 n1 hr φ w xs g hxs o a K Q fun x w' ⟨φ', f1, g1, r1⟩ => hK x w' ⟨v, h1, n1, φ', hΦ, f1, g1, r1⟩
        · have hr:(ZJ f its rd (Ar T m) args h n).sat Φ := hr
          unfold ZJ at hr
          obtain ⟨v, l, hl, q1⟩ := GX (R.sat_good hr)
          rw [q1] at hr
          subst hl
          by_cases hv:v = .oth .no
          · subst hv
            obtain ⟨y, ys, _, hy, _⟩ := Aw.1 hxs
            simp only [As] at hy
          · have e2:∀ A C:R, VY v A C=C := fun A C => by
              cases v with
              | oth o => cases o with
                | no => exact absurd rfl hv
                | _ => rfl
              | _ => rfl
            rw [e2] at hr
            exact XS hA h1 h3 hct (fun _ => rfl) hr g hxs
        · exact hp args h n Φ hr φ w xs g hxs
    · obtain ⟨e, ho, its, rd, A', rfl, hA', h1, h2, h3⟩ := hT.2 f A hA
      rw [hA] at hA'; cases hA'
      have hr:(Ar T (m+1) (Bz f) [.oth .no, .ptr box 0, x] h n).sat Φ := hr
      rw [e1, ho] at hr
      have hr:(rd (Ar T m) (.ptr box 0) x h n).sat Φ := hr
      exact YK hρ hct.ok (fun _ => rfl) h2 hr g hrec unc hsz hbox hX
theorem SS (hρ:Bo ρ) (hm:P.follows .mixedOrders=true) {T:FC} (hT:Jo P ρ B T) (m:Nat):E9 P ρ B fun f => Ar T m (Bz f) := (RP hρ hm hT m).1.ok
end
end Go.Ev

namespace Go.Ev
open Go.RowKit
set_option linter.unusedVariables false
abbrev Ba (w:Bool) (v:V) (h:Heap) (n:K4) (F:KV->R) (κ:KV):R := gd w v F κ h n
abbrev Ax (v:V):R := .rv v AJ ⟨.d0, .d0, .d0, .d0⟩
abbrev alY (b:K4) (j:D) (h:Heap) (F:K4->R) (κ:KV):R := b.at j fun r => Bt r h fun x => Gh x (HN (F r) κ)
abbrev Yi (b:K4) (j:D) (h:Heap) (F:K4->R) (κ:V->Heap->R):R := alY b j h F fun v h _ => κ v h
abbrev UI (b:K4) (j:D) (h:Heap) (κ:R):R := b.at j fun r => Bt r h fun x => Gh x κ
abbrev rnX (b:K4) (j:D) (h:Heap) (F:Heap->R) (κ:V->R):R := b.at j fun r => Bt r h fun x => VU x fun ob => BW r AJ (some ob) fun hx => AB (F hx) κ
abbrev Ir (m:Nat) (v:V) (h:Heap) (κ:V->R):R := JP v fun q off => Nm q h fun cs _ _ => Bh cs off m fun y => E4 y fun l => κ (.agg l)
abbrev U:V := Ay
abbrev Q0:SQ := .mk U U U U
abbrev g0 (t:S) (k:V->R):R := @S.rec (fun _ => R) (fun c0 c1 c2 c3 c4 c5 c6 c7 => @SQ.rec (fun _ => R) (fun d0 d1 d2 d3 => k d0) c0) t
abbrev w0 (t:S) (v:V) (k:S->R):R := @S.rec (fun _ => R) (fun c0 c1 c2 c3 c4 c5 c6 c7 => @SQ.rec (fun _ => R) (fun d0 d1 d2 d3 => k (.mk (.mk v d1 d2 d3) c1 c2 c3 c4 c5 c6 c7)) c0) t
abbrev g1 (t:S) (k:V->R):R := @S.rec (fun _ => R) (fun c0 c1 c2 c3 c4 c5 c6 c7 => @SQ.rec (fun _ => R) (fun d0 d1 d2 d3 => k d1) c0) t
abbrev w1 (t:S) (v:V) (k:S->R):R := @S.rec (fun _ => R) (fun c0 c1 c2 c3 c4 c5 c6 c7 => @SQ.rec (fun _ => R) (fun d0 d1 d2 d3 => k (.mk (.mk d0 v d2 d3) c1 c2 c3 c4 c5 c6 c7)) c0) t
abbrev g2 (t:S) (k:V->R):R := @S.rec (fun _ => R) (fun c0 c1 c2 c3 c4 c5 c6 c7 => @SQ.rec (fun _ => R) (fun d0 d1 d2 d3 => k d2) c0) t
abbrev w2 (t:S) (v:V) (k:S->R):R := @S.rec (fun _ => R) (fun c0 c1 c2 c3 c4 c5 c6 c7 => @SQ.rec (fun _ => R) (fun d0 d1 d2 d3 => k (.mk (.mk d0 d1 v d3) c1 c2 c3 c4 c5 c6 c7)) c0) t
abbrev g3 (t:S) (k:V->R):R := @S.rec (fun _ => R) (fun c0 c1 c2 c3 c4 c5 c6 c7 => @SQ.rec (fun _ => R) (fun d0 d1 d2 d3 => k d3) c0) t
abbrev w3 (t:S) (v:V) (k:S->R):R := @S.rec (fun _ => R) (fun c0 c1 c2 c3 c4 c5 c6 c7 => @SQ.rec (fun _ => R) (fun d0 d1 d2 d3 => k (.mk (.mk d0 d1 d2 v) c1 c2 c3 c4 c5 c6 c7)) c0) t
abbrev g4 (t:S) (k:V->R):R := @S.rec (fun _ => R) (fun c0 c1 c2 c3 c4 c5 c6 c7 => @SQ.rec (fun _ => R) (fun d0 d1 d2 d3 => k d0) c1) t
abbrev w4 (t:S) (v:V) (k:S->R):R := @S.rec (fun _ => R) (fun c0 c1 c2 c3 c4 c5 c6 c7 => @SQ.rec (fun _ => R) (fun d0 d1 d2 d3 => k (.mk c0 (.mk v d1 d2 d3) c2 c3 c4 c5 c6 c7)) c1) t
abbrev g5 (t:S) (k:V->R):R := @S.rec (fun _ => R) (fun c0 c1 c2 c3 c4 c5 c6 c7 => @SQ.rec (fun _ => R) (fun d0 d1 d2 d3 => k d1) c1) t
abbrev w5 (t:S) (v:V) (k:S->R):R := @S.rec (fun _ => R) (fun c0 c1 c2 c3 c4 c5 c6 c7 => @SQ.rec (fun _ => R) (fun d0 d1 d2 d3 => k (.mk c0 (.mk d0 v d2 d3) c2 c3 c4 c5 c6 c7)) c1) t
abbrev g6 (t:S) (k:V->R):R := @S.rec (fun _ => R) (fun c0 c1 c2 c3 c4 c5 c6 c7 => @SQ.rec (fun _ => R) (fun d0 d1 d2 d3 => k d2) c1) t
abbrev w6 (t:S) (v:V) (k:S->R):R := @S.rec (fun _ => R) (fun c0 c1 c2 c3 c4 c5 c6 c7 => @SQ.rec (fun _ => R) (fun d0 d1 d2 d3 => k (.mk c0 (.mk d0 d1 v d3) c2 c3 c4 c5 c6 c7)) c1) t
abbrev g7 (t:S) (k:V->R):R := @S.rec (fun _ => R) (fun c0 c1 c2 c3 c4 c5 c6 c7 => @SQ.rec (fun _ => R) (fun d0 d1 d2 d3 => k d3) c1) t
abbrev w7 (t:S) (v:V) (k:S->R):R := @S.rec (fun _ => R) (fun c0 c1 c2 c3 c4 c5 c6 c7 => @SQ.rec (fun _ => R) (fun d0 d1 d2 d3 => k (.mk c0 (.mk d0 d1 d2 v) c2 c3 c4 c5 c6 c7)) c1) t
abbrev g8 (t:S) (k:V->R):R := @S.rec (fun _ => R) (fun c0 c1 c2 c3 c4 c5 c6 c7 => @SQ.rec (fun _ => R) (fun d0 d1 d2 d3 => k d0) c2) t
abbrev w8 (t:S) (v:V) (k:S->R):R := @S.rec (fun _ => R) (fun c0 c1 c2 c3 c4 c5 c6 c7 => @SQ.rec (fun _ => R) (fun d0 d1 d2 d3 => k (.mk c0 c1 (.mk v d1 d2 d3) c3 c4 c5 c6 c7)) c2) t
abbrev g9 (t:S) (k:V->R):R := @S.rec (fun _ => R) (fun c0 c1 c2 c3 c4 c5 c6 c7 => @SQ.rec (fun _ => R) (fun d0 d1 d2 d3 => k d1) c2) t
abbrev w9 (t:S) (v:V) (k:S->R):R := @S.rec (fun _ => R) (fun c0 c1 c2 c3 c4 c5 c6 c7 => @SQ.rec (fun _ => R) (fun d0 d1 d2 d3 => k (.mk c0 c1 (.mk d0 v d2 d3) c3 c4 c5 c6 c7)) c2) t
abbrev BC (t:S) (k:V->R):R := @S.rec (fun _ => R) (fun c0 c1 c2 c3 c4 c5 c6 c7 => @SQ.rec (fun _ => R) (fun d0 d1 d2 d3 => k d2) c2) t
abbrev BD (t:S) (v:V) (k:S->R):R := @S.rec (fun _ => R) (fun c0 c1 c2 c3 c4 c5 c6 c7 => @SQ.rec (fun _ => R) (fun d0 d1 d2 d3 => k (.mk c0 c1 (.mk d0 d1 v d3) c3 c4 c5 c6 c7)) c2) t
abbrev BF (t:S) (k:V->R):R := @S.rec (fun _ => R) (fun c0 c1 c2 c3 c4 c5 c6 c7 => @SQ.rec (fun _ => R) (fun d0 d1 d2 d3 => k d3) c2) t
abbrev BB (t:S) (v:V) (k:S->R):R := @S.rec (fun _ => R) (fun c0 c1 c2 c3 c4 c5 c6 c7 => @SQ.rec (fun _ => R) (fun d0 d1 d2 d3 => k (.mk c0 c1 (.mk d0 d1 d2 v) c3 c4 c5 c6 c7)) c2) t
abbrev C0 (t:S) (k:V->R):R := @S.rec (fun _ => R) (fun c0 c1 c2 c3 c4 c5 c6 c7 => @SQ.rec (fun _ => R) (fun d0 d1 d2 d3 => k d0) c3) t
abbrev BS (t:S) (v:V) (k:S->R):R := @S.rec (fun _ => R) (fun c0 c1 c2 c3 c4 c5 c6 c7 => @SQ.rec (fun _ => R) (fun d0 d1 d2 d3 => k (.mk c0 c1 c2 (.mk v d1 d2 d3) c4 c5 c6 c7)) c3) t
abbrev BR (t:S) (k:V->R):R := @S.rec (fun _ => R) (fun c0 c1 c2 c3 c4 c5 c6 c7 => @SQ.rec (fun _ => R) (fun d0 d1 d2 d3 => k d1) c3) t
abbrev BP (t:S) (v:V) (k:S->R):R := @S.rec (fun _ => R) (fun c0 c1 c2 c3 c4 c5 c6 c7 => @SQ.rec (fun _ => R) (fun d0 d1 d2 d3 => k (.mk c0 c1 c2 (.mk d0 v d2 d3) c4 c5 c6 c7)) c3) t
abbrev BI (t:S) (k:V->R):R := @S.rec (fun _ => R) (fun c0 c1 c2 c3 c4 c5 c6 c7 => @SQ.rec (fun _ => R) (fun d0 d1 d2 d3 => k d2) c3) t
abbrev BV (t:S) (v:V) (k:S->R):R := @S.rec (fun _ => R) (fun c0 c1 c2 c3 c4 c5 c6 c7 => @SQ.rec (fun _ => R) (fun d0 d1 d2 d3 => k (.mk c0 c1 c2 (.mk d0 d1 v d3) c4 c5 c6 c7)) c3) t
abbrev BK (t:S) (k:V->R):R := @S.rec (fun _ => R) (fun c0 c1 c2 c3 c4 c5 c6 c7 => @SQ.rec (fun _ => R) (fun d0 d1 d2 d3 => k d3) c3) t
abbrev BQ (t:S) (v:V) (k:S->R):R := @S.rec (fun _ => R) (fun c0 c1 c2 c3 c4 c5 c6 c7 => @SQ.rec (fun _ => R) (fun d0 d1 d2 d3 => k (.mk c0 c1 c2 (.mk d0 d1 d2 v) c4 c5 c6 c7)) c3) t
abbrev BM (t:S) (k:V->R):R := @S.rec (fun _ => R) (fun c0 c1 c2 c3 c4 c5 c6 c7 => @SQ.rec (fun _ => R) (fun d0 d1 d2 d3 => k d0) c4) t
abbrev BH (t:S) (v:V) (k:S->R):R := @S.rec (fun _ => R) (fun c0 c1 c2 c3 c4 c5 c6 c7 => @SQ.rec (fun _ => R) (fun d0 d1 d2 d3 => k (.mk c0 c1 c2 c3 (.mk v d1 d2 d3) c5 c6 c7)) c4) t
abbrev BY (t:S) (k:V->R):R := @S.rec (fun _ => R) (fun c0 c1 c2 c3 c4 c5 c6 c7 => @SQ.rec (fun _ => R) (fun d0 d1 d2 d3 => k d1) c4) t
abbrev BO (t:S) (v:V) (k:S->R):R := @S.rec (fun _ => R) (fun c0 c1 c2 c3 c4 c5 c6 c7 => @SQ.rec (fun _ => R) (fun d0 d1 d2 d3 => k (.mk c0 c1 c2 c3 (.mk d0 v d2 d3) c5 c6 c7)) c4) t
abbrev BT (t:S) (k:V->R):R := @S.rec (fun _ => R) (fun c0 c1 c2 c3 c4 c5 c6 c7 => @SQ.rec (fun _ => R) (fun d0 d1 d2 d3 => k d2) c4) t
abbrev BL (t:S) (v:V) (k:S->R):R := @S.rec (fun _ => R) (fun c0 c1 c2 c3 c4 c5 c6 c7 => @SQ.rec (fun _ => R) (fun d0 d1 d2 d3 => k (.mk c0 c1 c2 c3 (.mk d0 d1 v d3) c5 c6 c7)) c4) t
abbrev BU (t:S) (k:V->R):R := @S.rec (fun _ => R) (fun c0 c1 c2 c3 c4 c5 c6 c7 => @SQ.rec (fun _ => R) (fun d0 d1 d2 d3 => k d3) c4) t
abbrev BN (t:S) (v:V) (k:S->R):R := @S.rec (fun _ => R) (fun c0 c1 c2 c3 c4 c5 c6 c7 => @SQ.rec (fun _ => R) (fun d0 d1 d2 d3 => k (.mk c0 c1 c2 c3 (.mk d0 d1 d2 v) c5 c6 c7)) c4) t
section
variable {P:Program} {ρ:Env} {B:Nat}
/-- What stands at a function's place in the table. -/
def AX (P:Program) (ρ:Env) (B:Nat) (f:FuncId) (o:DF):Prop := ∀ e, o=some e->LJ P ρ B f e
theorem AX.no {f:FuncId}:AX P ρ B f none := fun e h => by cases h
theorem AX.fn {f:FuncId} {e:Ent} (h:B1 P f e):AX P ρ B f (some e) := fun e' h' => by cases h'; exact .inl (.inl h)
theorem AX.br {f:FuncId} {k:Nat} {en:List V->(S->R)->R} {bo:DZ->S->Heap->K4->R} {re:S->Heap->K4->R} (h:B1 P f (.code en bo re)):AX P ρ B f (some (.br k en bo re)) := fun e' h' => by cases h'; exact .inl (.inr ⟨k, en, bo, re, rfl, h⟩)
theorem AX.pr {f:FuncId} {p:Nq} (h:Nb P ρ B f p):AX P ρ B f (some (.prim p)) := fun e' h' => by cases h'; exact .inr (.inl ⟨p, rfl, h⟩)
def Yk (s:String):Nq := fun _ _ _ => .fail s
theorem AX.noP {f:FuncId} (s:String):AX P ρ B f (some (.prim (Yk s))) := AX.pr fun args h n v h1 n1 hx => by cases hx
theorem AX.ap {f:FuncId} {its:List Nat} {rd:Rd} {A:ApC} (hA:ρ.ap f=some A) (h1:Lq P f=some A) (h2:TV P A=some rd) (h3:∀ g∈its, JN P g):AX P ρ B f (some (.ap f its rd)) := fun e' h' => by cases h'; exact .inr (.inr (.inl ⟨its, rd, A, rfl, hA, h1, h2, h3⟩))
theorem AX.tr {f:FuncId} {p:Nq} (h:Uk P ρ B f p):AX P ρ B f (some (.tree p)) := fun e' h' => by cases h'; exact .inr (.inr (.inr ⟨p, rfl, h⟩))
def IL (P:Program) (ρ:Env) (B:Nat) (base:Nat) (x:FA):Prop := ∀ d, AX P ρ B (base+d.toN) (FA.sel d x)
def Nv (P:Program) (ρ:Env) (B:Nat) (base:Nat) (x:FB):Prop := ∀ d, IL P ρ B (base+16*d.toN) (FB.sel d x)
theorem FO {base:Nat} {c0 c1 c2 c3 c4 c5 c6 c7 c8 c9 ca cb cc cd ce cf:DF} (h0:AX P ρ B (base+0) c0) (h1:AX P ρ B (base+1) c1) (h2:AX P ρ B (base+2) c2) (h3:AX P ρ B (base+3) c3) (h4:AX P ρ B (base+4) c4) (h5:AX P ρ B (base+5) c5) (h6:AX P ρ B (base+6) c6) (h7:AX P ρ B (base+7) c7) (h8:AX P ρ B (base+8) c8) (h9:AX P ρ B (base+9) c9) (h10:AX P ρ B (base+10) ca) (h11:AX P ρ B (base+11) cb) (h12:AX P ρ B (base+12) cc) (h13:AX P ρ B (base+13) cd) (h14:AX P ρ B (base+14) ce) (h15:AX P ρ B (base+15) cf):IL P ρ B base (.mk c0 c1 c2 c3 c4 c5 c6 c7 c8 c9 ca cb cc cd ce cf) := fun d => by
  cases d
  · exact h0
  · exact h1
  · exact h2
  · exact h3
  · exact h4
  · exact h5
  · exact h6
  · exact h7
  · exact h8
  · exact h9
  · exact h10
  · exact h11
  · exact h12
  · exact h13
  · exact h14
  · exact h15
theorem Xa {base:Nat} {c0 c1 c2 c3 c4 c5 c6 c7 c8 c9 ca cb cc cd ce cf:FA} (h0:IL P ρ B (base+16*0) c0) (h1:IL P ρ B (base+16*1) c1) (h2:IL P ρ B (base+16*2) c2) (h3:IL P ρ B (base+16*3) c3) (h4:IL P ρ B (base+16*4) c4) (h5:IL P ρ B (base+16*5) c5) (h6:IL P ρ B (base+16*6) c6) (h7:IL P ρ B (base+16*7) c7) (h8:IL P ρ B (base+16*8) c8) (h9:IL P ρ B (base+16*9) c9) (h10:IL P ρ B (base+16*10) ca) (h11:IL P ρ B (base+16*11) cb) (h12:IL P ρ B (base+16*12) cc) (h13:IL P ρ B (base+16*13) cd) (h14:IL P ρ B (base+16*14) ce) (h15:IL P ρ B (base+16*15) cf):Nv P ρ B base (.mk c0 c1 c2 c3 c4 c5 c6 c7 c8 c9 ca cb cc cd ce cf) := fun d => by
  cases d
  · exact h0
  · exact h1
  · exact h2
  · exact h3
  · exact h4
  · exact h5
  · exact h6
  · exact h7
  · exact h8
  · exact h9
  · exact h10
  · exact h11
  · exact h12
  · exact h13
  · exact h14
  · exact h15
def JJ:FA := .mk none none none none none none none none none none none none none none none none
def LB:FB := .mk JJ JJ JJ JJ JJ JJ JJ JJ JJ JJ JJ JJ JJ JJ JJ JJ
theorem QY (d:D):FA.sel d JJ=none := by cases d <;> rfl
theorem Qw (d:D):FB.sel d LB=JJ := by cases d <;> rfl
theorem I6 {base:Nat}:IL P ρ B base JJ := fun d => by rw [QY]; exact AX.no
theorem DW {base:Nat}:Nv P ρ B base LB := fun d => by rw [Qw]; exact I6
theorem ofN_lt {x:Nat} {d:D} (h:D.ofN x=d) (hd:d ≠ .d15):x=d.toN := by
  rcases Nat.lt_or_ge x 15 with hx | hx
  · rw [←h, D.toN_ofN x (by omega)]
  · exfalso
    obtain ⟨y, rfl⟩:∃ y, x=y+15 := ⟨x - 15, by omega⟩
    exact hd h.symm
theorem WC {c0 c1 c2 c3 c4 c5 c6 c7 c8 c9 ca cb cc cd ce:FB} (h0:Nv P ρ B (256*0) c0) (h1:Nv P ρ B (256*1) c1) (h2:Nv P ρ B (256*2) c2) (h3:Nv P ρ B (256*3) c3) (h4:Nv P ρ B (256*4) c4) (h5:Nv P ρ B (256*5) c5) (h6:Nv P ρ B (256*6) c6) (h7:Nv P ρ B (256*7) c7) (h8:Nv P ρ B (256*8) c8) (h9:Nv P ρ B (256*9) c9) (h10:Nv P ρ B (256*10) ca) (h11:Nv P ρ B (256*11) cb) (h12:Nv P ρ B (256*12) cc) (h13:Nv P ρ B (256*13) cd) (h14:Nv P ρ B (256*14) ce):∀ f e, C5 (Bz f) (.mk c0 c1 c2 c3 c4 c5 c6 c7 c8 c9 ca cb cc cd ce LB)=some e->LJ P ρ B f e := fun f e h => by
  have hc:(D.ofN (f % 16)).toN=f % 16 := D.toN_ofN _ (by omega)
  have hb:(D.ofN (f / 16 % 16)).toN=f / 16 % 16 := D.toN_ofN _ (by omega)
  have key:∀ x:FB, Nv P ρ B (256*(f / 256)) x->FA.sel (D.ofN (f % 16)) (FB.sel (D.ofN (f / 16 % 16)) x)=some e->LJ P ρ B f e := fun x hx hs => by
    have := hx (D.ofN (f / 16 % 16)) (D.ofN (f % 16)) e hs
    rw [hc, hb] at this
    have e1:256*(f / 256)+16*(f / 16 % 16)+f % 16=f := by omega
    rw [e1] at this; exact this
  have h:FA.sel (D.ofN (f % 16)) (FB.sel (D.ofN (f / 16 % 16)) (FC.sel (D.ofN (f / 256)) (.mk c0 c1 c2 c3 c4 c5 c6 c7 c8 c9 ca cb cc cd ce LB)))=some e := h
  generalize hd:D.ofN (f / 256)=d at h
  cases d
  · have := ofN_lt hd (by intro h; cases h); rw [show D.toN .d0=0 from rfl] at this; exact key c0 (by rw [this]; exact h0) h
  · have := ofN_lt hd (by intro h; cases h); rw [show D.toN .d1=1 from rfl] at this; exact key c1 (by rw [this]; exact h1) h
  · have := ofN_lt hd (by intro h; cases h); rw [show D.toN .d2=2 from rfl] at this; exact key c2 (by rw [this]; exact h2) h
  · have := ofN_lt hd (by intro h; cases h); rw [show D.toN .d3=3 from rfl] at this; exact key c3 (by rw [this]; exact h3) h
  · have := ofN_lt hd (by intro h; cases h); rw [show D.toN .d4=4 from rfl] at this; exact key c4 (by rw [this]; exact h4) h
  · have := ofN_lt hd (by intro h; cases h); rw [show D.toN .d5=5 from rfl] at this; exact key c5 (by rw [this]; exact h5) h
  · have := ofN_lt hd (by intro h; cases h); rw [show D.toN .d6=6 from rfl] at this; exact key c6 (by rw [this]; exact h6) h
  · have := ofN_lt hd (by intro h; cases h); rw [show D.toN .d7=7 from rfl] at this; exact key c7 (by rw [this]; exact h7) h
  · have := ofN_lt hd (by intro h; cases h); rw [show D.toN .d8=8 from rfl] at this; exact key c8 (by rw [this]; exact h8) h
  · have := ofN_lt hd (by intro h; cases h); rw [show D.toN .d9=9 from rfl] at this; exact key c9 (by rw [this]; exact h9) h
  · have := ofN_lt hd (by intro h; cases h); rw [show D.toN .d10=10 from rfl] at this; exact key ca (by rw [this]; exact h10) h
  · have := ofN_lt hd (by intro h; cases h); rw [show D.toN .d11=11 from rfl] at this; exact key cb (by rw [this]; exact h11) h
  · have := ofN_lt hd (by intro h; cases h); rw [show D.toN .d12=12 from rfl] at this; exact key cc (by rw [this]; exact h12) h
  · have := ofN_lt hd (by intro h; cases h); rw [show D.toN .d13=13 from rfl] at this; exact key cd (by rw [this]; exact h13) h
  · have := ofN_lt hd (by intro h; cases h); rw [show D.toN .d14=14 from rfl] at this; exact key ce (by rw [this]; exact h14) h
  · have h:FA.sel (D.ofN (f % 16)) (FB.sel (D.ofN (f / 16 % 16)) LB)=some e := h
    rw [Qw, QY] at h; cases h
/-- The environment of a program in which some functions range over functions. -/
def Kx (P:Program) (fs:List Nat):Env := { v := fun _ => .bool true, ap := fun f => @Bool.rec (fun _ => Option ApC) none (Lq P f) (fs.contains f) }
def Nf (P:Program) (g:FuncId):Bool := match P.funcs[g]? with
  | some fn => fn.body.isSome && !(fn.name == "runtime.NumGoroutine")
  | none => false
theorem Pg {g:FuncId} (h:Nf P g=true):JN P g := by
  unfold Nf at h
  split at h
  · rename_i fn hfn
    simp only [Bool.and_eq_true, Bool.not_eq_true'] at h
    obtain ⟨c, hc⟩ := Option.isSome_iff_exists.1 h.1
    exact ⟨fn, c, hfn, hc, h.2⟩
  · cases h
def Z0 (P:Program) (f:FuncId):Option Rd := (Lq P f).bind (TV P)
theorem Ih.mk {fs:List Nat} {f:FuncId} {its:List Nat} {rd:Rd} (hf:fs.contains f=true) (h:Z0 P f=some rd) (hb:its.all (Nf P)=true):Ih P (Kx P fs) f (.ap f its rd) := by
  unfold Z0 at h
  cases hA:Lq P f with
  | none => rw [hA] at h; cases h
  | some A =>
    rw [hA] at h
    exact ⟨its, rd, A, rfl, by show @Bool.rec (fun _ => Option ApC) none (Lq P f) (fs.contains f)=_; rw [hf]; exact hA, hA, h, fun g hg => Pg (List.all_eq_true.1 hb g hg)⟩
theorem Jo.mk {fs:List Nat} {T:FC} (h:∀ f e, C5 (Bz f) T=some e->LJ P (Kx P fs) B f e) (ha:∀ f∈fs, ∃ e, C5 (Bz f) T=some e∧Ih P (Kx P fs) f e):Jo P (Kx P fs) B T := by
  refine ⟨h, fun f A hA => ?_⟩
  have hA:@Bool.rec (fun _ => Option ApC) none (Lq P f) (fs.contains f)=some A := hA
  cases hc:fs.contains f with
  | false => rw [hc] at hA; cases hA
  | true => exact ha f (List.contains_iff_mem.1 hc)
theorem Xm {Q:Nat->Prop}:∀ f∈([]:List Nat), Q f := fun f h => by cases h
/-- A call that is evaluated to true, from values that the arguments tell of. -/
theorem ML (hρ:Bo ρ) (hm:P.follows .mixedOrders=true) {T:FC} (hT:∀ B, Jo P ρ B T) {m:Nat} {f:FuncId} {fn:Func} {args:List V}
    (hf:P.funcs[f]? = some fn) (hb:fn.body.isSome=true) (hn:(fn.name == "runtime.NumGoroutine")=false) (hx:Sj (Ar T m (Bz f) args AJ Xu)=true) {xs:Array Value} (hr:By ρ (fun _ => none) args xs.toList) (w:World) (hgl:Vm ρ w := by intro b c e fr h; have h:(none:Option (Array Value×TypeId×(Nat×Nat)))=some (c, e, fr) := h; cases h) :
    Calls P f xs w fun e w' => e = .returned (.bool true)∧Below w.heap.size w w' := by
  obtain ⟨h1, n1, hx⟩ := U4 hx
  obtain ⟨c, hc⟩ := Option.isSome_iff_exists.1 hb
  have := HU (R := fun x w' => x = .bool true∧Below w.heap.size w w') hf hc (by simpa using hn) (fun o a K Q hK =>
    SS (B := w.heap.size) hρ hm (hT _) m f args AJ Xu _ h1 n1 hx (fun _ => none) w xs (RG w Xu hgl) hr o a K Q fun x w' ⟨φ', f1, _, hr⟩ => hK x w' ⟨by simpa only [As] using hr, NR f1⟩)
  refine this.mono fun e w' he => ?_
  cases e with
  | returned v => exact ⟨by rw [he.1], he.2⟩
  | _ => exact he.elim
end
end Go.Ev

namespace Go.Ev
set_option linter.unusedVariables false
open Go.RowKit
section
variable {P:Program} {ρ:Env} {B:Nat}
end
end Go.Ev

namespace Go.Ev
set_option linter.unusedVariables false
def NA (r:R) (κ:S->Heap->K4->R):R :=
  @R.rec (fun _ => R) (fun e t h n => @Ex.rec (fun _ => R) (κ t h n) (fun id => .ok (.exit id) t h n) (.ok .ret t h n) e) (Cb "") (fun w => .fail w) (fun _ _ a b => .both a b) r
def Pv (v:V):Bool :=
  @V.rec (fun _ => Bool) (fun _ => Unit) (fun _ _ => false) (fun b => b) (fun _ _ => false) (fun _ _ _ _ _ _ => false) (fun _ _ => false) (fun _ _ => false) (fun _ => false) (fun _ => false) (fun _ _ _ => false) (fun _ _ => false) (fun _ => false) () (fun _ _ _ _ => ()) v
theorem M5:∀ {m:Nat} {xs:List V} {v:V} {κ:V->R}, xs[m]? = some v->DL m xs κ=κ v
  | 0, [], _, _, h => by cases h
  | 0, x::_, _, _, h => by cases h; rfl
  | m+1, [], _, _, h => by cases h
  | m+1, x::xs, v, κ, h => M5 (m := m) (xs := xs) h
theorem PL {v:V} (h:Pv v=true):v = .bool true := by
  cases v with
  | bool b => rw [show b=true from h]
  | _ => cases h
theorem HV {p:K4} {off:Nat} {h:Heap} {xs:List V} {sup:Bool} {prev:Option K4} {v:V} {κ:V->R} (hp:A8 p h=some (.c (.l xs) sup prev)) (hv:xs[off]? = some v):Az (.ptr p off) h κ=κ v := by
  show Nm p h (fun cs _ _ => Ge cs off κ)=_
  rw [EF]
  have e:(Ht p h fun cs _ _ => Ge cs off κ)=@Option.rec Ob (fun _ => R) (.fail "") (fun o => @Ob.rec (fun _ => R) (fun cs _ _ => Ge cs off κ) (Cb "") (Fp "") (.fail "") (AG "") o) (A8 p h) := CZ _ _ _
  rw [e, hp]
  exact M5 hv
section
variable {G:R->Prop}
end
end Go.Ev

namespace Go.Ev
set_option linter.unusedVariables false
end Go.Ev

namespace Go.Ev
set_option linter.unusedVariables false
/-- internal/bytealg.CountString. -/
def JK (r:Nat) (m:Nat):Nat->Nat->(Nat->R)->R :=
  @Nat.rec (fun _ => Nat->Nat->(Nat->R)->R) (fun _ a κ => κ a)
    (fun _ ih c a κ => br (Nat.beq (lo c 1) r) (Ab (sh c 1) fun d => Ab (Nat.succ a) fun a => ih d a κ) (Ab (sh c 1) fun d => ih d a κ)) m
theorem UP (b:UInt8) (l:List UInt8):∀ (a:Nat) (κ:Nat->R), JK b.toNat l.length (Au l) a κ=κ (a+Lib.countByte l b) := by
  induction l with
  | nil => intro a κ; show κ a=κ (a+Lib.countByte [] b); simp [Lib.countByte]
  | cons x l ih =>
    intro a κ
    have hx := x.toNat_lt
    have e0:lo (Au (x::l)) 1=x.toNat := by rw [E0]; simp only [Au]; omega
    have e1:sh (Au (x::l)) 1=Au l := by rw [Fv]; simp only [Au]; omega
    have e2:JK b.toNat (x::l).length (Au (x::l)) a κ=br (Nat.beq x.toNat b.toNat) (JK b.toNat l.length (Au l) (a+1) κ) (JK b.toNat l.length (Au l) a κ) := by
      have:JK b.toNat (x::l).length (Au (x::l)) a κ=br (Nat.beq (lo (Au (x::l)) 1) b.toNat) (Ab (sh (Au (x::l)) 1) fun d => Ab (Nat.succ a) fun a => JK b.toNat l.length d a κ) (Ab (sh (Au (x::l)) 1) fun d => JK b.toNat l.length d a κ) := rfl
      rw [this, e0, e1, A9, A9, A9]
    rw [e2, ih, ih]
    have hc:Lib.countByte (x::l) b=Lib.countByte l b+if x == b then 1 else 0 := by unfold Lib.countByte; rw [List.count_cons]
    rw [hc]
    by_cases hb:x=b
    · subst hb
      rw [Nat.beq_refl, Ac]; simp; congr 1; omega
    · have h1:Nat.beq x.toNat b.toNat=false := by
        cases h:Nat.beq x.toNat b.toNat with
        | false => rfl
        | true => exact absurd (UInt8.toNat_inj.1 (Nat.eq_of_beq_eq_true h)) hb
      have h2:(x == b)=false := by simpa using hb
      rw [h1, Aq, h2]; simp
def CP:Nq := fun args h n =>
  Nz args fun x l => Nz l fun y l => T8 l (Be x fun m c => GS y fun k r => br (Bk k .u8) (br (Nat.ble m 1000000000) (JK r m c 0 fun i => .rv (.int .i64 i) h n) (.fail "")) (.fail ""))
theorem KP {P:Program} {ρ:Env} {B:Nat} {f:FuncId} (b:Bare P f Extern.BytealgCount.count):Nb P ρ B f CP := by
  intro args h n v h1 n1 hx φ w xs g hr
  have hg:(CP args h n).good := by rw [hx]; trivial
  unfold CP at hx hg
  obtain ⟨x, l, rfl, q1⟩ := GX hg
  rw [q1] at hx hg
  obtain ⟨y, l, rfl, q2⟩ := GX hg
  rw [q2] at hx hg
  obtain ⟨rfl, q3⟩ := Ol hg
  rw [q3] at hx
  obtain ⟨m, c, rfl, hx⟩ := OJ hx
  obtain ⟨k, r, rfl, hx⟩ := Ti hx
  obtain ⟨hk, hx⟩ := Qm hx
  have := AL.1 hk
  subst this
  obtain ⟨hm, hx⟩ := Qm hx
  have hm := Aa.1 hm
  obtain ⟨x1, ys, hxs, hr1, hr⟩ := Aw.1 hr
  obtain ⟨x2, ys, rfl, hr2, hr⟩ := Aw.1 hr
  obtain rfl := AF.1 hr
  obtain ⟨s, rfl, hsz, hc⟩ := (by simpa only [As] using hr1:∃ s:ByteArray, x1 = .string s∧s.size=m∧Au s.data.toList=c)
  obtain ⟨hlt, rfl⟩ := (by simpa only [As] using hr2:r<Mk .u8∧x2 = .int .u8 (C9 .u8 r))
  have hlt:r<256 := hlt
  have hdec:C9 .u8 r=(r:Int) := Ao (by show r<256; exact hlt)
  obtain rfl:xs = #[.string s, .int .u8 (C9 .u8 r)] := by cases xs; simp at hxs; simp [hxs]
  rw [hdec]
  refine b.runs (Lib.run_countString s r w) ⟨φ, ?_⟩
  have hb:((r:Int).toNat.toUInt8).toNat=r := by
    simp only [Int.toNat_natCast]
    exact UInt8.toNat_ofNat_of_lt' (show r<2 ^ 8 from hlt)
  have hl:s.data.toList.length=m := by rw [←hsz]; rfl
  have key := UP ((r:Int).toNat.toUInt8) s.data.toList 0 (fun i => R.rv (.int .i64 i) h n)
  rw [hb, hl, hc] at key
  rw [key] at hx
  have hle:Lib.countByte s.data.toList ((r:Int).toNat.toUInt8)≤m := by rw [←hl]; exact List.count_le_length
  cases hx
  refine ⟨Fr.refl h φ n w, g, ?_⟩
  simp only [As]
  rw [Nat.zero_add]
  have h9:Lib.countByte s.data.toList ((r:Int).toNat.toUInt8)<9223372036854775808 := by omega
  exact ⟨Nat.lt_trans h9 (by decide), congrArg (Value.int .i64) (Ao (k := .i64) h9).symm⟩
section
variable {P:Program} {ρ:Env} {B:Nat}
end
abbrev iI (n:Nat):V := .int .i64 n
abbrev iW (n:Nat):V := .int .u32 n
abbrev iB (n:Nat):V := .int .u8 n
abbrev iL (n:Nat):V := .int .u64 n
abbrev nR (t:S) (h:Heap) (n:K4):R := .ok .nrm t h n
abbrev rT (t:S) (h:Heap) (n:K4):R := .ok .ret t h n
def o8 (i:Nat):O8 := @Nat.rec (fun _ => O8) .d0 (fun i _ => @Nat.rec (fun _ => O8) .d1 (fun i _ => @Nat.rec (fun _ => O8) .d2 (fun i _ => @Nat.rec (fun _ => O8) .d3 (fun i _ => @Nat.rec (fun _ => O8) .d4 (fun i _ => @Nat.rec (fun _ => O8) .d5 (fun i _ => @Nat.rec (fun _ => O8) .d6 (fun _ _ => .d7) i) i) i) i) i) i) i
def o4 (i:Nat):O4 := @Nat.rec (fun _ => O4) .d0 (fun i _ => @Nat.rec (fun _ => O4) .d1 (fun i _ => @Nat.rec (fun _ => O4) .d2 (fun _ _ => .d3) i) i) i
def mS (l:List Nat):SM := @List.rec Nat (fun _ => Nat->SM) (fun _ => []) (fun p _ ih i => (⟨D.ofN (Nat.div p 16), D.ofN (Nat.mod p 16)⟩, ⟨o8 (Nat.div i 4), o4 (Nat.mod i 4)⟩)::ih (Nat.succ i)) l 0
theorem Ww {α:Type} {p:α->Bool} {l:List α} (k:Nat) (h1:((l.take k).all fun x => !p x)=true) (h2:((l.drop k).all fun x => !p x)=true):(l.all fun x => !p x)=true := by
  rw [←List.take_append_drop k l, List.all_append, h1, h2]; rfl
theorem V9 {P:Program} (h:(P.funcs.toList.all fun fn => !fn.goes)=true) (func:String):P.goesAt .entering func=false := by
  have key:∀ g:Nat, (P.funcs[g]?).any Func.goes=false := fun g => by
    cases hx:P.funcs[g]? with
    | none => rfl
    | some fn =>
      have hm:fn∈P.funcs.toList := by
        rw [←Array.getElem?_toList] at hx
        exact List.mem_of_getElem? hx
      have := List.all_eq_true.1 h fn hm
      simpa using this
  have hp:P.funcs.any Func.goes=false := by
    rw [←Array.any_toList, Bool.eq_false_iff]
    intro hc
    obtain ⟨fn, hm, hg⟩ := List.any_eq_true.1 hc
    have := List.all_eq_true.1 h fn hm
    rw [hg] at this; cases this
  have hgo:∀ f, P.goes f=false := fun f => by
    unfold Program.goes
    rw [hp, Bool.and_false, Bool.or_false, Bool.eq_false_iff]
    intro hc
    simp only [key] at hc
    simp at hc
  unfold Program.goesAt Program.goesFrom
  cases P.funcNamed func with
  | none => rfl
  | some f => simp [hgo f]
end Go.Ev

namespace Go.Ev
set_option linter.unusedVariables false
abbrev L4 := Nat->Option (Array Value×TypeId×(Nat×Nat))
/-- The environment of a program whose blocks gl stay as they are. -/
def VG (P:Program) (fs:List Nat) (gl:L4):Env := { Kx P fs with gl := gl }
section
variable {P:Program} {ρ:Env} {B:Nat}
theorem Ih.gl {fs:List Nat} {gl:L4} {f:FuncId} {e:Ent} (h:Ih P (Kx P fs) f e):Ih P (VG P fs gl) f e := h
/-- A table that stays. -/
def UR (P:Program) (gl:L4) (name:String) (k:IntKind) (zs:List Int):Prop := ∃ g e fr, P.globalNamed name=some g∧gl g=some ((zs.map fun z => Value.int k z).toArray, e, fr)
theorem UR.is {gl:L4} {name:String} {k:IntKind} {zs:List Int} {h:Heap} {n:K4} {φ:AT} {w:World} (t:UR P gl name k zs) (hgl:ρ.gl=gl) (g:Gam ρ B h n φ w):Lib.TabIs P w name k zs := by
  obtain ⟨b, e, fr, h1, h2⟩ := t
  obtain ⟨_, h3⟩ := g.glob b _ e fr (by rw [hgl]; exact h2)
  unfold Lib.TabIs World.var?
  rw [h1, Option.bind_some, h3]
/-- The blocks of a world that a list names. -/
def Ll (w:World) (l:List Nat):L4 := fun b => if b∈l then (match w.heap[b]? with | some (.cells c e fr) => some (c, e, fr) | _ => none) else none
theorem Vl {P:Program} {fs:List Nat} {w:World} {l:List Nat}:Vm (VG P fs (Ll w l)) w := fun b c e fr h => by
  have h:Ll w l b=some (c, e, fr) := h
  unfold Ll at h
  split at h
  · split at h
    · rename_i c' e' fr' hw
      cases h
      refine ⟨?_, hw⟩
      rcases Nat.lt_or_ge b w.heap.size with hb | hb
      · exact hb
      · rw [Array.getElem?_eq_none hb] at hw; cases hw
    · cases h
  · cases h
theorem UR.of {w:World} {l:List Nat} {g:Nat} {name:String} {k:IntKind} {zs:List Int} (hg:P.globalNamed name=some g) (hl:g∈l) (h:Lib.TabIs P w name k zs):UR P (Ll w l) name k zs := by
  unfold Lib.TabIs World.var? at h
  rw [hg, Option.bind_some] at h
  split at h
  · rename_i c e fr hw
    cases h
    refine ⟨g, e, fr, hg, ?_⟩
    unfold Ll
    rw [if_pos hl, hw]
  · cases h
end
end Go.Ev

namespace Go.Ev
set_option linter.unusedVariables false
open Go.RowKit
section
variable {P:Program} {ρ:Env} {B:Nat}
/-- What stands below stays; new blocks are nothing to it. -/
theorem Gam.below {h:Heap} {n:K4} {φ:AT} {w w':World} (g:Gam ρ B h n φ w) (b:Below w.heap.size w w'):Gam ρ B h n φ w'∧Fr h h φ φ n n w w' := by
  obtain ⟨b1, b2, b3, b4, b5⟩ := b
  refine ⟨⟨Nat.le_trans g.base b4, g.dom, fun p b s t hp => ⟨(g.blk p b s t hp).1, Nat.lt_of_lt_of_le (g.blk p b s t hp).2 b4⟩, fun p o b s t ho hp => Cp (b5 b (g.blk p b s t hp).2) (g.obj p o b s t ho hp), g.sep, g.sup,
    fun b c e fr hb => ⟨(g.glob b c e fr hb).1, by rw [b5 b (Nat.lt_of_lt_of_le (g.glob b c e fr hb).1 g.base)]; exact (g.glob b c e fr hb).2⟩⟩,
    ⟨AT.le_refl φ, fun _ _ h => .inl h, Nat.le_refl _, b1, b2, b3, b4, fun b hb _ => b5 b hb, fun _ _ _ _ h => .inl h, fun _ _ h => h⟩⟩
end
theorem WV {a:Int} (h:(Lit.int .i64 a).wf=true) : -9223372036854775808≤a∧a<9223372036854775808 := by
  simp [Lit.wf, IntKind.min, IntKind.max, IntKind.signed, IntKind.bits] at h
  omega
end Go.Ev

namespace Go.Ev
set_option linter.unusedVariables false
/-- The environment of a program with symbols, whose blocks gl stay as they are. -/
def KD (P:Program) (fs:List Nat) (v:Nat->Value) (gl:L4):Env := { Kx P fs with v := v, gl := gl }
theorem Zm {P:Program} {fs:List Nat} {v:Nat->Value} {gl:L4} (h:∀ i, (v i).oneCell'=true):Bo (KD P fs v gl) := h
section
variable {P:Program} {ρ:Env} {B:Nat}
theorem Jo.mkA {fs:List Nat} {v:Nat->Value} {gl:L4} {T:FC} (h:∀ f e, C5 (Bz f) T=some e->LJ P (KD P fs v gl) B f e) (ha:∀ f∈fs, ∃ e, C5 (Bz f) T=some e∧Ih P (KD P fs v gl) f e):Jo P (KD P fs v gl) B T := by
  refine ⟨h, fun f A hA => ?_⟩
  have hA:@Bool.rec (fun _ => Option ApC) none (Lq P f) (fs.contains f)=some A := hA
  cases hc:fs.contains f with
  | false => rw [hc] at hA; cases hA
  | true => exact ha f (List.contains_iff_mem.1 hc)
theorem Tm {fs:List Nat} {v:Nat->Value} {w:World} {l:List Nat}:Vm (KD P fs v (Ll w l)) w := fun b c e fr h => Vl (P := P) (fs := fs) (w := w) (l := l) b c e fr h
theorem Ra {w:World} {l:List Nat} {b:Nat} {c:Array Value} {e:TypeId} {fr:Nat×Nat} (hb:b∈l) (h:w.heap[b]? = some (.cells c e fr)):Ll w l b=some (c, e, fr) := by
  unfold Ll
  rw [if_pos hb, h]
/-- A cell of a world. -/
theorem Pi {w:World} {a:Addr} {v:Value} (h:w.cell? a=some v):∃ b o c e fr, a=⟨b, o, none⟩∧w.heap[b]? = some (.cells c e fr)∧c[o]? = some v := by
  obtain ⟨b, o, sp⟩ := a
  unfold World.cell? at h
  split at h
  · rename_i c e fr hw
    split at h
    · cases h
    · rename_i hs
      cases sp with
      | none => exact ⟨b, o, c, e, fr, rfl, hw, h⟩
      | some x => exact absurd rfl hs
  · cases h
end
section
variable {ρ:Env} {φ:AT} {b o len cap lo hi hi' i:Nat} {c:Array Value} {e:TypeId} {fr:Nat×Nat}
end
end Go.Ev

namespace Go.Ev
set_option linter.unusedVariables false
theorem Wo (k:IntKind) (a b:Nat) (κ:V->R):Ap (.int k a) (.int k b) κ=κ (.int k ((a+b) % Mk k)) := by
  show kM k k (fun M => Ab (Nat.mod (Nat.add a b) M) fun r => κ (.int k r))=_
  rw [Oz, AL.2 rfl, Ac, A9]; rfl
/-- A difference. -/
def Oy (k:IntKind) (a b:Nat):Nat := (a+(Mk k - b)) % Mk k
theorem W3 (k:IntKind) (a b:Nat) (κ:V->R):C7 (.int k a) (.int k b) κ=κ (.int k (Oy k a b)) := by
  show kM k k (fun M => Ab (Nat.mod (Nat.add a (Nat.sub M b)) M) fun r => κ (.int k r))=_
  rw [Oz, AL.2 rfl, Ac, A9]; rfl
theorem VQ (k:IntKind) (a b:Nat) (κ:V->R):Fd (.int k a) (.int k b) κ=κ (.int k ((a*b) % Mk k)) := by
  show kM k k (fun M => Ab (Nat.mod (Nat.mul a b) M) fun r => κ (.int k r))=_
  rw [Oz, AL.2 rfl, Ac, A9]; rfl
theorem CQ (a b:Nat):Nat.beq a b=decide (a=b) := by
  rw [Bool.eq_iff_iff, decide_eq_true_iff]
  exact ⟨Nat.eq_of_beq_eq_true, fun h => by rw [h]; exact Nat.beq_refl b⟩
theorem VO (k:IntKind) (a b:Nat) (κ:V->R):AW (.int k a) (.int k b) κ=κ (.bool (decide (a=b))) := by
  show kM k k (fun _ => Cn (Nat.beq a b) fun r => κ (.bool r))=_
  rw [Oz, AL.2 rfl, Ac, Bu, CQ]
theorem Wn (k:IntKind) (a b:Nat) (κ:V->R):B4 (.int k a) (.int k b) κ=κ (.bool (decide (¬ a=b))) := by
  show kM k k (fun _ => br (Nat.beq a b) (κ (.bool false)) (κ (.bool true)))=_
  rw [Oz, AL.2 rfl, Ac, CQ]
  by_cases h:a=b
  · rw [decide_eq_true h, decide_eq_false (fun g => g h)]; rfl
  · rw [decide_eq_false h, decide_eq_true h]; rfl
/-- Signed numbers that are not negative, and unsigned ones, by their residues. -/
theorem PE {k:IntKind} {a b:Nat} (ha:a<Hk k) (hb:b<Hk k):DK k a b=decide (a<b) := by
  unfold DK
  rw [AS ha, AS hb, Aq, Aq, CU]
  exact decide_eq_decide.2 Nat.succ_le_iff
theorem VV (k:IntKind) (a b:Nat) (κ:V->R):AR (.int k a) (.int k b) κ=κ (.bool (DK k a b)) := by
  show kH k k (fun H => Cn (UA H a b) fun r => κ (.bool r))=_
  rw [QB, AL.2 rfl, Ac, Bu]; rfl
theorem VN (k:IntKind) (a b:Nat) (κ:V->R):C3 (.int k a) (.int k b) κ=κ (.bool (DK k b a)) := by
  show kH k k (fun H => Cn (UA H b a) fun r => κ (.bool r))=_
  rw [QB, AL.2 rfl, Ac, Bu]; rfl
theorem VR (k:IntKind) (a b:Nat) (κ:V->R):EA (.int k a) (.int k b) κ=κ (.bool (!DK k b a)) := by
  show kH k k (fun H => br (UA H b a) (κ (.bool false)) (κ (.bool true)))=_
  rw [QB, AL.2 rfl, Ac, Tk]; cases DK k b a <;> rfl
theorem Vw (k:IntKind) (a b:Nat) (κ:V->R):DU (.int k a) (.int k b) κ=κ (.bool (!DK k a b)) := by
  show kH k k (fun H => br (UA H a b) (κ (.bool false)) (κ (.bool true)))=_
  rw [QB, AL.2 rfl, Ac, Tk]; cases DK k a b <;> rfl
theorem Sf {k:IntKind} {a b:Nat} (ha:a<Hk k) (hb:b<Hk k) (h0:0<b) (κ:V->R):M6 (.int k a) (.int k b) κ=κ (.int k (a / b)) := by
  show br (Bk k k) (br (Nat.ble (Nat.succ a) (Hk k)) (br (Nat.ble (Nat.succ b) (Hk k)) (br (Nat.ble 1 b) (Ab (Nat.div a b) fun r => κ (.int k r)) _) _) _) _=_
  rw [AL.2 rfl, Ac, Aa.2 ha, Ac, Aa.2 hb, Ac, Aa.2 h0, Ac, A9]; rfl
theorem Ta {k:IntKind} {a b:Nat} (ha:a<Hk k) (hb:b<Hk k) (h0:0<b) (κ:V->R):NH (.int k a) (.int k b) κ=κ (.int k (a % b)) := by
  show br (Nat.ble (Nat.succ a) (Hk k)) (br (Bk k k) (br (Nat.ble (Nat.succ a) (Hk k)) (br (Nat.ble (Nat.succ b) (Hk k)) (br (Nat.ble 1 b) (Ab (Nat.mod a b) fun r => κ (.int k r)) (.fail "")) (.fail "")) (.fail "")) (.fail "")) (M2 k a k b κ)=_
  rw [show Nat.ble (Nat.succ a) (Hk k)=true from Aa.2 ha, Ac, AL.2 rfl, Ac, Ac, show Nat.ble (Nat.succ b) (Hk k)=true from Aa.2 hb, Ac, show Nat.ble 1 b=true from Aa.2 h0, Ac, A9]; rfl
theorem Vt (k:IntKind) (a b:Nat) (κ:V->R):SU (.int k a) (.int k b) κ=κ (.int k (a &&& b)) := by
  show br (Bk k k) (Ab (Nat.land a b) fun r => κ (.int k r)) _=_
  rw [AL.2 rfl, Ac, A9]; rfl
theorem Y0 (k:IntKind) (a b:Nat) (κ:V->R):Xb (.int k a) (.int k b) κ=κ (.int k (a ||| b)) := by
  show br (Bk k k) (Ab (Nat.lor a b) fun r => κ (.int k r)) _=_
  rw [AL.2 rfl, Ac, A9]; rfl
theorem VA (k:IntKind) (a b:Nat) (κ:V->R):Wf (.int k a) (.int k b) κ=κ (.int k (a ^^^ b)) := by
  show br (Bk k k) (Ab (Nat.xor a b) fun r => κ (.int k r)) _=_
  rw [AL.2 rfl, Ac, A9]; rfl
/-- A number turned into one of another kind: not negative. -/
theorem QS {k j:IntKind} {a:Nat} (h:a<Hk j) (κ:V->R):Fg k (.int j a) κ=κ (.int k (a % Mk k)) := by
  show br (Nat.ble (Nat.succ a) (Hk j)) (Ab (Nat.mod a (Mk k)) fun r => κ (.int k r)) _=_
  rw [Aa.2 h, Ac, A9]; rfl
theorem Yt (b:Bool) (x y:R):AY (.bool b) x y=bif b then x else y := by cases b <;> rfl
theorem Ub (b:Bool) (x y:V) (κ:V->R):AA (.bool b) x y κ=bif b then κ x else κ y := by cases b <;> rfl
theorem Wg (b:Bool) (κ:V->R):C6 (.bool b) κ=κ (.bool (!b)) := by cases b <;> rfl
theorem VW (w b:Bool) (h:Heap) (n:K4) (F:KV->R) (κ:KV):Ba w (.bool b) h n F κ=bif b == w then F κ else κ Ay h n := by cases w <;> cases b <;> rfl
theorem Vp (w b:Bool) (F:(V->R)->R) (κ:V->R):JL w (.bool b) F κ=bif b == w then F κ else κ Ay := by cases w <;> cases b <;> rfl
theorem Wl (v:V) (h:Heap) (n:K4) (κ:V->R):AB (.rv v h n) κ=κ v := id rfl
theorem W7 (v:V) (h:Heap) (n:K4) (κ:KV):HN (.rv v h n) κ=κ v h n := id rfl
theorem SE (v:V) (h:Heap) (n:K4) (κ:KV):Ai (.rv v h n) κ=κ v h n := id rfl
theorem Qy (t:S) (h:Heap) (n:K4) (κ:S->Heap->K4->R):Br (.ok .nrm t h n) κ=κ t h n := id rfl
theorem QX (i:Nat) (t:S) (h:Heap) (n:K4) (κ:S->Heap->K4->R):Br (.ok (.exit i) t h n) κ = .ok (.exit i) t h n := id rfl
theorem PU (t:S) (h:Heap) (n:K4) (κ:S->Heap->K4->R):Br (.ok .ret t h n) κ = .ok .ret t h n := id rfl
theorem OT (i:Nat) (t:S) (h:Heap) (n:K4) (κ:S->Heap->K4->R):Aj i (.ok .nrm t h n) κ=κ t h n := id rfl
theorem Oe (i:Nat) (t:S) (h:Heap) (n:K4) (κ:S->Heap->K4->R):Aj i (.ok .ret t h n) κ = .ok .ret t h n := id rfl
theorem NV (i j:Nat) (t:S) (h:Heap) (n:K4) (κ:S->Heap->K4->R):Aj i (.ok (.exit j) t h n) κ=bif decide (j=i) then κ t h n else .ok (.exit j) t h n := by
  show br (Nat.beq j i) (κ t h n) (.ok (.exit j) t h n)=_
  rw [CQ]; cases decide (j=i) <;> rfl
theorem Qa (b:Bool) (x y:R) (κ:S->Heap->K4->R):Br (bif b then x else y) κ=bif b then Br x κ else Br y κ := by cases b <;> rfl
theorem Ox (i:Nat) (b:Bool) (x y:R) (κ:S->Heap->K4->R):Aj i (bif b then x else y) κ=bif b then Aj i x κ else Aj i y κ := by cases b <;> rfl
theorem TW (b:Bool) (x y:R) (κ:V->R):AB (bif b then x else y) κ=bif b then AB x κ else AB y κ := by cases b <;> rfl
theorem Tt (b:Bool) (x y:R) (κ:KV):HN (bif b then x else y) κ=bif b then HN x κ else HN y κ := by cases b <;> rfl
/-- What a cell of an object is. -/
def Lj (o:Cx) (off:Nat) (κ:V->R):R := @Option.rec Ob (fun _ => R) (.fail "") (fun o => @Ob.rec (fun _ => R) (fun cs _ _ => Ge cs off κ) (Cb "") (Fp "") (.fail "") (AG "") o) o
theorem Xp (p:K4) (off:Nat) (h:Heap) (κ:V->R):Az (.ptr p off) h κ=Lj (A8 p h) off κ := by
  show Nm p h (fun cs _ _ => Ge cs off κ)=_
  rw [EF]; unfold Ht Lj; rw [CZ]
theorem Uc (xs:List V) (s:Bool) (pr:Option K4) (off:Nat) (κ:V->R):Lj (some (.c (.l xs) s pr)) off κ=DL off xs κ := id rfl
theorem S0 (x:V) (xs:List V) (κ:V->R):DL 0 (x::xs) κ=κ x := id rfl
theorem SW (m:Nat) (x:V) (xs:List V) (κ:V->R):DL (m+1) (x::xs) κ=DL m xs κ := id rfl
theorem W8 (off o:Nat) (p:K4) (κ:V->R):Al off (.ptr p o) κ=κ (.ptr p (o+off)) := by
  show Ab (Nat.add o off) (fun o => κ (.ptr p o))=_
  rw [A9]; rfl
theorem QA (p:K4) (o:Nat) (κ:V->R):Ah (.ptr p o) κ=κ (.ptr p o) := id rfl
end Go.Ev

namespace Go.Ev
set_option linter.unusedVariables false
theorem D.nx_all (d:D):(d.toN=15 ∧ ∀ (k:D->R) (c:R), d.nx k c=c) ∨ ∃ e:D, e.toN=d.toN+1 ∧ ∀ (k:D->R) (c:R), d.nx k c=k e := by
  cases d
  case d0 => exact .inr ⟨.d1, rfl, fun _ _ => rfl⟩
  case d1 => exact .inr ⟨.d2, rfl, fun _ _ => rfl⟩
  case d2 => exact .inr ⟨.d3, rfl, fun _ _ => rfl⟩
  case d3 => exact .inr ⟨.d4, rfl, fun _ _ => rfl⟩
  case d4 => exact .inr ⟨.d5, rfl, fun _ _ => rfl⟩
  case d5 => exact .inr ⟨.d6, rfl, fun _ _ => rfl⟩
  case d6 => exact .inr ⟨.d7, rfl, fun _ _ => rfl⟩
  case d7 => exact .inr ⟨.d8, rfl, fun _ _ => rfl⟩
  case d8 => exact .inr ⟨.d9, rfl, fun _ _ => rfl⟩
  case d9 => exact .inr ⟨.d10, rfl, fun _ _ => rfl⟩
  case d10 => exact .inr ⟨.d11, rfl, fun _ _ => rfl⟩
  case d11 => exact .inr ⟨.d12, rfl, fun _ _ => rfl⟩
  case d12 => exact .inr ⟨.d13, rfl, fun _ _ => rfl⟩
  case d13 => exact .inr ⟨.d14, rfl, fun _ _ => rfl⟩
  case d14 => exact .inr ⟨.d15, rfl, fun _ _ => rfl⟩
  case d15 => exact .inl ⟨rfl, fun _ _ => rfl⟩
theorem K4.nx_all (p:K4) (h:p.toN<65535):∃ q:K4, q.toN=p.toN+1 ∧ ∀ k:K4->R, p.nx k=k q := by
  obtain ⟨a, b, c, d⟩ := p
  simp only [K4.toN] at h
  have hd0:D.d0.toN=0 := id rfl
  have ha := a.toN_lt; have hb := b.toN_lt; have hc := c.toN_lt; have hd := d.toN_lt
  rcases d.nx_all with ⟨d1, d2⟩ | ⟨e, d1, d2⟩
  · rcases c.nx_all with ⟨c1, c2⟩ | ⟨e, c1, c2⟩
    · rcases b.nx_all with ⟨b1, b2⟩ | ⟨e, b1, b2⟩
      · rcases a.nx_all with ⟨a1, a2⟩ | ⟨e, a1, a2⟩
        · omega
        · exact ⟨⟨e, .d0, .d0, .d0⟩, by simp only [K4.toN, hd0]; omega, fun k => by show d.nx _ (c.nx _ (b.nx _ (a.nx _ _)))=_; rw [d2, c2, b2, a2]⟩
      · exact ⟨⟨a, e, .d0, .d0⟩, by simp only [K4.toN, hd0]; omega, fun k => by show d.nx _ (c.nx _ (b.nx _ _))=_; rw [d2, c2, b2]⟩
    · exact ⟨⟨a, b, e, .d0⟩, by simp only [K4.toN, hd0]; omega, fun k => by show d.nx _ (c.nx _ _)=_; rw [d2, c2]⟩
  · exact ⟨⟨a, b, c, e⟩, by simp only [K4.toN]; omega, fun k => by show d.nx _ _=_; rw [d2]⟩
/-- The next place, where there is one. -/
def K4.up (p:K4):K4 := if h:p.toN<65535 then Classical.choose (p.nx_all h) else p
theorem K4.up_toN {p:K4} (h:p.toN<65535):p.up.toN=p.toN+1 := by
  unfold K4.up; rw [dif_pos h]; exact (Classical.choose_spec (p.nx_all h)).1
theorem K4.nx_up {p:K4} (h:p.toN<65535) (k:K4->R):p.nx k=k p.up := by
  unfold K4.up; rw [dif_pos h]; exact (Classical.choose_spec (p.nx_all h)).2 k
theorem K4.ne_of_lt {p q:K4} (h:p.toN<q.toN):p≠q := fun e => by subst e; omega
theorem EB {n:K4} (hn:n.toN<65535) (h:Heap) (o:Ob) (κ:Heap->K4->R):ET h n o κ=κ (Af n h (some o)) n.up := by
  rw [IF]
  have e:Di h n o κ=n.nx fun n' => κ (Af n h (some o)) n' := B6 _ _ _ _
  rw [e, K4.nx_up hn]
theorem Q4 {n:K4} (hn:n.toN<65535) (h:Heap) (κ:KV):Nd h n κ=κ (.map n) (Af n h (some (.m [] [] 0))) n.up := EB hn _ _ _
theorem PQ {n:K4} (hn:n.toN<65535) (l:List V) (h:Heap) (κ:KV):GN (.agg l) h n κ=κ (.ptr n 0) (Af n h (some (.c (.l l) false none))) n.up := EB hn _ _ _
theorem W9 {n:K4} (hn:n.toN<65535) (cs:Cs) (h:Heap) (κ:KV):Dc cs h n κ=κ (.ptr n 0) (Af n h (some (.c cs false none))) n.up := EB hn _ _ _
theorem N6 {n:K4} (hn:n.toN<65535) (len esz:Nat) (l:List V) (h:Heap) (κ:KV):CN false len esz l h n κ=κ (.sl n 0 len len true esz) (Af n h (some (.c (.l l) false none))) n.up := EB hn _ _ _
theorem Ui {n:K4} (hn:n.toN<65535) (esz:Nat) (h:Heap) (κ:KV):CN true 0 esz [] h n κ=κ (.sl n 0 0 0 true esz) (Af n h (some (.c (.b 0 0) false none))) n.up := EB hn _ _ _
theorem WB {n:K4} (hn:n.toN<65535) {a b:Nat} (hab:a≤b) (hb:b≤281474976710656) (zero:List V) (hz:zero.length=1) (k j:IntKind) (ha:a<Hk k) (hb2:b<Hk j) (h:Heap) (κ:KV) :
    FU 1 true zero (.int k a) (.int j b) h n κ=κ (.sl n 0 a b true 1) (Af n h (some (.c (.b b 0) false none))) n.up := by
  show br (Nat.ble (Nat.succ a) (Hk k)) (br (Nat.ble (Nat.succ b) (Hk j)) (br (Nat.ble a b) (br (Nat.ble (Nat.mul 1 b) 281474976710656) (ET h n (.c (.b b 0) false none) fun h' n' => Gk zero fun esz => κ (.sl n 0 a b true esz) h' n') _) _) _) _=_
  rw [Aa.2 ha, Ac, Aa.2 hb2, Ac, Aa.2 hab, Ac, Aa.2 (by show 1*b≤_; omega), Ac, EB hn, CV, hz]
theorem II:∀ {m:Nat} {xs:List V} {k:List V->R}, m≤xs.length->D6 m xs k=k (xs.take m)
  | 0, xs, k, _ => rfl
  | m+1, [], k, h => by simp at h
  | m+1, x::xs, k, h => by
    have := II (m := m) (xs := xs) (k := fun zs => k (x::zs)) (by simpa using h)
    exact this
theorem IQ:∀ {m:Nat} {xs:List V} {k:List V->R}, m≤xs.length->Du m xs k=k (xs.drop m)
  | 0, xs, k, _ => rfl
  | m+1, [], k, h => by simp at h
  | m+1, x::xs, k, h => IQ (m := m) (xs := xs) (k := k) (by simpa using h)
theorem Qn:∀ {m:Nat} {xs:List V} {k:V->R} {v:V}, xs[m]? = some v->DL m xs k=k v
  | 0, [], k, v, h => by simp at h
  | 0, x::xs, k, v, h => by simp at h; subst h; rfl
  | m+1, [], k, v, h => by simp at h
  | m+1, x::xs, k, v, h => Qn (m := m) (xs := xs) (k := k) (by simpa using h)
theorem H7 {p:K4} {h:Heap} {cs:Cs} {s:Bool} {pr:Option K4} (hp:A8 p h=some (.c cs s pr)) (κ:Cs->Bool->Option K4->R):Ht p h κ=κ cs s pr := by
  unfold Ht; rw [CZ, hp]
theorem Qp:∀ {off:Nat} {xs:List V} {v:V} {κ:List V->R}, off<xs.length->C8 off xs v κ=κ (xs.set off v)
  | 0, [], v, κ, h => by simp at h
  | 0, x::xs, v, κ, h => rfl
  | off+1, [], v, κ, h => by simp at h
  | off+1, x::xs, v, κ, h => Qp (off := off) (xs := xs) (v := v) (κ := fun zs => κ (x::zs)) (by simpa using h)
/-- One cell of a struct. -/
theorem XO {p:K4} {h:Heap} {xs:List V} {off:Nat} (hp:A8 p h=some (.c (.l xs) false none)) (ho:off<xs.length) (v:V) (κ:Heap->R):I4 h p off v κ=κ (Af p h (some (.c (.l (xs.set off v)) false none))) := by
  rw [I4, J5, H7 hp]
  show C8 off xs v (fun zs => Jm none h fun h => FY p h (some (.c (.l zs) false none)) κ)=_
  rw [Qp ho]
  exact B6 _ _ _ _
theorem HA.setS_setS (d:D) (p:HA) (x y:Cx):HA.setS d (HA.setS d p x) y=HA.setS d p y := by cases d <;> cases p <;> rfl
theorem HB.setS_setS (d:D) (p:HB) (x y:HA):HB.setS d (HB.setS d p x) y=HB.setS d p y := by cases d <;> cases p <;> rfl
theorem HC.setS_setS (d:D) (p:HC) (x y:HB):HC.setS d (HC.setS d p x) y=HC.setS d p y := by cases d <;> cases p <;> rfl
theorem Heap.setS_setS (d:D) (p:Heap) (x y:HC):Heap.setS d (Heap.setS d p x) y=Heap.setS d p y := by cases d <;> cases p <;> rfl
theorem LA (p:K4) (h:Heap) (x y:Cx):Af p (Af p h x) y=Af p h y := by
  cases p
  simp only [Af, FY, Heap.setK_eq, HC.setK_eq, HB.setK_eq, HA.setK_eq, Heap.selK_eq, HC.selK_eq, HB.selK_eq, id, Heap.sel_setS_same, HC.sel_setS_same, HB.sel_setS_same, Heap.setS_setS, HC.setS_setS, HB.setS_setS, HA.setS_setS]
/-- A store of one cell to a struct. -/
def NM (o:Cx) (h:Heap) (p:K4) (off:Nat) (v:V) (κ:Heap->R):R :=
  match o with
  | some (.c (.l xs) false none) => bif Nat.ble (off+1) xs.length then κ (Af p h (some (.c (.l (xs.set off v)) false none))) else I4 h p off v κ
  | _ => I4 h p off v κ
theorem DB (h:Heap) (p:K4) (off:Nat) (v:V) (κ:Heap->R):I4 h p off v κ=NM (A8 p h) h p off v κ := by
  unfold NM
  split
  · rename_i xs hp
    cases hb:Nat.ble (off+1) xs.length with
    | true => exact XO hp (Aa.1 hb) v κ
    | false => rfl
  · rfl
theorem NE (xs:List V) (h:Heap) (p:K4) (off:Nat) (v:V) (κ:Heap->R):NM (some (.c (.l xs) false none)) h p off v κ=bif Nat.ble (off+1) xs.length then κ (Af p h (some (.c (.l (xs.set off v)) false none))) else I4 h p off v κ := id rfl
theorem Tz (p:K4) (off:Nat) (h:Heap) (k:IntKind) (r:Nat) (κ:Heap->R):Bb (.ptr p off) (.int k r) h κ=NM (A8 p h) h p off (.int k r) κ := DB _ _ _ _ _
theorem QF (p:K4) (off:Nat) (h:Heap) (b:Bool) (κ:Heap->R):Bb (.ptr p off) (.bool b) h κ=NM (A8 p h) h p off (.bool b) κ := DB _ _ _ _ _
theorem Tw (p:K4) (off:Nat) (h:Heap) (q:K4) (r:Nat) (κ:Heap->R):Bb (.ptr p off) (.ptr q r) h κ=NM (A8 p h) h p off (.ptr q r) κ := DB _ _ _ _ _
theorem Uh (p:K4) (off:Nat) (h:Heap) (q:K4) (κ:Heap->R):Bb (.ptr p off) (.map q) h κ=NM (A8 p h) h p off (.map q) κ := DB _ _ _ _ _
theorem SB (p:K4) (off:Nat) (h:Heap) (w:Nl) (κ:Heap->R):Bb (.ptr p off) (.nil w) h κ=NM (A8 p h) h p off (.nil w) κ := DB _ _ _ _ _
theorem VD (p:K4) (off:Nat) (h:Heap) (q:K4) (a b c:Nat) (e:Bool) (z:Nat) (κ:Heap->R):Bb (.ptr p off) (.sl q a b c e z) h κ=NM (A8 p h) h p off (.sl q a b c e z) κ := DB _ _ _ _ _
theorem Tu (p:K4) (off:Nat) (h:Heap) (n c:Nat) (κ:Heap->R):Bb (.ptr p off) (.str n c) h κ=NM (A8 p h) h p off (.str n c) κ := DB _ _ _ _ _
theorem Td (neg:Bool) (p:K4) (o:Nat) (κ:V->R):N3 neg (.rf .ptr) (.ptr p o) (.nil .ptr) κ=κ (.bool neg) := by cases neg <;> rfl
theorem TF (neg:Bool) (w:Nl) (κ:V->R):N3 neg (.rf w) (.nil w) (.nil w) κ=κ (.bool (!neg)) := by cases neg <;> cases w <;> rfl
theorem S5 (neg:Bool) (p:K4) (a b c:Nat) (e:Bool) (z:Nat) (κ:V->R):N3 neg (.rf .sl) (.sl p a b c e z) (.nil .sl) κ=κ (.bool neg) := by cases neg <;> rfl
theorem U7 (neg:Bool) (n c:Nat) (κ:V->R):N3 neg (.rf .sl) (.oth (.rb n c)) (.nil .sl) κ=κ (.bool neg) := by cases neg <;> rfl
theorem QT {a b:Nat} (ha:a<18446744073709551616) (hb:b<18446744073709551616):(B2 (Hk .i64) (Mk .i64) a+1≤B2 (Hk .i64) (Mk .i64) b ↔ DK .i64 a b=true)∧(DK .i64 a b=false->B2 (Hk .i64) (Mk .i64) b≤B2 (Hk .i64) (Mk .i64) a) := by
  have h1:∀ x:Nat, x<18446744073709551616->(Nat.ble (Hk .i64) x=true∧9223372036854775808≤x∧B2 (Hk .i64) (Mk .i64) x=x - 9223372036854775808)∨(Nat.ble (Hk .i64) x=false∧x<9223372036854775808∧B2 (Hk .i64) (Mk .i64) x=x+9223372036854775808) := fun x hx => by
    unfold B2
    rcases Nat.lt_or_ge x 9223372036854775808 with h | h
    · exact .inr ⟨AS h, h, by rw [AS (show x<Hk .i64 from h), Aq]; rfl⟩
    · exact .inl ⟨Aa.2 h, h, by rw [Aa.2 (show Hk .i64≤x from h), Ac]; rfl⟩
  have e:DK .i64 a b=br (Nat.ble (Hk .i64) a) (br (Nat.ble (Hk .i64) b) (Nat.ble (Nat.succ a) b) true) (br (Nat.ble (Hk .i64) b) false (Nat.ble (Nat.succ a) b)) := id rfl
  rw [e]
  have h2 := h1 a ha; have h3 := h1 b hb
  clear h1 e
  generalize B2 (Hk .i64) (Mk .i64) a=ka at *
  generalize B2 (Hk .i64) (Mk .i64) b=kb at *
  rcases h2 with ⟨a1, a2, a3⟩ | ⟨a1, a2, a3⟩ <;> rcases h3 with ⟨b1, b2, b3⟩ | ⟨b1, b2, b3⟩ <;> rw [a1, b1] <;> simp only [Ac, Aq, CU, decide_eq_true_eq, decide_eq_false_iff_not, Bool.true_eq_false, Bool.false_eq_true, iff_false, iff_true, Nat.succ_eq_add_one, false_implies, and_true, true_implies] <;> omega
theorem Sm {a b:Nat} (ha:a<18446744073709551616) (hb:b<18446744073709551616) (κ:V->R):Q9 (.int .i64 a) (.int .i64 b) κ=κ (.int .i64 (bif DK .i64 a b then b else a)) := by
  have on:∀ x, CS (Hk .i64) x x=true := fun x => by
    unfold CS
    rcases Nat.lt_or_ge x (Hk .i64) with h | h
    · rw [Aa.2 h, Ac]
    · rw [Aa.2 h]; cases Nat.ble (Nat.succ x) (Hk .i64) <;> rfl
  show br (Bk .i64 .i64) (br (CS (Hk .i64) a a) (br (CS (Hk .i64) b b) (Up (B2 (Hk .i64) (Mk .i64) a) (B2 (Hk .i64) (Mk .i64) a) (B2 (Hk .i64) (Mk .i64) b) (B2 (Hk .i64) (Mk .i64) b) (κ (.int .i64 b)) (κ (.int .i64 a))) (.fail "")) (.fail "")) (.fail "")=_
  rw [AL.2 rfl, Ac, on, Ac, on, Ac]
  unfold Up
  obtain ⟨k1, k2⟩ := QT ha hb
  cases hl:DK .i64 a b with
  | true => rw [Aa.2 (k1.2 hl), Ac]; rfl
  | false =>
    have:¬ (B2 (Hk .i64) (Mk .i64) a+1≤B2 (Hk .i64) (Mk .i64) b) := fun h => by rw [k1.1 h] at hl; cases hl
    rw [AS (by show _<_; omega), Aq, Aa.2 (k2 hl), Ac]; rfl
theorem QW {a b:Nat} (ha:a<18446744073709551616) (hb:b<18446744073709551616) (κ:V->R):JA (.int .i64 a) (.int .i64 b) κ=κ (.int .i64 (bif DK .i64 b a then b else a)) := by
  have on:∀ x, CS (Hk .i64) x x=true := fun x => by
    unfold CS
    rcases Nat.lt_or_ge x (Hk .i64) with h | h
    · rw [Aa.2 h, Ac]
    · rw [Aa.2 h]; cases Nat.ble (Nat.succ x) (Hk .i64) <;> rfl
  show br (Bk .i64 .i64) (br (CS (Hk .i64) a a) (br (CS (Hk .i64) b b) (Up (B2 (Hk .i64) (Mk .i64) b) (B2 (Hk .i64) (Mk .i64) b) (B2 (Hk .i64) (Mk .i64) a) (B2 (Hk .i64) (Mk .i64) a) (κ (.int .i64 b)) (κ (.int .i64 a))) (.fail "")) (.fail "")) (.fail "")=_
  rw [AL.2 rfl, Ac, on, Ac, on, Ac]
  unfold Up
  obtain ⟨k1, k2⟩ := QT hb ha
  cases hl:DK .i64 b a with
  | true => rw [Aa.2 (k1.2 hl), Ac]; rfl
  | false =>
    have:¬ (B2 (Hk .i64) (Mk .i64) b+1≤B2 (Hk .i64) (Mk .i64) a) := fun h => by rw [k1.1 h] at hl; cases hl
    rw [AS (by show _<_; omega), Aq, Aa.2 (k2 hl), Ac]; rfl
theorem RE {a b:Nat} (ha:a<9223372036854775808) (hb:b<9223372036854775808):DK .i64 a b=decide (a<b) := PE ha hb
theorem Ls {a b:Nat} (ha:9223372036854775808≤a) (hb:b<9223372036854775808):DK .i64 a b=true := by
  unfold DK; rw [Aa.2 (show Hk .i64≤a from ha), AS (show b<Hk .i64 from hb)]; rfl
theorem Wi {a b:Nat} (ha:a<9223372036854775808) (hb:9223372036854775808≤b):DK .i64 a b=false := by
  unfold DK; rw [Aa.2 (show Hk .i64≤b from hb), AS (show a<Hk .i64 from ha)]; rfl
theorem Wd {a b:Nat} (ha:9223372036854775808≤a) (hb:9223372036854775808≤b):DK .i64 a b=decide (a<b) := by
  unfold DK; rw [Aa.2 (show Hk .i64≤a from ha), Aa.2 (show Hk .i64≤b from hb), Ac, Ac, CU]; exact decide_eq_decide.2 Nat.succ_le_iff
theorem ltu {k:IntKind} {a b:Nat} (hk:Hk k=Mk k) (ha:a<Mk k) (hb:b<Mk k):DK k a b=decide (a<b) := PE (by rw [hk]; exact ha) (by rw [hk]; exact hb)
theorem W5 {a b:Nat} (ha:a<18446744073709551616) (hb:b<18446744073709551616):DK .u64 a b=decide (a<b) := ltu rfl ha hb
theorem TO {a b:Nat} (h:b≤a) (ha:a<18446744073709551616):Oy .i64 a b=a - b := by
  unfold Oy
  show (a+(18446744073709551616 - b)) % 18446744073709551616=_
  omega
theorem PY:Oy .i64 0 1=18446744073709551615 := by decide
theorem Qk:Oy .i64 18446744073709551615 1=18446744073709551614 := by decide
end Go.Ev

namespace Go.Ev
set_option linter.unusedVariables false
/-- A text, bytes in memory, bytes of memory that stays. -/
def sb (l:List UInt8):V := .str l.length (Au l)
def cb (l:List UInt8):Cs := .b l.length (Au l)
def Acm (l:List UInt8):V := .oth (.rb l.length (Au l))
theorem Gm (l:List UInt8) (i m:Nat):lo (sh (Au l) i) m=Au ((l.drop i).take m) := by
  rw [E0, Fv, Io, IM]
theorem TS (l:List UInt8):lo (Au l) l.length=Au l := by
  rw [E0, IM, List.take_length]
theorem JS (a b:List UInt8):Au a+up (Au b) a.length=Au (a++b) := by
  rw [Qr, Hf]
theorem R9 {l:List UInt8} {i m:Nat} (h:i+m≤l.length):((l.drop i).take m).length=m := by
  rw [List.length_take, List.length_drop]; omega
theorem Gp {l:List UInt8} {i m:Nat} (h:i+m≤l.length) (κ:Cs->R):Bh (cb l) i m κ=κ (cb ((l.drop i).take m)) := by
  show br (Nat.ble (Nat.add i m) l.length) (Ab (lo (sh (Au l) i) m) fun r => κ (.b m r)) _=_
  rw [show Nat.ble (Nat.add i m) l.length=true from Aa.2 h, Ac, A9, Gm]
  unfold cb; rw [R9 h]
theorem Vf (a b:List UInt8) (κ:Cs->R):Sy (cb a) (cb b) κ=κ (cb (a++b)) := by
  show Ab (Nat.add a.length b.length) (fun l => Ab (Nat.add (lo (Au a) a.length) (up (Au b) a.length)) fun r => κ (.b l r))=_
  rw [A9, A9, TS]
  show κ (.b (a.length+b.length) (Au a+up (Au b) a.length))=_
  rw [JS]; unfold cb; rw [List.length_append]
theorem V0 {a b:List UInt8} {i:Nat} (h:i+b.length≤a.length) (κ:Cs->R):JB (cb a) i (cb b) κ=κ (cb (a.take i++(b++a.drop (i+b.length)))) := by
  show br (Nat.ble (Nat.add i b.length) a.length) (Ab (Nat.add (lo (Au a) i) (up (Nat.add (lo (Au b) b.length) (up (sh (Au a) (Nat.add i b.length)) b.length)) i)) fun r => κ (.b a.length r)) _=_
  rw [show Nat.ble (Nat.add i b.length) a.length=true from Aa.2 h, Ac, A9, TS]
  have e1:sh (Au a) (Nat.add i b.length)=Au (a.drop (i+b.length)) := by rw [Fv, Io]; rfl
  have e2:Nat.add (Au b) (up (sh (Au a) (Nat.add i b.length)) b.length)=Au (b++a.drop (i+b.length)) := by rw [e1]; exact JS _ _
  have e3:lo (Au a) i=Au (a.take i) := by rw [E0, IM]
  have e4:i=(a.take i).length := by rw [List.length_take]; omega
  rw [e2, e3]
  have e5:Nat.add (Au (a.take i)) (up (Au (b++a.drop (i+b.length))) i)=Au (a.take i++(b++a.drop (i+b.length))) := by
    have := JS (a.take i) (b++a.drop (i+b.length))
    rw [←e4] at this; exact this
  rw [e5]
  unfold cb
  have e6:(a.take i++(b++a.drop (i+b.length))).length=a.length := by simp only [List.length_append, List.length_take, List.length_drop]; omega
  rw [e6]
theorem Fe (l:List UInt8) (h:l.length<9223372036854775808) (κ:V->R):B0 (sb l) κ=κ (.int .i64 l.length) := by
  show br (Nat.ble (Nat.succ l.length) 9223372036854775808) (κ (.int .i64 l.length)) _=_
  rw [Aa.2 h, Ac]
theorem Eu {a b:List UInt8} (h:a.length+b.length≤1000000000) (κ:V->R):Ap (sb a) (sb b) κ=κ (sb (a++b)) := by
  have e0:Ap (sb a) (sb b) κ=Lf .add (sb a) (sb b) κ := Qo .add _ _ _
  rw [e0]
  show Ab (Nat.add a.length b.length) (fun l => br (Nat.ble l 1000000000) (Ab (Nat.add (Au a) (up (Au b) a.length)) fun r => κ (.str l r)) _)=_
  rw [A9, show Nat.ble (Nat.add a.length b.length) 1000000000=true from Aa.2 h, Ac, A9]
  show κ (.str (a.length+b.length) (Au a+up (Au b) a.length))=_
  rw [JS]; unfold sb; rw [List.length_append]
theorem O9 (a b:List UInt8):DE a.length (Au a) b.length (Au b)=decide (a=b) := by
  unfold DE
  rw [CQ, CQ]
  by_cases h:a=b
  · subst h; simp
  · rw [decide_eq_false h]
    by_cases hl:a.length=b.length
    · rw [decide_eq_true hl, Bool.true_and, decide_eq_false (fun he => h (IR hl he))]
    · rw [decide_eq_false hl]; rfl
theorem E5 {p:K4} {h:Heap} {l:List UInt8} {s:Bool} {pr:Option K4} {off len cap:Nat} {ex:Bool} (hp:A8 p h=some (.c (cb l) s pr)) (hl:off+len≤l.length) (κ:V->R):C4 (.sl p off len cap ex 1) h κ=κ (sb ((l.drop off).take len)) := by
  show br (Nat.beq 1 1) (Nm p h fun cs _ _ => Bh cs off len fun y => @Cs.rec (fun _ => R) (fun l => Ct l (fun m c => κ (.str m c)) (.fail "")) (fun m c => κ (.str m c)) y) (.fail "")=_
  rw [Nat.beq_refl, Ac, EF, H7 hp, Gp hl]; rfl
theorem Aa1 {p:K4} {h:Heap} {l:List UInt8} {s:Bool} {pr:Option K4} {off len cap:Nat} {ex:Bool} (hp:A8 p h=some (.c (cb l) s pr)) (hl:off+len≤l.length) (κ:Nat->Cs->R):J4 1 (.sl p off len cap ex 1) h κ=κ len (cb ((l.drop off).take len)) := by
  show br (Nat.beq 1 1) (Ht p h fun cs _ _ => Ab (Nat.mul len 1) fun m => Bh cs off m fun y => κ len y) (.fail "")=_
  rw [Nat.beq_refl, Ac, H7 hp, A9, show Nat.mul len 1=len from Nat.mul_one len, Gp hl]
theorem UE {m:Nat} (hm:0<m) (hm2:m≤1000000000000) {n:K4} (hn:n.toN<65535) (y:Cs) (h:Heap) (κ:KV):Dn 1 1 (.nil .sl) m y h n κ=κ (.sl n 0 m m false 1) (Af n h (some (.c y false none))) n.up := by
  show br (Nat.beq m 0) (κ (.nil .sl) h n) (br (Nat.ble (Nat.mul (Nat.add (Nat.mul 4 m) 4096) 1) 281474976710656) (ET h n (.c y false none) fun h' n' => κ (.sl n 0 m m false 1) h' n') (.fail ""))=_
  rw [CQ, decide_eq_false (by omega), Aq, show Nat.ble (Nat.mul (Nat.add (Nat.mul 4 m) 4096) 1) 281474976710656=true from Aa.2 (by show (4*m+4096)*1≤_; omega), Ac, EB hn]
theorem TN {x:V} (hx:x = .nil .sl ∨ ∃ p off len cap ex, x = .sl p off len cap ex 1) (y:Cs) (h:Heap) (n:K4) (κ:KV):Dn 1 1 x 0 y h n κ=κ x h n := by
  rcases hx with rfl | ⟨p, off, len, cap, ex, rfl⟩ <;> rfl
/-- Bytes of one's own, full: they grow, and lie anew. -/
theorem NK {p:K4} {h:Heap} {a b:List UInt8} {pr:Option K4} (hp:A8 p h=some (.c (cb a) false pr)) {ex:Bool} (hb:0<b.length) (hm2:a.length+b.length≤1000000000000) {n:K4} (hn:n.toN<65535) (κ:KV) :
    Dn 1 1 (.sl p 0 a.length a.length ex 1) b.length (cb b) h n κ=if ex then κ (.sl n 0 (a++b).length (a++b).length false 1) (Af n h (some (.c (cb (a++b)) false none))) n.up
      else κ (.sl n 0 (a++b).length (a++b).length false 1) (Af n (Af p (EL pr h) (some (.c (cb a) true none))) (some (.c (cb (a++b)) false (some p)))) n.up := by
  show br (Nat.beq 1 1) (br (Nat.beq b.length 0) (κ (.sl p 0 a.length a.length ex 1) h n) (Ab (Nat.add a.length b.length) fun need => br (Nat.ble need a.length) (Ab (Nat.add 0 (Nat.mul a.length 1)) fun j => FT h p j (cb b) fun h' => κ (.sl p 0 need a.length ex 1) h' n)
    (br (Nat.ble (Nat.mul (Nat.add (Nat.mul 4 need) 4096) 1) 281474976710656)
      (Nm p h fun cs sup prev => Ab (Nat.mul a.length 1) fun l => Bh cs 0 l fun x => Sy x (cb b) fun z =>
        br ex (ET h n (.c z false none) fun h' n' => κ (.sl n 0 need need false 1) h' n')
          (br sup (.fail "") (Ab (Nat.add 0 l) fun j => Bh cs 0 j fun old => Jm prev h fun h => FY p h (some (.c old true none)) fun h =>
            ET h n (.c z false (some p)) fun h' n' => κ (.sl n 0 need need false 1) h' n'))) (.fail "")))) (.fail "")=_
  have e1:∀ l:List UInt8, (l.drop 0).take l.length=l := fun l => by rw [List.drop_zero, List.take_length]
  have e3:Nat.ble (Nat.mul (Nat.add (Nat.mul 4 (Nat.add a.length b.length)) 4096) 1) 281474976710656=true := Aa.2 (by show (4*(a.length+b.length)+4096)*1≤_; omega)
  have e4:Nat.ble (Nat.add a.length b.length) a.length=false := AS (by show a.length<a.length+b.length; omega)
  rw [Nat.beq_refl, Ac, CQ, decide_eq_false (by omega), Aq, A9, e4, Aq, e3, Ac, EF, H7 hp, A9, show Nat.mul a.length 1=a.length from Nat.mul_one _, Gp (by omega), e1, Vf]
  have e2:Nat.add a.length b.length=(a++b).length := by rw [List.length_append]; rfl
  rw [e2]
  cases ex with
  | true => rw [Ac, EB hn]; rfl
  | false =>
    rw [Aq, Aq, A9, show Nat.add 0 a.length=a.length from Nat.zero_add _, Gp (by omega), e1, Gq, B6, EB hn]; rfl
end Go.Ev

namespace Go.Ev
set_option linter.unusedVariables false
theorem Vx (c:DZ) (en:List V->(S->R)->R) (bo:DZ->S->Heap->K4->R) (re:S->Heap->K4->R) (args:List V) (h:Heap) (n:K4):NO c (some (.code en bo re)) args h n=en args fun t => KJ (bo c t h n) re := id rfl
theorem XV (v:V) (l:List V) (k:V->List V->R):Nz (v::l) k=k v l := id rfl
theorem YF (k:R):T8 [] k=k := id rfl
theorem SO (t:S) (h:Heap) (n:K4) (res:S->Heap->K4->R):KJ (.ok .ret t h n) res=res t h n := id rfl
theorem TL (t:S) (h:Heap) (n:K4) (res:S->Heap->K4->R):KJ (.ok .nrm t h n) res=res t h n := id rfl
theorem U5 (b:Bool) (x y:R) (res:S->Heap->K4->R):KJ (bif b then x else y) res=bif b then KJ x res else KJ y res := by cases b <;> rfl
theorem Zh (t:S) (h:Heap) (n:K4):rT t h n = .ok .ret t h n := id rfl
theorem Yr (t:S) (h:Heap) (n:K4):nR t h n = .ok .nrm t h n := id rfl
theorem YR (r:Nat):iI r = .int .i64 r := id rfl
theorem Yd (v:V) (κ:V->R):AB (Ax v) κ=κ v := id rfl
end Go.Ev

namespace Go.Ev
set_option linter.unusedVariables false
def Va (o:Cx) (κ:List (V×V)->List Nat->Nat->R):R :=
  @Option.rec Ob (fun _ => R) (.fail "") (fun o => @Ob.rec (fun _ => R) (Cb "") κ (Fp "") (.fail "") (AG "") o) o
theorem Vr (es:List (V×V)) (bs:List Nat) (c:Nat) (κ:List (V×V)->List Nat->Nat->R):Va (some (.m es bs c)) κ=κ es bs c := id rfl
theorem KT (p:K4) (h:Heap) (κ:List (V×V)->List Nat->Nat->R):Oi p h κ=Va (A8 p h) κ := by unfold Oi; rw [CZ]; rfl
theorem Xy (p:K4) (a c:Nat) (w:V) (h:Heap) (κ:Heap->R):Xf (.sc .s) (.map p) (.str a c) w h κ=Va (A8 p h) fun es bs k => HL (.sc .s) (.str a c) w es fun es' => Vy es' bs k fun bs' k' => κ (Af p h (some (.m es' bs' k'))) := by
  show RB p h (fun es bs c' k => HL (.sc .s) (.str a c) w es fun es => Vy es bs c' fun bs c => k es bs c) κ=_
  rw [Nr, KT]
  simp only [B6]
theorem Yq (z:V) (p:K4) (a c:Nat) (h:Heap) (κ:V->R):WF (.sc .s) z false (.map p) (.str a c) h κ=Va (A8 p h) fun es _ _ => EK (.sc .s) (.str a c) es κ (κ z) := by
  show RZ p h (fun es _ _ => EK (.sc .s) (.str a c) es (fun r => κ r) (κ z))=_
  rw [GB, KT]
theorem VE (p:K4) (a c:Nat) (h:Heap) (κ:Heap->R):Sd (.sc .s) (.map p) (.str a c) h κ=Va (A8 p h) fun es bs k => HF (.sc .s) (.str a c) es fun es2 => HH (.sc .s) (.str a c) es bs fun bs' => κ (Af p h (some (.m es2 bs' k))) := by
  show RB p h (fun es bs c' k => HF (.sc .s) (.str a c) es fun es2 => HH (.sc .s) (.str a c) es bs fun bs => k es2 bs c') κ=_
  rw [Nr, KT]
  simp only [B6]
theorem X7 (es:List (V×V)) (κ:Nat->R):U6 es κ=κ es.length := by
  induction es generalizing κ with
  | nil => rfl
  | cons e es ih => exact (ih fun n => Ab (Nat.succ n) κ).trans (A9 _ _)
theorem D8 {m:Nat} (h:m<9223372036854775808) (κ:V->R):DX m κ=κ (.int .i64 m) := by
  show br (Nat.ble (Nat.succ m) 9223372036854775808) (κ (.int .i64 m)) (.fail "")=_
  rw [show Nat.ble (Nat.succ m) 9223372036854775808=true from Aa.2 h, Ac]
theorem Vs (p:K4) (h:Heap) (κ:V->R):TC (.map p) h κ=Va (A8 p h) fun es _ _ => DX es.length κ := by
  show RZ p h (fun es _ _ => U6 es fun m => DX m κ)=_
  rw [GB, KT]
  simp only [X7]
theorem LZ (k:V) (κf:V->R) (κn:R):EK (.sc .s) k [] κf κn=κn := id rfl
theorem M0 (a c m d:Nat) (w:V) (es:List (V×V)) (κf:V->R) (κn:R):EK (.sc .s) (.str a c) ((.str m d, w)::es) κf κn=bif DE a c m d then κf w else EK (.sc .s) (.str a c) es κf κn := by
  show Cn (DE a c m d) (fun r => br r (κf w) (EK (.sc .s) (.str a c) es κf κn))=_
  rw [Bu]; cases DE a c m d <;> rfl
theorem NN (k v:V) (κ:List (V×V)->R):HL (.sc .s) k v [] κ=κ [(k, v)] := id rfl
theorem NX (a c m d:Nat) (v w:V) (es:List (V×V)) (κ:List (V×V)->R):HL (.sc .s) (.str a c) v ((.str m d, w)::es) κ=bif DE a c m d then κ ((.str a c, v)::es) else HL (.sc .s) (.str a c) v es fun l => κ ((.str m d, w)::l) := by
  show Cn (DE a c m d) (fun r => br r (κ ((.str a c, v)::es)) (HL (.sc .s) (.str a c) v es fun l => κ ((.str m d, w)::l)))=_
  rw [Bu]; cases DE a c m d <;> rfl
theorem OC (k:V) (κ:List (V×V)->R):HF (.sc .s) k [] κ=κ [] := id rfl
theorem Og (a c m d:Nat) (w:V) (es:List (V×V)) (κ:List (V×V)->R):HF (.sc .s) (.str a c) ((.str m d, w)::es) κ=bif DE a c m d then κ es else HF (.sc .s) (.str a c) es fun l => κ ((.str m d, w)::l) := by
  show Cn (DE a c m d) (fun r => br r (κ es) (HF (.sc .s) (.str a c) es fun l => κ ((.str m d, w)::l)))=_
  rw [Bu]; cases DE a c m d <;> rfl
theorem Om (k:V) (bs:List Nat) (κ:List Nat->R):HH (.sc .s) k [] bs κ=κ bs := id rfl
theorem OQ (a c m d b:Nat) (w:V) (es:List (V×V)) (bs:List Nat) (κ:List Nat->R):HH (.sc .s) (.str a c) ((.str m d, w)::es) (b::bs) κ=bif DE a c m d then κ bs else HH (.sc .s) (.str a c) es bs fun l => κ (b::l) := by
  show Cn (DE a c m d) (fun r => br r (κ bs) (HH (.sc .s) (.str a c) es bs fun l => κ (b::l)))=_
  rw [Bu]; cases DE a c m d <;> rfl
theorem KQ (a c m d:Nat):DE a c m d=(decide (a=m)&&decide (c=d)) := by unfold DE; rw [CQ, CQ]
theorem O7:∀ (es:List (V×V)) (bs:List Nat), KM es bs=decide (es.length=bs.length)
  | [], [] => rfl
  | [], _::_ => rfl
  | _::_, [] => rfl
  | e::es, b::bs => by
    have := O7 es bs
    show KM es bs=_
    rw [this]; simp
theorem UG (bs:List Nat) (c:Nat) (κ:List Nat->R):Qz bs c κ=κ (bs++[c]) := by
  induction bs generalizing κ with
  | nil => rfl
  | cons b bs ih => exact ih fun l => κ (b::l)
theorem VX (es:List (V×V)) (bs:List Nat) (c:Nat) (κ:List Nat->Nat->R):Vy es bs c κ=bif decide (es.length=bs.length) then κ bs c else κ (bs++[c]) (c+1) := by
  unfold Vy
  rw [O7]
  cases decide (es.length=bs.length) with
  | true => rfl
  | false =>
    rw [Aq, UG, A9]; rfl
theorem Sk (x v:V) (xs:List V) (κ:List V->R):C8 0 (x::xs) v κ=κ (v::xs) := id rfl
theorem Sz (m:Nat) (x v:V) (xs:List V) (κ:List V->R):C8 (m+1) (x::xs) v κ=C8 m xs v fun zs => κ (x::zs) := id rfl
theorem U9 (o:Nat) (k:IntKind) (r:Nat) (z:List V) (κ:List V->R):Ag o (.int k r) z κ=C8 o z (.int k r) κ := id rfl
theorem QP (o:Nat) (b:Bool) (z:List V) (κ:List V->R):Ag o (.bool b) z κ=C8 o z (.bool b) κ := id rfl
theorem Tn (o:Nat) (p:K4) (r:Nat) (z:List V) (κ:List V->R):Ag o (.ptr p r) z κ=C8 o z (.ptr p r) κ := id rfl
theorem U2 (o:Nat) (p:K4) (z:List V) (κ:List V->R):Ag o (.map p) z κ=C8 o z (.map p) κ := id rfl
theorem SH (o:Nat) (a c:Nat) (z:List V) (κ:List V->R):Ag o (.str a c) z κ=C8 o z (.str a c) κ := id rfl
theorem SY (o:Nat) (w:Nl) (z:List V) (κ:List V->R):Ag o (.nil w) z κ=C8 o z (.nil w) κ := id rfl
theorem Wm (o:Nat) (q:K4) (a b c:Nat) (e:Bool) (x:Nat) (z:List V) (κ:List V->R):Ag o (.sl q a b c e x) z κ=C8 o z (.sl q a b c e x) κ := id rfl
def Lo (o:Cx) (m off:Nat) (κ:V->R):R := @Option.rec Ob (fun _ => R) (.fail "") (fun o => @Ob.rec (fun _ => R) (fun cs _ _ => Bh cs off m fun y => E4 y fun l => κ (.agg l)) (Cb "") (Fp "") (.fail "") (AG "") o) o
theorem Iq (m:Nat) (p:K4) (off:Nat) (h:Heap) (κ:V->R):FM m (.ptr p off) h κ=Lo (A8 p h) m off κ := by
  show Nm p h (fun cs _ _ => Bh cs off m fun y => E4 y fun l => κ (.agg l))=_
  rw [EF]; unfold Ht Lo; rw [CZ]
theorem Wv {xs:List V} {m off:Nat} (h:off+m≤xs.length) (s:Bool) (pr:Option K4) (κ:V->R):Lo (some (.c (.l xs) s pr)) m off κ=κ (.agg ((xs.drop off).take m)) := by
  show Du off xs (fun ys => D6 m ys fun zs => κ (.agg zs))=_
  rw [IQ (by omega), II (by rw [List.length_drop]; omega)]
theorem K4.nx16_all (p:K4) (h:p.toN<65520):∃ q:K4, q.toN=(p.toN / 16+1)*16∧q.d = .d0 ∧ ∀ k:K4->R, p.nx16 k=k q := by
  obtain ⟨a, b, c, d⟩ := p
  simp only [K4.toN] at h
  have hd0:D.d0.toN=0 := rfl
  have ha := a.toN_lt; have hb := b.toN_lt; have hc := c.toN_lt; have hd := d.toN_lt
  rcases c.nx_all with ⟨c1, c2⟩ | ⟨e, c1, c2⟩
  · rcases b.nx_all with ⟨b1, b2⟩ | ⟨e, b1, b2⟩
    · rcases a.nx_all with ⟨a1, a2⟩ | ⟨e, a1, a2⟩
      · omega
      · exact ⟨⟨e, .d0, .d0, .d0⟩, by simp only [K4.toN, hd0]; omega, rfl, fun k => by show c.nx _ (b.nx _ (a.nx _ _))=_; rw [c2, b2, a2]⟩
    · exact ⟨⟨a, e, .d0, .d0⟩, by simp only [K4.toN, hd0]; omega, rfl, fun k => by show c.nx _ (b.nx _ _)=_; rw [c2, b2]⟩
  · exact ⟨⟨a, b, e, .d0⟩, by simp only [K4.toN, hd0]; omega, rfl, fun k => by show c.nx _ _=_; rw [c2]⟩
open Classical in
def K4.up16 (p:K4):K4 := if h:p.toN<65520 then Classical.choose (p.nx16_all h) else p
theorem K4.up16_toN {p:K4} (h:p.toN<65520):p.up16.toN=(p.toN / 16+1)*16 := by
  unfold K4.up16; rw [dif_pos h]; exact (Classical.choose_spec (p.nx16_all h)).1
theorem K4.nx16_up {p:K4} (h:p.toN<65520) (k:K4->R):p.nx16 k=k p.up16 := by
  unfold K4.up16; rw [dif_pos h]; exact (Classical.choose_spec (p.nx16_all h)).2.2 k
def K4.pl (p:K4) (j:D):K4 := ⟨p.a, p.b, p.c, j⟩
theorem K4.pl_toN {p:K4} (h:p.toN<65520) (j:D):(p.up16.pl j).toN=(p.toN / 16+1)*16+j.toN := by
  have h1 := K4.up16_toN h
  have h2:p.up16.d = .d0 := by unfold K4.up16; rw [dif_pos h]; exact (Classical.choose_spec (p.nx16_all h)).2.1
  rw [←h1]
  unfold K4.pl
  simp only [K4.toN, h2]
  show _=_+(D.d0.toN)+_
  rw [show D.d0.toN=0 from rfl, Nat.add_zero]
theorem Sn {n:K4} (h:n.toN<65000) (κ:K4->K4->R):M8 n κ=κ n.up16 n.up16.up16 := by
  show n.nx16 (fun b => b.nx16 fun n => κ b n)=_
  have := K4.up16_toN (p := n) (by omega)
  rw [K4.nx16_up (by omega), K4.nx16_up (by omega)]
/-- What is asked of a place that is to be free. -/
def ZZ (o:Cx) (κ:R):R := Gh o κ
theorem Oo (κ:R):ZZ none κ=κ := id rfl
theorem Yg (b:K4) (j:D) (h:Heap) (κ:R):UI b j h κ=ZZ (A8 (b.pl j) h) κ := by
  show b.at j (fun r => Bt r h fun x => Gh x κ)=_
  rw [K4.at_eq, Bm]; rfl
theorem Zc (b:K4) (j:D) (h:Heap) (F:K4->R) (κ:V->Heap->R):Yi b j h F κ=ZZ (A8 (b.pl j) h) (HN (F (b.pl j)) fun v h _ => κ v h) := by
  show b.at j (fun r => Bt r h fun x => Gh x (HN (F r) fun v h _ => κ v h))=_
  rw [K4.at_eq, Bm]; rfl
theorem GA {p q:K4} (h:q.toN<p.toN) (hp:Heap) (o:Option Ob):A8 q (Af p hp o)=A8 q hp := A7 _ _ fun e => by subst e; omega
theorem Gu {p q:K4} (h:p.toN<q.toN) (hp:Heap) (o:Option Ob):A8 q (Af p hp o)=A8 q hp := A7 _ _ fun e => by subst e; omega
theorem Qh (v:V) (h:Heap) (n:K4) (κ:KV):EI (.rv v h n) κ=κ v h n := id rfl
theorem VC (p:K4) {h:Heap} {n:K4} (hn:n.toN<65535) (κ:KV):UC (.map p) h n κ=Va (A8 p h) fun _ _ c => κ (.ptr n 0) (Af n h (some (.it p c [] c))) n.up := by
  show RZ p h (fun _ _ c => ET h n (.it p c [] c) fun h' n' => κ (.ptr n 0) h' n')=_
  rw [GB, KT]
  simp only [EB hn]
def Zw (o:Cx) (κ0:R) (κ:K4->Nat->List Nat->Nat->R):R := @Option.rec Ob (fun _ => R) (.fail "") (fun o => @Ob.rec (fun _ => R) (Cb "") (Cb "") κ κ0 (AG "") o) o
theorem Ty (p:K4) (a:Nat) (l:List Nat) (c:Nat) (κ0:R) (κ:K4->Nat->List Nat->Nat->R):Zw (some (.it p a l c)) κ0 κ=κ p a l c := id rfl
theorem W4 (q:K4) (h:Heap) (κ0:R) (κ:K4->Nat->List Nat->Nat->R):Uz q h κ0 κ=Zw (A8 q h) κ0 κ := Bm _ _ _
theorem Wk (q:K4) (h:Heap) (n:K4) (κ:KV):Ur (.ptr q 0) h n κ=Zw (A8 q h) (κ (.tup [.bool false]) h n) fun p since seen c => Va (A8 p h) fun es bs clk => br (HP since bs) (br (Nat.ble since c)
    (Gv seen (NG q p since seen clk h n κ) es bs (κ (.tup [.bool false]) h n)) (.fail "")) (.fail "") := by
  show br (Nat.beq 0 0) (Uz q h (κ (.tup [.bool false]) h n) fun p since seen c => RZ p h fun es bs clk => br (HP since bs) (br (Nat.ble since c) (Gv seen (NG q p since seen clk h n κ) es bs (κ (.tup [.bool false]) h n)) (.fail "")) (.fail "")) (.fail "")=_
  rw [Nat.beq_refl, Ac, W4, GB]
  simp only [KT]
theorem K9 (seen:List Nat) (leaf:V×V->Nat->R) (bs:List Nat) (none:R):Gv seen leaf [] bs none=none := id rfl
theorem Ju (seen:List Nat) (leaf:V×V->Nat->R) (e:V×V) (es:List (V×V)) (b:Nat) (bs:List Nat) (none:R):Gv seen leaf (e::es) (b::bs) none=br (Ga b seen) (Gv seen leaf es bs none) (FN seen leaf es bs (leaf e b)) := id rfl
theorem KC (seen:List Nat) (leaf:V×V->Nat->R) (bs:List Nat) (acc:R):FN seen leaf [] bs acc=acc := id rfl
theorem OB (b:Nat):Ga b []=false := id rfl
theorem LK (b x:Nat) (l:List Nat):Ga b (x::l)=(decide (x=b) || Ga b l) := by
  show br (Nat.beq x b) true (Ga b l)=_
  rw [CQ]; cases decide (x=b) <;> rfl
theorem M1 (s:Nat):HP s []=true := id rfl
theorem KB (s b:Nat) (bs:List Nat):HP s (b::bs)=(decide (b<s)&&HP s bs) := by
  show br (Nat.ble (Nat.succ b) s) (HP s bs) false=_
  rw [CU]
  cases h:decide (Nat.succ b≤s) with
  | true => rw [decide_eq_true (show b<s from of_decide_eq_true h)]; rfl
  | false => rw [decide_eq_false (show ¬ b<s from of_decide_eq_false h)]; rfl
theorem Qe (q p:K4) (since:Nat) (seen:List Nat) (clk:Nat) (h:Heap) (n:K4) (κ:KV) (k x:V) (b:Nat):NG q p since seen clk h n κ (k, x) b=κ (.tup [.bool true, k, x]) (Af q h (some (.it p since (b::seen) clk))) n := by
  show BW q h (some (.it p since (b::seen) clk)) (fun h' => κ (.tup [.bool true, k, x]) h' n)=_
  rw [BZ, B6]
theorem UN (b:Bool) (x y:R):br b x y=bif b then x else y := by cases b <;> rfl
theorem U0 (q:K4) (h:Heap) (n:K4) (κ:KV):QL (.ptr q 0) h n κ=Zw (A8 q h) (.fail "") fun p since seen c => Va (A8 p h) fun es bs clk => bif decide (clk=c) then (@List.rec Nat (fun _ => R) (.fail "") (fun s _ _ => G1 s es bs fun k x => κ (.tup [k, x]) h n) seen) else .fail "" := by
  show br (Nat.beq 0 0) (Uz q h (.fail "") fun p since seen c => RZ p h fun es bs clk => br (Nat.beq clk c) (@List.rec Nat (fun _ => R) (.fail "") (fun s _ _ => G1 s es bs fun k x => κ (.tup [k, x]) h n) seen) (.fail "")) (.fail "")=_
  rw [Nat.beq_refl, Ac, W4, GB]
  simp only [KT, CQ, UN]
theorem Kd (s:Nat) (k x:V) (es:List (V×V)) (b:Nat) (bs:List Nat) (κ:V->V->R):G1 s ((k, x)::es) (b::bs) κ=bif decide (b=s) then κ k x else G1 s es bs κ := by
  show br (Nat.beq b s) (κ k x) (G1 s es bs κ)=_
  rw [CQ, UN]
theorem Tp (x:V) (l:List V) (κ:V->R):AU 0 (.tup (x::l)) κ=κ x := id rfl
theorem SK (x y:V) (l:List V) (κ:V->R):AU 1 (.tup (x::y::l)) κ=κ y := id rfl
theorem Tb (x y z:V) (l:List V) (κ:V->R):AU 2 (.tup (x::y::z::l)) κ=κ z := id rfl
def lpO (o:Cx) (κ:Nat->K4->R):R := @Option.rec Ob (fun _ => R) (.fail "") (fun o => @Ob.rec (fun _ => R) (Cb "") (Cb "") (Fp "") (.fail "") (fun f box => κ f box) o) o
theorem TG (f:Nat) (b:K4) (κ:Nat->K4->R):lpO (some (.lp f b)) κ=κ f b := id rfl
theorem Vz (c:DZ) (p:K4) (x:V) (h:Heap) (n:K4) (κ:KV):UD c (.oth (.yl p)) [x] h n κ=lpO (A8 p h) fun f box => EI (c (Bz f) [.oth .no, .ptr box 0, x] (Af p h none) n) fun v h n => κ v (Af p h (some (.lp f box))) n := by
  show Bt p h (fun o => @Option.rec Ob (fun _ => R) (.fail "") (fun o => @Ob.rec (fun _ => R) (Cb "") (Cb "") (Fp "") (.fail "")
    (fun f box => BW p h none fun h => EI (c (Bz f) [.oth .no, .ptr box 0, x] h n) fun v h n => BW p h (some (.lp f box)) fun h => κ v h n) o) o)=_
  rw [Bm]
  unfold lpO
  simp only [BZ, B6]
theorem YN (c:DZ) (f:Nat) (its:List Nat) (rd:Rd) (b x:V) (h:Heap) (n:K4):NO c (some (.ap f its rd)) [.oth .no, b, x] h n=rd c b x h n := id rfl
def Ry (o:Cx) (off m:Nat) (κ:Cs->R):R := @Option.rec Ob (fun _ => R) (.fail "") (fun o => @Ob.rec (fun _ => R) (fun cs _ _ => Bh cs off m κ) (Cb "") (Fp "") (.fail "") (AG "") o) o
theorem VF (z eb:Nat) (u:V) (p:K4) (off len cap:Nat) (ex:Bool) (h:Heap) (n:K4) (κ:KV):HR z eb u (.sl p off len cap ex z) h n κ=Ry (A8 p h) off (len*z) fun y => Dn z eb u len y h n κ := by
  show br (Nat.beq z z) (Ht p h fun cs _ _ => Ab (Nat.mul len z) fun m => Bh cs off m fun y => Dn z eb u len y h n κ) (.fail "")=_
  rw [Nat.beq_refl, Ac]
  unfold Ht Ry
  rw [CZ]
  simp only [A9]; rfl
theorem Ps {z eb m:Nat} (hm:0<m) (hs:(4*m+4096)*eb≤281474976710656) {n:K4} (hn:n.toN<65535) (y:Cs) (h:Heap) (κ:KV):Dn z eb (.nil .sl) m y h n κ=κ (.sl n 0 m m false z) (Af n h (some (.c y false none))) n.up := by
  show br (Nat.beq m 0) (κ (.nil .sl) h n) (br (Nat.ble (Nat.mul (Nat.add (Nat.mul 4 m) 4096) eb) 281474976710656) (ET h n (.c y false none) fun h' n' => κ (.sl n 0 m m false z) h' n') (.fail ""))=_
  rw [CQ, decide_eq_false (by omega), Aq, show Nat.ble (Nat.mul (Nat.add (Nat.mul 4 m) 4096) eb) 281474976710656=true from Aa.2 hs, Ac, EB hn]
theorem Vu (z:Nat) {p:K4} {off len cap:Nat} {ex:Bool} {k:IntKind} {a:Nat} (ha:a<Hk k) (hl:a<len) (κ:V->R):Bl z (.sl p off len cap ex z) (.int k a) κ=κ (.ptr p (off+a*z)) := by
  show br (Nat.ble (Nat.succ a) (Hk k)) (br (Nat.beq z z) (br (Nat.ble (Nat.succ a) len) (Ab (Nat.add off (Nat.mul a z)) fun o => κ (.ptr p o)) (.fail "")) (.fail "")) (.fail "")=_
  rw [show Nat.ble (Nat.succ a) (Hk k)=true from Aa.2 ha, Ac, Nat.beq_refl, Ac, show Nat.ble (Nat.succ a) len=true from Aa.2 hl, Ac, A9]; rfl
theorem VB {z:Nat} {p:K4} {off len cap:Nat} {ex:Bool} {a:Nat} (ha:a<9223372036854775808) (hl:a<len) (κ:V->R):Bl z (.sl p off len cap ex z) (.int .i64 a) κ=κ (.ptr p (off+a*z)) := Vu z (k := .i64) ha hl κ
theorem Ug {n:K4} (hn:n.toN<65535) (p:K4) (h:Heap) (κ:KV):GN (.map p) h n κ=κ (.ptr n 0) (Af n h (some (.c (.l [.map p]) false none))) n.up := EB hn _ _ _
theorem YY:Hk .i64=9223372036854775808 := rfl
theorem VJ {p:K4} {off len cap:Nat} {ex:Bool} {z:Nat} (h:len<9223372036854775808) (κ:V->R):B3 (.sl p off len cap ex z) κ=κ (.int .i64 len) := D8 h κ
theorem Ua (κ:V->R):B3 (.nil .sl) κ=κ (.int .i64 0) := id rfl
theorem TE {n c:Nat} (h:n<9223372036854775808) (κ:V->R):B3 (.oth (.rb n c)) κ=κ (.int .i64 n) := D8 h κ
theorem S2 {l:List RV} {m z:Nat} (h:m<9223372036854775808) (κ:V->R):B3 (.oth (.rx l m z)) κ=κ (.int .i64 m) := D8 h κ
/-- Nothing stands where nothing was Lr. -/
def Bc (h:Heap) (n:K4):Prop := ∀ q:K4, n.toN≤q.toN->A8 q h=none
theorem SG (a b c:V) (s:Bool) (pr:Option K4) (κ:V->R):Lo (some (.c (.l [a, b, c]) s pr)) 3 0 κ=κ (.agg [a, b, c]) := id rfl
theorem TM (a b c:V) (s:Bool) (pr:Option K4) (κ:Cs->R):Ry (some (.c (.l [a, b, c]) s pr)) 0 3 κ=κ (.l [a, b, c]) := id rfl
theorem Ts (a:V) (s:Bool) (pr:Option K4) (κ:Cs->R):Ry (some (.c (.l [a]) s pr)) 0 1 κ=κ (.l [a]) := id rfl
theorem PZ (a b c x y z:V) (κ:List V->R):FQ 0 3 (.agg [a, b, c]) [x, y, z] κ=κ [a, b, c] := id rfl
theorem Cu (body:S->Heap->K4->R) (t:S) (h:Heap) (n:K4):Bd body t h n=NA (body t h n) (Jy body 999999999) := id rfl
theorem Cg (body:S->Heap->K4->R) (m:Nat) (t:S) (h:Heap) (n:K4):Jy body (m+1) t h n=NA (body t h n) (Jy body m) := id rfl
theorem EC (t:S) (h:Heap) (n:K4) (κ:S->Heap->K4->R):NA (.ok .nrm t h n) κ=κ t h n := id rfl
theorem K8 (i:Nat) (t:S) (h:Heap) (n:K4) (κ:S->Heap->K4->R):NA (.ok (.exit i) t h n) κ = .ok (.exit i) t h n := id rfl
theorem Qs (t:S) (h:Heap) (n:K4) (κ:S->Heap->K4->R):NA (.ok .ret t h n) κ = .ok .ret t h n := id rfl
theorem W6 (b:Bool) (x y:R) (κ:S->Heap->K4->R):NA (bif b then x else y) κ=bif b then NA x κ else NA y κ := by cases b <;> rfl
theorem Qi (p:K4) (h:Heap) (i:Nat) (κ:V->R):Nm p h (fun cs _ _ => Ge cs i κ)=Lj (A8 p h) i κ := Xp p i h κ
theorem OM (p:K4) (h:Heap) (κ:R):Bt p h (fun o => WX o κ)=WX (A8 p h) κ := Bm _ _ _
theorem TT (f:Nat) (b:K4) (κ:R):WX (some (.lp f b)) κ=κ := id rfl
theorem Qv (p:K4) (h:Heap) (o:Cx) (κ:Heap->R):BW p h o κ=κ (Af p h o) := by rw [BZ, B6]
/-- All that a text is told by. -/
theorem qa:type_of% (And.intro (And.intro (And.intro (And.intro (And.intro (And.intro (And.intro @Vx @XV) (And.intro @YF (And.intro @SO @TL))) (And.intro (And.intro @U5 (And.intro @Zh @Yr)) (And.intro @YR (And.intro @Yd @Wo)))) (And.intro (And.intro (And.intro @W3 (And.intro @VQ @VO)) (And.intro @Wn (And.intro @VV @VN))) (And.intro (And.intro @VR (And.intro @Vw @Sm)) (And.intro @QW (And.intro @Yt @Ub))))) (And.intro (And.intro (And.intro (And.intro @Wg (And.intro @VW @Vp)) (And.intro @Wl (And.intro @W7 @SE))) (And.intro (And.intro @Qy (And.intro @QX @PU)) (And.intro @OT (And.intro @Oe @NV)))) (And.intro (And.intro (And.intro @Qa (And.intro @Ox @TW)) (And.intro @Tt (And.intro @Xp @Uc))) (And.intro (And.intro @S0 (And.intro @SW @W8)) (And.intro @QA (And.intro @Tz @QF)))))) (And.intro (And.intro (And.intro (And.intro (And.intro @Tw (And.intro @Uh @SB)) (And.intro @VD (And.intro @Tu @NE))) (And.intro (And.intro @Td (And.intro @TF @S5)) (And.intro @U7 (And.intro @A6 @LA)))) (And.intro (And.intro (And.intro @CU (And.intro @RE @Ls)) (And.intro @Wi (And.intro @Wd @W5))) (And.intro (And.intro @TO (And.intro @PY @Qk)) (And.intro @Xy (And.intro @Vr @Yq))))) (And.intro (And.intro (And.intro (And.intro @VE (And.intro @Vs @D8)) (And.intro @LZ (And.intro @M0 @NN))) (And.intro (And.intro @NX (And.intro @OC @Og)) (And.intro @Om (And.intro @OQ @KQ)))) (And.intro (And.intro (And.intro @VX (And.intro @Sk @Sz)) (And.intro @U9 (And.intro @QP @Tn))) (And.intro (And.intro @U2 (And.intro @SH @SY)) (And.intro @Wm (And.intro @Iq @Sn))))))) (And.intro (And.intro (And.intro (And.intro (And.intro (And.intro @Yg @Zc) (And.intro @Oo (And.intro @GA @Gu))) (And.intro (And.intro @Qh (And.intro @VC @Wk)) (And.intro @Ty (And.intro @K9 @Ju)))) (And.intro (And.intro (And.intro @KC (And.intro @OB @LK)) (And.intro @M1 (And.intro @KB @Qe))) (And.intro (And.intro @UN (And.intro @U0 @Kd)) (And.intro @Tp (And.intro @SK @Tb))))) (And.intro (And.intro (And.intro (And.intro @TG (And.intro @Vz @YN)) (And.intro @EB (And.intro @Q4 @PQ))) (And.intro (And.intro @W9 (And.intro @N6 @Ui)) (And.intro @QS (And.intro @Sf @Ta)))) (And.intro (And.intro (And.intro @Vt (And.intro @Y0 @VA)) (And.intro @VF (And.intro @Ps @VB))) (And.intro (And.intro @Ug (And.intro @YY @VJ)) (And.intro @Ua (And.intro @TE @S2)))))) (And.intro (And.intro (And.intro (And.intro (And.intro @SG (And.intro @TM @Ts)) (And.intro @PZ (And.intro @EC @K8))) (And.intro (And.intro @Qs (And.intro @W6 @Qi)) (And.intro @OM (And.intro @TT @Qv)))) (And.intro (And.intro (And.intro @cond_true.{1} (And.intro @cond_false.{1} @List.set_cons_zero.{0})) (And.intro @List.set_cons_succ.{0} (And.intro @List.length_cons.{0} @List.length_nil.{0}))) (And.intro (And.intro @decide_true (And.intro @decide_false @Nat.zero_add)) (And.intro @beq_self_eq_true.{0} (And.intro @Bool.not_true @Bool.not_false))))) (And.intro (And.intro (And.intro (And.intro @bne_self_eq_false.{0} (And.intro @Nat.mod_eq_of_lt @decide_eq_true)) (And.intro @decide_eq_false (And.intro @List.nil_append.{0} @List.cons_append.{0}))) (And.intro (And.intro @List.take_zero.{0} (And.intro @List.drop_zero.{0} @List.drop_succ_cons.{0})) (And.intro @List.take_succ_cons.{0} (And.intro @List.drop_nil.{0} @List.append_nil.{0})))) (And.intro (And.intro (And.intro @Bool.and_true (And.intro @Bool.true_and @Bool.and_false)) (And.intro @Bool.false_and (And.intro @Bool.or_true @Bool.true_or))) (And.intro (And.intro @Bool.or_false (And.intro @Bool.false_or @Nat.one_mul)) (And.intro @Nat.mul_one (And.intro @not_true_eq_false @not_false_eq_true)))))))) := And.intro (And.intro (And.intro (And.intro (And.intro (And.intro (And.intro @Vx @XV) (And.intro @YF (And.intro @SO @TL))) (And.intro (And.intro @U5 (And.intro @Zh @Yr)) (And.intro @YR (And.intro @Yd @Wo)))) (And.intro (And.intro (And.intro @W3 (And.intro @VQ @VO)) (And.intro @Wn (And.intro @VV @VN))) (And.intro (And.intro @VR (And.intro @Vw @Sm)) (And.intro @QW (And.intro @Yt @Ub))))) (And.intro (And.intro (And.intro (And.intro @Wg (And.intro @VW @Vp)) (And.intro @Wl (And.intro @W7 @SE))) (And.intro (And.intro @Qy (And.intro @QX @PU)) (And.intro @OT (And.intro @Oe @NV)))) (And.intro (And.intro (And.intro @Qa (And.intro @Ox @TW)) (And.intro @Tt (And.intro @Xp @Uc))) (And.intro (And.intro @S0 (And.intro @SW @W8)) (And.intro @QA (And.intro @Tz @QF)))))) (And.intro (And.intro (And.intro (And.intro (And.intro @Tw (And.intro @Uh @SB)) (And.intro @VD (And.intro @Tu @NE))) (And.intro (And.intro @Td (And.intro @TF @S5)) (And.intro @U7 (And.intro @A6 @LA)))) (And.intro (And.intro (And.intro @CU (And.intro @RE @Ls)) (And.intro @Wi (And.intro @Wd @W5))) (And.intro (And.intro @TO (And.intro @PY @Qk)) (And.intro @Xy (And.intro @Vr @Yq))))) (And.intro (And.intro (And.intro (And.intro @VE (And.intro @Vs @D8)) (And.intro @LZ (And.intro @M0 @NN))) (And.intro (And.intro @NX (And.intro @OC @Og)) (And.intro @Om (And.intro @OQ @KQ)))) (And.intro (And.intro (And.intro @VX (And.intro @Sk @Sz)) (And.intro @U9 (And.intro @QP @Tn))) (And.intro (And.intro @U2 (And.intro @SH @SY)) (And.intro @Wm (And.intro @Iq @Sn))))))) (And.intro (And.intro (And.intro (And.intro (And.intro (And.intro @Yg @Zc) (And.intro @Oo (And.intro @GA @Gu))) (And.intro (And.intro @Qh (And.intro @VC @Wk)) (And.intro @Ty (And.intro @K9 @Ju)))) (And.intro (And.intro (And.intro @KC (And.intro @OB @LK)) (And.intro @M1 (And.intro @KB @Qe))) (And.intro (And.intro @UN (And.intro @U0 @Kd)) (And.intro @Tp (And.intro @SK @Tb))))) (And.intro (And.intro (And.intro (And.intro @TG (And.intro @Vz @YN)) (And.intro @EB (And.intro @Q4 @PQ))) (And.intro (And.intro @W9 (And.intro @N6 @Ui)) (And.intro @QS (And.intro @Sf @Ta)))) (And.intro (And.intro (And.intro @Vt (And.intro @Y0 @VA)) (And.intro @VF (And.intro @Ps @VB))) (And.intro (And.intro @Ug (And.intro @YY @VJ)) (And.intro @Ua (And.intro @TE @S2)))))) (And.intro (And.intro (And.intro (And.intro (And.intro @SG (And.intro @TM @Ts)) (And.intro @PZ (And.intro @EC @K8))) (And.intro (And.intro @Qs (And.intro @W6 @Qi)) (And.intro @OM (And.intro @TT @Qv)))) (And.intro (And.intro (And.intro @cond_true.{1} (And.intro @cond_false.{1} @List.set_cons_zero.{0})) (And.intro @List.set_cons_succ.{0} (And.intro @List.length_cons.{0} @List.length_nil.{0}))) (And.intro (And.intro @decide_true (And.intro @decide_false @Nat.zero_add)) (And.intro @beq_self_eq_true.{0} (And.intro @Bool.not_true @Bool.not_false))))) (And.intro (And.intro (And.intro (And.intro @bne_self_eq_false.{0} (And.intro @Nat.mod_eq_of_lt @decide_eq_true)) (And.intro @decide_eq_false (And.intro @List.nil_append.{0} @List.cons_append.{0}))) (And.intro (And.intro @List.take_zero.{0} (And.intro @List.drop_zero.{0} @List.drop_succ_cons.{0})) (And.intro @List.take_succ_cons.{0} (And.intro @List.drop_nil.{0} @List.append_nil.{0})))) (And.intro (And.intro (And.intro @Bool.and_true (And.intro @Bool.true_and @Bool.and_false)) (And.intro @Bool.false_and (And.intro @Bool.or_true @Bool.true_or))) (And.intro (And.intro @Bool.or_false (And.intro @Bool.false_or @Nat.one_mul)) (And.intro @Nat.mul_one (And.intro @not_true_eq_false @not_false_eq_true)))))))
end Go.Ev

namespace Go.Ev
set_option linter.unusedVariables false
theorem K4.beq_self (p:K4):p.beq p=true := K4.beq_iff.2 rfl
theorem Wu (w:Nl) (κ:R):BE (.nil w) (.nil w) κ=κ := by cases w <;> rfl
theorem Ws (p:K4) (a b c:Nat) (e:Bool) (z:Nat) (κ:R):BE (.sl p a b c e z) (.sl p a b c e z) κ=κ := by
  show br (K4.beq p p) (br (and (Nat.beq a a) (and (Nat.beq b b) (and (Nat.beq c c) (and (Bool.rec (Bool.rec true false e) e e) (Nat.beq z z))))) κ _) _=_
  rw [K4.beq_self]; simp only [Nat.beq_refl]; cases e <;> rfl
def IK (es:List (V×V)):Prop := ∀ e∈es, ∃ r w, e=(.int .i64 r, w)
theorem IK.nil:IK [] := fun e h => by cases h
def WM (p:K4) (h:Heap) (c:V) (l:List UInt8):Prop := (c = .nil .sl∧l=[]) ∨ ∃ ex, c = .sl p 0 l.length l.length ex 1∧A8 p h=some (.c (cb l) false none)
theorem WM.frame {p:K4} {h h':Heap} {c:V} {l:List UInt8} (H:WM p h c l) (e:A8 p h'=A8 p h):WM p h' c l := by
  rcases H with H | ⟨ex, h1, h2⟩
  · exact .inl H
  · exact .inr ⟨ex, h1, e.trans h2⟩
theorem WM.len {p:K4} {h:Heap} {c:V} {l:List UInt8} (H:WM p h c l) (hl:l.length<9223372036854775808) (κ:V->R):B3 c κ=κ (.int .i64 l.length) := by
  rcases H with ⟨rfl, rfl⟩ | ⟨ex, rfl, h2⟩
  · rfl
  · exact D8 hl κ
/-- Bytes that are copied from. -/
def JF (v:V) (l:List UInt8) (h:Heap):Prop := v=Acm l∨(v = .nil .sl∧l=[]) ∨ ∃ p off cap ex L s pr, v = .sl p off l.length cap ex 1∧A8 p h=some (.c (cb L) s pr)∧off+l.length≤L.length∧(L.drop off).take l.length=l
theorem JF.len {v:V} {l:List UInt8} {h:Heap} (H:JF v l h) (hl:l.length<9223372036854775808) (κ:V->R):B3 v κ=κ (.int .i64 l.length) := by
  rcases H with rfl | ⟨rfl, rfl⟩ | ⟨p, off, cap, ex, L, s, pr, rfl, h1, h2, h3⟩
  · exact D8 hl κ
  · rfl
  · exact D8 hl κ
theorem JF.src {v:V} {l:List UInt8} {h:Heap} (H:JF v l h):∃ y, (∀ κ:Nat->Cs->R, J4 1 v h κ=κ l.length y)∧(0<l.length->y=cb l) := by
  rcases H with rfl | ⟨rfl, rfl⟩ | ⟨p, off, cap, ex, L, s, pr, rfl, h1, h2, h3⟩
  · exact ⟨cb l, fun κ => rfl, fun _ => rfl⟩
  · exact ⟨.l [], fun κ => rfl, fun h => by cases h⟩
  · refine ⟨cb l, fun κ => ?_, fun _ => rfl⟩
    rw [Aa1 h1 h2, h3]
theorem JF.frame {v:V} {l:List UInt8} {h h':Heap} (H:JF v l h) (e:∀ p:K4, (∃ off cap ex, v = .sl p off l.length cap ex 1)->A8 p h'=A8 p h):JF v l h' := by
  rcases H with H | H | ⟨p, off, cap, ex, L, s, pr, rfl, h1, h2, h3⟩
  · exact .inl H
  · exact .inr (.inl H)
  · exact .inr (.inr ⟨p, off, cap, ex, L, s, pr, rfl, (e p ⟨off, cap, ex, rfl⟩).trans h1, h2, h3⟩)
theorem WM.same {p:K4} {h:Heap} {c:V} {l:List UInt8} (H:WM p h c l) (κ:R):BE c c κ=κ := by
  rcases H with ⟨rfl, rfl⟩ | ⟨ex, rfl, h2⟩
  · exact Wu _ _
  · exact Ws _ _ _ _ _ _ _
theorem AO:(false == true)=false := id rfl
theorem AQ:(true == true)=true := id rfl
theorem ST {p:K4} {o len cap a:Nat} {ex:Bool} (ha:a≤len) (hl:len≤cap) (ha2:a<9223372036854775808) (κ:V->R):Cw 1 (.sl p o len cap ex 1) (some (.int .i64 a)) none κ=κ (.sl p (o+a) (len - a) (cap - a) ex 1) := by
  show br (Nat.ble (Nat.succ a) 9223372036854775808) (br (Nat.beq 1 1) (br (Nat.ble a len) (br (Nat.ble len cap) (Ab (Nat.sub len a) fun l => Ab (Nat.sub cap a) fun c => Ab (Nat.add o (Nat.mul a 1)) fun o => κ (.sl p o l c ex 1)) (.fail "")) (.fail "")) (.fail "")) (.fail "")=_
  rw [show Nat.ble (Nat.succ a) 9223372036854775808=true from Aa.2 (by omega), Ac, Nat.beq_refl, Ac, Aa.2 ha, Ac, Aa.2 hl, Ac, A9, A9, A9, show Nat.mul a 1=a from Nat.mul_one a]; rfl
theorem Hy {p:K4} {o len cap a b:Nat} {ex:Bool} (ha:a≤b) (hl:b≤cap) (ha2:b<9223372036854775808) (κ:V->R):Cw 1 (.sl p o len cap ex 1) (some (.int .i64 a)) (some (.int .i64 b)) κ=κ (.sl p (o+a) (b - a) (cap - a) ex 1) := by
  show br (Nat.ble (Nat.succ b) 9223372036854775808) (br (Nat.ble (Nat.succ a) 9223372036854775808) (br (Nat.beq 1 1) (br (Nat.ble a b) (br (Nat.ble b cap) (Ab (Nat.sub b a) fun l => Ab (Nat.sub cap a) fun c => Ab (Nat.add o (Nat.mul a 1)) fun o => κ (.sl p o l c ex 1)) (.fail "")) (.fail "")) (.fail "")) (.fail "")) (.fail "")=_
  rw [show Nat.ble (Nat.succ b) 9223372036854775808=true from Aa.2 (by omega), Ac, show Nat.ble (Nat.succ a) 9223372036854775808=true from Aa.2 (by omega), Ac, Nat.beq_refl, Ac, Aa.2 ha, Ac, Aa.2 hl, Ac, A9, A9, A9, show Nat.mul a 1=a from Nat.mul_one a]; rfl
theorem Vq {p:K4} {o len cap b:Nat} {ex:Bool} (hl:b≤cap) (ha2:b<9223372036854775808) (κ:V->R):Cw 1 (.sl p o len cap ex 1) none (some (.int .i64 b)) κ=κ (.sl p o b cap ex 1) := by
  show br (Nat.ble (Nat.succ b) 9223372036854775808) (br (Nat.beq 1 1) (br (Nat.ble 0 b) (br (Nat.ble b cap) (Ab (Nat.sub b 0) fun l => Ab (Nat.sub cap 0) fun c => Ab (Nat.add o (Nat.mul 0 1)) fun o => κ (.sl p o l c ex 1)) (.fail "")) (.fail "")) (.fail "")) (.fail "")=_
  rw [show Nat.ble (Nat.succ b) 9223372036854775808=true from Aa.2 (by omega), Ac, Nat.beq_refl, Ac, show Nat.ble 0 b=true from Aa.2 (Nat.zero_le _), Ac, Aa.2 hl, Ac, A9, A9, A9, show Nat.mul 0 1=0 from rfl]; rfl
end Go.Ev

namespace Go.Ev
set_option linter.unusedVariables false
theorem QZ {r:Nat} (hr:r<256) {n:K4} (hn:n.toN<65535) (h:Heap) (κ:KV):CN true 1 1 [.int .u8 r] h n κ=κ (.sl n 0 1 1 true 1) (Af n h (some (.c (cb [UInt8.ofNat r]) false none))) n.up := by
  show br (Nat.ble r 255) (Ab (Nat.succ 0) fun m => Ab (Nat.add r (Nat.mul 256 0)) fun c => ET h n (.c (.b m c) false none) fun h' n' => κ (.sl n 0 1 1 true 1) h' n') (.fail "")=_
  rw [show Nat.ble r 255=true from Aa.2 (by omega), Ac, A9, A9, EB hn]
  have e:(UInt8.ofNat r).toNat=r := by show r % 256=r; omega
  show κ _ (Af n h (some (.c (.b 1 r) false none))) n.up=κ _ (Af n h (some (.c (.b 1 ((UInt8.ofNat r).toNat+256*0)) false none))) n.up
  rw [e]; rfl
/-- Bytes that may still know what they grew from. -/
def E8 (lo:Nat) (n:K4) (h:Heap) (c:V) (l:List UInt8):Prop := (c = .nil .sl∧l=[]) ∨ ∃ p ex pr, c = .sl p 0 l.length l.length ex 1∧A8 p h=some (.c (cb l) false pr)∧lo≤p.toN∧p.toN<n.toN∧(pr=none ∨ ∃ q, pr=some q∧lo≤q.toN∧q.toN<n.toN)
theorem E8.frame {lo:Nat} {n n':K4} {h h':Heap} {c:V} {l:List UInt8} (H:E8 lo n h c l) (hn:n.toN≤n'.toN) (e:∀ q:K4, lo≤q.toN->q.toN<n.toN->A8 q h'=A8 q h):E8 lo n' h' c l := by
  rcases H with H | ⟨p, ex, pr, h1, h2, h3, h4, h5⟩
  · exact .inl H
  · refine .inr ⟨p, ex, pr, h1, (e p h3 h4).trans h2, h3, by omega, ?_⟩
    rcases h5 with h5 | ⟨q, h5, h6, h7⟩
    · exact .inl h5
    · exact .inr ⟨q, h5, h6, by omega⟩
theorem E8.nil {lo:Nat} {n:K4} {h:Heap}:E8 lo n h (.nil .sl) [] := .inl ⟨rfl, rfl⟩
theorem E8.len {lo:Nat} {n:K4} {h:Heap} {c:V} {l:List UInt8} (H:E8 lo n h c l) (hl:l.length<9223372036854775808) (κ:V->R):B3 c κ=κ (.int .i64 l.length) := by
  rcases H with ⟨rfl, rfl⟩ | ⟨p, ex, pr, rfl, _⟩
  · rfl
  · exact D8 hl κ
theorem E8.src {lo:Nat} {n:K4} {h:Heap} {c:V} {l:List UInt8} (H:E8 lo n h c l):JF c l h := by
  rcases H with ⟨rfl, rfl⟩ | ⟨p, ex, pr, rfl, h2, _⟩
  · exact .inr (.inl ⟨rfl, rfl⟩)
  · exact .inr (.inr ⟨p, 0, l.length, ex, l, false, pr, rfl, h2, by omega, by rw [List.drop_zero, List.take_length]⟩)
theorem grow {lo:Nat} {n:K4} {h:Heap} {c:V} {l b:List UInt8} (H:E8 lo n h c l) (hlo:lo≤n.toN) (hb:l.length+b.length≤1000000000) (hn:n.toN<65000) {y:Cs} (hy:0<b.length->y=cb b) :
    ∃ c' h' n', (∀ κ:KV, Dn 1 1 c b.length y h n κ=κ c' h' n')∧E8 lo n' h' c' (l++b)∧n.toN≤n'.toN∧n'.toN≤n.toN+1∧(∀ q:K4, q.toN<lo->A8 q h'=A8 q h)∧(Bc h n->Bc h' n') := by
  have u1 := K4.up_toN (p := n) (by omega)
  rcases Nat.eq_zero_or_pos b.length with h0 | h0
  · obtain rfl := List.length_eq_zero_iff.1 h0
    refine ⟨c, h, n, fun κ => TN ?_ _ _ _ _, by rw [List.append_nil]; exact H, by omega, by omega, fun q _ => rfl, fun h => h⟩
    rcases H with ⟨rfl, _⟩ | ⟨p, ex, pr, rfl, _⟩
    · exact .inl rfl
    · exact .inr ⟨p, _, _, _, ex, rfl⟩
  · obtain rfl := hy h0
    rcases H with ⟨rfl, rfl⟩ | ⟨p, ex, pr, rfl, h2, h3, h4, h5⟩
    · refine ⟨_, _, _, fun κ => UE h0 (by omega) (by omega) _ _ _, ?_, by omega, by omega, fun q hq => GA (by omega) _ _, fun hf q hq => (Gu (by omega) _ _).trans (hf q (by omega))⟩
      exact .inr ⟨n, false, none, rfl, A6 _ _ _, hlo, by omega, .inl rfl⟩
    · cases ex with
      | true =>
        refine ⟨_, _, _, fun κ => (NK h2 h0 (by omega) (by omega) κ).trans (if_pos rfl), ?_, by omega, by omega, fun q hq => GA (by omega) _ _, fun hf q hq => (Gu (by omega) _ _).trans (hf q (by omega))⟩
        exact .inr ⟨n, false, none, rfl, A6 _ _ _, hlo, by omega, .inl rfl⟩
      | false =>
        refine ⟨_, _, _, fun κ => (NK h2 h0 (by omega) (by omega) κ).trans (if_neg (by decide)), ?_, by omega, by omega, fun q hq => ?_, fun hf q hq => ?_⟩
        · exact .inr ⟨n, false, some p, rfl, A6 _ _ _, hlo, by omega, .inr ⟨p, rfl, h3, by omega⟩⟩
        · rw [GA (by omega), GA (by omega)]
          rcases h5 with rfl | ⟨r, rfl, h6, h7⟩
          · rfl
          · exact A7 _ _ (K4.ne_of_lt (by omega)).symm
        · rw [Gu (by omega), Gu (by omega)]
          rcases h5 with rfl | ⟨r, rfl, h6, h7⟩
          · exact hf q (by omega)
          · exact (A7 _ _ (K4.ne_of_lt (by omega))).trans (hf q (by omega))
/-- .. by what is copied from. -/
theorem OX {lo:Nat} {n:K4} {h:Heap} {c v:V} {l b:List UInt8} (H:E8 lo n h c l) (hs:JF v b h) (hlo:lo≤n.toN) (hb:l.length+b.length≤1000000000) (hn:n.toN<65000) :
    ∃ c' h' n', (∀ κ:KV, HR 1 1 c v h n κ=κ c' h' n')∧E8 lo n' h' c' (l++b)∧n.toN≤n'.toN∧n'.toN≤n.toN+1∧(∀ q:K4, q.toN<lo->A8 q h'=A8 q h)∧(Bc h n->Bc h' n') := by
  obtain ⟨y, h1, h2⟩ := hs.src
  obtain ⟨c', h', n', e, r⟩ := grow H hlo hb hn h2
  refine ⟨c', h', n', fun κ => ?_, r⟩
  show J4 1 v h (fun m y => Dn 1 1 c m y h n κ)=_
  rw [h1, e]
end Go.Ev

namespace Go.Ev
set_option linter.unusedVariables false
theorem AN:(true == false)=false := id rfl
theorem AP:(false == false)=true := id rfl
theorem Av (g:Bool) (h:Heap) (n:K4) (F:KV->R) (κ:KV):Ba g Ay h n F κ=κ Ay h n := id rfl
theorem Am (g:Bool) (F:(V->R)->R) (κ:V->R):JL g Ay F κ=κ Ay := id rfl
theorem Sq {xs:List V} {off m:Nat} (h:off+m≤xs.length) (κ:Cs->R):Bh (.l xs) off m κ=κ (.l ((xs.drop off).take m)) := by
  show Du off xs (fun ys => D6 m ys fun zs => κ (.l zs))=_
  rw [IQ (by omega), II (by rw [List.length_drop]; omega)]
theorem Xn {a b:List V} {i:Nat} (h:i+b.length≤a.length) (κ:Cs->R):JB (.l a) i (.l b) κ=κ (.l (a.take i++(b++a.drop (i+b.length)))) := by
  show D6 i a (fun x => Gk b fun m => Ab (Nat.add i m) fun j => Du j a fun y => EH b y fun t => EH x t fun zs => κ (.l zs))=_
  rw [II (by omega), CV, A9, IQ (by show i+b.length≤_; exact h), DA, DA]; rfl
theorem Ac0 {p:K4} {h:Heap} {a b:List V} {pr:Option K4} {off:Nat} (hp:A8 p h=some (.c (.l a) false pr)) (hl:off+b.length≤a.length) (κ:Heap->R):FT h p off (.l b) κ=κ (Af p (EL pr h) (some (.c (.l (a.take off++(b++a.drop (off+b.length)))) false none))) := by
  rw [Gf]; unfold DV
  rw [H7 hp, Aq, Xn hl, Gq, B6]
theorem Re {m:Nat} {p:K4} {h:Heap} {a b:List V} {pr:Option K4} {off:Nat} (hp:A8 p h=some (.c (.l a) false pr)) (hm:b.length=m) (hl:off+b.length≤a.length) (κ:Heap->R):Bn m (.ptr p off) (.agg b) h κ=κ (Af p (EL pr h) (some (.c (.l (a.take off++(b++a.drop (off+b.length)))) false none))) := by
  show Gk b (fun k => br (Nat.beq k m) (FT h p off (.l b) κ) (.fail ""))=_
  rw [CV, hm, Nat.beq_refl, Ac, Ac0 hp hl, hm]
/-- A slice that is read: its cells. -/
def LS (h:Heap) (n:K4) (av:List K4) (z:Nat) (v:V) (l:List V) (k:Nat):Prop := (v = .nil .sl∧l=[]∧k=0) ∨ ∃ p off cap ex a s pr, v = .sl p off k cap ex z∧A8 p h=some (.c (.l a) s pr)∧off+k*z≤a.length∧(a.drop off).take (k*z)=l∧p.toN<n.toN ∧ ∀ q∈av, p≠q
theorem LS.len {h:Heap} {n:K4} {av:List K4} {z:Nat} {v:V} {l:List V} {k:Nat} (H:LS h n av z v l k) (hk:k<9223372036854775808) (κ:V->R):B3 v κ=κ (.int .i64 k) := by
  rcases H with ⟨rfl, _, rfl⟩ | ⟨p, off, cap, ex, a, s, pr, rfl, _⟩
  · rfl
  · exact D8 hk κ
theorem LS.frame {h h':Heap} {n n':K4} {av av':List K4} {z:Nat} {v:V} {l:List V} {k:Nat} (H:LS h n av z v l k) (hn:n.toN≤n'.toN) (e:∀ p:K4, p.toN<n.toN->(∀ q∈av, p≠q)->A8 p h'=A8 p h ∧ ∀ q∈av', p≠q):LS h' n' av' z v l k := by
  rcases H with H | ⟨p, off, cap, ex, a, s, pr, rfl, h1, h2, h3, h4, h5⟩
  · exact .inl H
  · exact .inr ⟨p, off, cap, ex, a, s, pr, rfl, ((e p h4 h5).1).trans h1, h2, h3, by omega, (e p h4 h5).2⟩
theorem LS.more {h h':Heap} {n n':K4} {av:List K4} {z:Nat} {v:V} {l:List V} {k:Nat} (H:LS h n av z v l k) (hn:n.toN≤n'.toN) (e:∀ p:K4, p.toN<n.toN->A8 p h'=A8 p h):LS h' n' av z v l k := H.frame hn fun p hp hq => ⟨e p hp, hq⟩
theorem LS.src {h:Heap} {n:K4} {av:List K4} {z:Nat} {v:V} {l:List V} {k:Nat} (H:LS h n av z v l k) (κ:Nat->Cs->R):J4 z v h κ=κ k (.l l) := by
  rcases H with ⟨rfl, rfl, rfl⟩ | ⟨p, off, cap, ex, a, s, pr, rfl, h1, h2, rfl, _⟩
  · rfl
  · show br (Nat.beq z z) (Ht p h fun cs _ _ => Ab (Nat.mul k z) fun m => Bh cs off m fun y => κ k y) (.fail "")=_
    rw [Nat.beq_refl, Ac, H7 h1, A9, show Nat.mul k z=k*z from rfl, Sq h2]
/-- An element's place, and its cells. -/
theorem LS.ix {h:Heap} {n:K4} {av:List K4} {z:Nat} {v:V} {l:List V} {k i:Nat} (H:LS h n av z v l k) (hi:i<k) (h2:i<9223372036854775808) :
    ∃ p o, (∀ κ:V->R, Bl z v (.int .i64 i) κ=κ (.ptr p o))∧(∀ (κ:V->R), Lo (A8 p h) z o κ=κ (.agg ((l.drop (i*z)).take z)))∧(∀ (j:Nat) (x:V) (κ:V->R), l[i*z+j]? = some x->Lj (A8 p h) (o+j) κ=κ x) := by
  rcases H with ⟨rfl, rfl, rfl⟩ | ⟨p, off, cap, ex, a, s, pr, rfl, h1, h3, rfl, _⟩
  · cases hi
  · have hm:i*z+z≤k*z := by rw [←Nat.succ_mul]; exact Nat.mul_le_mul_right z hi
    refine ⟨p, off+i*z, fun κ => Vu z (k := .i64) h2 hi κ, fun κ => ?_, fun j x κ hx => ?_⟩
    · rw [h1, Wv (by omega)]
      congr 2
      rw [List.drop_take, List.take_take, List.drop_drop, Nat.min_eq_left (by omega)]
    · rw [h1, Uc]
      rw [List.getElem?_take] at hx
      split at hx
      · rw [List.getElem?_drop, ←Nat.add_assoc] at hx
        exact Qn hx
      · cases hx
theorem LS.at1 {h:Heap} {n:K4} {av:List K4} {v:V} {l:List V} {k i:Nat} (H:LS h n av 1 v l k) (hi:i<k) (h2:i<9223372036854775808) {x:V} (hx:l[i]? = some x) :
    ∃ p o, (∀ κ:V->R, Bl 1 v (.int .i64 i) κ=κ (.ptr p o)) ∧ ∀ κ:V->R, Lj (A8 p h) o κ=κ x := by
  obtain ⟨p, o, e1, _, e3⟩ := H.ix hi h2
  exact ⟨p, o, e1, fun κ => e3 0 x κ (by rw [Nat.mul_one]; exact hx)⟩
/-- A slice of one's own. -/
def WI (lo:Nat) (n:K4) (h:Heap) (z:Nat) (v:V) (l:List V) (k:Nat):Prop := (v = .nil .sl∧l=[]∧k=0) ∨ ∃ p ex pr, v = .sl p 0 k k ex z∧A8 p h=some (.c (.l l) false pr)∧l.length=k*z∧lo≤p.toN∧p.toN<n.toN∧(pr=none ∨ ∃ q, pr=some q∧lo≤q.toN∧q.toN<n.toN)
theorem WI.frame {lo:Nat} {n n':K4} {h h':Heap} {z:Nat} {v:V} {l:List V} {k:Nat} (H:WI lo n h z v l k) (hn:n.toN≤n'.toN) (e:∀ q:K4, lo≤q.toN->q.toN<n.toN->A8 q h'=A8 q h):WI lo n' h' z v l k := by
  rcases H with H | ⟨p, ex, pr, h1, h2, h3, h4, h5, h6⟩
  · exact .inl H
  · refine .inr ⟨p, ex, pr, h1, (e p h4 h5).trans h2, h3, h4, by omega, ?_⟩
    rcases h6 with h6 | ⟨q, h6, h7, h8⟩
    · exact .inl h6
    · exact .inr ⟨q, h6, h7, by omega⟩
/-- Bytes that may still know what they grew from; where their places may be. -/
def Pn (P:K4->Prop) (n:K4) (h:Heap) (c:V) (l:List UInt8):Prop := (c = .nil .sl∧l=[]) ∨ ∃ p ex pr, c = .sl p 0 l.length l.length ex 1∧A8 p h=some (.c (cb l) false pr)∧P p∧p.toN<n.toN∧(pr=none ∨ ∃ q, pr=some q∧P q∧q.toN<n.toN)
theorem Pn.frame {P P':K4->Prop} {n n':K4} {h h':Heap} {c:V} {l:List UInt8} (H:Pn P n h c l) (hn:n.toN≤n'.toN) (hP:∀ q:K4, q.toN<n.toN->P q->P' q) (e:∀ q:K4, q.toN<n.toN->P q->A8 q h'=A8 q h):Pn P' n' h' c l := by
  rcases H with H | ⟨p, ex, pr, h1, h2, h3, h4, h5⟩
  · exact .inl H
  · refine .inr ⟨p, ex, pr, h1, (e p h4 h3).trans h2, hP p h4 h3, by omega, ?_⟩
    rcases h5 with h5 | ⟨q, h5, h6, h7⟩
    · exact .inl h5
    · exact .inr ⟨q, h5, hP q h7 h6, by omega⟩
theorem Pn.len {P:K4->Prop} {n:K4} {h:Heap} {c:V} {l:List UInt8} (H:Pn P n h c l) (hl:l.length<9223372036854775808) (κ:V->R):B3 c κ=κ (.int .i64 l.length) := by
  rcases H with ⟨rfl, rfl⟩ | ⟨p, ex, pr, rfl, _⟩
  · rfl
  · exact D8 hl κ
theorem Pn.src {P:K4->Prop} {n:K4} {h:Heap} {c:V} {l:List UInt8} (H:Pn P n h c l):JF c l h := by
  rcases H with ⟨rfl, rfl⟩ | ⟨p, ex, pr, rfl, h2, _⟩
  · exact .inr (.inl ⟨rfl, rfl⟩)
  · exact .inr (.inr ⟨p, 0, l.length, ex, l, false, pr, rfl, h2, by omega, by rw [List.drop_zero, List.take_length]⟩)
/-- A slice that is read, out of the way of what grows. -/
def ZO (P:K4->Prop) (h:Heap) (n:K4) (z:Nat) (v:V) (l:List V) (k:Nat):Prop := (v = .nil .sl∧l=[]∧k=0) ∨ ∃ p off cap ex a s pr, v = .sl p off k cap ex z∧A8 p h=some (.c (.l a) s pr)∧off+k*z≤a.length∧(a.drop off).take (k*z)=l∧p.toN<n.toN ∧ ¬ P p
theorem ZO.frame {P P':K4->Prop} {h h':Heap} {n n':K4} {z:Nat} {v:V} {l:List V} {k:Nat} (H:ZO P h n z v l k) (hn:n.toN≤n'.toN) (e:∀ q:K4, q.toN<n.toN->¬ P q->A8 q h'=A8 q h ∧ ¬ P' q):ZO P' h' n' z v l k := by
  rcases H with H | ⟨p, off, cap, ex, a, s, pr, h1, h2, h3, h4, h5, h6⟩
  · exact .inl H
  · exact .inr ⟨p, off, cap, ex, a, s, pr, h1, ((e p h5 h6).1).trans h2, h3, h4, by omega, (e p h5 h6).2⟩
end Go.Ev

namespace Go.Ev
open Go.RowKit Go.ChangeShapes
set_option linter.unusedVariables false
/-- The blocks of the list stay. -/
def H8 (ρ:Env) (w:World) (bl:List Nat):Prop := ∀ b∈bl, ∀ c e fr, w.heap[b]? = some (.cells c e fr)->ρ.gl b=some (c, e, fr)
theorem H8.sub {ρ:Env} {w:World} {bl cl:List Nat} (h:H8 ρ w bl) (hs:∀ b∈cl, b∈bl):H8 ρ w cl := fun b hb => h b (hs b hb)
theorem TB {P:Program} {fs:List Nat} {v:Nat->Value} {w:World} {l:List Nat}:H8 (KD P fs v (Ll w l)) w l := fun b hb c e fr h => Ra hb h
/-- Elements of one cell each, in memory: a slice that is told. -/
theorem XG {w:World} {a:Addr} {len cap:Nat} (hl:len≤cap) {l:List RV} {bl:List Nat} (hll:l.length=len) (hc:∀ ρ, H8 ρ w bl->∀ j r, l[j]? = some r->∃ v, w.cell? (a.add j)=some v∧GK ρ r v) :
    ∀ ρ φ, H8 ρ w (a.block::bl)->As ρ φ (.oth (.rx l len 1)) (.slice (some a) len cap) := by
  intro ρ φ hg
  have hg2 := hg.sub (cl := bl) fun b hb => List.mem_cons_of_mem _ hb
  simp only [As]
  refine ⟨a, cap, rfl, hl, by rw [hll, Nat.mul_one], fun hpos => ?_⟩
  obtain ⟨v0, hv0, _⟩ := hc ρ hg2 0 (l[0]'(by omega)) (List.getElem?_eq_getElem _)
  obtain ⟨b, o, c, e', fr, ea, hw, hco⟩ := Pi (show w.cell? a=_ from hv0)
  refine ⟨b, o, c, e', fr, ea, hg b (by rw [ea]; simp) c e' fr hw, fun j r hj => ?_⟩
  obtain ⟨v, hv, hr⟩ := hc ρ hg2 j r hj
  rw [ea, Go.WideShapes.add_plain] at hv
  exact ⟨v, by simpa [World.cell?, hw] using hv, hr⟩
theorem Wj {l:List RV} {m i:Nat} (hi:i<m) (h2:i<9223372036854775808) (κ:V->R):Bl 1 (.oth (.rx l m 1)) (.int .i64 i) κ=κ (.oth (.rp (l.drop i))) := by
  show br (Nat.ble (Nat.succ i) 9223372036854775808) (br (Nat.beq 1 1) (br (Nat.ble (Nat.succ i) m) (Ab (Nat.mul i 1) fun j => κ (.oth (.rp (l.drop j)))) (.fail "")) (.fail "")) (.fail "")=_
  rw [show Nat.ble (Nat.succ i) 9223372036854775808=true from Aa.2 h2, Ac, Nat.beq_refl, Ac, show Nat.ble (Nat.succ i) m=true from Aa.2 hi, Ac, A9, show Nat.mul i 1=i from Nat.mul_one i]
theorem Wa (r:RV) (l:List RV) (h:Heap) (κ:V->R):Az (.oth (.rp (r::l))) h κ=κ r.v := id rfl
end Go.Ev

namespace Go.Ev
set_option linter.unusedVariables false
def NB (o:Cx):Bool := @Option.rec Ob (fun _ => Bool) true (fun _ => false) o
theorem Es {o:Cx} (h:NB o=true):o=none := by cases o with
  | none => rfl
  | some _ => cases h
theorem AE {a b:Bool} (h:and a b=true):a=true∧b=true := by cases a <;> cases b <;> first | exact ⟨rfl, rfl⟩ | cases h
def NC (p:HA):Bool := @HA.rec (fun _ => Bool) (fun A B C E F G I J L M N O P Q T U => and (NB A) (and (NB B) (and (NB C) (and (NB E) (and (NB F) (and (NB G) (and (NB I) (and (NB J) (and (NB L) (and (NB M) (and (NB N) (and (NB O) (and (NB P) (and (NB Q) (and (NB T) (NB U)))))))))))))))) p
def HE (p:HB):Bool := @HB.rec (fun _ => Bool) (fun A B C E F G I J L M N O P Q T U => and (NC A) (and (NC B) (and (NC C) (and (NC E) (and (NC F) (and (NC G) (and (NC I) (and (NC J) (and (NC L) (and (NC M) (and (NC N) (and (NC O) (and (NC P) (and (NC Q) (and (NC T) (NC U)))))))))))))))) p
def NZ (p:HC):Bool := @HC.rec (fun _ => Bool) (fun A B C E F G I J L M N O P Q T U => and (HE A) (and (HE B) (and (HE C) (and (HE E) (and (HE F) (and (HE G) (and (HE I) (and (HE J) (and (HE L) (and (HE M) (and (HE N) (and (HE O) (and (HE P) (and (HE Q) (and (HE T) (HE U)))))))))))))))) p
theorem EN {p:HA} (h:NC p=true) (d:D):HA.sel d p=none := by
  cases p with | mk A B C E F G I J L M N O P Q T U =>
  unfold NC at h
  dsimp only at h
  obtain ⟨a0, h⟩ := AE h
  obtain ⟨a1, h⟩ := AE h
  obtain ⟨a2, h⟩ := AE h
  obtain ⟨a3, h⟩ := AE h
  obtain ⟨a4, h⟩ := AE h
  obtain ⟨a5, h⟩ := AE h
  obtain ⟨a6, h⟩ := AE h
  obtain ⟨a7, h⟩ := AE h
  obtain ⟨a8, h⟩ := AE h
  obtain ⟨a9, h⟩ := AE h
  obtain ⟨a10, h⟩ := AE h
  obtain ⟨a11, h⟩ := AE h
  obtain ⟨a12, h⟩ := AE h
  obtain ⟨a13, h⟩ := AE h
  obtain ⟨a14, h⟩ := AE h
  cases d
  · exact Es a0
  · exact Es a1
  · exact Es a2
  · exact Es a3
  · exact Es a4
  · exact Es a5
  · exact Es a6
  · exact Es a7
  · exact Es a8
  · exact Es a9
  · exact Es a10
  · exact Es a11
  · exact Es a12
  · exact Es a13
  · exact Es a14
  · exact Es h
theorem Cl {p:HB} (h:HE p=true) (c d:D):HA.sel d (HB.sel c p)=none := by
  cases p with | mk A B C E F G I J L M N O P Q T U =>
  unfold HE at h
  dsimp only at h
  obtain ⟨a0, h⟩ := AE h
  obtain ⟨a1, h⟩ := AE h
  obtain ⟨a2, h⟩ := AE h
  obtain ⟨a3, h⟩ := AE h
  obtain ⟨a4, h⟩ := AE h
  obtain ⟨a5, h⟩ := AE h
  obtain ⟨a6, h⟩ := AE h
  obtain ⟨a7, h⟩ := AE h
  obtain ⟨a8, h⟩ := AE h
  obtain ⟨a9, h⟩ := AE h
  obtain ⟨a10, h⟩ := AE h
  obtain ⟨a11, h⟩ := AE h
  obtain ⟨a12, h⟩ := AE h
  obtain ⟨a13, h⟩ := AE h
  obtain ⟨a14, h⟩ := AE h
  cases c
  · exact EN a0 d
  · exact EN a1 d
  · exact EN a2 d
  · exact EN a3 d
  · exact EN a4 d
  · exact EN a5 d
  · exact EN a6 d
  · exact EN a7 d
  · exact EN a8 d
  · exact EN a9 d
  · exact EN a10 d
  · exact EN a11 d
  · exact EN a12 d
  · exact EN a13 d
  · exact EN a14 d
  · exact EN h d
theorem F9 {p:HC} (h:NZ p=true) (b c d:D):HA.sel d (HB.sel c (HC.sel b p))=none := by
  cases p with | mk A B C E F G I J L M N O P Q T U =>
  unfold NZ at h
  dsimp only at h
  obtain ⟨a0, h⟩ := AE h
  obtain ⟨a1, h⟩ := AE h
  obtain ⟨a2, h⟩ := AE h
  obtain ⟨a3, h⟩ := AE h
  obtain ⟨a4, h⟩ := AE h
  obtain ⟨a5, h⟩ := AE h
  obtain ⟨a6, h⟩ := AE h
  obtain ⟨a7, h⟩ := AE h
  obtain ⟨a8, h⟩ := AE h
  obtain ⟨a9, h⟩ := AE h
  obtain ⟨a10, h⟩ := AE h
  obtain ⟨a11, h⟩ := AE h
  obtain ⟨a12, h⟩ := AE h
  obtain ⟨a13, h⟩ := AE h
  obtain ⟨a14, h⟩ := AE h
  cases b
  · exact Cl a0 c d
  · exact Cl a1 c d
  · exact Cl a2 c d
  · exact Cl a3 c d
  · exact Cl a4 c d
  · exact Cl a5 c d
  · exact Cl a6 c d
  · exact Cl a7 c d
  · exact Cl a8 c d
  · exact Cl a9 c d
  · exact Cl a10 c d
  · exact Cl a11 c d
  · exact Cl a12 c d
  · exact Cl a13 c d
  · exact Cl a14 c d
  · exact Cl h c d
def Vh (f:D->Bool):Bool := and (f .d0) (and (f .d1) (and (f .d2) (and (f .d3) (and (f .d4) (and (f .d5) (and (f .d6) (and (f .d7) (and (f .d8) (and (f .d9) (and (f .d10) (and (f .d11) (and (f .d12) (and (f .d13) (and (f .d14) (f .d15)))))))))))))))
theorem Sr {f:D->Bool} (h:Vh f=true) (d:D):f d=true := by
  unfold Vh at h
  obtain ⟨a0, h⟩ := AE h
  obtain ⟨a1, h⟩ := AE h
  obtain ⟨a2, h⟩ := AE h
  obtain ⟨a3, h⟩ := AE h
  obtain ⟨a4, h⟩ := AE h
  obtain ⟨a5, h⟩ := AE h
  obtain ⟨a6, h⟩ := AE h
  obtain ⟨a7, h⟩ := AE h
  obtain ⟨a8, h⟩ := AE h
  obtain ⟨a9, h⟩ := AE h
  obtain ⟨a10, h⟩ := AE h
  obtain ⟨a11, h⟩ := AE h
  obtain ⟨a12, h⟩ := AE h
  obtain ⟨a13, h⟩ := AE h
  obtain ⟨a14, h⟩ := AE h
  cases d
  · exact a0
  · exact a1
  · exact a2
  · exact a3
  · exact a4
  · exact a5
  · exact a6
  · exact a7
  · exact a8
  · exact a9
  · exact a10
  · exact a11
  · exact a12
  · exact a13
  · exact a14
  · exact h
def VT (n:K4) (b:HB):Bool := Vh fun c => Vh fun d => @Bool.rec (fun _ => Bool) true (NB (HA.sel d (HB.sel c b))) (Nat.ble n.toN (K4.toN ⟨.d0, .d0, c, d⟩))
def XB (n:K4) (p:HC):Bool := @HC.rec (fun _ => Bool) (fun A B C E F G I J L M N O P Q T U => and (VT n A) (and (HE B) (and (HE C) (and (HE E) (and (HE F) (and (HE G) (and (HE I) (and (HE J) (and (HE L) (and (HE M) (and (HE N) (and (HE O) (and (HE P) (and (HE Q) (and (HE T) (HE U)))))))))))))))) p
def UB (n:K4) (p:Heap):Bool := @Heap.rec (fun _ => Bool) (fun A B C E F G I J L M N O P Q T U => and (XB n A) (and (NZ B) (and (NZ C) (and (NZ E) (and (NZ F) (and (NZ G) (and (NZ I) (and (NZ J) (and (NZ L) (and (NZ M) (and (NZ N) (and (NZ O) (and (NZ P) (and (NZ Q) (and (NZ T) (NZ U)))))))))))))))) p
theorem Uu {n:K4} {b:HB} (h:VT n b=true) (c d:D) (hn:n.toN≤(K4.toN ⟨.d0, .d0, c, d⟩)):HA.sel d (HB.sel c b)=none := by
  have h1 := Sr (Sr h c) d
  rw [show Nat.ble n.toN (K4.toN ⟨.d0, .d0, c, d⟩)=true from Nat.ble_eq_true_of_le hn] at h1
  exact Es h1
theorem Wx {n:K4} {p:Heap} (h:UB n p=true):Bc p n := by
  rintro ⟨a, b, c, d⟩ hq
  show HA.sel d (HB.sel c (HC.sel b (Heap.sel a p)))=none
  cases p with | mk y0 y1 y2 y3 y4 y5 y6 y7 y8 y9 ya yb yc yd ye yf =>
  unfold UB at h
  dsimp only at h
  obtain ⟨a0, h⟩ := AE h
  obtain ⟨a1, h⟩ := AE h
  obtain ⟨a2, h⟩ := AE h
  obtain ⟨a3, h⟩ := AE h
  obtain ⟨a4, h⟩ := AE h
  obtain ⟨a5, h⟩ := AE h
  obtain ⟨a6, h⟩ := AE h
  obtain ⟨a7, h⟩ := AE h
  obtain ⟨a8, h⟩ := AE h
  obtain ⟨a9, h⟩ := AE h
  obtain ⟨a10, h⟩ := AE h
  obtain ⟨a11, h⟩ := AE h
  obtain ⟨a12, h⟩ := AE h
  obtain ⟨a13, h⟩ := AE h
  obtain ⟨a14, h⟩ := AE h
  cases a
  · cases y0 with | mk x0 x1 x2 x3 x4 x5 x6 x7 x8 x9 xa xb xc xd xe xf =>
    clear a1 a2 a3 a4 a5 a6 a7 a8 a9 a10 a11 a12 a13 a14 h
    have h := a0
    unfold XB at h
    dsimp only at h
    obtain ⟨b0, h⟩ := AE h
    obtain ⟨b1, h⟩ := AE h
    obtain ⟨b2, h⟩ := AE h
    obtain ⟨b3, h⟩ := AE h
    obtain ⟨b4, h⟩ := AE h
    obtain ⟨b5, h⟩ := AE h
    obtain ⟨b6, h⟩ := AE h
    obtain ⟨b7, h⟩ := AE h
    obtain ⟨b8, h⟩ := AE h
    obtain ⟨b9, h⟩ := AE h
    obtain ⟨b10, h⟩ := AE h
    obtain ⟨b11, h⟩ := AE h
    obtain ⟨b12, h⟩ := AE h
    obtain ⟨b13, h⟩ := AE h
    obtain ⟨b14, h⟩ := AE h
    cases b
    · exact Uu b0 c d hq
    · exact Cl b1 c d
    · exact Cl b2 c d
    · exact Cl b3 c d
    · exact Cl b4 c d
    · exact Cl b5 c d
    · exact Cl b6 c d
    · exact Cl b7 c d
    · exact Cl b8 c d
    · exact Cl b9 c d
    · exact Cl b10 c d
    · exact Cl b11 c d
    · exact Cl b12 c d
    · exact Cl b13 c d
    · exact Cl b14 c d
    · exact Cl h c d
  · exact F9 a1 b c d
  · exact F9 a2 b c d
  · exact F9 a3 b c d
  · exact F9 a4 b c d
  · exact F9 a5 b c d
  · exact F9 a6 b c d
  · exact F9 a7 b c d
  · exact F9 a8 b c d
  · exact F9 a9 b c d
  · exact F9 a10 b c d
  · exact F9 a11 b c d
  · exact F9 a12 b c d
  · exact F9 a13 b c d
  · exact F9 a14 b c d
  · exact F9 h b c d
/-- A call gave true, in a state in which nothing lies behind the next place, and that is one of the first places. -/
def YO (r:R):Bool :=
  @R.rec (fun _ => Bool) (fun _ _ _ _ => false) (fun v h n => and (Pv v) (and (Nat.ble n.toN 250) (UB n h))) (fun _ => false) (fun _ _ _ _ => false) r
theorem WS {r:R} (h:YO r=true):∃ h n, r = .rv (.bool true) h n∧n.toN≤250∧Bc h n := by
  cases r with
  | rv v hh n =>
    obtain ⟨h1, h2⟩ := AE (show and (Pv v) (and (Nat.ble n.toN 250) (UB n hh))=true from h)
    obtain ⟨h2, h3⟩ := AE h2
    exact ⟨hh, n, by rw [PL h1], Nat.le_of_ble_eq_true h2, Wx h3⟩
  | _ => cases h
end Go.Ev

namespace Go.Ev
set_option linter.unusedVariables false
/-- Bytes of an array, as cells. -/
def uc (l:List UInt8):List V := l.map fun b => .int .u8 b.toNat
theorem NW:∀ (l:List UInt8) (κ:Nat->Nat->R) (e:R), Ct (uc l) κ e=κ l.length (Au l)
  | [], κ, e => rfl
  | b::l, κ, e => by
    show Jj (.int .u8 b.toNat) (fun r => Ct (uc l) (fun n c => Ab (Nat.succ n) fun n => Ab (Nat.add r (Nat.mul 256 c)) fun c => κ n c) e) e=_
    have e1:∀ (F:Nat->R), Jj (.int .u8 b.toNat) F e=F b.toNat := fun F => by
      show br (Nat.ble b.toNat 255) (F b.toNat) e=_
      rw [show Nat.ble b.toNat 255=true from Aa.2 (by have := b.toNat_lt; omega), Ac]
    rw [e1, NW l, A9, A9]
    rfl
end Go.Ev

namespace Go.Ev
set_option linter.unusedVariables false
/-- Bytes whose places satisfy A. -/
def Li (A:K4->Prop) (n:K4) (h:Heap) (c:V) (l:List UInt8):Prop := (c = .nil .sl∧l=[]) ∨ ∃ p ex pr, c = .sl p 0 l.length l.length ex 1∧A8 p h=some (.c (cb l) false pr)∧A p∧p.toN<n.toN∧(pr=none ∨ ∃ q, pr=some q∧A q∧q.toN<n.toN)
theorem Li.frame {A:K4->Prop} {n n':K4} {h h':Heap} {c:V} {l:List UInt8} (H:Li A n h c l) (hn:n.toN≤n'.toN) (e:∀ q:K4, A q->q.toN<n.toN->A8 q h'=A8 q h):Li A n' h' c l := by
  rcases H with H | ⟨p, ex, pr, h1, h2, h3, h4, h5⟩
  · exact .inl H
  · refine .inr ⟨p, ex, pr, h1, (e p h3 h4).trans h2, h3, by omega, ?_⟩
    rcases h5 with h5 | ⟨q, h5, h6, h7⟩
    · exact .inl h5
    · exact .inr ⟨q, h5, h6, by omega⟩
theorem Li.src {A:K4->Prop} {n:K4} {h:Heap} {c:V} {l:List UInt8} (H:Li A n h c l):JF c l h := by
  rcases H with ⟨rfl, rfl⟩ | ⟨p, ex, pr, rfl, h2, _⟩
  · exact .inr (.inl ⟨rfl, rfl⟩)
  · exact .inr (.inr ⟨p, 0, l.length, ex, l, false, pr, rfl, h2, by omega, by rw [List.drop_zero, List.take_length]⟩)
theorem Tx (l:List UInt8) (h:Heap) {n:K4} (hn:n.toN<65535) (κ:KV):GW (sb l) h n κ=κ (.sl n 0 l.length l.length false 1) (Af n h (some (.c (cb l) false none))) n.up := by
  show ET h n (.c (.b l.length (Au l)) false none) (fun h' n' => κ (.sl n 0 l.length l.length false 1) h' n')=_
  rw [EB hn]; rfl
end Go.Ev

namespace Go.Ev
set_option linter.unusedVariables false
theorem Li.mono {A A':K4->Prop} {n n':K4} {h h':Heap} {c:V} {l:List UInt8} (H:Li A n h c l) (hn:n.toN≤n'.toN) (hP:∀ q:K4, q.toN<n.toN->A q->A' q) (e:∀ q:K4, q.toN<n.toN->A q->A8 q h'=A8 q h):Li A' n' h' c l := by
  rcases H with H | ⟨p, ex, pr, h1, h2, h3, h4, h5⟩
  · exact .inl H
  · refine .inr ⟨p, ex, pr, h1, (e p h4 h3).trans h2, hP p h4 h3, by omega, ?_⟩
    rcases h5 with h5 | ⟨q, h5, h6, h7⟩
    · exact .inl h5
    · exact .inr ⟨q, h5, hP q h7 h6, by omega⟩
theorem Li.len {A:K4->Prop} {n:K4} {h:Heap} {c:V} {l:List UInt8} (H:Li A n h c l) (hl:l.length<9223372036854775808) (κ:V->R):B3 c κ=κ (.int .i64 l.length) := by
  rcases H with ⟨rfl, rfl⟩ | ⟨p, ex, pr, rfl, _⟩
  · rfl
  · exact D8 hl κ
/-- A slice of cells whose places satisfy A. -/
def NL (A:K4->Prop) (n:K4) (h:Heap) (z:Nat) (v:V) (l:List V) (k:Nat):Prop := (v = .nil .sl∧l=[]∧k=0) ∨ ∃ p ex pr, v = .sl p 0 k k ex z∧A8 p h=some (.c (.l l) false pr)∧l.length=k*z∧A p∧p.toN<n.toN∧(pr=none ∨ ∃ q, pr=some q∧A q∧q.toN<n.toN)
theorem NL.mono {A A':K4->Prop} {n n':K4} {h h':Heap} {z:Nat} {v:V} {l:List V} {k:Nat} (H:NL A n h z v l k) (hn:n.toN≤n'.toN) (hP:∀ q:K4, q.toN<n.toN->A q->A' q) (e:∀ q:K4, q.toN<n.toN->A q->A8 q h'=A8 q h):NL A' n' h' z v l k := by
  rcases H with H | ⟨p, ex, pr, h1, h2, h3, h4, h5, h6⟩
  · exact .inl H
  · refine .inr ⟨p, ex, pr, h1, (e p h5 h4).trans h2, h3, hP p h5 h4, by omega, ?_⟩
    rcases h6 with h6 | ⟨q, h6, h7, h8⟩
    · exact .inl h6
    · exact .inr ⟨q, h6, hP q h8 h7, by omega⟩
theorem NL.len {A:K4->Prop} {n:K4} {h:Heap} {z:Nat} {v:V} {l:List V} {k:Nat} (H:NL A n h z v l k) (hl:k<9223372036854775808) (κ:V->R):B3 v κ=κ (.int .i64 k) := by
  rcases H with ⟨rfl, rfl, rfl⟩ | ⟨p, ex, pr, rfl, _⟩
  · rfl
  · exact D8 hl κ
end Go.Ev

namespace Go.Ev
set_option linter.unusedVariables false
set_option linter.unusedSimpArgs false
theorem Ek {l:List UInt8} {i:Nat} (hi:i<l.length) (hl:l.length<9223372036854775808) (κ:V->R):AZ (sb l) (.int .i64 i) κ=κ (.int .u8 (l[i]'hi).toNat) := by
  show br (Nat.ble (Nat.succ i) 9223372036854775808) (br (Nat.ble (Nat.succ i) l.length) (Ab (Ev.lo (sh (Au l) i) 1) fun r => κ (.int .u8 r)) (.fail "")) _=_
  rw [show Nat.ble (Nat.succ i) 9223372036854775808=true from Aa.2 (by omega), Ac, show Nat.ble (Nat.succ i) l.length=true from Aa.2 hi, Ac, A9, Gm]
  have e:(l.drop i).take 1=[l[i]'hi] := by rw [List.drop_eq_getElem_cons hi]; rfl
  rw [e]; rfl
theorem FS {a b:Nat} (ha:a<256) (hb:b<256):DK .u8 a b=decide (a<b) := PE ha hb
theorem MX {l:List UInt8} {k:Nat} (hk:k≤l.length) (hl:l.length<9223372036854775808) (κ:V->R):CB (sb l) none (some (.int .i64 k)) κ=κ (sb (l.take k)) := by
  show br (Nat.ble (Nat.succ k) 9223372036854775808) (br (Nat.ble 0 k) (br (Nat.ble k l.length) (Ab (Nat.sub k 0) fun m => Ab (Ev.lo (sh (Au l) 0) m) fun r => κ (.str m r)) (.fail "")) (.fail "")) (.fail "")=_
  rw [show Nat.ble (Nat.succ k) 9223372036854775808=true from Aa.2 (by omega), Ac, show Nat.ble 0 k=true from Aa.2 (Nat.zero_le _), Ac, show Nat.ble k l.length=true from Aa.2 hk, Ac, A9, A9, Gm, List.drop_zero]
  show κ (.str k (Au (l.take k)))=κ (.str (l.take k).length (Au (l.take k)))
  rw [List.length_take, Nat.min_eq_left (by omega)]
theorem N1 {l:List UInt8} {k:Nat} (hk:k≤l.length) (hl:l.length<9223372036854775808) (κ:V->R):CB (sb l) (some (.int .i64 k)) none κ=κ (sb (l.drop k)) := by
  show br (Nat.ble (Nat.succ k) 9223372036854775808) (br (Nat.ble k l.length) (br (Nat.ble l.length l.length) (Ab (Nat.sub l.length k) fun m => Ab (Ev.lo (sh (Au l) k) m) fun r => κ (.str m r)) (.fail "")) (.fail "")) (.fail "")=_
  rw [show Nat.ble (Nat.succ k) 9223372036854775808=true from Aa.2 (by omega), Ac, show Nat.ble k l.length=true from Aa.2 hk, Ac, show Nat.ble l.length l.length=true from Aa.2 (Nat.le_refl _), Ac, A9, A9, Gm]
  show κ (.str (l.length - k) (Au ((l.drop k).take (l.length - k))))=κ (.str (l.drop k).length (Au (l.drop k)))
  rw [List.length_drop, List.take_of_length_le (by rw [List.length_drop]; omega)]
theorem Qf (a b:List UInt8) (κ:V->R):AW (sb a) (sb b) κ=κ (.bool (decide (a=b))) := by
  show Cn (DE a.length (Au a) b.length (Au b)) (fun r => κ (.bool r))=_
  rw [Bu, O9]
theorem TI (a b:List UInt8) (κ:V->R):B4 (sb a) (sb b) κ=κ (.bool (decide (¬ a=b))) := by
  show br (DE a.length (Au a) b.length (Au b)) (κ (.bool false)) (κ (.bool true))=_
  rw [O9]
  by_cases h:a=b
  · rw [decide_eq_true h, decide_eq_false fun g => g h]; rfl
  · rw [decide_eq_false h, decide_eq_true h]; rfl
theorem MB (a:List UInt8) (κ:V->R):AW (sb a) (.str 0 0) κ=κ (.bool (decide (a=[]))) := Qf a [] κ
theorem IN (a:List UInt8) (κ:V->R):B4 (sb a) (.str 0 0) κ=κ (.bool (decide (¬ a=[]))) := TI a [] κ
def DP (r:Nat):List UInt8->Option Nat
  | [] => none
  | x::l => if x.toNat=r then some 0 else (DP r l).map (· + 1)
def J8 (r:Nat) (l:List UInt8):Nat := match DP r l with
  | some j => j
  | none => 18446744073709551615
def Cc (r:Nat):List UInt8->Nat
  | [] => 0
  | x::l => (if x.toNat=r then 1 else 0)+Cc r l
theorem QV (x:UInt8) (l:List UInt8):Ev.lo (Au (x::l)) 1=x.toNat := by have hx := x.toNat_lt; rw [E0]; simp only [Au]; omega
theorem QJ (x:UInt8) (l:List UInt8):sh (Au (x::l)) 1=Au l := by have hx := x.toNat_lt; rw [Fv]; simp only [Au]; omega
theorem Wq (r:Nat):∀ (l:List UInt8) (i:Nat) (κ:Nat->R) (κn:R), Lg r l.length (Au l) i κ κn=match DP r l with | some j => κ (i+j) | none => κn
  | [], i, κ, κn => rfl
  | x::l, i, κ, κn => by
    show br (Nat.beq (Ev.lo (Au (x::l)) 1) r) (κ i) (Ab (sh (Au (x::l)) 1) fun d => Ab (Nat.succ i) fun j => Lg r l.length d j κ κn)=_
    rw [QV, QJ, A9, A9, Wq r l, CQ, DP]
    by_cases h:x.toNat=r
    · rw [decide_eq_true h, if_pos h]; rfl
    · rw [decide_eq_false h, if_neg h]
      cases DP r l with
      | none => rfl
      | some j => show κ (i+1+j)=κ (i+(j+1)); congr 1; omega
theorem Se (r:Nat):∀ (l:List UInt8) (a:Nat) (κ:Nat->R), JK r l.length (Au l) a κ=κ (a+Cc r l)
  | [], a, κ => rfl
  | x::l, a, κ => by
    show br (Nat.beq (Ev.lo (Au (x::l)) 1) r) (Ab (sh (Au (x::l)) 1) fun d => Ab (Nat.succ a) fun a => JK r l.length d a κ) (Ab (sh (Au (x::l)) 1) fun d => JK r l.length d a κ)=_
    rw [QV, QJ, A9, A9, A9, Se r l, Se r l, CQ, Cc]
    by_cases h:x.toNat=r
    · rw [decide_eq_true h, if_pos h]; show κ (a+1+Cc r l)=_; congr 1; omega
    · rw [decide_eq_false h, if_neg h, Nat.zero_add]; rfl
theorem JM {r:Nat}:∀ {l:List UInt8} {j:Nat}, DP r l=some j->j<l.length
  | [], j, h => by cases h
  | x::l, j, h => by
    rw [DP] at h
    by_cases hx:x.toNat=r
    · rw [if_pos hx] at h; cases h; rw [List.length_cons]; omega
    · rw [if_neg hx] at h
      cases hf:DP r l with
      | none => rw [hf] at h; cases h
      | some k => rw [hf] at h; cases h; have := JM hf; rw [List.length_cons]; show k+1<_; omega
theorem pIx {r:Nat} {l:List UInt8} (hl:l.length≤1000000000) (h:Heap) (n:K4):CH [sb l, .int .u8 r] h n = .rv (.int .i64 (J8 r l)) h n := by
  show br (Bk .u8 .u8) (br (Nat.ble l.length 1000000000) (Lg r l.length (Au l) 0 (fun i => .rv (.int .i64 i) h n) (.rv (.int .i64 18446744073709551615) h n)) (.fail "")) (.fail "")=_
  rw [AL.2 rfl, Ac, Aa.2 hl, Ac, Wq, J8]
  cases DP r l with
  | none => rfl
  | some j => show R.rv (.int .i64 (0+j)) h n=_; rw [Nat.zero_add]
theorem pCt {r:Nat} {l:List UInt8} (hl:l.length≤1000000000) (h:Heap) (n:K4):CP [sb l, .int .u8 r] h n = .rv (.int .i64 (Cc r l)) h n := by
  show br (Bk .u8 .u8) (br (Nat.ble l.length 1000000000) (JK r l.length (Au l) 0 fun i => .rv (.int .i64 i) h n) (.fail "")) (.fail "")=_
  rw [AL.2 rfl, Ac, Aa.2 hl, Ac, Se, Nat.zero_add]
theorem X2 {p:K4} {h:Heap} {l:List UInt8} {pr:Option K4} {i r:Nat} (hp:A8 p h=some (.c (cb l) false pr)) (hi:i<l.length) (hr:r<256) (κ:Heap->R):Bb (.ptr p i) (.int .u8 r) h κ=κ (Af p (EL pr h) (some (.c (cb (l.set i (UInt8.ofNat r))) false none))) := by
  show I4 h p i (.int .u8 r) κ=_
  rw [Pw, Gf]
  unfold DV
  rw [H7 hp, Aq]
  have e:(UInt8.ofNat r).toNat=r := by show r % 256=r; omega
  have e2:∀ κ':Cs->R, JB (cb l) i (.l [.int .u8 r]) κ'=JB (cb l) i (cb [UInt8.ofNat r]) κ' := fun κ' => by
    show Ct [.int .u8 r] (fun m d => K7 l.length (Au l) i m d κ') (.fail "")=K7 l.length (Au l) i 1 (Au [UInt8.ofNat r]) κ'
    have := NW [UInt8.ofNat r] (fun m d => K7 l.length (Au l) i m d κ') (.fail "")
    rw [show uc [UInt8.ofNat r]=[.int .u8 r] by show [V.int .u8 (UInt8.ofNat r).toNat]=_; rw [e]] at this
    exact this
  rw [e2, V0 (by show i+1≤_; omega), Gq, B6, List.set_eq_take_append_cons_drop, if_pos hi]; rfl
theorem U1 {p:K4} {h:Heap} {l:List UInt8} {s:Bool} {pr:Option K4} {i:Nat} (hp:A8 p h=some (.c (cb l) s pr)) (hi:i<l.length) (κ:V->R):Lj (A8 p h) i κ=κ (.int .u8 (l[i]'hi).toNat) := by
  rw [hp]
  show Ge (cb l) i κ=_
  show br (Nat.ble (Nat.succ i) l.length) (Ab (Ev.lo (sh (Au l) i) 1) fun r => κ (.int .u8 r)) (.fail _)=_
  rw [show Nat.ble (Nat.succ i) l.length=true from Aa.2 hi, Ac, A9, Gm]
  have e:(l.drop i).take 1=[l[i]'hi] := by rw [List.drop_eq_getElem_cons hi]; rfl
  rw [e]; rfl
/-- A loop over bytes that stops at the first one that may not be. -/
theorem Sa {body:S->Heap->K4->R} {P:UInt8->Bool} {l:List UInt8} {mk fin:Nat->S} {e:Nat} {h:Heap} {n:K4}
    (hs:∀ (i:Nat) (hi:i<l.length), P l[i]=true->body (mk i) h n = .ok .nrm (mk (i+1)) h n) (hb:∀ (i:Nat) (hi:i<l.length), P l[i]=false->body (mk i) h n = .ok .ret (fin i) h n) (he:body (mk l.length) h n = .ok (.exit e) (mk l.length) h n) :
    ∀ (j i:Nat), i+j=l.length->((l.drop i).all P=true ∧ ∀ K, Jy body (K+j+1) (mk i) h n = .ok (.exit e) (mk l.length) h n)∨((l.drop i).all P=false ∧ ∃ i', ∀ K, Jy body (K+j+1) (mk i) h n = .ok .ret (fin i') h n) := by
  intro j
  induction j with
  | zero =>
    intro i hi
    obtain rfl:i=l.length := by omega
    exact .inl ⟨by rw [List.drop_length]; rfl, fun K => by rw [Cg, he, K8]⟩
  | succ j ih =>
    intro i hi
    have hi':i<l.length := by omega
    rw [List.drop_eq_getElem_cons hi', List.all_cons]
    cases hp:P l[i] with
    | false => exact .inr ⟨rfl, i, fun K => by rw [Cg, hb i hi' hp, Qs]⟩
    | true =>
      rcases ih (i+1) (by omega) with ⟨h1, h2⟩ | ⟨h1, i', h2⟩
      · exact .inl ⟨by rw [h1]; rfl, fun K => by rw [show K+(j+1)+1=(K+j+1)+1 by omega, Cg, hs i hi' hp, EC]; exact h2 K⟩
      · exact .inr ⟨by rw [h1]; rfl, i', fun K => by rw [show K+(j+1)+1=(K+j+1)+1 by omega, Cg, hs i hi' hp, EC]; exact h2 K⟩
theorem Hm {body:S->Heap->K4->R} {P:UInt8->Bool} {l:List UInt8} {mk fin:Nat->S} {e:Nat} {h:Heap} {n:K4} (hl:l.length<900000000)
    (hs:∀ (i:Nat) (hi:i<l.length), P l[i]=true->body (mk i) h n = .ok .nrm (mk (i+1)) h n) (hb:∀ (i:Nat) (hi:i<l.length), P l[i]=false->body (mk i) h n = .ok .ret (fin i) h n) (he:body (mk l.length) h n = .ok (.exit e) (mk l.length) h n) :
    (l.all P=true∧Bd body (mk 0) h n = .ok (.exit e) (mk l.length) h n)∨(l.all P=false ∧ ∃ i', Bd body (mk 0) h n = .ok .ret (fin i') h n) := by
  rcases Sa hs hb he l.length 0 (by omega) with ⟨h1, h2⟩ | ⟨h1, i', h2⟩
  · have h3 := h2 (999999999 - l.length)
    rw [show 999999999 - l.length+l.length+1=999999999+1 by omega, Cg, ←Cu] at h3
    exact .inl ⟨h1, h3⟩
  · have h3 := h2 (999999999 - l.length)
    rw [show 999999999 - l.length+l.length+1=999999999+1 by omega, Cg, ←Cu] at h3
    exact .inr ⟨h1, i', h3⟩
end Go.Ev

namespace Go.Ev
open Go.RowKit Go.ChangeShapes
set_option linter.unusedVariables false
theorem Mz {w:World} {a:Addr} {α:Type} {f:α->RV} {Q:α->Prop}:∀ k:Nat, (∀ i, i<k->∃ (o:α) (bl:List Nat), Q o ∧ ∃ v, w.cell? (a.add i)=some v ∧ ∀ ρ, H8 ρ w bl->GK ρ (f o) v) →
    ∃ (l:List α) (bl:List Nat), l.length=k∧(∀ o∈l, Q o) ∧ ∀ ρ, H8 ρ w bl->∀ j r, (l.map f)[j]? = some r->∃ v, w.cell? (a.add j)=some v∧GK ρ r v
  | 0, _ => ⟨[], [], rfl, (fun o ho => by cases ho), fun ρ _ j r h => by simp at h⟩
  | k+1, one => by
    obtain ⟨l, bl, h1, h2, h3⟩ := Mz k fun i hi => one i (by omega)
    obtain ⟨o, cl, g1, v, g2, g3⟩ := one k (by omega)
    refine ⟨l++[o], bl++cl, by simp [h1], fun o' ho => ?_, fun ρ hg j r hj => ?_⟩
    · rcases List.mem_append.1 ho with ho | ho
      · exact h2 o' ho
      · rw [List.mem_singleton.1 ho]; exact g1
    · rw [List.map_append] at hj
      by_cases hjn:j<k
      · rw [List.getElem?_append_left (by simp; omega)] at hj
        exact h3 ρ (hg.sub fun b hb => List.mem_append_left _ hb) j r hj
      · rw [List.getElem?_append_right (by simp; omega)] at hj
        rcases Nat.eq_zero_or_pos (j - (l.map f).length) with h | h
        · rw [h] at hj
          simp at hj
          subst hj
          obtain rfl:j=k := by simp at h; omega
          exact ⟨v, g2, g3 ρ (hg.sub fun b hb => List.mem_append_right _ hb)⟩
        · rw [List.getElem?_eq_none (by simp at h ⊢; omega)] at hj; cases hj
/-- A slice of bools. -/
theorem Uq {P:Program} {H:Type} {enc:TypeId×Value->H} {w:World} {base:Nat} {spare:Nat->Bool} {held:Bool} {fuel:Nat} {t e:TypeId} {cs:List Value} {x:DataW H×List MemPlace}
    (ht:P.underlying t=some (.slice e)) (he:P.underlying e=some .bool) (ce:P.cellsOf e=1) (h:DataW.trod enc P w base spare held fuel t cs=some x) :
    cs=[.slice none 0 0] ∨ ∃ a len cap, cs=[.slice (some a) len cap]∧len≤maxLen ∧ ∃ (l:List Bool) (bl:List Nat), l.length=len ∧
      ∀ ρ φ, H8 ρ w bl->As ρ φ (.oth (.rx (l.map RV.b) len 1)) (.slice (some a) len cap) := by
  rcases Go.Deep.open_slice1 ht ce h with ⟨hc, _⟩ | ⟨a, len, cap, m, n, V, D, Pl, hc, _, hl, hm, hmm, _, hx⟩
  · exact .inl hc
  · have hlm:len≤m := by rw [hmm]; split <;> omega
    obtain ⟨l, bl, h1, _, h3⟩ := Mz (w := w) (a := a) (f := RV.b) (Q := fun _ => True) len fun i hi => by
      obtain ⟨e1, e3⟩ := hx i (by omega)
      obtain ⟨z, ez, _⟩ := DataW.trod_bool he e3
      simp at ez
      exact ⟨z, [], trivial, .bool z, by rw [e1, ez], fun ρ _ => rfl⟩
    exact .inr ⟨a, len, cap, hc, by omega, l, a.block::bl, h1, fun ρ φ hg => XG hl (by simp [h1]) h3 ρ φ hg⟩
end Go.Ev
