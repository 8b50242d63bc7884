/- AN EVALUATOR OF THE MODEL OF Go, PROVED SOUND, PART 5: what it says of a call holds in every world, on every tape. Conditions: none of its own; each theorem bears its premises. -/
import Derived.Test.YtdgefeadbcbglaaMEv4
import Derived.ChangeSame
import Derived.Deep.Slices
import Derived.Shelf.Strconv.Itoa1
import GoSem.ClaimGoes
noncomputable section
set_option linter.unusedSimpArgs false
set_option linter.unusedVariables false
namespace Go.Ev
set_option linter.unusedVariables false
/-- What a function is: code, or a step of the evaluator's own. -/
inductive Ent where
  | code (entry:List V->(S->R)->R) (body:Ei->S->Heap->K4->R) (res:S->Heap->K4->R)
  | prim (p:OW)
  | br (k:Nat) (entry:List V->(S->R)->R) (body:Ei->S->Heap->K4->R) (res:S->Heap->K4->R)
  | ap (f:Nat) (its:List Nat) (rd:Rd)
  | tree (p:OW)
abbrev DR := Option Ent
/-- Sixteen functions. -/
inductive FA where
  | mk (A B C E F G I J L M N O P Q T U:DR)
def FA.sel (d:D) (p:FA):DR :=
  @FA.rec (fun _ => DR) (fun A B C E F G I J L M N O P Q T U => @D.rec (fun _ => DR) A B C E F G I J L M N O P Q T U d) p
def Ah4 (p:FA) (k:DR->R):R := @FA.rec (fun _ => R) (fun A B C E F G I J L M N O P Q T U => k A) p
def Agz (p:FA) (k:DR->R):R := @FA.rec (fun _ => R) (fun A B C E F G I J L M N O P Q T U => k B) p
def Adz (p:FA) (k:DR->R):R := @FA.rec (fun _ => R) (fun A B C E F G I J L M N O P Q T U => k C) p
def Af8 (p:FA) (k:DR->R):R := @FA.rec (fun _ => R) (fun A B C E F G I J L M N O P Q T U => k E) p
def Aeg (p:FA) (k:DR->R):R := @FA.rec (fun _ => R) (fun A B C E F G I J L M N O P Q T U => k F) p
def Ade (p:FA) (k:DR->R):R := @FA.rec (fun _ => R) (fun A B C E F G I J L M N O P Q T U => k G) p
def Adj (p:FA) (k:DR->R):R := @FA.rec (fun _ => R) (fun A B C E F G I J L M N O P Q T U => k I) p
def Afn (p:FA) (k:DR->R):R := @FA.rec (fun _ => R) (fun A B C E F G I J L M N O P Q T U => k J) p
def Adr (p:FA) (k:DR->R):R := @FA.rec (fun _ => R) (fun A B C E F G I J L M N O P Q T U => k L) p
def Ah3 (p:FA) (k:DR->R):R := @FA.rec (fun _ => R) (fun A B C E F G I J L M N O P Q T U => k M) p
def Abo (p:FA) (k:DR->R):R := @FA.rec (fun _ => R) (fun A B C E F G I J L M N O P Q T U => k N) p
def Abq (p:FA) (k:DR->R):R := @FA.rec (fun _ => R) (fun A B C E F G I J L M N O P Q T U => k O) p
def Ac3 (p:FA) (k:DR->R):R := @FA.rec (fun _ => R) (fun A B C E F G I J L M N O P Q T U => k P) p
def Aah (p:FA) (k:DR->R):R := @FA.rec (fun _ => R) (fun A B C E F G I J L M N O P Q T U => k Q) p
def ZG (p:FA) (k:DR->R):R := @FA.rec (fun _ => R) (fun A B C E F G I J L M N O P Q T U => k T) p
def Aab (p:FA) (k:DR->R):R := @FA.rec (fun _ => R) (fun A B C E F G I J L M N O P Q T U => k U) p
def FA.selK (d:D):FA->(DR->R)->R :=
  @D.rec (fun _ => FA->(DR->R)->R) Ah4 Agz Adz Af8 Aeg Ade Adj Afn Adr Ah3 Abo Abq Ac3 Aah ZG Aab d
theorem FA.selK_eq (d:D) (p:FA) (k:DR->R):FA.selK d p k=k (FA.sel d p) := by
  cases d <;> cases p <;> rfl
/-- Of those sixteen. -/
inductive FB where
  | mk (A B C E F G I J L M N O P Q T U:FA)
def FB.sel (d:D) (p:FB):FA :=
  @FB.rec (fun _ => FA) (fun A B C E F G I J L M N O P Q T U => @D.rec (fun _ => FA) A B C E F G I J L M N O P Q T U d) p
def Ag1 (p:FB) (k:FA->R):R := @FB.rec (fun _ => R) (fun A B C E F G I J L M N O P Q T U => k A) p
def Afa (p:FB) (k:FA->R):R := @FB.rec (fun _ => R) (fun A B C E F G I J L M N O P Q T U => k B) p
def Ae6 (p:FB) (k:FA->R):R := @FB.rec (fun _ => R) (fun A B C E F G I J L M N O P Q T U => k C) p
def Afo (p:FB) (k:FA->R):R := @FB.rec (fun _ => R) (fun A B C E F G I J L M N O P Q T U => k E) p
def Adf (p:FB) (k:FA->R):R := @FB.rec (fun _ => R) (fun A B C E F G I J L M N O P Q T U => k F) p
def Ae3 (p:FB) (k:FA->R):R := @FB.rec (fun _ => R) (fun A B C E F G I J L M N O P Q T U => k G) p
def Ah2 (p:FB) (k:FA->R):R := @FB.rec (fun _ => R) (fun A B C E F G I J L M N O P Q T U => k I) p
def Aej (p:FB) (k:FA->R):R := @FB.rec (fun _ => R) (fun A B C E F G I J L M N O P Q T U => k J) p
def Acu (p:FB) (k:FA->R):R := @FB.rec (fun _ => R) (fun A B C E F G I J L M N O P Q T U => k L) p
def Aga (p:FB) (k:FA->R):R := @FB.rec (fun _ => R) (fun A B C E F G I J L M N O P Q T U => k M) p
def Ac8 (p:FB) (k:FA->R):R := @FB.rec (fun _ => R) (fun A B C E F G I J L M N O P Q T U => k N) p
def Abs (p:FB) (k:FA->R):R := @FB.rec (fun _ => R) (fun A B C E F G I J L M N O P Q T U => k O) p
def Ac4 (p:FB) (k:FA->R):R := @FB.rec (fun _ => R) (fun A B C E F G I J L M N O P Q T U => k P) p
def ZO (p:FB) (k:FA->R):R := @FB.rec (fun _ => R) (fun A B C E F G I J L M N O P Q T U => k Q) p
def Aaz (p:FB) (k:FA->R):R := @FB.rec (fun _ => R) (fun A B C E F G I J L M N O P Q T U => k T) p
def Aaa (p:FB) (k:FA->R):R := @FB.rec (fun _ => R) (fun A B C E F G I J L M N O P Q T U => k U) p
def FB.selK (d:D):FB->(FA->R)->R :=
  @D.rec (fun _ => FB->(FA->R)->R) Ag1 Afa Ae6 Afo Adf Ae3 Ah2 Aej Acu Aga Ac8 Abs Ac4 ZO Aaz Aaa d
theorem FB.selK_eq (d:D) (p:FB) (k:FA->R):FB.selK d p k=k (FB.sel d p) := by
  cases d <;> cases p <;> rfl
/-- The table of the functions. -/
inductive FC where
  | mk (A B C E F G I J L M N O P Q T U:FB)
def FC.sel (d:D) (p:FC):FB :=
  @FC.rec (fun _ => FB) (fun A B C E F G I J L M N O P Q T U => @D.rec (fun _ => FB) A B C E F G I J L M N O P Q T U d) p
def Acv (p:FC) (k:FB->R):R := @FC.rec (fun _ => R) (fun A B C E F G I J L M N O P Q T U => k A) p
def Afc (p:FC) (k:FB->R):R := @FC.rec (fun _ => R) (fun A B C E F G I J L M N O P Q T U => k B) p
def Ad5 (p:FC) (k:FB->R):R := @FC.rec (fun _ => R) (fun A B C E F G I J L M N O P Q T U => k C) p
def Agj (p:FC) (k:FB->R):R := @FC.rec (fun _ => R) (fun A B C E F G I J L M N O P Q T U => k E) p
def Aco (p:FC) (k:FB->R):R := @FC.rec (fun _ => R) (fun A B C E F G I J L M N O P Q T U => k F) p
def Ah1 (p:FC) (k:FB->R):R := @FC.rec (fun _ => R) (fun A B C E F G I J L M N O P Q T U => k G) p
def Afd (p:FC) (k:FB->R):R := @FC.rec (fun _ => R) (fun A B C E F G I J L M N O P Q T U => k I) p
def Aei (p:FC) (k:FB->R):R := @FC.rec (fun _ => R) (fun A B C E F G I J L M N O P Q T U => k J) p
def Acl (p:FC) (k:FB->R):R := @FC.rec (fun _ => R) (fun A B C E F G I J L M N O P Q T U => k L) p
def Ad2 (p:FC) (k:FB->R):R := @FC.rec (fun _ => R) (fun A B C E F G I J L M N O P Q T U => k M) p
def Aba (p:FC) (k:FB->R):R := @FC.rec (fun _ => R) (fun A B C E F G I J L M N O P Q T U => k N) p
def Aa7 (p:FC) (k:FB->R):R := @FC.rec (fun _ => R) (fun A B C E F G I J L M N O P Q T U => k O) p
def Aai (p:FC) (k:FB->R):R := @FC.rec (fun _ => R) (fun A B C E F G I J L M N O P Q T U => k P) p
def Abw (p:FC) (k:FB->R):R := @FC.rec (fun _ => R) (fun A B C E F G I J L M N O P Q T U => k Q) p
def Abd (p:FC) (k:FB->R):R := @FC.rec (fun _ => R) (fun A B C E F G I J L M N O P Q T U => k T) p
def ZC (p:FC) (k:FB->R):R := @FC.rec (fun _ => R) (fun A B C E F G I J L M N O P Q T U => k U) p
def FC.selK (d:D):FC->(FB->R)->R :=
  @D.rec (fun _ => FC->(FB->R)->R) Acv Afc Ad5 Agj Aco Ah1 Afd Aei Acl Ad2 Aba Aa7 Aai Abw Abd ZC d
theorem FC.selK_eq (d:D) (p:FC) (k:FB->R):FC.selK d p k=k (FC.sel d p) := by
  cases d <;> cases p <;> rfl
def B0 (k:K3) (T:FC):DR := FA.sel k.c (FB.sel k.b (FC.sel k.a T))
def X5 (k:K3) (T:FC) (κ:DR->R):R := @K3.rec (fun _ => R) (fun a b c => FC.selK a T fun x => FB.selK b x fun y => FA.selK c y κ) k
theorem Su (k:K3) (T:FC) (κ:DR->R):X5 k T κ=κ (B0 k T) := by
  cases k; simp only [X5, B0, FC.selK_eq, FB.selK_eq, FA.selK_eq]
abbrev Qb (ps:List K2):List V->Regs->(Regs->R)->R :=
  @List.rec K2 (fun _ => List V->Regs->(Regs->R)->R) (fun l t κ => SC l (κ t)) (fun p _ ih l t κ => K0 l fun v l => O9 p t v fun t => ih l t κ) ps
theorem Pp:∀ (ps:List K2) (l:List V) (t:Regs) (κ:Regs->R), Qb ps l t κ=Td l ps t κ
  | [], l, t, κ => by cases l <;> rfl
  | p::ps, l, t, κ => by
    cases l with
    | nil => rfl
    | cons v l =>
      show O9 p t v (fun t => Qb ps l t κ)=O9 p t v fun t => Td l ps t κ
      rw [Oy, Oy, Pp]
def Lg (r:R) (res:S->Heap->K4->R):R :=
  @R.rec (fun _ => R) (fun e t h n => @Ex.rec (fun _ => R) (res t h n) (AT "") (res t h n) e) (Ca "") (fun w => .fail w) (fun _ _ a b => .both a b) r
def Mo (r:R):R := @R.rec (fun _ => R) (Fn "") (fun v h n => .rv v h n) (fun w => .fail w) (Fn "") r
def XU (v:V) (yes no:R):R :=
  @V.rec (fun _ => R) (fun _ => Unit) (fun _ _ => no) (fun _ => no) (fun _ _ => no) (fun _ _ _ _ _ _ => no) (fun _ _ => no) (fun _ _ => no) (fun _ => no) (fun _ => no) (fun _ _ _ => no) (fun _ _ => no)
    (fun o => @Ot.rec (fun _ => R) no (fun _ => no) (fun _ => no) yes (fun _ _ _ => no) (fun _ _ => no) no (fun _ _ => no) (fun _ _ _ _ => no) (fun _ _ _ _ => no) (fun _ _ _ => no) (fun _ _ => no) (fun _ _ => no) (fun _ _ _ => no) (fun _ => no) o) () (fun _ _ _ _ => ()) v
def apX (f:Nat) (its:List Nat) (rd:Rd) (cf:Ei) (args:List V) (h:Heap) (n:K4):R :=
  K0 args fun v l => XU v (K0 l fun b l => K0 l fun x l => SC l (rd cf b x h n)) (Z4 f its cf args h n)
def Ol (cf:Ei) (o:DR) (args:List V) (h:Heap) (n:K4):R :=
  @Option.rec Ent (fun _ => R) (.fail "") (fun e => @Ent.rec (fun _ => R) (fun entry body res => entry args fun t => Lg (body cf t h n) res) (fun p => Mo (p args h n)) (fun k entry body res => Mo (brK k (fun hs => entry args fun t => Lg (body cf t hs n) res) args h n)) (fun f its rd => apX f its rd cf args h n) (fun p => p args h n) e) o
/-- What a call comes to. -/
def Ak (T:FC) (m:Nat):Ei :=
  @Nat.rec (fun _ => Ei) (Fn "") (fun _ ih f args h n => X5 f T fun o => Ol ih o args h n) m
/-- The kept registers out of all of them. -/
abbrev Zt (sm:SM) (t:Regs):S := @List.rec (K2×SL) (fun _ => S) Fl (fun x _ ih => S.put x.2 ih (Bz x.1 t)) sm
theorem Sq {t:Regs}:∀ {sm:SM}, QD sm=true->∀ {p:K2} {s:SL}, CO p sm=some s->S.get s (Zt sm t)=Bz p t
  | [], _, p, s, h => by cases h
  | x::l, hok, p, s, h => by
    simp only [QD, Bool.and_eq_true] at hok
    have e1:Zt (x::l) t=S.put x.2 (Zt l t) (Bz x.1 t) := rfl
    rw [e1]
    simp only [CO] at h
    cases hb:K2.beq x.1 p with
    | true =>
      rw [hb] at h
      have h:some x.2=some s := h
      cases h
      rw [S.get_put_same, K2.beq_iff.1 hb]
    | false =>
      rw [hb] at h
      have h:CO p l=some s := h
      have hne:x.2≠s := fun e => by
        have := List.all_eq_true.1 hok.1 _ (Hs h)
        rw [←e] at this
        simp [SL.beq, O8.beq_self, O4.beq_self] at this
      rw [S.get_put_ne _ _ hne]
      exact Sq hok.2 h
abbrev Wk (sm:SM) (r:ARes) (t:S) (h:Heap) (κ:V->R):R :=
  @ARes.rec (fun _ => R) (fun p => BE sm [] t (.t p) κ) (fun p m => BE sm [] t (.t p) fun v => Kk v fun q off => KG q h fun cs _ _ =>
    @Option.rec Nat (fun _ => R) (Fb cs off κ) (fun m => AW cs off m fun y => Eh y fun l => κ (.agg l)) m) r
abbrev S4 (sm:SM) (rs:List ARes) (t:S) (h:Heap):(List V->R)->R :=
  @List.rec ARes (fun _ => (List V->R)->R) (fun κ => κ []) (fun r _ ih κ => Wk sm r t h fun v => ih fun vs => κ (v::vs)) rs
abbrev PZ (sm:SM) (rs:List ARes) (t:S) (h:Heap) (n:K4):R :=
  S4 sm rs t h fun l => @List.rec V (fun _ => R) (.rv (.tup []) h n) (fun v vs _ => @List.rec V (fun _ => R) (.rv v h n) (fun _ _ _ => .rv (.tup l) h n) vs) l
/-- A function as it is run. -/
abbrev Aer (sm:SM) (a:AFn):Ent := @AFn.rec (fun _ => Ent) (fun ps c rs => .code (fun l κ => Qb ps l Kv fun t => κ (Zt sm t)) (fun cf t h n => HJ sm cf c r0 [] t h n) (fun t h n => PZ sm rs t h n)) a
def ARes.reg (r:ARes):K2 := @ARes.rec (fun _ => K2) (fun p => p) (fun p _ => p) r
def okF (sm:SM) (a:AFn):Bool := QD sm&&(Ko sm a.code (fun _ => true) []&&a.rs.all fun r => HY sm r.reg)
abbrev Ac2 (sm:SM) (o:Option AFn):DR := @Option.rec AFn (fun _ => DR) none (fun a => some (Aer sm a)) o
def okO (sm:SM) (o:Option AFn):Bool := @Option.rec AFn (fun _ => Bool) false (fun a => okF sm a) o
section
variable {P:Program} {ρ:Env} {B:Nat}
/-- It is that function. -/
def AN (P:Program) (f:FuncId) (e:Ent):Prop := ∃ sm:SM, Ac2 sm (KD P f)=some e∧okO sm (KD P f)=true
theorem AN.mk {f:FuncId} {e:Ent} (sm:SM) (h:Ac2 sm (KD P f)=some e) (k:okO sm (KD P f)=true):AN P f e := ⟨sm, h, k⟩
/-- It is that function, run on what it can reach. -/
def Acp (P:Program) (f:FuncId) (e:Ent):Prop := ∃ k en bo re, e = .br k en bo re∧AN P f (.code en bo re)
/-- It ranges over a function. -/
def F0 (P:Program) (ρ:Env) (f:FuncId) (e:Ent):Prop := ∃ its rd A, e = .ap f its rd∧ρ.ap f=some A∧Ma P f=some A∧VA P A=some rd ∧ ∀ g∈its, Ks P g
/-- A step of the evaluator's own that may come to many ways. -/
def UK (P:Program) (ρ:Env) (B:Nat) (f:FuncId) (p:OW):Prop :=
  ∀ args h n (Φ:R->Prop), (p args h n).sat Φ->∀ φ w (xs:Array Value), Gam ρ B h n φ w->BO ρ φ args xs.toList →
    NW P f xs w fun x w' => ∃ v h1 n1 φ', Φ (.rv v h1 n1)∧Fr h h1 φ φ' n n1 w w'∧Gam ρ B h1 n1 φ' w'∧As ρ φ' v x
def MV (P:Program) (ρ:Env) (B:Nat) (f:FuncId) (e:Ent):Prop := (AN P f e∨Acp P f e)∨((∃ p, e = .prim p∧Qk P ρ B f p)∨(F0 P ρ f e ∨ ∃ p, e = .tree p∧UK P ρ B f p))
def JC (P:Program) (ρ:Env) (B:Nat) (T:FC):Prop := (∀ f e, B0 (B2 f) T=some e->MV P ρ B f e) ∧ ∀ f A, ρ.ap f=some A->∃ e, B0 (B2 f) T=some e∧F0 P ρ f e
theorem N2 {r:R} {Φ:R->Prop} (h:(Mo r).sat Φ):∃ v h1 n1, r = .rv v h1 n1∧Φ (.rv v h1 n1) := by
  cases r with
  | rv v h1 n1 => exact ⟨v, h1, n1, rfl, h⟩
  | _ => exact h.elim
theorem VK {sm:SM} {r:ARes} {t:Regs} {t':S} (ri:RI sm [] [] t t') (hk:HY sm r.reg=true) (hp:Heap) (κ:V->R):Wk sm r t' hp κ=Lr r t hp κ := by
  have kn:∀ p, HY sm p=true->E5 sm [] p=true := fun p h => by unfold E5; rw [h, Bool.or_true]
  cases r with
  | tmp p => show BE sm [] t' (.t p) κ=HX p t κ; rw [ri.tell (kn p hk), D0]
  | cel p m =>
    show BE sm [] t' (.t p) _=HX p t _
    rw [ri.tell (kn p hk), D0, E4]
theorem P0 {sm:SM} {t:Regs} {t':S} (ri:RI sm [] [] t t') {hp:Heap}:∀ {rs:List ARes} {κ:List V->R}, (∀ r∈rs, HY sm r.reg=true)->S4 sm rs t' hp κ=Kc rs t hp κ
  | [], κ, _ => rfl
  | r::rs, κ, h => by
    have e1:S4 sm (r::rs) t' hp κ=Wk sm r t' hp fun v => S4 sm rs t' hp fun vs => κ (v::vs) := rfl
    have e2:Kc (r::rs) t hp κ=Lr r t hp fun v => Kc rs t hp fun vs => κ (v::vs) := rfl
    rw [e1, e2, VK ri (h r (List.mem_cons_self ..))]
    congr 1; funext v
    exact P0 ri fun r hr => h r (List.mem_cons_of_mem _ hr)
theorem Ur {sm:SM} {t:Regs} {t':S} (ri:RI sm [] [] t t') {hp:Heap} {n:K4} {rs:List ARes} (h:∀ r∈rs, HY sm r.reg=true):PZ sm rs t' hp n=Qu rs t hp n := P0 ri h
/-- What is asked behind a body. -/
def Aa1 (res:S->Heap->K4->R) (Φ:R->Prop):R->Prop
  | .ok .nrm t h n => (res t h n).sat Φ
  | .ok .ret t h n => (res t h n).sat Φ
  | _ => False
theorem LA {res:S->Heap->K4->R} {Φ:R->Prop}:∀ {r:R}, (Lg r res).sat Φ->r.sat (Aa1 res Φ)
  | .ok e t h n, hs => by
    cases e with
    | nrm => exact hs
    | ret => exact hs
    | exit j => exact hs.elim
  | .rv _ _ _, hs => hs.elim
  | .fail _, hs => hs.elim
  | .both a b, hs => ⟨LA (r := a) hs.1, LA (r := b) hs.2⟩
theorem Xm {r:ARes} {t:Regs} {h:Heap} {κ:V->R} (hg:(Lr r t h κ).good):∃ v, Lr r t h κ=κ v := by
  cases r with
  | tmp p => exact ⟨_, D0 p t κ⟩
  | cel p m =>
    have e1:Lr (.cel p m) t h κ=Kk (Bz p t) fun q off => H6 q h fun cs _ _ =>
        @Option.rec Nat (fun _ => R) (Fb cs off κ) (fun m => AW cs off m fun y => Eh y fun l => κ (.agg l)) m := D0 p t _
    rw [e1] at hg
    obtain ⟨q, off, hv, e2⟩ := DB hg
    rw [e2] at hg
    obtain ⟨cs, sup, prev, hq, e3⟩ := Dk hg
    rw [e3] at hg
    cases m with
    | none =>
      obtain ⟨v, _, e4⟩ := Hr (show R.good (Fb cs off κ) from hg)
      exact ⟨v, e1.trans (e2.trans (e3.trans e4))⟩
    | some m =>
      obtain ⟨hle, y, hyl, hya, e4⟩ := CS (show R.good (AW cs off m fun y => Eh y fun l => κ (.agg l)) from hg)
      obtain ⟨l, e5, _, _⟩ := Gu y fun l => κ (.agg l)
      exact ⟨.agg l, e1.trans (e2.trans (e3.trans (Eq.trans e4 e5)))⟩
theorem S2:∀ {rs:List ARes} {t:Regs} {h:Heap} {κ:List V->R}, (Kc rs t h κ).good->∃ vs, Kc rs t h κ=κ vs
  | [], t, h, κ, _ => ⟨[], rfl⟩
  | r::rs, t, h, κ, hg => by
    have hg:R.good (Lr r t h fun v => Kc rs t h fun vs => κ (v::vs)) := hg
    obtain ⟨v, e1⟩ := Xm hg
    rw [e1] at hg
    obtain ⟨vs, e2⟩ := S2 hg
    exact ⟨v::vs, Eq.trans e1 e2⟩
theorem Xw {rs:List ARes} {t:Regs} {h:Heap} {n:K4} (hg:(Qu rs t h n).good):∃ v, Qu rs t h n = .rv v h n := by
  obtain ⟨vs, e⟩ := S2 (show R.good (Kc rs t h _) from hg)
  have e:Qu rs t h n=_ := e
  match vs, e with
  | [], e => exact ⟨_, e⟩
  | [u], e => exact ⟨_, e⟩
  | u::u'::us, e => exact ⟨_, e⟩
theorem NA (hρ:BJ ρ) (hm:P.follows .mixedOrders=true) {cf:CF} {cf2:Ei} (hct:IF P ρ B cf) (hR:IJ P ρ B cf) (h2:∀ f, cf2 (B2 f)=cf f) {f:FuncId} {e:Ent} (he:AN P f e) {args:List V} {h:Heap} {n:K4} {Φ:R->Prop}
    (hr:(Ol cf2 (some e) args h n).sat Φ) {φ:AS} {w:World} {xs:Array Value} (g:Gam ρ B h n φ w) (hxs:BO ρ φ args xs.toList) :
    NW P f xs w fun x w' => ∃ v h1 n1 φ', Φ (.rv v h1 n1)∧Fr h h1 φ φ' n n1 w w'∧Gam ρ B h1 n1 φ' w'∧As ρ φ' v x := by
  obtain ⟨sm, hd, hok⟩ := he
  cases hf:KD P f with
  | none => rw [hf] at hd; cases hd
  | some a =>
    rw [hf] at hd hok
    obtain ⟨fn, c, ps, rs, hfn, hb, hps, hrs, hname, rfl⟩ := QU hf
    have hd:some (Ent.code (fun l κ => Qb ps l Kv fun t => κ (Zt sm t)) (fun cf t h n => HJ sm cf (B6 P fn.ntmps c) r0 [] t h n) (fun t h n => PZ sm rs t h n))=some e := hd
    cases hd
    have hok:(QD sm&&(Ko sm (B6 P fn.ntmps c) (fun _ => true) []&&rs.all fun r => HY sm r.reg))=true := hok
    rw [Bool.and_eq_true, Bool.and_eq_true] at hok
    obtain ⟨hsm, hok⟩ := hok
    have inj:∀ {p q s}, CO p sm=some s->CO q sm=some s->p=q := fun h h' => Pe hsm h h'
    have hr:(Qb ps args Kv (fun t => Lg (HJ sm cf2 (B6 P fn.ntmps c) r0 [] (Zt sm t) h n) fun t h n => PZ sm rs t h n)).sat Φ := hr
    rw [Pp] at hr
    obtain ⟨hlen, t0, e2, H0⟩ := Mu (k := 0) (fun i s hi => by
      obtain ⟨hi', hi2⟩ := List.getElem?_eq_some_iff.1 hi
      simp at hi2; omega) hps (R.sat_good hr)
    rw [e2] at hr
    simp only [List.length_range] at hlen
    have hxl:xs.size=args.length := by have := B1 hxs; simpa using this
    have hxN:xs.size≤fn.ntmps := by
      rcases Nat.eq_zero_or_pos xs.size with h0 | h0
      · omega
      · have := ME hps (xs.size - 1) (List.mem_range.2 (by omega)); omega
    have hT:TR ρ fn.ntmps φ t0 { tmps := xs++Array.replicate (fn.ntmps - xs.size) undef, defers := [] } := {
      size := by simp; omega
      defers := rfl
      at_ := fun s p hs hp => by
        rw [H0 s p hp, if_pos (Nat.zero_le _), Nat.sub_zero, PE]
        show As ρ φ _ ((xs++Array.replicate (fn.ntmps - xs.size) undef).getD s undef)
        rw [Array.getD_eq_getD_getElem?]
        by_cases hsx:s<xs.size
        · rw [Array.getElem?_append_left hsx]
          have hsa:s<args.length := by omega
          rw [List.getElem?_eq_getElem hsa]
          obtain ⟨x, hx, hrx⟩ := (Cy.1 hxs).2 s _ (List.getElem?_eq_getElem hsa)
          rw [Array.getElem?_toList] at hx
          rw [hx]; exact hrx
        · rw [Array.getElem?_append_right (by omega), Array.getElem?_replicate, if_pos (by omega), List.getElem?_eq_none (by omega)]
          exact Ff }
    have hx := LA hr
    have hOK := (YM (N := fn.ntmps) (sm := sm) hρ hm hct hR h2 c).join hok.1 (RI.start inj fun p s hs => Sq hsm hs) hx
    intro o a K Q hK
    have hcf':(callFunc f xs).run P w = .ok (.enter f xs) w := by
      have hname':fn.name ≠ "runtime.NumGoroutine" := by simpa using hname
      simp [callFunc, hfn, hname', hb]
    rw [hcf']
    refine calls_of_wp hfn hb (hOK φ _ w hT g _ fun e t1 h2' n2 hres φ' a' w' tf f1 g1 T1 hk => ?_)
    have fin:(PZ sm rs t1 h2' n2).sat Φ->∃ X, (results fn a'.tmps).run P w' = .ok X w'∧K (a.put o.dst X) w' := fun hres => by
      rw [Ur (RI.start inj hk) fun r hr => List.all_eq_true.1 hok.2 r hr] at hres
      obtain ⟨v, hv⟩ := Xw (R.sat_good hres)
      obtain ⟨_, _, Hres⟩ := Tr (ρ := ρ) (B := B) hrs hv
      rw [hv] at hres
      obtain ⟨X, hX, hrX⟩ := Hres φ' a' w' T1 g1
      exact ⟨X, hX, hK X w' ⟨v, h2', n2, φ', hres, f1, g1, hrX⟩⟩
    cases e with
    | nrm => obtain ⟨X, hX, hKX⟩ := fin hres; exact ⟨T1.defers, X, hX, hKX⟩
    | exit id => exact hres.elim
    | ret => obtain ⟨X, hX, hKX⟩ := fin hres; exact ⟨T1.defers, X, hX, hKX⟩
/-- THE CALL IS SOUND. -/
theorem Te (hρ:BJ ρ) (hm:P.follows .mixedOrders=true) {T:FC} (hT:JC P ρ B T):∀ m, IF P ρ B (fun f => Ak T m (B2 f))∧IJ P ρ B (fun f => Ak T m (B2 f)) := by
  intro m
  induction m with
  | zero => exact ⟨fun f args h n Φ hr => hr.elim, fun f A fn hA box x h n Φ hr => hr.elim⟩
  | succ m ih =>
    obtain ⟨hct, hR⟩ := ih
    have e1:∀ f args h n, Ak T (m+1) (B2 f) args h n=Ol (Ak T m) (B0 (B2 f) T) args h n := fun f args h n => Su (B2 f) T fun o => Ol (Ak T m) o args h n
    refine ⟨fun f args h n Φ hr φ w xs g hxs => ?_, fun f A fn hA box x h n Φ hr φ w tmps X l D g hrec unc hsz hbox hX => ?_⟩
    · have hr:(Ak T (m+1) (B2 f) args h n).sat Φ := hr
      rw [e1] at hr
      cases ho:B0 (B2 f) T with
      | none => rw [ho] at hr; exact hr.elim
      | some e =>
        rw [ho] at hr
        rcases hT.1 f e ho with (he | ⟨k, en, bo, re, rfl, he⟩) | (⟨p, rfl, hp⟩ | (⟨its, rd, A, rfl, hA, h1, h2, h3⟩ | ⟨p, rfl, hp⟩))
        · exact NA hρ hm hct hR (fun _ => rfl) he hr g hxs
        · obtain ⟨v, h1, n1, hr, hΦ⟩ := N2 (show (Mo (brK k (fun hs => en args fun t => Lg (bo (Ak T m) t hs n) re) args h n)).sat Φ from hr)
          intro o a K Q hK
          exact YQ hr g hxs (fun hs Φ hsat gs => NA hρ hm hct hR (fun _ => rfl) he (h := hs) hsat gs hxs) o a K Q fun x w' ⟨φ', f1, g1, r1⟩ => hK x w' ⟨v, h1, n1, φ', hΦ, f1, g1, r1⟩
        · obtain ⟨v, h1, n1, hr, hΦ⟩ := N2 (show (Mo (p args h n)).sat Φ from hr)
          intro o a K Q hK
          exact hp args h n v h1 n1 hr φ w xs g hxs o a K Q fun x w' ⟨φ', f1, g1, r1⟩ => hK x w' ⟨v, h1, n1, φ', hΦ, f1, g1, r1⟩
        · have hr:(apX f its rd (Ak T m) args h n).sat Φ := hr
          unfold apX at hr
          obtain ⟨v, l, hl, q1⟩ := IY (R.sat_good hr)
          rw [q1] at hr
          subst hl
          by_cases hv:v = .oth .no
          · subst hv
            obtain ⟨y, ys, _, hy, _⟩ := Aw.1 hxs
            simp only [As] at hy
          · have e2:∀ A C:R, XU v A C=C := fun A C => by
              cases v with
              | oth o => cases o with
                | no => exact absurd rfl hv
                | _ => rfl
              | _ => rfl
            rw [e2] at hr
            exact Abi hA h1 h3 hct (fun _ => rfl) hr g hxs
        · exact hp args h n Φ hr φ w xs g hxs
    · obtain ⟨e, ho, its, rd, A', rfl, hA', h1, h2, h3⟩ := hT.2 f A hA
      rw [hA] at hA'; cases hA'
      have hr:(Ak T (m+1) (B2 f) [.oth .no, .ptr box 0, x] h n).sat Φ := hr
      rw [e1, ho] at hr
      have hr:(rd (Ak T m) (.ptr box 0) x h n).sat Φ := hr
      exact Aak hρ hct.ok (fun _ => rfl) h2 hr g hrec unc hsz hbox hX
theorem U7 (hρ:BJ ρ) (hm:P.follows .mixedOrders=true) {T:FC} (hT:JC P ρ B T) (m:Nat):Ey P ρ B fun f => Ak T m (B2 f) := (Te hρ hm hT m).1.ok
end
end Go.Ev

namespace Go.Ev
open Go.RowKit
set_option linter.unusedVariables false
abbrev Bu (w:Bool) (v:V) (h:Heap) (n:K4) (F:KV->R) (κ:KV):R := gd w v F κ h n
abbrev AD (v:V):R := .rv v AL ⟨.d0, .d0, .d0, .d0⟩
abbrev alY (b:K4) (j:D) (h:Heap) (F:K4->R) (κ:KV):R := b.at j fun r => BC r h fun x => Gq x (FL (F r) κ)
abbrev alX (b:K4) (j:D) (h:Heap) (F:K4->R) (κ:V->Heap->R):R := alY b j h F fun v h _ => κ v h
abbrev noX (b:K4) (j:D) (h:Heap) (κ:R):R := b.at j fun r => BC r h fun x => Gq x κ
abbrev WU (m:Nat) (v:V) (h:Heap) (κ:V->R):R := Kk v fun q off => KG q h fun cs _ _ => AW cs off m fun y => Eh y fun l => κ (.agg l)
abbrev U:V := Ar
abbrev Q0:SQ := .mk U U U U
abbrev g0 (t:S) (k:V->R):R := @S.rec (fun _ => R) (fun c0 c1 c2 c3 c4 c5 c6 c7 => @SQ.rec (fun _ => R) (fun d0 d1 d2 d3 => k d0) c0) t
abbrev w0 (t:S) (v:V) (k:S->R):R := @S.rec (fun _ => R) (fun c0 c1 c2 c3 c4 c5 c6 c7 => @SQ.rec (fun _ => R) (fun d0 d1 d2 d3 => k (.mk (.mk v d1 d2 d3) c1 c2 c3 c4 c5 c6 c7)) c0) t
abbrev g1 (t:S) (k:V->R):R := @S.rec (fun _ => R) (fun c0 c1 c2 c3 c4 c5 c6 c7 => @SQ.rec (fun _ => R) (fun d0 d1 d2 d3 => k d1) c0) t
abbrev w1 (t:S) (v:V) (k:S->R):R := @S.rec (fun _ => R) (fun c0 c1 c2 c3 c4 c5 c6 c7 => @SQ.rec (fun _ => R) (fun d0 d1 d2 d3 => k (.mk (.mk d0 v d2 d3) c1 c2 c3 c4 c5 c6 c7)) c0) t
abbrev g2 (t:S) (k:V->R):R := @S.rec (fun _ => R) (fun c0 c1 c2 c3 c4 c5 c6 c7 => @SQ.rec (fun _ => R) (fun d0 d1 d2 d3 => k d2) c0) t
abbrev w2 (t:S) (v:V) (k:S->R):R := @S.rec (fun _ => R) (fun c0 c1 c2 c3 c4 c5 c6 c7 => @SQ.rec (fun _ => R) (fun d0 d1 d2 d3 => k (.mk (.mk d0 d1 v d3) c1 c2 c3 c4 c5 c6 c7)) c0) t
abbrev g3 (t:S) (k:V->R):R := @S.rec (fun _ => R) (fun c0 c1 c2 c3 c4 c5 c6 c7 => @SQ.rec (fun _ => R) (fun d0 d1 d2 d3 => k d3) c0) t
abbrev w3 (t:S) (v:V) (k:S->R):R := @S.rec (fun _ => R) (fun c0 c1 c2 c3 c4 c5 c6 c7 => @SQ.rec (fun _ => R) (fun d0 d1 d2 d3 => k (.mk (.mk d0 d1 d2 v) c1 c2 c3 c4 c5 c6 c7)) c0) t
abbrev g4 (t:S) (k:V->R):R := @S.rec (fun _ => R) (fun c0 c1 c2 c3 c4 c5 c6 c7 => @SQ.rec (fun _ => R) (fun d0 d1 d2 d3 => k d0) c1) t
abbrev w4 (t:S) (v:V) (k:S->R):R := @S.rec (fun _ => R) (fun c0 c1 c2 c3 c4 c5 c6 c7 => @SQ.rec (fun _ => R) (fun d0 d1 d2 d3 => k (.mk c0 (.mk v d1 d2 d3) c2 c3 c4 c5 c6 c7)) c1) t
abbrev g5 (t:S) (k:V->R):R := @S.rec (fun _ => R) (fun c0 c1 c2 c3 c4 c5 c6 c7 => @SQ.rec (fun _ => R) (fun d0 d1 d2 d3 => k d1) c1) t
abbrev w5 (t:S) (v:V) (k:S->R):R := @S.rec (fun _ => R) (fun c0 c1 c2 c3 c4 c5 c6 c7 => @SQ.rec (fun _ => R) (fun d0 d1 d2 d3 => k (.mk c0 (.mk d0 v d2 d3) c2 c3 c4 c5 c6 c7)) c1) t
abbrev g6 (t:S) (k:V->R):R := @S.rec (fun _ => R) (fun c0 c1 c2 c3 c4 c5 c6 c7 => @SQ.rec (fun _ => R) (fun d0 d1 d2 d3 => k d2) c1) t
abbrev w6 (t:S) (v:V) (k:S->R):R := @S.rec (fun _ => R) (fun c0 c1 c2 c3 c4 c5 c6 c7 => @SQ.rec (fun _ => R) (fun d0 d1 d2 d3 => k (.mk c0 (.mk d0 d1 v d3) c2 c3 c4 c5 c6 c7)) c1) t
abbrev g7 (t:S) (k:V->R):R := @S.rec (fun _ => R) (fun c0 c1 c2 c3 c4 c5 c6 c7 => @SQ.rec (fun _ => R) (fun d0 d1 d2 d3 => k d3) c1) t
abbrev w7 (t:S) (v:V) (k:S->R):R := @S.rec (fun _ => R) (fun c0 c1 c2 c3 c4 c5 c6 c7 => @SQ.rec (fun _ => R) (fun d0 d1 d2 d3 => k (.mk c0 (.mk d0 d1 d2 v) c2 c3 c4 c5 c6 c7)) c1) t
abbrev g8 (t:S) (k:V->R):R := @S.rec (fun _ => R) (fun c0 c1 c2 c3 c4 c5 c6 c7 => @SQ.rec (fun _ => R) (fun d0 d1 d2 d3 => k d0) c2) t
abbrev w8 (t:S) (v:V) (k:S->R):R := @S.rec (fun _ => R) (fun c0 c1 c2 c3 c4 c5 c6 c7 => @SQ.rec (fun _ => R) (fun d0 d1 d2 d3 => k (.mk c0 c1 (.mk v d1 d2 d3) c3 c4 c5 c6 c7)) c2) t
abbrev g9 (t:S) (k:V->R):R := @S.rec (fun _ => R) (fun c0 c1 c2 c3 c4 c5 c6 c7 => @SQ.rec (fun _ => R) (fun d0 d1 d2 d3 => k d1) c2) t
abbrev w9 (t:S) (v:V) (k:S->R):R := @S.rec (fun _ => R) (fun c0 c1 c2 c3 c4 c5 c6 c7 => @SQ.rec (fun _ => R) (fun d0 d1 d2 d3 => k (.mk c0 c1 (.mk d0 v d2 d3) c3 c4 c5 c6 c7)) c2) t
abbrev Bb (t:S) (k:V->R):R := @S.rec (fun _ => R) (fun c0 c1 c2 c3 c4 c5 c6 c7 => @SQ.rec (fun _ => R) (fun d0 d1 d2 d3 => k d2) c2) t
abbrev Bc (t:S) (v:V) (k:S->R):R := @S.rec (fun _ => R) (fun c0 c1 c2 c3 c4 c5 c6 c7 => @SQ.rec (fun _ => R) (fun d0 d1 d2 d3 => k (.mk c0 c1 (.mk d0 d1 v d3) c3 c4 c5 c6 c7)) c2) t
abbrev B9 (t:S) (k:V->R):R := @S.rec (fun _ => R) (fun c0 c1 c2 c3 c4 c5 c6 c7 => @SQ.rec (fun _ => R) (fun d0 d1 d2 d3 => k d3) c2) t
abbrev Ba (t:S) (v:V) (k:S->R):R := @S.rec (fun _ => R) (fun c0 c1 c2 c3 c4 c5 c6 c7 => @SQ.rec (fun _ => R) (fun d0 d1 d2 d3 => k (.mk c0 c1 (.mk d0 d1 d2 v) c3 c4 c5 c6 c7)) c2) t
abbrev B7 (t:S) (k:V->R):R := @S.rec (fun _ => R) (fun c0 c1 c2 c3 c4 c5 c6 c7 => @SQ.rec (fun _ => R) (fun d0 d1 d2 d3 => k d0) c3) t
abbrev B5 (t:S) (v:V) (k:S->R):R := @S.rec (fun _ => R) (fun c0 c1 c2 c3 c4 c5 c6 c7 => @SQ.rec (fun _ => R) (fun d0 d1 d2 d3 => k (.mk c0 c1 c2 (.mk v d1 d2 d3) c4 c5 c6 c7)) c3) t
abbrev Bd (t:S) (k:V->R):R := @S.rec (fun _ => R) (fun c0 c1 c2 c3 c4 c5 c6 c7 => @SQ.rec (fun _ => R) (fun d0 d1 d2 d3 => k d1) c3) t
abbrev Bo (t:S) (v:V) (k:S->R):R := @S.rec (fun _ => R) (fun c0 c1 c2 c3 c4 c5 c6 c7 => @SQ.rec (fun _ => R) (fun d0 d1 d2 d3 => k (.mk c0 c1 c2 (.mk d0 v d2 d3) c4 c5 c6 c7)) c3) t
abbrev Bq (t:S) (k:V->R):R := @S.rec (fun _ => R) (fun c0 c1 c2 c3 c4 c5 c6 c7 => @SQ.rec (fun _ => R) (fun d0 d1 d2 d3 => k d2) c3) t
abbrev Be (t:S) (v:V) (k:S->R):R := @S.rec (fun _ => R) (fun c0 c1 c2 c3 c4 c5 c6 c7 => @SQ.rec (fun _ => R) (fun d0 d1 d2 d3 => k (.mk c0 c1 c2 (.mk d0 d1 v d3) c4 c5 c6 c7)) c3) t
abbrev Bi (t:S) (k:V->R):R := @S.rec (fun _ => R) (fun c0 c1 c2 c3 c4 c5 c6 c7 => @SQ.rec (fun _ => R) (fun d0 d1 d2 d3 => k d3) c3) t
abbrev Bm (t:S) (v:V) (k:S->R):R := @S.rec (fun _ => R) (fun c0 c1 c2 c3 c4 c5 c6 c7 => @SQ.rec (fun _ => R) (fun d0 d1 d2 d3 => k (.mk c0 c1 c2 (.mk d0 d1 d2 v) c4 c5 c6 c7)) c3) t
abbrev Bt (t:S) (k:V->R):R := @S.rec (fun _ => R) (fun c0 c1 c2 c3 c4 c5 c6 c7 => @SQ.rec (fun _ => R) (fun d0 d1 d2 d3 => k d0) c4) t
abbrev Br (t:S) (v:V) (k:S->R):R := @S.rec (fun _ => R) (fun c0 c1 c2 c3 c4 c5 c6 c7 => @SQ.rec (fun _ => R) (fun d0 d1 d2 d3 => k (.mk c0 c1 c2 c3 (.mk v d1 d2 d3) c5 c6 c7)) c4) t
abbrev Bk (t:S) (k:V->R):R := @S.rec (fun _ => R) (fun c0 c1 c2 c3 c4 c5 c6 c7 => @SQ.rec (fun _ => R) (fun d0 d1 d2 d3 => k d1) c4) t
abbrev Bs (t:S) (v:V) (k:S->R):R := @S.rec (fun _ => R) (fun c0 c1 c2 c3 c4 c5 c6 c7 => @SQ.rec (fun _ => R) (fun d0 d1 d2 d3 => k (.mk c0 c1 c2 c3 (.mk d0 v d2 d3) c5 c6 c7)) c4) t
abbrev Bl (t:S) (k:V->R):R := @S.rec (fun _ => R) (fun c0 c1 c2 c3 c4 c5 c6 c7 => @SQ.rec (fun _ => R) (fun d0 d1 d2 d3 => k d2) c4) t
abbrev Bj (t:S) (v:V) (k:S->R):R := @S.rec (fun _ => R) (fun c0 c1 c2 c3 c4 c5 c6 c7 => @SQ.rec (fun _ => R) (fun d0 d1 d2 d3 => k (.mk c0 c1 c2 c3 (.mk d0 d1 v d3) c5 c6 c7)) c4) t
abbrev Bp (t:S) (k:V->R):R := @S.rec (fun _ => R) (fun c0 c1 c2 c3 c4 c5 c6 c7 => @SQ.rec (fun _ => R) (fun d0 d1 d2 d3 => k d3) c4) t
abbrev Bf (t:S) (v:V) (k:S->R):R := @S.rec (fun _ => R) (fun c0 c1 c2 c3 c4 c5 c6 c7 => @SQ.rec (fun _ => R) (fun d0 d1 d2 d3 => k (.mk c0 c1 c2 c3 (.mk d0 d1 d2 v) c5 c6 c7)) c4) t
section
variable {P:Program} {ρ:Env} {B:Nat}
/-- What stands at a function's place in the table. -/
def AR (P:Program) (ρ:Env) (B:Nat) (f:FuncId) (o:DR):Prop := ∀ e, o=some e->MV P ρ B f e
theorem AR.no {f:FuncId}:AR P ρ B f none := fun e h => by cases h
theorem AR.fn {f:FuncId} {e:Ent} (h:AN P f e):AR P ρ B f (some e) := fun e' h' => by cases h'; exact .inl (.inl h)
theorem AR.br {f:FuncId} {k:Nat} {en:List V->(S->R)->R} {bo:Ei->S->Heap->K4->R} {re:S->Heap->K4->R} (h:AN P f (.code en bo re)):AR P ρ B f (some (.br k en bo re)) := fun e' h' => by cases h'; exact .inl (.inr ⟨k, en, bo, re, rfl, h⟩)
theorem AR.pr {f:FuncId} {p:OW} (h:Qk P ρ B f p):AR P ρ B f (some (.prim p)) := fun e' h' => by cases h'; exact .inr (.inl ⟨p, rfl, h⟩)
def I9 (s:String):OW := fun _ _ _ => .fail s
theorem AR.noP {f:FuncId} (s:String):AR P ρ B f (some (.prim (I9 s))) := AR.pr fun args h n v h1 n1 hx => by cases hx
theorem AR.ap {f:FuncId} {its:List Nat} {rd:Rd} {A:ApC} (hA:ρ.ap f=some A) (h1:Ma P f=some A) (h2:VA P A=some rd) (h3:∀ g∈its, Ks P g):AR P ρ B f (some (.ap f its rd)) := fun e' h' => by cases h'; exact .inr (.inr (.inl ⟨its, rd, A, rfl, hA, h1, h2, h3⟩))
theorem AR.tr {f:FuncId} {p:OW} (h:UK P ρ B f p):AR P ρ B f (some (.tree p)) := fun e' h' => by cases h'; exact .inr (.inr (.inr ⟨p, rfl, h⟩))
def Ij (P:Program) (ρ:Env) (B:Nat) (base:Nat) (x:FA):Prop := ∀ d, AR P ρ B (base+d.toN) (FA.sel d x)
def NR (P:Program) (ρ:Env) (B:Nat) (base:Nat) (x:FB):Prop := ∀ d, Ij P ρ B (base+16*d.toN) (FB.sel d x)
theorem Fm {base:Nat} {c0 c1 c2 c3 c4 c5 c6 c7 c8 c9 ca cb cc cd ce cf:DR} (h0:AR P ρ B (base+0) c0) (h1:AR P ρ B (base+1) c1) (h2:AR P ρ B (base+2) c2) (h3:AR P ρ B (base+3) c3) (h4:AR P ρ B (base+4) c4) (h5:AR P ρ B (base+5) c5) (h6:AR P ρ B (base+6) c6) (h7:AR P ρ B (base+7) c7) (h8:AR P ρ B (base+8) c8) (h9:AR P ρ B (base+9) c9) (h10:AR P ρ B (base+10) ca) (h11:AR P ρ B (base+11) cb) (h12:AR P ρ B (base+12) cc) (h13:AR P ρ B (base+13) cd) (h14:AR P ρ B (base+14) ce) (h15:AR P ρ B (base+15) cf):Ij P ρ B base (.mk c0 c1 c2 c3 c4 c5 c6 c7 c8 c9 ca cb cc cd ce cf) := fun d => by
  cases d
  · exact h0
  · exact h1
  · exact h2
  · exact h3
  · exact h4
  · exact h5
  · exact h6
  · exact h7
  · exact h8
  · exact h9
  · exact h10
  · exact h11
  · exact h12
  · exact h13
  · exact h14
  · exact h15
theorem Zb {base:Nat} {c0 c1 c2 c3 c4 c5 c6 c7 c8 c9 ca cb cc cd ce cf:FA} (h0:Ij P ρ B (base+16*0) c0) (h1:Ij P ρ B (base+16*1) c1) (h2:Ij P ρ B (base+16*2) c2) (h3:Ij P ρ B (base+16*3) c3) (h4:Ij P ρ B (base+16*4) c4) (h5:Ij P ρ B (base+16*5) c5) (h6:Ij P ρ B (base+16*6) c6) (h7:Ij P ρ B (base+16*7) c7) (h8:Ij P ρ B (base+16*8) c8) (h9:Ij P ρ B (base+16*9) c9) (h10:Ij P ρ B (base+16*10) ca) (h11:Ij P ρ B (base+16*11) cb) (h12:Ij P ρ B (base+16*12) cc) (h13:Ij P ρ B (base+16*13) cd) (h14:Ij P ρ B (base+16*14) ce) (h15:Ij P ρ B (base+16*15) cf):NR P ρ B base (.mk c0 c1 c2 c3 c4 c5 c6 c7 c8 c9 ca cb cc cd ce cf) := fun d => by
  cases d
  · exact h0
  · exact h1
  · exact h2
  · exact h3
  · exact h4
  · exact h5
  · exact h6
  · exact h7
  · exact h8
  · exact h9
  · exact h10
  · exact h11
  · exact h12
  · exact h13
  · exact h14
  · exact h15
def Kr:FA := .mk none none none none none none none none none none none none none none none none
def NN:FB := .mk Kr Kr Kr Kr Kr Kr Kr Kr Kr Kr Kr Kr Kr Kr Kr Kr
theorem S5 (d:D):FA.sel d Kr=none := by cases d <;> rfl
theorem Sr (d:D):FB.sel d NN=Kr := by cases d <;> rfl
theorem Jj {base:Nat}:Ij P ρ B base Kr := fun d => by rw [S5]; exact AR.no
theorem E8 {base:Nat}:NR P ρ B base NN := fun d => by rw [Sr]; exact Jj
theorem ofN_lt {x:Nat} {d:D} (h:D.ofN x=d) (hd:d ≠ .d15):x=d.toN := by
  rcases Nat.lt_or_ge x 15 with hx | hx
  · rw [←h, D.toN_ofN x (by omega)]
  · exfalso
    obtain ⟨y, rfl⟩:∃ y, x=y+15 := ⟨x - 15, by omega⟩
    exact hd h.symm
theorem Yv {c0 c1 c2 c3 c4 c5 c6 c7 c8 c9 ca cb cc cd ce:FB} (h0:NR P ρ B (256*0) c0) (h1:NR P ρ B (256*1) c1) (h2:NR P ρ B (256*2) c2) (h3:NR P ρ B (256*3) c3) (h4:NR P ρ B (256*4) c4) (h5:NR P ρ B (256*5) c5) (h6:NR P ρ B (256*6) c6) (h7:NR P ρ B (256*7) c7) (h8:NR P ρ B (256*8) c8) (h9:NR P ρ B (256*9) c9) (h10:NR P ρ B (256*10) ca) (h11:NR P ρ B (256*11) cb) (h12:NR P ρ B (256*12) cc) (h13:NR P ρ B (256*13) cd) (h14:NR P ρ B (256*14) ce):∀ f e, B0 (B2 f) (.mk c0 c1 c2 c3 c4 c5 c6 c7 c8 c9 ca cb cc cd ce NN)=some e->MV P ρ B f e := fun f e h => by
  have hc:(D.ofN (f % 16)).toN=f % 16 := D.toN_ofN _ (by omega)
  have hb:(D.ofN (f / 16 % 16)).toN=f / 16 % 16 := D.toN_ofN _ (by omega)
  have key:∀ x:FB, NR P ρ B (256*(f / 256)) x->FA.sel (D.ofN (f % 16)) (FB.sel (D.ofN (f / 16 % 16)) x)=some e->MV P ρ B f e := fun x hx hs => by
    have := hx (D.ofN (f / 16 % 16)) (D.ofN (f % 16)) e hs
    rw [hc, hb] at this
    have e1:256*(f / 256)+16*(f / 16 % 16)+f % 16=f := by omega
    rw [e1] at this; exact this
  have h:FA.sel (D.ofN (f % 16)) (FB.sel (D.ofN (f / 16 % 16)) (FC.sel (D.ofN (f / 256)) (.mk c0 c1 c2 c3 c4 c5 c6 c7 c8 c9 ca cb cc cd ce NN)))=some e := h
  generalize hd:D.ofN (f / 256)=d at h
  cases d
  · have := ofN_lt hd (by intro h; cases h); rw [show D.toN .d0=0 from rfl] at this; exact key c0 (by rw [this]; exact h0) h
  · have := ofN_lt hd (by intro h; cases h); rw [show D.toN .d1=1 from rfl] at this; exact key c1 (by rw [this]; exact h1) h
  · have := ofN_lt hd (by intro h; cases h); rw [show D.toN .d2=2 from rfl] at this; exact key c2 (by rw [this]; exact h2) h
  · have := ofN_lt hd (by intro h; cases h); rw [show D.toN .d3=3 from rfl] at this; exact key c3 (by rw [this]; exact h3) h
  · have := ofN_lt hd (by intro h; cases h); rw [show D.toN .d4=4 from rfl] at this; exact key c4 (by rw [this]; exact h4) h
  · have := ofN_lt hd (by intro h; cases h); rw [show D.toN .d5=5 from rfl] at this; exact key c5 (by rw [this]; exact h5) h
  · have := ofN_lt hd (by intro h; cases h); rw [show D.toN .d6=6 from rfl] at this; exact key c6 (by rw [this]; exact h6) h
  · have := ofN_lt hd (by intro h; cases h); rw [show D.toN .d7=7 from rfl] at this; exact key c7 (by rw [this]; exact h7) h
  · have := ofN_lt hd (by intro h; cases h); rw [show D.toN .d8=8 from rfl] at this; exact key c8 (by rw [this]; exact h8) h
  · have := ofN_lt hd (by intro h; cases h); rw [show D.toN .d9=9 from rfl] at this; exact key c9 (by rw [this]; exact h9) h
  · have := ofN_lt hd (by intro h; cases h); rw [show D.toN .d10=10 from rfl] at this; exact key ca (by rw [this]; exact h10) h
  · have := ofN_lt hd (by intro h; cases h); rw [show D.toN .d11=11 from rfl] at this; exact key cb (by rw [this]; exact h11) h
  · have := ofN_lt hd (by intro h; cases h); rw [show D.toN .d12=12 from rfl] at this; exact key cc (by rw [this]; exact h12) h
  · have := ofN_lt hd (by intro h; cases h); rw [show D.toN .d13=13 from rfl] at this; exact key cd (by rw [this]; exact h13) h
  · have := ofN_lt hd (by intro h; cases h); rw [show D.toN .d14=14 from rfl] at this; exact key ce (by rw [this]; exact h14) h
  · have h:FA.sel (D.ofN (f % 16)) (FB.sel (D.ofN (f / 16 % 16)) NN)=some e := h
    rw [Sr, S5] at h; cases h
/-- The environment of a program in which some functions range over functions. -/
def J0 (P:Program) (fs:List Nat):Env := { v := fun _ => .bool true, ap := fun f => @Bool.rec (fun _ => Option ApC) none (Ma P f) (fs.contains f) }
def Od (P:Program) (g:FuncId):Bool := match P.funcs[g]? with
  | some fn => fn.body.isSome && !(fn.name == "runtime.NumGoroutine")
  | none => false
theorem QF {g:FuncId} (h:Od P g=true):Ks P g := by
  unfold Od at h
  split at h
  · rename_i fn hfn
    simp only [Bool.and_eq_true, Bool.not_eq_true'] at h
    obtain ⟨c, hc⟩ := Option.isSome_iff_exists.1 h.1
    exact ⟨fn, c, hfn, hc, h.2⟩
  · cases h
def ZF (P:Program) (f:FuncId):Option Rd := (Ma P f).bind (VA P)
theorem F0.mk {fs:List Nat} {f:FuncId} {its:List Nat} {rd:Rd} (hf:fs.contains f=true) (h:ZF P f=some rd) (hb:its.all (Od P)=true):F0 P (J0 P fs) f (.ap f its rd) := by
  unfold ZF at h
  cases hA:Ma P f with
  | none => rw [hA] at h; cases h
  | some A =>
    rw [hA] at h
    exact ⟨its, rd, A, rfl, by show @Bool.rec (fun _ => Option ApC) none (Ma P f) (fs.contains f)=_; rw [hf]; exact hA, hA, h, fun g hg => QF (List.all_eq_true.1 hb g hg)⟩
theorem AR.apE {f:FuncId} {e:Ent} (h:F0 P ρ f e):AR P ρ B f (some e) := fun e' h' => by cases h'; exact .inr (.inr (.inl h))
theorem JC.mk {fs:List Nat} {T:FC} (h:∀ f e, B0 (B2 f) T=some e->MV P (J0 P fs) B f e) (ha:∀ f∈fs, ∃ e, B0 (B2 f) T=some e∧F0 P (J0 P fs) f e):JC P (J0 P fs) B T := by
  refine ⟨h, fun f A hA => ?_⟩
  have hA:@Bool.rec (fun _ => Option ApC) none (Ma P f) (fs.contains f)=some A := hA
  cases hc:fs.contains f with
  | false => rw [hc] at hA; cases hA
  | true => exact ha f (List.contains_iff_mem.1 hc)
theorem Zo {Q:Nat->Prop}:∀ f∈([]:List Nat), Q f := fun f h => by cases h
theorem WB {Q:Nat->Prop} {x:Nat} {l:List Nat} (h:Q x) (k:∀ f∈l, Q f):∀ f∈x::l, Q f := fun f hf => by
  rcases List.mem_cons.1 hf with rfl | hf
  · exact h
  · exact k f hf
/-- A call that is evaluated to true, from values that the arguments tell of. -/
theorem JA (hρ:BJ ρ) (hm:P.follows .mixedOrders=true) {T:FC} (hT:∀ B, JC P ρ B T) {m:Nat} {f:FuncId} {fn:Func} {args:List V}
    (hf:P.funcs[f]? = some fn) (hb:fn.body.isSome=true) (hn:(fn.name == "runtime.NumGoroutine")=false) (hx:Se (Ak T m (B2 f) args AL WS)=true) {xs:Array Value} (hr:BO ρ (fun _ => none) args xs.toList) (w:World) (hgl:WH ρ w := by intro b c e fr h; have h:(none:Option (Array Value×TypeId×(Nat×Nat)))=some (c, e, fr) := h; cases h) :
    Calls P f xs w fun e w' => e = .returned (.bool true)∧Below w.heap.size w w' := by
  obtain ⟨h1, n1, hx⟩ := VU hx
  obtain ⟨c, hc⟩ := Option.isSome_iff_exists.1 hb
  have := HQ (R := fun x w' => x = .bool true∧Below w.heap.size w w') hf hc (by simpa using hn) (fun o a K Q hK =>
    U7 (B := w.heap.size) hρ hm (hT _) m f args AL WS _ h1 n1 hx (fun _ => none) w xs (T9 w WS hgl) hr o a K Q fun x w' ⟨φ', f1, _, hr⟩ => hK x w' ⟨by simpa only [As] using hr, OS f1⟩)
  refine this.mono fun e w' he => ?_
  cases e with
  | returned v => exact ⟨by rw [he.1], he.2⟩
  | _ => exact he.elim
end
end Go.Ev

namespace Go.Ev
set_option linter.unusedVariables false
open Go.RowKit
def Ly:OW := fun args h n =>
  K0 args fun v l => SC l (Eb v (.fail "") fun p => RZ p h fun es bs c => DQ h n (.m es bs c) fun h n' => .rv (.map n) h n')
/-- It is maps.Clone: the function that it calls. -/
def Rw (P:Program) (f:FuncId):Option FuncId :=
  match P.funcs[f]? with
  | some fn => match fn.body with
    | some (.seq (.region _ r0 false) (.seq (.seq (.region _ r1 false) (.cond (.tmp 4) _ .skip)) (.seq (.region _ r3 false) .ret))) =>
      match r0.toList, r1.toList, r3.toList, fn.results.toList with
      | [o1], [o2, o3], [o4, o5, o6, o7, o8], [.tmp s2] => match o1.op, o2.op, o3.op, o4.op, o5.op, o6.op, o7.op, o8.op with
        | .assign (.const c1), .move (.tmp s0), .binOp .eql t3 (.tmp s3) (.const (.map none)) _, .move (.tmp s0'), .makeInterface t5 (.tmp s5), .call ct, .typeAssert (.tmp s7) _ t7 false, .assign (.tmp s8) =>
          match ct.callee, ct.args.toList, P.underlying t5 with
          | .value (.func g), [.tmp s6], some (.map _ _) =>
            if (fn.name == "runtime.NumGoroutine")=false∧fn.ntmps=9∧s2=2∧s0=0∧s0'=0∧s3=3∧s5=5∧s6=6∧s7=7∧s8=8∧t3=t5∧t7=t5∧o1.dst=some 2∧o2.dst=some 3∧o3.dst=some 4∧o4.dst=some 5∧o5.dst=some 6∧o6.dst=some 7∧o7.dst=some 8∧o8.dst=some 2 ∧
              o1.guard=none∧o2.guard=none∧o3.guard=none∧o4.guard=none∧o5.guard=none∧o6.guard=none∧o7.guard=none∧o8.guard=none then some g else none
          | _, _, _ => none
        | _, _, _, _, _, _, _, _ => none
      | _, _, _, _ => none
    | _ => none
  | none => none
section
variable {P:Program} {ρ:Env} {B:Nat}
theorem PG (w:World) (t k e:TypeId) (p:Option Nat) (h:P.underlying t=some (.map k e)):(binOp .eql t (.map p) (.map none)).run P w = .ok (.bool p.isNone) w := by
  have key:∀ d, (Op.equalIn (d+1) t (.map p) (.map none)).run P w = .ok p.isNone w := fun d => by cases p <;> simp [Op.equalIn, run_underlying h]
  simp only [binOp]
  simp [show Op.equal t (.map p) (.map none)=Op.equalIn (9999+1) t (.map p) (.map none) from rfl, key 9999]
theorem Lh (w:World) (t xT k e:TypeId) (v:Value) (h:P.underlying t=some (.map k e)):(Instr.typeAssert (.iface t v) xT t false).run P w = .ok v w := by
  simp [Instr.typeAssert, run_underlying h, go_sem, Result.andThen]
theorem SR {w:World} {r:Nat} {es:Array MapEntry} {c:Nat} (t:TypeId) (hb:w.heap[r]? = some (.map es c)) :
    (Extern.MapsClone.clone #[.iface t (.map (some r))]).run P w = .ok (.iface t (.map (some w.heap.size))) (w.alloc (.map es c)) := by
  have e:Extern.MapsClone.clone #[.iface t (.map (some r))]=(getObj r >>= fun o => match o with
      | .map entries clock => (newObj (.map entries clock) >>= fun n => pure (.iface t (.map (some n))))
      | _ => stuck "maps.clone: a map expected") := rfl
  rw [e]
  have hg:(getObj r).run P w = .ok (.map es c) w := by simp [getObj, Sem.run, hb]
  simp [hg, Result.andThen, go_sem]
theorem Un {f g:FuncId} (hc:Rw P f=some g) (b:Bare P g Extern.MapsClone.clone):Qk P ρ B f Ly := by
  intro args h n v h1 n1 hx φ w xs gm hr
  have hg:(Ly args h n).good := by rw [hx]; trivial
  unfold Ly at hx hg
  obtain ⟨m, l, rfl, q1⟩ := IY hg
  rw [q1] at hx hg
  obtain ⟨rfl, q2⟩ := P2 hg
  rw [q2] at hx hg
  rcases DS hg with ⟨_, q3⟩ | ⟨p, rfl, q3⟩
  · rw [q3] at hg; exact hg.elim
  rw [q3, Fi] at hx hg
  obtain ⟨es, bs, c, hp, q4⟩ := EL hg
  rw [q4, Hy] at hx hg
  obtain ⟨n', hn, q5⟩ := BF hg
  rw [q5] at hx
  cases hx
  obtain ⟨X, l0, hX, r0, hl0⟩ := Aw.1 hr
  have hl0 := Az.1 hl0
  subst hl0
  obtain ⟨bk, s, tot, hφ, rfl⟩ := FP r0
  obtain ⟨ents, k1, k2, k3⟩ := gm.obj p _ bk s tot hp hφ
  have hxe:xs = #[.map (some bk)] := by cases xs; simp at hX; rw [hX]
  subst hxe
  unfold Rw at hc
  split at hc
  next fn hfn =>
    split at hc
    next i0 r0 i1 r1 cthen i3 r3 hbody =>
      split at hc
      next o1 o2 o3 o4 o5 o6 o7 o8 s2 e0 e1 e3 ers =>
        split at hc
        next c1 s0 t3 s3 t3' s0' t5 s5 ct s7 t7' t7 s8 p1 p2 p3 p4 p5 p6 p7 p8 =>
          split at hc
          next g' s6 kt et hcal hargs hu =>
            split at hc
            next hc' =>
              cases hc
              obtain ⟨hname, hnt, rfl, rfl, rfl, rfl, rfl, rfl, rfl, rfl, rfl, rfl, d1, d2, d3, d4, d5, d6, d7, d8, g1, g2, g3, g4, g5, g6, g7, g8⟩ := hc'
              have hres:fn.results = #[.tmp 2] := by cases hh:fn.results with | mk l => rw [hh] at ers; simp at ers; rw [ers]
              have hcargs:ct.args = #[.tmp 6] := by cases hh:ct.args with | mk l => rw [hh] at hargs; simp at hargs; rw [hargs]
              have e1':(callFunc f #[.map (some bk)]).run P w = .ok (.enter f #[.map (some bk)]) w := by
                have hname':fn.name ≠ "runtime.NumGoroutine" := by simpa using hname
                simp [callFunc, hfn, hname', hbody]
              intro o a K Q hK
              rw [e1']
              refine (callsIn_wide (n := 0)).1 (callsIn_of_wp_marks hfn hbody trivial ?_ rfl)
              rw [hnt]
              simp only [List.size_toArray, List.length_cons, List.length_nil, Nat.reduceAdd, Nat.reduceSub, Array.replicate_succ, Array.replicate_zero, List.push_toArray, List.append_toArray, List.nil_append, List.cons_append]
              refine wpIn_seq (wpIn_region_list ?_)
              rw [e0]
              refine wpListIn_plain g1 fun K1 hK1 => C9 (x := c1) (w' := w) (by simp [execOp, p1, Act.eval]) (hK1 _ _ ?_)
              refine wpListIn_nil ?_
              refine wpIn_seq (wpIn_seq (wpIn_region_list ?_))
              rw [e1, d1]
              refine wpListIn_plain g2 fun K2 hK2 => C9 (x := .map (some bk)) (w' := w) (by simp [execOp, p2, Act.eval, Act.put]) (hK2 _ _ ?_)
              rw [d2]
              refine wpListIn_plain g3 fun K3 hK3 => C9 (x := .bool false) (w' := w) (by simp [execOp, p3, Act.eval, Act.put, eqGuard, PG w _ _ _ _ hu]) (hK3 _ _ ?_)
              rw [d3]
              refine wpListIn_nil (wpIn_cond_false (by simp [Act.eval, Act.put]) (wpIn_skip ?_))
              refine wpIn_seq (wpIn_region_list ?_)
              rw [e3]
              refine wpListIn_plain g4 fun K4 hK4 => C9 (x := .map (some bk)) (w' := w) (by simp [execOp, p4, Act.eval, Act.put]) (hK4 _ _ ?_)
              rw [d4]
              refine wpListIn_plain g5 fun K5 hK5 => C9 (x := .iface t7 (.map (some bk))) (w' := w) (by simp [execOp, p5, Act.eval, Act.put, Instr.makeInterface, run_underlying hu]) (hK5 _ _ ?_)
              rw [d5]
              refine wpListIn_plain g6 fun K6 hK6 => C9 (x := .iface t7 (.map (some w.heap.size))) (w' := w.alloc (.map ents c)) (by
                simp only [execOp, p6, resolve, hcal, hcargs, Deferred.ofValue, Act.eval, Act.put]
                have := b.run (SR (P := P) t7 k1)
                simp [invoke, Act.eval, this]) (hK6 _ _ ?_)
              rw [d6]
              refine wpListIn_plain g7 fun K7 hK7 => C9 (x := .map (some w.heap.size)) (w' := w.alloc (.map ents c)) (by simp [execOp, p7, Act.eval, Act.put, Lh _ _ _ _ _ _ hu]) (hK7 _ _ ?_)
              rw [d7]
              refine wpListIn_plain g8 fun K8 hK8 => C9 (x := .map (some w.heap.size)) (w' := w.alloc (.map ents c)) (by simp [execOp, p8, Act.eval, Act.put]) (hK8 _ _ ?_)
              rw [d8]
              refine wpListIn_nil (wpIn_ret ?_)
              show LeavesInM Fence.wide 0 P fn _ _ [] .returning (w.alloc (.map ents c))
              unfold LeavesInM LeavesIn
              refine ⟨.map (some w.heap.size), by simp [results, hres, Act.put], ?_⟩
              refine hK _ _ ⟨EM φ n (w.heap.size, 0, 0), Fr.alloc gm.at_n (by omega) (Nat.le_refl _) (by omega) _ _ 0, gm.alloc gm.at_n (by omega) (by omega) (.m es bs c) rfl _ 0 fun φ' hle w' hw' => ⟨ents, hw', NK hle k2, k3⟩, ?_⟩
              simp only [As]
              exact ⟨w.heap.size, 0, 0, Ce _ _ _, rfl⟩
            next => cases hc
          next => cases hc
        next => cases hc
      next => cases hc
    next => cases hc
  next => cases hc
end
end Go.Ev

namespace Go.Ev
set_option linter.unusedVariables false
theorem HA.setS_sel (d:D) (p:HA):HA.setS d p (HA.sel d p)=p := by cases d <;> cases p <;> rfl
theorem HB.setS_sel (d:D) (p:HB):HB.setS d p (HB.sel d p)=p := by cases d <;> cases p <;> rfl
theorem HC.setS_sel (d:D) (p:HC):HC.setS d p (HC.sel d p)=p := by cases d <;> cases p <;> rfl
theorem Heap.setS_sel (d:D) (p:Heap):Heap.setS d p (Heap.sel d p)=p := by cases d <;> cases p <;> rfl
theorem R6 (p:K4) (h:Heap):Ac p h (A8 p h)=h := by
  cases p
  simp only [A8, Ac, Ef, Heap.setK_eq, HC.setK_eq, HB.setK_eq, HA.setK_eq, Heap.selK_eq, HC.selK_eq, HB.selK_eq, id, HA.setS_sel, HB.setS_sel, HC.setS_sel, Heap.setS_sel]
def Pa (r:R) (κ:S->Heap->K4->R):R :=
  @R.rec (fun _ => R) (fun e t h n => @Ex.rec (fun _ => R) (κ t h n) (fun id => .ok (.exit id) t h n) (.ok .ret t h n) e) (Ca "") (fun w => .fail w) (fun _ _ a b => .both a b) r
abbrev PU := S->Heap->(Nat->S->R)->R->R
def Hb (body:S->Heap->K4->R) (ih:Nat->S->Heap->K4->R) (k:Nat) (t:S) (h:Heap) (n:K4):R :=
  @Nat.rec (fun _ => R) (.fail "") (fun k _ => Pa (body t h n) (ih k)) k
def Mr (body:S->Heap->K4->R) (J:PU) (r:Nat):Nat->S->Heap->K4->R :=
  @Nat.rec (fun _ => Nat->S->Heap->K4->R) (fun k => Cr body k)
    (fun _ ih k t h n => J t h (fun j t' => br (Nat.ble j k) (Aa (Nat.sub k j) fun k => Hb body ih k t' h n) (Cr body k t h n)) (Hb body ih k t h n)) r
def IA (body:S->Heap->K4->R) (J:PU):S->Heap->K4->R := Mr body J 1000000 1000000000
def KR (body:S->Heap->K4->R) (J:PU):Prop :=
  ∀ t h κ κ0, J t h κ κ0=κ0 ∨ ∃ j t', J t h κ κ0=κ j t' ∧ ∀ k n, Cr body (j+k) t h n=Cr body k t' h n
theorem DY (body:S->Heap->K4->R):∀ (k:Nat) (t:S) (h:Heap) (n:K4), Cr body k t h n=Hb body (Cr body) k t h n
  | 0, _, _, _ => rfl
  | _+1, _, _, _ => rfl
theorem WZ {body:S->Heap->K4->R} {J:PU} (H:KR body J):∀ (r k:Nat), Mr body J r k=Cr body k := by
  intro r
  induction r with
  | zero => exact fun _ => rfl
  | succ r ih =>
    intro k
    funext t h n
    have e0:Mr body J (r+1) k t h n=J t h (fun j t' => br (Nat.ble j k) (Aa (Nat.sub k j) fun k => Hb body (Mr body J r) k t' h n) (Cr body k t h n)) (Hb body (Mr body J r) k t h n) := rfl
    have ih:Mr body J r=Cr body := funext ih
    rw [e0, ih]
    rcases H t h (fun j t' => br (Nat.ble j k) (Aa (Nat.sub k j) fun k => Hb body (Cr body) k t' h n) (Cr body k t h n)) (Hb body (Cr body) k t h n) with e | ⟨j, t', e, hj⟩
    · rw [e, ←DY]
    · rw [e]
      cases hb:Nat.ble j k with
      | false => rfl
      | true =>
        have hb := Nat.le_of_ble_eq_true hb
        show Aa (Nat.sub k j) (fun k => Hb body (Cr body) k t' h n)=_
        rw [A9, ←DY, show Nat.sub k j=k - j from rfl, ←hj (k - j) n, show j+(k - j)=k by omega]
theorem Jr {body:S->Heap->K4->R} {J:PU} (H:KR body J):B8 body=IA body J := (WZ H 1000000 1000000000).symm
def CU:S->Heap->K4->R := fun t h n => g7 t fun z20 => g6 t fun z21 => AO z20 z21 fun z22 => AZ z22 (Ah 2 (g5 t fun z23 => Au z23 fun z24 => Am 2 z24 fun z25 => Av z25 h fun z26 => g2 t fun z27 => AM z27 z20 fun z28 => L6 z28 (.int .i64 64) fun z29 => PL (.sc .i) z26 z29 (.bool true) h fun h => .ok .nrm t h n) fun t h n => g7 t fun z2a => AM z2a (.int .i64 1) fun z2b => w7 t z2b fun t => .ok .nrm t h n) <| .ok (.exit 1) t h n
def LM (v:V) (κ0:R) (κ:Nat->R):R :=
  @V.rec (fun _ => R) (fun _ => Unit) (fun k r => br (Bn k .i64) (κ r) κ0) (fun _ => κ0) (fun _ _ => κ0) (fun _ _ _ _ _ _ => κ0) (fun _ _ => κ0) (fun _ _ => κ0) (fun _ => κ0) (fun _ => κ0) (fun _ _ _ => κ0) (fun _ _ => κ0) (fun _ => κ0) () (fun _ _ _ _ => ()) v
def WG (v:V) (κ0:R) (κ:K4->Nat->R):R :=
  @V.rec (fun _ => R) (fun _ => Unit) (fun _ _ => κ0) (fun _ => κ0) (fun p o => κ p o) (fun _ _ _ _ _ _ => κ0) (fun _ _ => κ0) (fun _ _ => κ0) (fun _ => κ0) (fun _ => κ0) (fun _ _ _ => κ0) (fun _ _ => κ0) (fun _ => κ0) () (fun _ _ _ _ => ()) v
def WD (v:V) (κ0:R) (κ:K4->R):R :=
  @V.rec (fun _ => R) (fun _ => Unit) (fun _ _ => κ0) (fun _ => κ0) (fun _ _ => κ0) (fun _ _ _ _ _ _ => κ0) (fun _ _ => κ0) (fun _ _ => κ0) (fun _ => κ0) (fun p => κ p) (fun _ _ _ => κ0) (fun _ _ => κ0) (fun _ => κ0) () (fun _ _ _ _ => ()) v
def I8 (v:V):Bool :=
  @V.rec (fun _ => Bool) (fun _ => Unit) (fun _ _ => false) (fun b => b) (fun _ _ => false) (fun _ _ _ _ _ _ => false) (fun _ _ => false) (fun _ _ => false) (fun _ => false) (fun _ => false) (fun _ _ _ => false) (fun _ _ => false) (fun _ => false) () (fun _ _ _ _ => ()) v
def YD (m:Nat):List V->R->(V->R)->R :=
  @Nat.rec (fun _ => List V->R->(V->R)->R) (fun xs κ0 k => @List.rec V (fun _ => R) κ0 (fun x _ _ => k x) xs)
    (fun _ ih xs κ0 k => @List.rec V (fun _ => R) κ0 (fun _ ys _ => ih ys κ0 k) xs) m
def RE (o:Co) (i:Nat) (κ0:R) (κ:V->R):R :=
  @Option.rec Ob (fun _ => R) κ0 (fun o => @Ob.rec (fun _ => R) (fun cs _ _ => @Cs.rec (fun _ => R) (fun xs => YD i xs κ0 κ) (fun _ _ => κ0) cs) (fun _ _ _ => κ0) (fun _ _ _ _ => κ0) κ0 (fun _ _ => κ0) o) o
def RF (o:Co) (κ0:R) (κ:List (V×V)->List Nat->R):R :=
  @Option.rec Ob (fun _ => R) κ0 (fun o => @Ob.rec (fun _ => R) (fun _ _ _ => κ0) (fun es bs _ => κ es bs) (fun _ _ _ _ => κ0) κ0 (fun _ _ => κ0) o) o
/-- Is the key there, and true? -/
def Q1 (k:Nat) (es:List (V×V)):Bool :=
  @List.rec (V×V) (fun _ => Bool) false (fun e _ ih => @Prod.rec V V (fun _ => Bool) (fun a b => @V.rec (fun _ => Bool) (fun _ => Unit) (fun kd r => br (Bn kd .i64) (br (Nat.beq k r) (I8 b) ih) false) (fun _ => false) (fun _ _ => false) (fun _ _ _ _ _ _ => false) (fun _ _ => false) (fun _ _ => false) (fun _ => false) (fun _ => false) (fun _ _ _ => false) (fun _ _ => false) (fun _ => false) () (fun _ _ _ _ => ()) a) e) es
def Ok:PU := fun t h κ κ0 => g7 t fun i => g6 t fun m => g2 t fun a => g5 t fun x =>
  LM i κ0 fun i0 => LM m κ0 fun m0 => LM a κ0 fun a0 => WG x κ0 fun p off => BC p h fun o => RE o (Nat.add off 2) κ0 fun u => WD u κ0 fun q => BC q h fun o => RF o κ0 fun es bs =>
    br (Nat.ble m0 4611686018427387904) (br (Nat.ble a0 4611686018427387904) (br (Nat.ble i0 m0) (br (GJ es bs) (Aa (Nat.div (Nat.add a0 i0) 64) fun k => br (Q1 k es)
      (Aa (Nat.sub m0 i0) fun j1 => Aa (Nat.sub (Nat.mul 64 (Nat.succ k)) (Nat.add a0 i0)) fun j2 => br (Nat.ble j1 j2) (Aa (Nat.add i0 j1) fun i => w7 t (.int .i64 i) fun t => κ j1 t) (Aa (Nat.add i0 j2) fun i => w7 t (.int .i64 i) fun t => κ j2 t))
      κ0) κ0) κ0) κ0) κ0
theorem UN (v:V) (κ0:R) (κ:Nat->R):LM v κ0 κ=κ0 ∨ ∃ r, v = .int .i64 r∧LM v κ0 κ=κ r := by
  cases v with
  | int k r =>
    show br (Bn k .i64) (κ r) κ0=κ0 ∨ ∃ r', V.int k r = .int .i64 r'∧br (Bn k .i64) (κ r) κ0=κ r'
    cases hb:Bn k .i64 with
    | false => exact .inl rfl
    | true => exact .inr ⟨r, by rw [AI.1 hb], rfl⟩
  | _ => exact .inl rfl
theorem Vm (v:V) (κ0:R) (κ:K4->Nat->R):WG v κ0 κ=κ0 ∨ ∃ p o, v = .ptr p o∧WG v κ0 κ=κ p o := by
  cases v with
  | ptr p o => exact .inr ⟨p, o, rfl, rfl⟩
  | _ => exact .inl rfl
theorem Vg (v:V) (κ0:R) (κ:K4->R):WD v κ0 κ=κ0 ∨ ∃ p, v = .map p∧WD v κ0 κ=κ p := by
  cases v with
  | map p => exact .inr ⟨p, rfl, rfl⟩
  | _ => exact .inl rfl
theorem Ph:∀ (m:Nat) (xs:List V) (κ0:R) (κ:V->R), YD m xs κ0 κ=κ0 ∨ ∃ v, xs[m]? = some v∧YD m xs κ0 κ=κ v
  | 0, [], _, _ => .inl rfl
  | 0, x::_, _, _ => .inr ⟨x, rfl, rfl⟩
  | m+1, [], _, _ => .inl rfl
  | m+1, x::xs, κ0, κ => Ph m xs κ0 κ
theorem N7:∀ {m:Nat} {xs:List V} {v:V} {κ:V->R}, xs[m]? = some v->DT m xs κ=κ v
  | 0, [], _, _, h => by cases h
  | 0, x::_, _, _, h => by cases h; rfl
  | m+1, [], _, _, h => by cases h
  | m+1, x::xs, v, κ, h => N7 (m := m) (xs := xs) h
theorem Tf (o:Co) (i:Nat) (κ0:R) (κ:V->R):RE o i κ0 κ=κ0 ∨ ∃ xs sup prev v, o=some (.c (.l xs) sup prev)∧xs[i]? = some v∧RE o i κ0 κ=κ v := by
  cases o with
  | none => exact .inl rfl
  | some o => cases o with
    | c cs sup prev => cases cs with
      | l xs =>
        rcases Ph i xs κ0 κ with e | ⟨v, h, e⟩
        · exact .inl e
        · exact .inr ⟨xs, sup, prev, v, rfl, h, e⟩
      | b _ _ => exact .inl rfl
    | _ => exact .inl rfl
theorem Tg (o:Co) (κ0:R) (κ:List (V×V)->List Nat->R):RF o κ0 κ=κ0 ∨ ∃ es bs c, o=some (.m es bs c)∧RF o κ0 κ=κ es bs := by
  cases o with
  | none => exact .inl rfl
  | some o => cases o with
    | m es bs c => exact .inr ⟨es, bs, c, rfl, rfl⟩
    | _ => exact .inl rfl
theorem KU {v:V} (h:I8 v=true):v = .bool true := by
  cases v with
  | bool b => rw [show b=true from h]
  | _ => cases h
theorem Sv {k:Nat}:∀ {es:List (V×V)} {κ:List (V×V)->R}, Q1 k es=true->EW (.sc .i) (.int .i64 k) (.bool true) es κ=κ es
  | [], κ, h => by cases h
  | (a, b)::es, κ, h => by
    cases a with
    | int kd r =>
      have h:br (Bn kd .i64) (br (Nat.beq k r) (I8 b) (Q1 k es)) false=true := h
      cases hk:Bn kd .i64 with
      | false => rw [hk] at h; cases h
      | true =>
        have hkd := AI.1 hk
        subst hkd
        have hx:br (Nat.beq k r) (I8 b) (Q1 k es)=true := h
        have e0:EW (.sc .i) (.int .i64 k) (.bool true) ((.int .i64 r, b)::es) κ=C8 (Nat.beq k r) fun q => br q (κ ((.int .i64 k, .bool true)::es)) (EW (.sc .i) (.int .i64 k) (.bool true) es fun l => κ ((.int .i64 r, b)::l)) := rfl
        rw [e0, Bv]
        cases hb:Nat.beq k r with
        | true =>
          rw [hb] at hx
          rw [KU (show I8 b=true from hx), Nat.eq_of_beq_eq_true hb]; rfl
        | false =>
          rw [hb] at hx
          exact Sv (κ := fun l => κ ((.int .i64 r, b)::l)) (show Q1 k es=true from hx)
    | _ => cases h
theorem Pg {a b:Nat} {κ:V->R} (h:a<b) (hb:b≤4611686018427387904):AO (.int .i64 a) (.int .i64 b) κ=κ (.bool true) := by
  have e0:AO (.int .i64 a) (.int .i64 b) κ=C8 (br (Nat.ble 9223372036854775808 a) (br (Nat.ble 9223372036854775808 b) (Nat.ble (Nat.succ a) b) true) (br (Nat.ble 9223372036854775808 b) false (Nat.ble (Nat.succ a) b))) fun r => κ (.bool r) := rfl
  have h1:Nat.ble 9223372036854775808 a=false := Bool.eq_false_iff.2 fun h => by have := Nat.le_of_ble_eq_true h; omega
  have h2:Nat.ble 9223372036854775808 b=false := Bool.eq_false_iff.2 fun h => by have := Nat.le_of_ble_eq_true h; omega
  have h3:Nat.ble (Nat.succ a) b=true := Nat.ble_eq_true_of_le h
  rw [e0, Bv, h1, h2, h3]; rfl
theorem Jz {a b:Nat} {κ:V->R} (h:a+b<18446744073709551616):AM (.int .i64 a) (.int .i64 b) κ=κ (.int .i64 (a+b)) := by
  have e0:AM (.int .i64 a) (.int .i64 b) κ=Aa (Nat.mod (Nat.add a b) 18446744073709551616) fun r => κ (.int .i64 r) := rfl
  rw [e0, A9, show Nat.mod (Nat.add a b) 18446744073709551616=a+b from Nat.mod_eq_of_lt h]
theorem U4 {a:Nat} {κ:V->R} (h:a<9223372036854775808):L6 (.int .i64 a) (.int .i64 64) κ=κ (.int .i64 (a / 64)) := by
  have e0:L6 (.int .i64 a) (.int .i64 64) κ=br (Nat.ble (Nat.succ a) 9223372036854775808) (Aa (Nat.div a 64) fun r => κ (.int .i64 r)) (.fail "") := rfl
  rw [e0, show Nat.ble (Nat.succ a) 9223372036854775808=true from Nat.ble_eq_true_of_le h]
  show Aa (Nat.div a 64) (fun r => κ (V.int .i64 r))=κ (V.int .i64 (a / 64))
  rw [A9]; rfl
theorem Fw {id:Nat} {t:S} {h:Heap} {n:K4} {κ:S->Heap->K4->R}:Ah id (.ok .nrm t h n) κ=κ t h n := rfl
theorem ZS {p:K4} {off:Nat} {h:Heap} {xs:List V} {sup:Bool} {prev:Option K4} {v:V} {κ:V->R} (hp:A8 p h=some (.c (.l xs) sup prev)) (hv:xs[off]? = some v):Av (.ptr p off) h κ=κ v := by
  show KG p h (fun cs _ _ => Fb cs off κ)=_
  rw [E4]
  have e:(H6 p h fun cs _ _ => Fb cs off κ)=@Option.rec Ob (fun _ => R) (.fail "") (fun o => @Ob.rec (fun _ => R) (fun cs _ _ => Fb cs off κ) (Ca "") (Fn "") (.fail "") (AA "") o) (A8 p h) := Cp _ _ _
  rw [e, hp]
  exact N7 hv
theorem Ab3 {q:K4} {h:Heap} {es:List (V×V)} {bs:List Nat} {c k:Nat} {κ:Heap->R} (hq:A8 q h=some (.m es bs c)) (hs:GJ es bs=true) (hh:Q1 k es=true):PL (.sc .i) (.map q) (.int .i64 k) (.bool true) h κ=κ h := by
  show PY q h (fun es bs c k' => EW (.sc .i) (.int .i64 k) (.bool true) es fun es => TQ es bs c fun bs c => k' es bs c) κ=κ h
  rw [IW]
  have e:∀ F, Nh q h F=@Option.rec Ob (fun _ => R) (.fail "") (fun o => @Ob.rec (fun _ => R) (Ca "") F (Fn "") (.fail "") (AA "") o) (A8 q h) := fun F => Cp _ _ _
  rw [e, hq]
  show EW (.sc .i) (.int .i64 k) (.bool true) es (fun es' => TQ es' bs c fun bs c => Ef q h (some (.m es' bs c)) κ)=κ h
  rw [Sv hh]
  unfold TQ
  rw [hs]
  show Ef q h (some (.m es bs c)) κ=κ h
  rw [AU, ←hq, R6]
theorem PR {d0 d1 d3 d4:V} {c2 c3 c4 c5 c6 c7:SQ} {h:Heap} {n p q:K4} {off i0 m0 a0 c:Nat} {xs:List V} {sup:Bool} {prev:Option K4} {es:List (V×V)} {bs:List Nat}
    (hp:A8 p h=some (.c (.l xs) sup prev)) (hv:xs[off+2]? = some (.map q)) (hq:A8 q h=some (.m es bs c)) (hs:GJ es bs=true) (hm:m0≤4611686018427387904) (ha:a0≤4611686018427387904) (hi:i0<m0) (hh:Q1 ((a0+i0) / 64) es=true) :
    CU (.mk (.mk d0 d1 (.int .i64 a0) d3) (.mk d4 (.ptr p off) (.int .i64 m0) (.int .i64 i0)) c2 c3 c4 c5 c6 c7) h n = .ok .nrm (.mk (.mk d0 d1 (.int .i64 a0) d3) (.mk d4 (.ptr p off) (.int .i64 m0) (.int .i64 (i0+1))) c2 c3 c4 c5 c6 c7) h n := by
  have e1:∀ κ:V->R, Au (.ptr p off) κ=κ (.ptr p off) := fun κ => rfl
  have e2:∀ κ:V->R, Am 2 (.ptr p off) κ=κ (.ptr p (off+2)) := fun κ => by
    show Aa (Nat.add off 2) (fun o => κ (.ptr p o))=_
    rw [A9]
  unfold CU
  show AO (.int .i64 i0) (.int .i64 m0) _=_
  rw [Pg hi hm]
  show Ah 2 (Au (.ptr p off) _) _=_
  rw [e1, e2, ZS hp hv]
  show Ah 2 (AM (.int .i64 a0) (.int .i64 i0) _) _=_
  rw [Jz (by omega), U4 (by omega), Ab3 hq hs hh, Fw]
  show AM (.int .i64 i0) (.int .i64 1) _=_
  rw [Jz (by omega)]
theorem Iq {d0 d1 d3 d4:V} {c2 c3 c4 c5 c6 c7:SQ} {h:Heap} {n p q:K4} {off m0 a0 c k:Nat} {xs:List V} {sup:Bool} {prev:Option K4} {es:List (V×V)} {bs:List Nat}
    (hp:A8 p h=some (.c (.l xs) sup prev)) (hv:xs[off+2]? = some (.map q)) (hq:A8 q h=some (.m es bs c)) (hs:GJ es bs=true) (hm:m0≤4611686018427387904) (ha:a0≤4611686018427387904) (hh:Q1 k es=true) :
    ∀ (j i0:Nat), i0+j≤m0->(∀ r, r<j->(a0+(i0+r)) / 64=k)->∀ K, Cr CU (j+K) (.mk (.mk d0 d1 (.int .i64 a0) d3) (.mk d4 (.ptr p off) (.int .i64 m0) (.int .i64 i0)) c2 c3 c4 c5 c6 c7) h n
      = Cr CU K (.mk (.mk d0 d1 (.int .i64 a0) d3) (.mk d4 (.ptr p off) (.int .i64 m0) (.int .i64 (i0+j))) c2 c3 c4 c5 c6 c7) h n
  | 0, i0, _, _, K => by rw [Nat.zero_add]; rfl
  | j+1, i0, hj, hr, K => by
    have h0 := hr 0 (by omega)
    rw [show j+1+K=(j+K)+1 by omega, DY]
    show Pa (CU _ h n) (Cr CU (j+K))=_
    rw [PR hp hv hq hs hm ha (by omega) (by rw [show a0+i0=a0+(i0+0) by omega, h0]; exact hh)]
    show Cr CU (j+K) _ h n=_
    rw [Iq hp hv hq hs hm ha hh j (i0+1) (by omega) (fun r hr' => by have := hr (r+1) (by omega); rw [←this]; congr 2; omega) K, show i0+1+j=i0+(j+1) by omega]
section
variable {G:R->Prop}
theorem Fv {v:V} {κ0:R} {κ:Nat->R} (g0:G κ0) (g1:∀ r, v = .int .i64 r->G (κ r)):G (LM v κ0 κ) := by
  rcases UN v κ0 κ with e | ⟨r, h, e⟩ <;> rw [e]
  · exact g0
  · exact g1 r h
theorem UX {v:V} {κ0:R} {κ:K4->Nat->R} (g0:G κ0) (g1:∀ p o, v = .ptr p o->G (κ p o)):G (WG v κ0 κ) := by
  rcases Vm v κ0 κ with e | ⟨p, o, h, e⟩ <;> rw [e]
  · exact g0
  · exact g1 p o h
theorem W1 {v:V} {κ0:R} {κ:K4->R} (g0:G κ0) (g1:∀ p, v = .map p->G (κ p)):G (WD v κ0 κ) := by
  rcases Vg v κ0 κ with e | ⟨p, h, e⟩ <;> rw [e]
  · exact g0
  · exact g1 p h
theorem Tb {o:Co} {i:Nat} {κ0:R} {κ:V->R} (g0:G κ0) (g1:∀ xs sup prev v, o=some (.c (.l xs) sup prev)->xs[i]? = some v->G (κ v)):G (RE o i κ0 κ) := by
  rcases Tf o i κ0 κ with e | ⟨xs, sup, prev, v, h, h', e⟩ <;> rw [e]
  · exact g0
  · exact g1 xs sup prev v h h'
theorem SD {o:Co} {κ0:R} {κ:List (V×V)->List Nat->R} (g0:G κ0) (g1:∀ es bs c, o=some (.m es bs c)->G (κ es bs)):G (RF o κ0 κ) := by
  rcases Tg o κ0 κ with e | ⟨es, bs, c, h, e⟩ <;> rw [e]
  · exact g0
  · exact g1 es bs c h
theorem Dx {b:Bool} {x y:R} (g0:G y) (g1:b=true->G x):G (br b x y) := by
  cases b with
  | false => exact g0
  | true => exact g1 rfl
theorem HF {p:K4} {h:Heap} {κ:Co->R} (g:G (κ (A8 p h))):G (BC p h κ) := by rw [BG]; exact g
theorem Ig {m:Nat} {κ:Nat->R} (g:G (κ m)):G (Aa m κ) := by rw [A9]; exact g
end
theorem QQ:KR CU Ok := by
  intro t h κ κ0
  cases t with
  | mk c0 c1 c2 c3 c4 c5 c6 c7 =>
    cases c0 with
    | mk d0 d1 a d3 =>
      cases c1 with
      | mk d4 x m i =>
        obtain ⟨T, hT⟩:∃ T:S, T = .mk (.mk d0 d1 a d3) (.mk d4 x m i) c2 c3 c4 c5 c6 c7 := ⟨_, rfl⟩
        obtain ⟨G, hG⟩:∃ G:R->Prop, ∀ r, G r ↔ (r=κ0 ∨ ∃ j t', r=κ j t' ∧ ∀ k n, Cr CU (j+k) T h n=Cr CU k t' h n) := ⟨_, fun r => Iff.rfl⟩
        have g0:G κ0 := (hG _).2 (.inl rfl)
        rw [←hT]
        refine (hG _).1 ?_
        rw [hT]
        refine Fv (G := G) g0 fun i0 hi => Fv (G := G) g0 fun m0 hm => Fv (G := G) g0 fun a0 ha => UX (G := G) g0 fun p off hx => HF (G := G) (Tb (G := G) g0 fun xs sup prev u hp hv => W1 (G := G) g0 fun q hu => ?_)
        subst hi hm ha hx hu
        refine HF (G := G) (SD (G := G) g0 fun es bs c hq => Dx (G := G) g0 fun b1 => Dx (G := G) g0 fun b2 => Dx (G := G) g0 fun b3 => Dx (G := G) g0 fun b4 => Ig (G := G) (Dx (G := G) g0 fun b5 => Ig (G := G) (Ig (G := G) ?_)))
        have b1 := Nat.le_of_ble_eq_true b1
        have b2 := Nat.le_of_ble_eq_true b2
        have b3 := Nat.le_of_ble_eq_true b3
        have e1:Nat.sub m0 i0=m0 - i0 := rfl
        have e2:Nat.sub (Nat.mul 64 (Nat.succ (Nat.div (Nat.add a0 i0) 64))) (Nat.add a0 i0)=64*((a0+i0) / 64+1) - (a0+i0) := rfl
        have e3:Nat.div (Nat.add a0 i0) 64=(a0+i0) / 64 := rfl
        rw [e1, e2]
        rw [e3] at b5
        have key:∀ j, j≤m0 - i0->j≤64*((a0+i0) / 64+1) - (a0+i0)->∀ K n, Cr CU (j+K) (.mk (.mk d0 d1 (.int .i64 a0) d3) (.mk d4 (.ptr p off) (.int .i64 m0) (.int .i64 i0)) c2 c3 c4 c5 c6 c7) h n
            = Cr CU K (.mk (.mk d0 d1 (.int .i64 a0) d3) (.mk d4 (.ptr p off) (.int .i64 m0) (.int .i64 (i0+j))) c2 c3 c4 c5 c6 c7) h n := fun j hj1 hj2 K n =>
          Iq hp hv hq b4 b1 b2 b5 j i0 (by omega) (fun r hr => by omega) K
        cases hb:Nat.ble (m0 - i0) (64*((a0+i0) / 64+1) - (a0+i0)) with
        | true =>
          rw [show ∀ x y:R, br true x y=x from fun _ _ => rfl, A9]
          refine (hG _).2 (.inr ⟨m0 - i0, _, rfl, fun K n => ?_⟩)
          rw [hT]
          exact key _ (Nat.le_refl _) (Nat.le_of_ble_eq_true hb) K n
        | false =>
          rw [show ∀ x y:R, br false x y=y from fun _ _ => rfl, A9]
          refine (hG _).2 (.inr ⟨64*((a0+i0) / 64+1) - (a0+i0), _, rfl, fun K n => ?_⟩)
          rw [hT]
          refine key _ ?_ (Nat.le_refl _) K n
          rcases Nat.lt_or_ge (64*((a0+i0) / 64+1) - (a0+i0)) (m0 - i0) with h' | h'
          · omega
          · rw [Nat.ble_eq_true_of_le h'] at hb; cases hb
theorem PH:B8 CU=IA CU Ok := Jr QQ
def Iz:S->Heap->K4->R := fun t h n => g7 t fun ze => AO ze (.int .i64 8) fun zf => AZ zf (Ah 3 (g3 t fun zg => G9 zg (.int .u64 1) fun zh => N8 zg (.int .u32 1) fun zi => Re zi fun zj => N8 (.int .u32 2197175160) zj fun zk => I0 zh zk fun zl => w3 t zl fun t => .ok .nrm t h n) fun t h n => g7 t fun zm => AM zm (.int .i64 1) fun zn => w7 t zn fun t => .ok .nrm t h n) <| .ok (.exit 2) t h n
def Aaq (v:V) (κ0:R) (κ:Nat->R):R :=
  @V.rec (fun _ => R) (fun _ => Unit) (fun k r => br (Bn k .u32) (κ r) κ0) (fun _ => κ0) (fun _ _ => κ0) (fun _ _ _ _ _ _ => κ0) (fun _ _ => κ0) (fun _ _ => κ0) (fun _ => κ0) (fun _ => κ0) (fun _ _ _ => κ0) (fun _ _ => κ0) (fun _ => κ0) () (fun _ _ _ _ => ()) v
def Il (x:Nat):Nat := Nat.xor (Nat.shiftRight x 1) (Nat.land 2197175160 (Nat.mod (Nat.add 0 (Nat.sub 4294967296 (Nat.land x 1))) 4294967296))
def Ga (j:Nat):Nat->Nat := @Nat.rec (fun _ => Nat->Nat) (fun x => x) (fun _ ih x => ih (Il x)) j
theorem VI {G:R->Prop} {v:V} {κ0:R} {κ:Nat->R} (g0:G κ0) (g1:∀ r, v = .int .u32 r->G (κ r)):G (Aaq v κ0 κ) := by
  cases v with
  | int k r =>
    show G (br (Bn k .u32) (κ r) κ0)
    cases hb:Bn k .u32 with
    | false => exact g0
    | true => exact g1 r (by rw [AI.1 hb])
  | _ => exact g0
theorem RK {x:Nat} (h:x<4294967296):Il x<4294967296 := by
  have h1:x >>> 1<2 ^ 32 := by rw [Nat.shiftRight_eq_div_pow]; omega
  have h2:2197175160 &&& ((0+(4294967296 - (x &&& 1))) % 4294967296)<2 ^ 32 := Nat.lt_of_le_of_lt Nat.and_le_left (by decide)
  exact Nat.xor_lt_two_pow h1 h2
theorem SG {d0 d1 d2 d4 d5 d6:V} {c2 c3 c4 c5 c6 c7:SQ} {h:Heap} {n:K4} {i x:Nat} (hi:i<8) (hx:x<4294967296) :
    Iz (.mk (.mk d0 d1 d2 (.int .u32 x)) (.mk d4 d5 d6 (.int .i64 i)) c2 c3 c4 c5 c6 c7) h n = .ok .nrm (.mk (.mk d0 d1 d2 (.int .u32 (Il x))) (.mk d4 d5 d6 (.int .i64 (i+1))) c2 c3 c4 c5 c6 c7) h n := by
  have e1:∀ κ:V->R, G9 (.int .u32 x) (.int .u64 1) κ=κ (.int .u32 (Nat.shiftRight x 1)) := fun κ => by
    have e0:G9 (.int .u32 x) (.int .u64 1) κ=br (Nat.ble (Nat.succ x) 4294967296) (Aa (Nat.shiftRight x 1) fun r => κ (.int .u32 r)) (.fail "") := rfl
    rw [e0, show Nat.ble (Nat.succ x) 4294967296=true from Nat.ble_eq_true_of_le hx]
    show Aa (Nat.shiftRight x 1) (fun r => κ (V.int .u32 r))=_
    rw [A9]
  have e2:∀ (a b:Nat) (κ:V->R), N8 (.int .u32 a) (.int .u32 b) κ=κ (.int .u32 (Nat.land a b)) := fun a b κ => by
    have e0:N8 (.int .u32 a) (.int .u32 b) κ=Aa (Nat.land a b) fun r => κ (.int .u32 r) := rfl
    rw [e0, A9]
  have e3:∀ (a b:Nat) (κ:V->R), I0 (.int .u32 a) (.int .u32 b) κ=κ (.int .u32 (Nat.xor a b)) := fun a b κ => by
    have e0:I0 (.int .u32 a) (.int .u32 b) κ=Aa (Nat.xor a b) fun r => κ (.int .u32 r) := rfl
    rw [e0, A9]
  have e4:∀ (a:Nat) (κ:V->R), Re (.int .u32 a) κ=κ (.int .u32 (Nat.mod (Nat.add 0 (Nat.sub 4294967296 a)) 4294967296)) := fun a κ => by
    have e0:Re (.int .u32 a) κ=Aa (Nat.mod (Nat.add 0 (Nat.sub 4294967296 a)) 4294967296) fun r => κ (.int .u32 r) := rfl
    rw [e0, A9]
  unfold Iz
  show AO (.int .i64 i) (.int .i64 8) _=_
  rw [Pg hi (by omega)]
  show Ah 3 (G9 (.int .u32 x) (.int .u64 1) _) _=_
  rw [e1, e2, e4, e2, e3, Fw]
  show AM (.int .i64 i) (.int .i64 1) _=_
  rw [Jz (by omega)]; rfl
theorem LH {d0 d1 d2 d4 d5 d6:V} {c2 c3 c4 c5 c6 c7:SQ} {h:Heap} {n:K4} :
    ∀ (j i x:Nat), i+j≤8->x<4294967296->∀ K, Cr Iz (j+K) (.mk (.mk d0 d1 d2 (.int .u32 x)) (.mk d4 d5 d6 (.int .i64 i)) c2 c3 c4 c5 c6 c7) h n
      = Cr Iz K (.mk (.mk d0 d1 d2 (.int .u32 (Ga j x))) (.mk d4 d5 d6 (.int .i64 (i+j))) c2 c3 c4 c5 c6 c7) h n
  | 0, i, x, _, _, K => by rw [Nat.zero_add]; rfl
  | j+1, i, x, hj, hx, K => by
    rw [show j+1+K=(j+K)+1 by omega, DY]
    show Pa (Iz _ h n) (Cr Iz (j+K))=_
    rw [SG (by omega) hx]
    show Cr Iz (j+K) _ h n=_
    rw [LH j (i+1) (Il x) (by omega) (RK hx) K, show i+1+j=i+(j+1) by omega]; rfl
end Go.Ev

namespace Go.Ev
set_option linter.unusedVariables false
theorem Ku (x:Nat):Il x=(x >>> 1) ^^^ (if x % 2=1 then 2197175160 else 0) := by
  show (x >>> 1) ^^^ (2197175160 &&& ((0+(4294967296 - (x &&& 1))) % 4294967296))=_
  rw [Nat.and_one_is_mod]
  rcases Nat.mod_two_eq_zero_or_one x with h | h <;> rw [h] <;> rfl
theorem Us (a b:Nat):Il (a ^^^ b)=Il a ^^^ Il b := by
  rw [Ku, Ku, Ku, Nat.shiftRight_xor_distrib]
  have h:(a ^^^ b) % 2=(a+b) % 2 := by
    have e := Nat.xor_mod_two_pow (a := a) (b := b) (n := 1)
    rw [Nat.pow_one] at e
    rw [e]
    rcases Nat.mod_two_eq_zero_or_one a with ha | ha <;> rcases Nat.mod_two_eq_zero_or_one b with hb | hb <;> rw [ha, hb, Nat.add_mod, ha, hb] <;> rfl
  rcases Nat.mod_two_eq_zero_or_one a with ha | ha <;> rcases Nat.mod_two_eq_zero_or_one b with hb | hb
  · have:(a ^^^ b) % 2=0 := by omega
    simp [ha, hb, this]
  · have:(a ^^^ b) % 2=1 := by omega
    simp [ha, hb, this, Nat.xor_assoc]
  · have:(a ^^^ b) % 2=1 := by omega
    simp only [ha, hb, this, if_true, if_false, Nat.xor_zero, reduceIte, Nat.zero_ne_one]
    simp only [Nat.xor_assoc, Nat.xor_comm (b >>> 1)]
  · have:(a ^^^ b) % 2=0 := by omega
    simp only [ha, hb, this, reduceIte, Nat.xor_zero, Nat.zero_ne_one]
    generalize a >>> 1=p
    generalize b >>> 1=q
    apply Nat.eq_of_testBit_eq
    intro i
    simp only [Nat.testBit_xor]
    cases p.testBit i <;> cases q.testBit i <;> cases (2197175160:Nat).testBit i <;> rfl
theorem OT:∀ (j a b:Nat), Ga j (a ^^^ b)=Ga j a ^^^ Ga j b
  | 0, _, _ => rfl
  | j+1, a, b => by
    show Ga j (Il (a ^^^ b))=Ga j (Il a) ^^^ Ga j (Il b)
    rw [Us, OT]
theorem Sy (m:Nat):Il (2*m)=m := by
  rw [Ku, Nat.mul_mod_right, Nat.shiftRight_eq_div_pow]; simp
theorem Pm:∀ (j q:Nat), Ga j (2 ^ j*q)=q
  | 0, q => by show 2 ^ 0*q=q; omega
  | j+1, q => by
    show Ga j (Il (2 ^ (j+1)*q))=q
    rw [show 2 ^ (j+1)*q=2*(2 ^ j*q) by rw [Nat.pow_succ, Nat.mul_comm (2 ^ j) 2, Nat.mul_assoc], Sy, Pm]
theorem Tm (y:Nat):y=(2 ^ 8*(y / 2 ^ 8)) ^^^ (y % 2 ^ 8) := by
  apply Nat.eq_of_testBit_eq
  intro i
  rw [Nat.testBit_xor, Nat.testBit_two_pow_mul, Nat.testBit_mod_two_pow, Nat.testBit_div_two_pow]
  by_cases h:8≤i
  · have h2:¬ i<8 := by omega
    simp [h, h2, show i - 8+8=i by omega]
  · have h2:i<8 := by omega
    simp [h, h2]
theorem Kt:∀ (j:Nat) {x:Nat}, x<4294967296->Ga j x<4294967296
  | 0, _, h => h
  | j+1, x, h => by show Ga j (Il x)<_; exact Kt j (RK h)
def O7:Nat := 739192992287711479272199505450802174180944935565270117958735211195864883404034321072575759094604862722103638970562105654534965976895685875045062592379112792078985738769595739548904202597956689934399229134939183684703714920378025961387270778473281346239181994539903784708069763525514523240966634758967547723819948093640238732618841930738396489733218495472825776362786651876001733504161834172818020394346043168775838788836904094212573134772649703407841545716218812283123984658267516726659948613643534969466376019494666614718815429190684246327365394372519258139400530706807260825564948901732507176286259752944669944548605679086391305931301222988237278526118373278492307487107474296386730408839343753629123128283572704772544098648517013212824233746728729854273945055038163572363387039908578405517982904131040319505009390255243990278860523606265815895619710957563380635837315129012976704357344131429050367435482781212454439427280336740616644805562249867251859340971513883299426874200217165290071196282711253218164865174241416073419876796213293517950780480733835793334181716730049909888366296838117288969681076010175182486226749959458237712061794030512295298309798453151350168298336411933176330063767835252143862258384197256040876755067274410026075604127347481305827849130625987059819492849891529288490451730106428376839488665315100810248841715739596040091270955624355315201462555945279029196416991040143682248153287045556144390819759753283690710943841433520922330785319143598322120010359670046292912296136999474302691355293324886616216537430761212949134977443278613456733727644009057088654822989287437792990360527449046917776586498554113667460252688333953726837853077886002223252717428049737186417130969568838070377296274375688487884511950345697105344492065413654582468965021167618282726469469929715764674333614324035309623813703284835732759643444816186743644084768553800456975483023122915759126937036001171360984116527371042249105866775992680472790331893395027602898497596949565462107432141452181910127216554936352241472142685417685618824675396402282974391037184848625305334079832924861339728594832024687877422901193159812755254516361032103358958860399075665489958680801135040793967932263797765198140728704255468134266160630916650637156666977854355604551105352627939572551570066195951258251545213658746024110892771407706843609824354401912642345941057507434795836161327506684973593222243082074173577446865175872619707633030268690896528048779238513612740446475572226293760
abbrev JB (y:Nat):Nat := Nat.xor (Nat.shiftRight y 8) (Nat.land (Nat.shiftRight O7 (Nat.mul 32 (Nat.land y 255))) 4294967295)
theorem Xx:Zq (fun b => Nat.beq (Ga 8 b) (Nat.land (Nat.shiftRight O7 (Nat.mul 32 b)) 4294967295)) 256=true := by kernel_rfl
theorem J7 (y:Nat):JB y=Ga 8 y := by
  have h255:Nat.land y 255=y % 2 ^ 8 := Nat.and_two_pow_sub_one_eq_mod y 8
  have hb:y % 2 ^ 8<256 := Nat.mod_lt _ (by decide)
  have key:Ga 8 (y % 2 ^ 8)=Nat.land (Nat.shiftRight O7 (Nat.mul 32 (y % 2 ^ 8))) 4294967295 := Nat.eq_of_beq_eq_true (Xh Xx _ hb)
  have e:Ga 8 y=Ga 8 (2 ^ 8*(y / 2 ^ 8)) ^^^ Ga 8 (y % 2 ^ 8) := by rw [←OT, ←Tm]
  rw [e, Pm, key]
  show Nat.xor (Nat.shiftRight y 8) (Nat.land (Nat.shiftRight O7 (Nat.mul 32 (Nat.land y 255))) 4294967295)=_
  rw [h255]
  show (y >>> 8) ^^^ _=_
  rw [Nat.shiftRight_eq_div_pow]
theorem Ac0 {a b:Nat} {κ:V->R} (h:b≤a) (ha:a≤4611686018427387904):AO (.int .i64 a) (.int .i64 b) κ=κ (.bool false) := by
  have e0:AO (.int .i64 a) (.int .i64 b) κ=C8 (br (Nat.ble 9223372036854775808 a) (br (Nat.ble 9223372036854775808 b) (Nat.ble (Nat.succ a) b) true) (br (Nat.ble 9223372036854775808 b) false (Nat.ble (Nat.succ a) b))) fun r => κ (.bool r) := rfl
  have h1:Nat.ble 9223372036854775808 a=false := Bool.eq_false_iff.2 fun h => by have := Nat.le_of_ble_eq_true h; omega
  have h2:Nat.ble 9223372036854775808 b=false := Bool.eq_false_iff.2 fun h => by have := Nat.le_of_ble_eq_true h; omega
  have h3:Nat.ble (Nat.succ a) b=false := Bool.eq_false_iff.2 fun h => by have := Nat.le_of_ble_eq_true h; omega
  rw [e0, Bv, h1, h2, h3]; rfl
theorem U6 {p:K4} {off len cap esz i:Nat} {ex:Bool} {κ:V->R} (h:i<len) (hi:i<9223372036854775808):AG esz (.sl p off len cap ex esz) (.int .i64 i) κ=κ (.ptr p (off+i*esz)) := by
  have e0:AG esz (.sl p off len cap ex esz) (.int .i64 i) κ=br (Nat.ble (Nat.succ i) 9223372036854775808) (br (Nat.beq esz esz) (br (Nat.ble (Nat.succ i) len) (Aa (Nat.add off (Nat.mul i esz)) fun o => κ (.ptr p o)) (.fail "")) (.fail "")) (.fail "") := rfl
  rw [e0, show Nat.ble (Nat.succ i) 9223372036854775808=true from Nat.ble_eq_true_of_le hi, show Nat.ble (Nat.succ i) len=true from Nat.ble_eq_true_of_le h, show Nat.beq esz esz=true from Nat.beq_refl _]
  show Aa (Nat.add off (Nat.mul i esz)) (fun o => κ (.ptr p o))=_
  rw [A9]; rfl
theorem VQ {p:K4} {off m c:Nat} {h:Heap} {sup:Bool} {prev:Option K4} {κ:V->R} (hp:A8 p h=some (.c (.b m c) sup prev)) (hv:off<m):Av (.ptr p off) h κ=κ (.int .u8 (lo (sh c off) 1)) := by
  show KG p h (fun cs _ _ => Fb cs off κ)=_
  rw [E4]
  have e:(H6 p h fun cs _ _ => Fb cs off κ)=@Option.rec Ob (fun _ => R) (.fail "") (fun o => @Ob.rec (fun _ => R) (fun cs _ _ => Fb cs off κ) (Ca "") (Fn "") (.fail "") (AA "") o) (A8 p h) := Cp _ _ _
  rw [e, hp]
  show br (Nat.ble (Nat.succ off) m) (Aa (lo (sh c off) 1) fun r => κ (.int .u8 r)) (.fail "")=_
  rw [show Nat.ble (Nat.succ off) m=true from Nat.ble_eq_true_of_le hv]
  show Aa (lo (sh c off) 1) (fun r => κ (V.int .u8 r))=_
  rw [A9]
theorem JK (c:Nat):lo c 1<256 := by rw [DK]; exact Nat.mod_lt _ (by decide)
theorem Oa (c a:Nat):sh (sh c a) 1=sh c (a+1) := by
  rw [F1, F1, F1, Nat.div_div_eq_div_mul, ←Nat.pow_add]
def slE (v:V) (κ0:R) (κ:K4->Nat->Nat->Nat->R):R :=
  @V.rec (fun _ => R) (fun _ => Unit) (fun _ _ => κ0) (fun _ => κ0) (fun _ _ => κ0) (fun p off len _ _ esz => κ p off len esz) (fun _ _ => κ0) (fun _ _ => κ0) (fun _ => κ0) (fun _ => κ0) (fun _ _ _ => κ0) (fun _ _ => κ0) (fun _ => κ0) () (fun _ _ _ _ => ()) v
theorem Sj {G:R->Prop} {v:V} {κ0:R} {κ:K4->Nat->Nat->Nat->R} (g0:G κ0) (g1:∀ p off len cap ex esz, v = .sl p off len cap ex esz->G (κ p off len esz)):G (slE v κ0 κ) := by
  cases v with
  | sl p off len cap ex esz => exact g1 p off len cap ex esz rfl
  | _ => exact g0
def YX (o:Co) (κ0:R) (κ:Nat->Nat->R):R :=
  @Option.rec Ob (fun _ => R) κ0 (fun o => @Ob.rec (fun _ => R) (fun cs _ _ => @Cs.rec (fun _ => R) (fun _ => κ0) κ cs) (fun _ _ _ => κ0) (fun _ _ _ _ => κ0) κ0 (fun _ _ => κ0) o) o
theorem OV {G:R->Prop} {o:Co} {κ0:R} {κ:Nat->Nat->R} (g0:G κ0) (g1:∀ n c sup prev, o=some (.c (.b n c) sup prev)->G (κ n c)):G (YX o κ0 κ) := by
  cases o with
  | none => exact g0
  | some o => cases o with
    | c cs sup prev => cases cs with
      | l xs => exact g0
      | b n c => exact g1 n c sup prev rfl
    | _ => exact g0
def Abj (v:V) (κ0:R) (κ:Nat->R):R :=
  @V.rec (fun _ => R) (fun _ => Unit) (fun k r => br (Bn k .u64) (κ r) κ0) (fun _ => κ0) (fun _ _ => κ0) (fun _ _ _ _ _ _ => κ0) (fun _ _ => κ0) (fun _ _ => κ0) (fun _ => κ0) (fun _ => κ0) (fun _ _ _ => κ0) (fun _ _ => κ0) (fun _ => κ0) () (fun _ _ _ _ => ()) v
theorem UV {G:R->Prop} {v:V} {κ0:R} {κ:Nat->R} (g0:G κ0) (g1:∀ r, v = .int .u64 r->G (κ r)):G (Abj v κ0 κ) := by
  cases v with
  | int k r =>
    show G (br (Bn k .u64) (κ r) κ0)
    cases hb:Bn k .u64 with
    | false => exact g0
    | true => exact g1 r (by rw [AI.1 hb])
  | _ => exact g0
def Dq:S->Heap->K4->R := fun t h n => g6 t fun z5 => g5 t fun z6 => AO z5 z6 fun z7 => AZ z7 (Ah 1 (g4 t fun z8 => AG 1 z8 z5 fun z9 => Av z9 h fun za => g3 t fun zb => Bw .u32 za fun zc => I0 zb zc fun zd => Ah 2 (w3 t zd fun t => w7 t (.int .i64 0) fun t => B8 Iz t h n) fun t h n => .ok .nrm t h n) fun t h n => g6 t fun zo => AM zo (.int .i64 1) fun zp => w6 t zp fun t => .ok .nrm t h n) <| .ok (.exit 0) t h n
def HO (j:Nat):Nat->Nat->Nat := @Nat.rec (fun _ => Nat->Nat->Nat) (fun _ x => x) (fun _ ih d x => ih (sh d 1) (JB (Nat.xor x (lo d 1)))) j
def YZ (j:Nat):Nat->Nat->(Nat->R)->R := @Nat.rec (fun _ => Nat->Nat->(Nat->R)->R) (fun _ x κ => κ x) (fun _ ih d x κ => Aa (Nat.xor x (lo d 1)) fun y => Aa (JB y) fun x => Aa (sh d 1) fun d => ih d x κ) j
theorem Rv:∀ (j d x:Nat) (κ:Nat->R), YZ j d x κ=κ (HO j d x)
  | 0, _, _, _ => rfl
  | j+1, d, x, κ => by
    show Aa (Nat.xor x (lo d 1)) (fun y => Aa (JB y) fun x => Aa (sh d 1) fun d => YZ j d x κ)=κ (HO j (sh d 1) (JB (Nat.xor x (lo d 1))))
    rw [A9, A9, A9, Rv]
theorem Yn (d j:Nat):lo (lo d (j+1)) 1=lo d 1 := by
  rw [DK, DK, DK, Nat.pow_succ, Nat.mod_mul_left_mod]
theorem Y0 (d j:Nat):sh (lo d (j+1)) 1=lo (sh d 1) j := by
  rw [DK, DK, F1, F1, Nat.pow_succ, Nat.pow_one, Nat.mul_comm, Nat.mod_mul_right_div_self]
theorem NP:∀ (j d x:Nat), HO j (lo d j) x=HO j d x
  | 0, _, _ => rfl
  | j+1, d, x => by
    show HO j (sh (lo d (j+1)) 1) (JB (Nat.xor x (lo (lo d (j+1)) 1)))=HO j (sh d 1) (JB (Nat.xor x (lo d 1)))
    rw [Yn, Y0, NP]
def S0:PU := fun t h κ κ0 => g6 t fun i => g5 t fun m => g4 t fun s => g3 t fun x => LM i κ0 fun i0 => LM m κ0 fun m0 => slE s κ0 fun p off len esz => Aaq x κ0 fun x0 => BC p h fun o => YX o κ0 fun nb c =>
  br (Nat.ble (Nat.succ i0) m0) (br (Nat.ble m0 len) (br (Nat.ble (Nat.add off len) nb) (br (Nat.beq esz 1) (br (Nat.ble (Nat.succ x0) 4294967296) (br (Nat.ble m0 4611686018427387904)
    (Aa (Nat.sub m0 i0) fun j => Aa (lo (sh c (Nat.add off i0)) j) fun d => YZ j d x0 fun x => w3 t (.int .u32 x) fun t => w6 t (.int .i64 m0) fun t => w7 t (.int .i64 8) fun t => κ j t) κ0) κ0) κ0) κ0) κ0) κ0
theorem UL (body:S->Heap->K4->R) (k:Nat) (t:S) (h:Heap) (n:K4):Cr body (k+1) t h n=Pa (body t h n) (Cr body k) := DY body (k+1) t h n
theorem JJ {id:Nat} {t:S} {h:Heap} {n:K4} {κ:S->Heap->K4->R}:Ah id (.ok (.exit id) t h n) κ=κ t h n := by
  show br (Nat.beq id id) (κ t h n) (.ok (.exit id) t h n)=κ t h n
  rw [Nat.beq_refl]; rfl
theorem N4 {d0 d1 d2 d4 d5 d6:V} {c2 c3 c4 c5 c6 c7:SQ} {h:Heap} {n:K4} {x:Nat} (hx:x<4294967296) :
    B8 Iz (.mk (.mk d0 d1 d2 (.int .u32 x)) (.mk d4 d5 d6 (.int .i64 0)) c2 c3 c4 c5 c6 c7) h n = .ok (.exit 2) (.mk (.mk d0 d1 d2 (.int .u32 (Ga 8 x))) (.mk d4 d5 d6 (.int .i64 8)) c2 c3 c4 c5 c6 c7) h n := by
  show Cr Iz 1000000000 _ _ _=_
  rw [show (1000000000:Nat)=8+(999999991+1) from rfl, LH 8 0 x (by omega) hx, UL]
  have e:Iz (.mk (.mk d0 d1 d2 (.int .u32 (Ga 8 x))) (.mk d4 d5 d6 (.int .i64 (0+8))) c2 c3 c4 c5 c6 c7) h n = .ok (.exit 2) (.mk (.mk d0 d1 d2 (.int .u32 (Ga 8 x))) (.mk d4 d5 d6 (.int .i64 (0+8))) c2 c3 c4 c5 c6 c7) h n := by
    unfold Iz
    show AO (.int .i64 (0+8)) (.int .i64 8) _=_
    rw [Ac0 (by omega) (by omega)]; rfl
  rw [e]; rfl
theorem QL {k:IntKind} {r:Nat} {κ:V->R} (h:r<256) (hk:256≤Mk k):Bw k (.int .u8 r) κ=κ (.int k r) := by
  have e0:Bw k (.int .u8 r) κ=br (Nat.ble (Nat.succ r) 256) (Aa (Nat.mod r (Mk k)) fun r => κ (.int k r)) (br (Nat.ble (Mk k) 256) (Aa (Nat.mod r (Mk k)) fun r => κ (.int k r)) (Aa (Nat.sub (Mk k) (Nat.sub 256 r)) fun r => κ (.int k r))) := rfl
  rw [e0, show Nat.ble (Nat.succ r) 256=true from Nat.ble_eq_true_of_le h]
  show Aa (Nat.mod r (Mk k)) (fun r => κ (V.int k r))=_
  rw [A9, show Nat.mod r (Mk k)=r from Nat.mod_eq_of_lt (by omega)]
theorem Ln {d0 d1 d2 d7:V} {c2 c3 c4 c5 c6 c7:SQ} {h:Heap} {n p:K4} {off len cap m i x nb c:Nat} {ex sup:Bool} {prev:Option K4}
    (hp:A8 p h=some (.c (.b nb c) sup prev)) (hi:i<m) (hm:m≤len) (hl:off+len≤nb) (hb:m≤4611686018427387904) (hx:x<4294967296) :
    Dq (.mk (.mk d0 d1 d2 (.int .u32 x)) (.mk (.sl p off len cap ex 1) (.int .i64 m) (.int .i64 i) d7) c2 c3 c4 c5 c6 c7) h n
      = .ok .nrm (.mk (.mk d0 d1 d2 (.int .u32 (JB (Nat.xor x (lo (sh c (off+i)) 1))))) (.mk (.sl p off len cap ex 1) (.int .i64 m) (.int .i64 (i+1)) (.int .i64 8)) c2 c3 c4 c5 c6 c7) h n := by
  unfold Dq
  show AO (.int .i64 i) (.int .i64 m) _=_
  rw [Pg hi hb]
  show Ah 1 (AG 1 (.sl p off len cap ex 1) (.int .i64 i) _) _=_
  rw [U6 (by omega) (by omega), VQ hp (by omega)]
  show Ah 1 (Bw .u32 (.int .u8 (lo (sh c (off+i*1)) 1)) _) _=_
  rw [QL (JK _) (by decide), Nat.mul_one]
  have e3:∀ (a b:Nat) (κ:V->R), I0 (.int .u32 a) (.int .u32 b) κ=κ (.int .u32 (Nat.xor a b)) := fun a b κ => by
    have e0:I0 (.int .u32 a) (.int .u32 b) κ=Aa (Nat.xor a b) fun r => κ (.int .u32 r) := rfl
    rw [e0, A9]
  rw [e3]
  have hx2:Nat.xor x (lo (sh c (off+i)) 1)<4294967296 := Nat.xor_lt_two_pow (n := 32) hx (Nat.lt_trans (JK _) (by decide))
  rw [J7]
  generalize Nat.xor x (lo (sh c (off+i)) 1)=y at hx2
  show Ah 1 (Ah 2 (B8 Iz (.mk (.mk d0 d1 d2 (.int .u32 y)) (.mk (.sl p off len cap ex 1) (.int .i64 m) (.int .i64 i) (.int .i64 0)) c2 c3 c4 c5 c6 c7) h n) _) _=_
  rw [N4 hx2, JJ, Fw]
  show AM (.int .i64 i) (.int .i64 1) _=_
  rw [Jz (by omega)]
theorem Hf {d0 d1 d2:V} {c2 c3 c4 c5 c6 c7:SQ} {h:Heap} {n p:K4} {off len cap m nb c:Nat} {ex sup:Bool} {prev:Option K4}
    (hp:A8 p h=some (.c (.b nb c) sup prev)) (hm:m≤len) (hl:off+len≤nb) (hb:m≤4611686018427387904) :
    ∀ (j i x:Nat) (d7:V), i+(j+1)≤m->x<4294967296->∀ K, Cr Dq (j+1+K) (.mk (.mk d0 d1 d2 (.int .u32 x)) (.mk (.sl p off len cap ex 1) (.int .i64 m) (.int .i64 i) d7) c2 c3 c4 c5 c6 c7) h n
      = Cr Dq K (.mk (.mk d0 d1 d2 (.int .u32 (HO (j+1) (sh c (off+i)) x))) (.mk (.sl p off len cap ex 1) (.int .i64 m) (.int .i64 (i+(j+1))) (.int .i64 8)) c2 c3 c4 c5 c6 c7) h n
  | 0, i, x, d7, hj, hx, K => by
    rw [show 0+1+K=K+1 by omega, DY]
    show Pa (Dq _ h n) (Cr Dq K)=_
    rw [Ln hp (by omega) hm hl hb hx]; rfl
  | j+1, i, x, d7, hj, hx, K => by
    rw [show j+1+1+K=(j+1+K)+1 by omega, DY]
    show Pa (Dq _ h n) (Cr Dq (j+1+K))=_
    rw [Ln hp (by omega) hm hl hb hx]
    show Cr Dq (j+1+K) _ h n=_
    rw [Hf hp hm hl hb j (i+1) _ _ (by omega) (by rw [J7]; exact Kt 8 (Nat.xor_lt_two_pow (n := 32) hx (Nat.lt_trans (JK _) (by decide)))) K]
    have e:HO (j+1+1) (sh c (off+i)) x=HO (j+1) (sh (sh c (off+i)) 1) (JB (Nat.xor x (lo (sh c (off+i)) 1))) := rfl
    rw [e, Oa, show off+(i+1)=off+i+1 by omega, show i+1+(j+1)=i+(j+1+1) by omega]
theorem Ts:KR Dq S0 := by
  intro t h κ κ0
  cases t with
  | mk c0 c1 c2 c3 c4 c5 c6 c7 =>
    cases c0 with
    | mk d0 d1 d2 x =>
      cases c1 with
      | mk s m i d7 =>
        obtain ⟨T, hT⟩:∃ T:S, T = .mk (.mk d0 d1 d2 x) (.mk s m i d7) c2 c3 c4 c5 c6 c7 := ⟨_, rfl⟩
        obtain ⟨G, hG⟩:∃ G:R->Prop, ∀ r, G r ↔ (r=κ0 ∨ ∃ j t', r=κ j t' ∧ ∀ k n, Cr Dq (j+k) T h n=Cr Dq k t' h n) := ⟨_, fun r => Iff.rfl⟩
        have g0:G κ0 := (hG _).2 (.inl rfl)
        rw [←hT]
        refine (hG _).1 ?_
        rw [hT]
        refine Fv (G := G) g0 fun i0 hi => Fv (G := G) g0 fun m0 hm => Sj (G := G) g0 fun p off len cap ex esz hs => VI (G := G) g0 fun x0 hx => HF (G := G) (OV (G := G) g0 fun nb c sup prev hp => ?_)
        subst hi hm hs hx
        refine Dx (G := G) g0 fun b1 => Dx (G := G) g0 fun b2 => Dx (G := G) g0 fun b3 => Dx (G := G) g0 fun b4 => Dx (G := G) g0 fun b5 => Dx (G := G) g0 fun b6 => ?_
        have b1 := Nat.le_of_ble_eq_true b1
        have b2 := Nat.le_of_ble_eq_true b2
        have b3:off+len≤nb := Nat.le_of_ble_eq_true b3
        have b4 := Nat.eq_of_beq_eq_true b4
        have b5 := Nat.le_of_ble_eq_true b5
        have b6 := Nat.le_of_ble_eq_true b6
        subst b4
        obtain ⟨j, hj⟩:∃ j, Nat.sub m0 i0=j+1 := ⟨m0 - i0 - 1, by show m0 - i0=_; omega⟩
        have hj':m0 - i0=j+1 := hj
        rw [hj, A9, A9, Rv, NP]
        refine (hG _).2 (.inr ⟨j+1, _, rfl, fun K n => ?_⟩)
        rw [hT, Hf hp b2 b3 b6 j i0 x0 d7 (by omega) b5 K, show i0+(j+1)=m0 by omega]; rfl
theorem Kn:B8 Dq=IA Dq S0 := Jr Ts
def Gb:S->Heap->K4->R := fun t h n => g5 t fun z3 => g4 t fun z4 => AO z3 z4 fun z5 => AZ z5 (Ah 1 (g3 t fun z6 => AG 1 z6 z3 fun z7 => Av z7 h fun z8 => g2 t fun z9 => Pc z9 (.int .u64 8) fun za => Bw .u64 z8 fun zb => UA za zb fun zc => w2 t zc fun t => .ok .nrm t h n) fun t h n => g5 t fun zd => AM zd (.int .i64 1) fun ze => w5 t ze fun t => .ok .nrm t h n) <| .ok (.exit 0) t h n
abbrev JF (x b:Nat):Nat := Nat.lor (Nat.mod (Nat.shiftLeft x 8) 18446744073709551616) b
def Iw (j:Nat):Nat->Nat->Nat := @Nat.rec (fun _ => Nat->Nat->Nat) (fun _ x => x) (fun _ ih d x => ih (sh d 1) (JF x (lo d 1))) j
def Uz (j:Nat):Nat->Nat->(Nat->R)->R := @Nat.rec (fun _ => Nat->Nat->(Nat->R)->R) (fun _ x κ => κ x) (fun _ ih d x κ => Aa (JF x (lo d 1)) fun x => Aa (sh d 1) fun d => ih d x κ) j
theorem Po:∀ (j d x:Nat) (κ:Nat->R), Uz j d x κ=κ (Iw j d x)
  | 0, _, _, _ => rfl
  | j+1, d, x, κ => by
    show Aa (JF x (lo d 1)) (fun x => Aa (sh d 1) fun d => Uz j d x κ)=κ (Iw j (sh d 1) (JF x (lo d 1)))
    rw [A9, A9, Po]
theorem P9:∀ (j d x:Nat), Iw j (lo d j) x=Iw j d x
  | 0, _, _ => rfl
  | j+1, d, x => by
    show Iw j (sh (lo d (j+1)) 1) (JF x (lo (lo d (j+1)) 1))=Iw j (sh d 1) (JF x (lo d 1))
    rw [Yn, Y0, P9]
def Ug:PU := fun t h κ κ0 => g5 t fun i => g4 t fun m => g3 t fun s => g2 t fun x => LM i κ0 fun i0 => LM m κ0 fun m0 => slE s κ0 fun p off len esz => Abj x κ0 fun x0 => BC p h fun o => YX o κ0 fun nb c =>
  br (Nat.ble (Nat.succ i0) m0) (br (Nat.ble m0 len) (br (Nat.ble (Nat.add off len) nb) (br (Nat.beq esz 1) (br (Nat.ble m0 4611686018427387904)
    (Aa (Nat.sub m0 i0) fun j => Aa (lo (sh c (Nat.add off i0)) j) fun d => Uz j d x0 fun x => w2 t (.int .u64 x) fun t => w5 t (.int .i64 m0) fun t => κ j t) κ0) κ0) κ0) κ0) κ0
theorem Qo {d0 d1 d6 d7:V} {c2 c3 c4 c5 c6 c7:SQ} {h:Heap} {n p:K4} {off len cap m i x nb c:Nat} {ex sup:Bool} {prev:Option K4}
    (hp:A8 p h=some (.c (.b nb c) sup prev)) (hi:i<m) (hm:m≤len) (hl:off+len≤nb) (hb:m≤4611686018427387904) :
    Gb (.mk (.mk d0 d1 (.int .u64 x) (.sl p off len cap ex 1)) (.mk (.int .i64 m) (.int .i64 i) d6 d7) c2 c3 c4 c5 c6 c7) h n
      = .ok .nrm (.mk (.mk d0 d1 (.int .u64 (JF x (lo (sh c (off+i)) 1))) (.sl p off len cap ex 1)) (.mk (.int .i64 m) (.int .i64 (i+1)) d6 d7) c2 c3 c4 c5 c6 c7) h n := by
  unfold Gb
  show AO (.int .i64 i) (.int .i64 m) _=_
  rw [Pg hi hb]
  show Ah 1 (AG 1 (.sl p off len cap ex 1) (.int .i64 i) _) _=_
  rw [U6 (by omega) (by omega), VQ hp (by omega), Nat.mul_one]
  have e1:∀ (κ:V->R), Pc (.int .u64 x) (.int .u64 8) κ=κ (.int .u64 (Nat.mod (Nat.shiftLeft x 8) 18446744073709551616)) := fun κ => by
    have e0:Pc (.int .u64 x) (.int .u64 8) κ=Aa (Nat.mod (Nat.shiftLeft x 8) 18446744073709551616) fun r => κ (.int .u64 r) := rfl
    rw [e0, A9]
  have e2:∀ (a b:Nat) (κ:V->R), UA (.int .u64 a) (.int .u64 b) κ=κ (.int .u64 (Nat.lor a b)) := fun a b κ => by
    have e0:UA (.int .u64 a) (.int .u64 b) κ=Aa (Nat.lor a b) fun r => κ (.int .u64 r) := rfl
    rw [e0, A9]
  show Ah 1 (Pc (.int .u64 x) (.int .u64 8) _) _=_
  rw [e1, QL (JK _) (by decide), e2, Fw]
  show AM (.int .i64 i) (.int .i64 1) _=_
  rw [Jz (by omega)]
theorem JM {d0 d1 d6 d7:V} {c2 c3 c4 c5 c6 c7:SQ} {h:Heap} {n p:K4} {off len cap m nb c:Nat} {ex sup:Bool} {prev:Option K4}
    (hp:A8 p h=some (.c (.b nb c) sup prev)) (hm:m≤len) (hl:off+len≤nb) (hb:m≤4611686018427387904) :
    ∀ (j i x:Nat), i+j≤m->∀ K, Cr Gb (j+K) (.mk (.mk d0 d1 (.int .u64 x) (.sl p off len cap ex 1)) (.mk (.int .i64 m) (.int .i64 i) d6 d7) c2 c3 c4 c5 c6 c7) h n
      = Cr Gb K (.mk (.mk d0 d1 (.int .u64 (Iw j (sh c (off+i)) x)) (.sl p off len cap ex 1)) (.mk (.int .i64 m) (.int .i64 (i+j)) d6 d7) c2 c3 c4 c5 c6 c7) h n
  | 0, i, x, hj, K => by rw [Nat.zero_add]; rfl
  | j+1, i, x, hj, K => by
    rw [show j+1+K=(j+K)+1 by omega, DY]
    show Pa (Gb _ h n) (Cr Gb (j+K))=_
    rw [Qo hp (by omega) hm hl hb]
    show Cr Gb (j+K) _ h n=_
    rw [JM hp hm hl hb j (i+1) _ (by omega) K]
    have e:Iw (j+1) (sh c (off+i)) x=Iw j (sh (sh c (off+i)) 1) (JF x (lo (sh c (off+i)) 1)) := rfl
    rw [e, Oa, show off+(i+1)=off+i+1 by omega, show i+1+j=i+(j+1) by omega]
theorem Th:KR Gb Ug := by
  intro t h κ κ0
  cases t with
  | mk c0 c1 c2 c3 c4 c5 c6 c7 =>
    cases c0 with
    | mk d0 d1 x s =>
      cases c1 with
      | mk m i d6 d7 =>
        obtain ⟨T, hT⟩:∃ T:S, T = .mk (.mk d0 d1 x s) (.mk m i d6 d7) c2 c3 c4 c5 c6 c7 := ⟨_, rfl⟩
        obtain ⟨G, hG⟩:∃ G:R->Prop, ∀ r, G r ↔ (r=κ0 ∨ ∃ j t', r=κ j t' ∧ ∀ k n, Cr Gb (j+k) T h n=Cr Gb k t' h n) := ⟨_, fun r => Iff.rfl⟩
        have g0:G κ0 := (hG _).2 (.inl rfl)
        rw [←hT]
        refine (hG _).1 ?_
        rw [hT]
        refine Fv (G := G) g0 fun i0 hi => Fv (G := G) g0 fun m0 hm => Sj (G := G) g0 fun p off len cap ex esz hs => UV (G := G) g0 fun x0 hx => HF (G := G) (OV (G := G) g0 fun nb c sup prev hp => ?_)
        subst hi hm hs hx
        refine Dx (G := G) g0 fun b1 => Dx (G := G) g0 fun b2 => Dx (G := G) g0 fun b3 => Dx (G := G) g0 fun b4 => Dx (G := G) g0 fun b6 => ?_
        have b1 := Nat.le_of_ble_eq_true b1
        have b2 := Nat.le_of_ble_eq_true b2
        have b3:off+len≤nb := Nat.le_of_ble_eq_true b3
        have b4 := Nat.eq_of_beq_eq_true b4
        have b6 := Nat.le_of_ble_eq_true b6
        subst b4
        rw [A9, A9, Po, P9]
        refine (hG _).2 (.inr ⟨Nat.sub m0 i0, _, rfl, fun K n => ?_⟩)
        rw [hT, JM hp b2 b3 b6 (Nat.sub m0 i0) i0 x0 (by show i0+(m0 - i0)≤m0; omega) K, show i0+Nat.sub m0 i0=m0 by show i0+(m0 - i0)=m0; omega]; rfl
theorem Xu:B8 Gb=IA Gb Ug := Jr Th
end Go.Ev

namespace Go.Ev
set_option linter.unusedVariables false
section
variable {P:Program} {ρ:Env} {B:Nat}
end
abbrev iI (n:Nat):V := .int .i64 n
abbrev iW (n:Nat):V := .int .u32 n
abbrev iB (n:Nat):V := .int .u8 n
abbrev iL (n:Nat):V := .int .u64 n
abbrev nR (t:S) (h:Heap) (n:K4):R := .ok .nrm t h n
abbrev rT (t:S) (h:Heap) (n:K4):R := .ok .ret t h n
def o8 (i:Nat):O8 := @Nat.rec (fun _ => O8) .d0 (fun i _ => @Nat.rec (fun _ => O8) .d1 (fun i _ => @Nat.rec (fun _ => O8) .d2 (fun i _ => @Nat.rec (fun _ => O8) .d3 (fun i _ => @Nat.rec (fun _ => O8) .d4 (fun i _ => @Nat.rec (fun _ => O8) .d5 (fun i _ => @Nat.rec (fun _ => O8) .d6 (fun _ _ => .d7) i) i) i) i) i) i) i
def o4 (i:Nat):O4 := @Nat.rec (fun _ => O4) .d0 (fun i _ => @Nat.rec (fun _ => O4) .d1 (fun i _ => @Nat.rec (fun _ => O4) .d2 (fun _ _ => .d3) i) i) i
def mS (l:List Nat):SM := @List.rec Nat (fun _ => Nat->SM) (fun _ => []) (fun p _ ih i => (⟨D.ofN (Nat.div p 16), D.ofN (Nat.mod p 16)⟩, ⟨o8 (Nat.div i 4), o4 (Nat.mod i 4)⟩)::ih (Nat.succ i)) l 0
end Go.Ev

namespace Go.Ev
set_option linter.unusedVariables false
abbrev Kp := Nat->Option (Array Value×TypeId×(Nat×Nat))
/-- The environment of a program whose blocks gl stay as they are. -/
def XL (P:Program) (fs:List Nat) (gl:Kp):Env := { J0 P fs with gl := gl }
section
variable {P:Program} {ρ:Env} {B:Nat}
theorem F0.gl {fs:List Nat} {gl:Kp} {f:FuncId} {e:Ent} (h:F0 P (J0 P fs) f e):F0 P (XL P fs gl) f e := h
/-- A table that stays. -/
def Xe (P:Program) (gl:Kp) (name:String) (k:IntKind) (zs:List Int):Prop := ∃ g e fr, P.globalNamed name=some g∧gl g=some ((zs.map fun z => Value.int k z).toArray, e, fr)
theorem Xe.is {gl:Kp} {name:String} {k:IntKind} {zs:List Int} {h:Heap} {n:K4} {φ:AS} {w:World} (t:Xe P gl name k zs) (hgl:ρ.gl=gl) (g:Gam ρ B h n φ w):Lib.TabIs P w name k zs := by
  obtain ⟨b, e, fr, h1, h2⟩ := t
  obtain ⟨_, h3⟩ := g.glob b _ e fr (by rw [hgl]; exact h2)
  unfold Lib.TabIs World.var?
  rw [h1, Option.bind_some, h3]
/-- The blocks of a world that a list names. -/
def LQ (w:World) (l:List Nat):Kp := fun b => if b∈l then (match w.heap[b]? with | some (.cells c e fr) => some (c, e, fr) | _ => none) else none
theorem Wt {P:Program} {fs:List Nat} {w:World} {l:List Nat}:WH (XL P fs (LQ w l)) w := fun b c e fr h => by
  have h:LQ w l b=some (c, e, fr) := h
  unfold LQ at h
  split at h
  · split at h
    · rename_i c' e' fr' hw
      cases h
      refine ⟨?_, hw⟩
      rcases Nat.lt_or_ge b w.heap.size with hb | hb
      · exact hb
      · rw [Array.getElem?_eq_none hb] at hw; cases hw
    · cases h
  · cases h
theorem Xe.of {w:World} {l:List Nat} {g:Nat} {name:String} {k:IntKind} {zs:List Int} (hg:P.globalNamed name=some g) (hl:g∈l) (h:Lib.TabIs P w name k zs):Xe P (LQ w l) name k zs := by
  unfold Lib.TabIs World.var? at h
  rw [hg, Option.bind_some] at h
  split at h
  · rename_i c e fr hw
    cases h
    refine ⟨g, e, fr, hg, ?_⟩
    unfold LQ
    rw [if_pos hl, hw]
  · cases h
end
end Go.Ev

namespace Go.Ev
set_option linter.unusedVariables false
open Go.RowKit
section
variable {P:Program} {ρ:Env} {B:Nat}
/-- What stands below stays; new blocks are nothing to it. -/
theorem Gam.below {h:Heap} {n:K4} {φ:AS} {w w':World} (g:Gam ρ B h n φ w) (b:Below w.heap.size w w'):Gam ρ B h n φ w'∧Fr h h φ φ n n w w' := by
  obtain ⟨b1, b2, b3, b4, b5⟩ := b
  refine ⟨⟨Nat.le_trans g.base b4, g.dom, fun p b s t hp => ⟨(g.blk p b s t hp).1, Nat.lt_of_lt_of_le (g.blk p b s t hp).2 b4⟩, fun p o b s t ho hp => Cv (b5 b (g.blk p b s t hp).2) (g.obj p o b s t ho hp), g.sep, g.sup,
    fun b c e fr hb => ⟨(g.glob b c e fr hb).1, by rw [b5 b (Nat.lt_of_lt_of_le (g.glob b c e fr hb).1 g.base)]; exact (g.glob b c e fr hb).2⟩⟩,
    ⟨AS.le_refl φ, fun _ _ h => .inl h, Nat.le_refl _, b1, b2, b3, b4, fun b hb _ => b5 b hb, fun _ _ _ _ h => .inl h, fun _ _ h => h⟩⟩
end
theorem U3 {a:Int} (h:(Lit.int .i64 a).wf=true) : -9223372036854775808≤a∧a<9223372036854775808 := by
  simp [Lit.wf, IntKind.min, IntKind.max, IntKind.signed, IntKind.bits] at h
  omega
end Go.Ev

namespace Go.Ev
set_option linter.unusedVariables false
/-- The environment of a program with symbols, whose blocks gl stay as they are. -/
def JG (P:Program) (fs:List Nat) (v:Nat->Value) (gl:Kp):Env := { J0 P fs with v := v, gl := gl }
theorem Aax {P:Program} {fs:List Nat} {v:Nat->Value} {gl:Kp} (h:∀ i, (v i).oneCell'=true):BJ (JG P fs v gl) := h
section
variable {P:Program} {ρ:Env} {B:Nat}
theorem F0.ar {fs:List Nat} {v:Nat->Value} {gl:Kp} {f:FuncId} {e:Ent} (h:F0 P (J0 P fs) f e):F0 P (JG P fs v gl) f e := h
theorem JC.mkA {fs:List Nat} {v:Nat->Value} {gl:Kp} {T:FC} (h:∀ f e, B0 (B2 f) T=some e->MV P (JG P fs v gl) B f e) (ha:∀ f∈fs, ∃ e, B0 (B2 f) T=some e∧F0 P (JG P fs v gl) f e):JC P (JG P fs v gl) B T := by
  refine ⟨h, fun f A hA => ?_⟩
  have hA:@Bool.rec (fun _ => Option ApC) none (Ma P f) (fs.contains f)=some A := hA
  cases hc:fs.contains f with
  | false => rw [hc] at hA; cases hA
  | true => exact ha f (List.contains_iff_mem.1 hc)
theorem W9 {fs:List Nat} {v:Nat->Value} {w:World} {l:List Nat}:WH (JG P fs v (LQ w l)) w := fun b c e fr h => Wt (P := P) (fs := fs) (w := w) (l := l) b c e fr h
theorem Tw {w:World} {l:List Nat} {b:Nat} {c:Array Value} {e:TypeId} {fr:Nat×Nat} (hb:b∈l) (h:w.heap[b]? = some (.cells c e fr)):LQ w l b=some (c, e, fr) := by
  unfold LQ
  rw [if_pos hb, h]
/-- A cell of a world. -/
theorem R1 {w:World} {a:Addr} {v:Value} (h:w.cell? a=some v):∃ b o c e fr, a=⟨b, o, none⟩∧w.heap[b]? = some (.cells c e fr)∧c[o]? = some v := by
  obtain ⟨b, o, sp⟩ := a
  unfold World.cell? at h
  split at h
  · rename_i c e fr hw
    split at h
    · cases h
    · rename_i hs
      cases sp with
      | none => exact ⟨b, o, c, e, fr, rfl, hw, h⟩
      | some x => exact absurd rfl hs
  · cases h
end
section
variable {ρ:Env} {φ:AS} {b o len cap lo hi hi' i:Nat} {c:Array Value} {e:TypeId} {fr:Nat×Nat}
end
end Go.Ev

namespace Go.Ev
set_option linter.unusedVariables false
theorem XC (k:IntKind) (a b:Nat) (κ:V->R):AM (.int k a) (.int k b) κ=κ (.int k ((a+b) % Mk k)) := by
  show kM k k (fun M => Aa (Nat.mod (Nat.add a b) M) fun r => κ (.int k r))=_
  rw [Pz, AI.2 rfl, Ad, A9]; rfl
/-- A difference. -/
def Ih (k:IntKind) (a b:Nat):Nat := (a+(Mk k - b)) % Mk k
theorem Sx (k:IntKind) (a b:Nat) (κ:V->R):B3 (.int k a) (.int k b) κ=κ (.int k (Ih k a b)) := by
  show kM k k (fun M => Aa (Nat.mod (Nat.add a (Nat.sub M b)) M) fun r => κ (.int k r))=_
  rw [Pz, AI.2 rfl, Ad, A9]; rfl
theorem Ya (k:IntKind) (a b:Nat) (κ:V->R):ML (.int k a) (.int k b) κ=κ (.int k ((a*b) % Mk k)) := by
  show kM k k (fun M => Aa (Nat.mod (Nat.mul a b) M) fun r => κ (.int k r))=_
  rw [Pz, AI.2 rfl, Ad, A9]; rfl
theorem CH (a b:Nat):Nat.beq a b=decide (a=b) := by
  rw [Bool.eq_iff_iff, decide_eq_true_iff]
  exact ⟨Nat.eq_of_beq_eq_true, fun h => by rw [h]; exact Nat.beq_refl b⟩
theorem Yo (k:IntKind) (a b:Nat) (κ:V->R):CR (.int k a) (.int k b) κ=κ (.bool (decide (a=b))) := by
  show kM k k (fun _ => C8 (Nat.beq a b) fun r => κ (.bool r))=_
  rw [Pz, AI.2 rfl, Ad, Bv, CH]
theorem XY (k:IntKind) (a b:Nat) (κ:V->R):BY (.int k a) (.int k b) κ=κ (.bool (decide (¬ a=b))) := by
  show kM k k (fun _ => br (Nat.beq a b) (κ (.bool false)) (κ (.bool true)))=_
  rw [Pz, AI.2 rfl, Ad, CH]
  by_cases h:a=b
  · rw [decide_eq_true h, decide_eq_false (fun g => g h)]; rfl
  · rw [decide_eq_false h, decide_eq_true h]; rfl
/-- Signed numbers that are not negative, and unsigned ones, by their residues. -/
theorem UG {k:IntKind} {a b:Nat} (ha:a<Hk k) (hb:b<Hk k):Dz k a b=decide (a<b) := by
  unfold Dz
  rw [AQ ha, AQ hb, Ao, Ao, CY]
  exact decide_eq_decide.2 Nat.succ_le_iff
theorem XV (k:IntKind) (a b:Nat) (κ:V->R):AO (.int k a) (.int k b) κ=κ (.bool (Dz k a b)) := by
  show kH k k (fun H => C8 (X6 H a b) fun r => κ (.bool r))=_
  rw [RO, AI.2 rfl, Ad, Bv]; rfl
theorem Y7 (k:IntKind) (a b:Nat) (κ:V->R):Cb (.int k a) (.int k b) κ=κ (.bool (Dz k b a)) := by
  show kH k k (fun H => C8 (X6 H b a) fun r => κ (.bool r))=_
  rw [RO, AI.2 rfl, Ad, Bv]; rfl
theorem XZ (k:IntKind) (a b:Nat) (κ:V->R):FH (.int k a) (.int k b) κ=κ (.bool (!Dz k b a)) := by
  show kH k k (fun H => br (X6 H b a) (κ (.bool false)) (κ (.bool true)))=_
  rw [RO, AI.2 rfl, Ad, VR]; cases Dz k b a <;> rfl
theorem Y1 (k:IntKind) (a b:Nat) (κ:V->R):CC (.int k a) (.int k b) κ=κ (.bool (!Dz k a b)) := by
  show kH k k (fun H => br (X6 H a b) (κ (.bool false)) (κ (.bool true)))=_
  rw [RO, AI.2 rfl, Ad, VR]; cases Dz k a b <;> rfl
theorem Yr {k:IntKind} {a b:Nat} (ha:a<Hk k) (hb:b<Hk k) (h0:0<b) (κ:V->R):L6 (.int k a) (.int k b) κ=κ (.int k (a / b)) := by
  show br (Bn k k) (br (Nat.ble (Nat.succ a) (Hk k)) (br (Nat.ble (Nat.succ b) (Hk k)) (br (Nat.ble 1 b) (Aa (Nat.div a b) fun r => κ (.int k r)) _) _) _) _=_
  rw [AI.2 rfl, Ad, Ab.2 ha, Ad, Ab.2 hb, Ad, Ab.2 h0, Ad, A9]; rfl
theorem VL {k:IntKind} {a b:Nat} (ha:a<Hk k) (hb:b<Hk k) (h0:0<b) (κ:V->R):MQ (.int k a) (.int k b) κ=κ (.int k (a % b)) := by
  show br (Nat.ble (Nat.succ a) (Hk k)) (br (Bn k k) (br (Nat.ble (Nat.succ a) (Hk k)) (br (Nat.ble (Nat.succ b) (Hk k)) (br (Nat.ble 1 b) (Aa (Nat.mod a b) fun r => κ (.int k r)) (.fail "")) (.fail "")) (.fail "")) (.fail "")) (Mj k a k b κ)=_
  rw [show Nat.ble (Nat.succ a) (Hk k)=true from Ab.2 ha, Ad, AI.2 rfl, Ad, Ad, show Nat.ble (Nat.succ b) (Hk k)=true from Ab.2 hb, Ad, show Nat.ble 1 b=true from Ab.2 h0, Ad, A9]; rfl
theorem XB (k:IntKind) (a b:Nat) (κ:V->R):N8 (.int k a) (.int k b) κ=κ (.int k (a &&& b)) := by
  show br (Bn k k) (Aa (Nat.land a b) fun r => κ (.int k r)) _=_
  rw [AI.2 rfl, Ad, A9]; rfl
theorem Aa6 (k:IntKind) (a b:Nat) (κ:V->R):UA (.int k a) (.int k b) κ=κ (.int k (a ||| b)) := by
  show br (Bn k k) (Aa (Nat.lor a b) fun r => κ (.int k r)) _=_
  rw [AI.2 rfl, Ad, A9]; rfl
theorem XQ (k:IntKind) (a b:Nat) (κ:V->R):I0 (.int k a) (.int k b) κ=κ (.int k (a ^^^ b)) := by
  show br (Bn k k) (Aa (Nat.xor a b) fun r => κ (.int k r)) _=_
  rw [AI.2 rfl, Ad, A9]; rfl
/-- A number turned into one of another kind: not negative. -/
theorem JE {k j:IntKind} {a:Nat} (h:a<Hk j) (κ:V->R):Bw k (.int j a) κ=κ (.int k (a % Mk k)) := by
  show br (Nat.ble (Nat.succ a) (Hk j)) (Aa (Nat.mod a (Mk k)) fun r => κ (.int k r)) _=_
  rw [Ab.2 h, Ad, A9]; rfl
theorem Ab7 (b:Bool) (x y:R):AZ (.bool b) x y=bif b then x else y := by cases b <;> rfl
theorem U1 (b:Bool) (x y:V) (κ:V->R):AF (.bool b) x y κ=bif b then κ x else κ y := by cases b <;> rfl
theorem XI (b:Bool) (κ:V->R):Cd (.bool b) κ=κ (.bool (!b)) := by cases b <;> rfl
theorem Ye (w b:Bool) (h:Heap) (n:K4) (F:KV->R) (κ:KV):Bu w (.bool b) h n F κ=bif b == w then F κ else κ Ar h n := by cases w <;> cases b <;> rfl
theorem Yc (w b:Bool) (F:(V->R)->R) (κ:V->R):OI w (.bool b) F κ=bif b == w then F κ else κ Ar := by cases w <;> cases b <;> rfl
theorem XM (v:V) (h:Heap) (n:K4) (κ:V->R):AX (.rv v h n) κ=κ v := id rfl
theorem XS (v:V) (h:Heap) (n:K4) (κ:KV):FL (.rv v h n) κ=κ v h n := id rfl
theorem Vx (v:V) (h:Heap) (n:K4) (κ:KV):Ag (.rv v h n) κ=κ v h n := id rfl
theorem Sd (t:S) (h:Heap) (n:K4) (κ:S->Heap->K4->R):Ct (.ok .nrm t h n) κ=κ t h n := id rfl
theorem RD (i:Nat) (t:S) (h:Heap) (n:K4) (κ:S->Heap->K4->R):Ct (.ok (.exit i) t h n) κ = .ok (.exit i) t h n := id rfl
theorem Sn (t:S) (h:Heap) (n:K4) (κ:S->Heap->K4->R):Ct (.ok .ret t h n) κ = .ok .ret t h n := id rfl
theorem PB (i:Nat) (t:S) (h:Heap) (n:K4) (κ:S->Heap->K4->R):Ah i (.ok .nrm t h n) κ=κ t h n := id rfl
theorem PS (i:Nat) (t:S) (h:Heap) (n:K4) (κ:S->Heap->K4->R):Ah i (.ok .ret t h n) κ = .ok .ret t h n := id rfl
theorem Pb (i j:Nat) (t:S) (h:Heap) (n:K4) (κ:S->Heap->K4->R):Ah i (.ok (.exit j) t h n) κ=bif decide (j=i) then κ t h n else .ok (.exit j) t h n := by
  show br (Nat.beq j i) (κ t h n) (.ok (.exit j) t h n)=_
  rw [CH]; cases decide (j=i) <;> rfl
theorem RL (b:Bool) (x y:R) (κ:S->Heap->K4->R):Ct (bif b then x else y) κ=bif b then Ct x κ else Ct y κ := by cases b <;> rfl
theorem Pw (i:Nat) (b:Bool) (x y:R) (κ:S->Heap->K4->R):Ah i (bif b then x else y) κ=bif b then Ah i x κ else Ah i y κ := by cases b <;> rfl
theorem V9 (b:Bool) (x y:R) (κ:V->R):AX (bif b then x else y) κ=bif b then AX x κ else AX y κ := by cases b <;> rfl
theorem UB (b:Bool) (x y:R) (κ:KV):FL (bif b then x else y) κ=bif b then FL x κ else FL y κ := by cases b <;> rfl
/-- What a cell of an object is. -/
def XD (o:Co) (off:Nat) (κ:V->R):R := @Option.rec Ob (fun _ => R) (.fail "") (fun o => @Ob.rec (fun _ => R) (fun cs _ _ => Fb cs off κ) (Ca "") (Fn "") (.fail "") (AA "") o) o
theorem Z0 (p:K4) (off:Nat) (h:Heap) (κ:V->R):Av (.ptr p off) h κ=XD (A8 p h) off κ := by
  show KG p h (fun cs _ _ => Fb cs off κ)=_
  rw [E4]; unfold H6 XD; rw [Cp]
theorem UY (xs:List V) (s:Bool) (pr:Option K4) (off:Nat) (κ:V->R):XD (some (.c (.l xs) s pr)) off κ=DT off xs κ := id rfl
theorem Ul (x:V) (xs:List V) (κ:V->R):DT 0 (x::xs) κ=κ x := id rfl
theorem UF (m:Nat) (x:V) (xs:List V) (κ:V->R):DT (m+1) (x::xs) κ=DT m xs κ := id rfl
theorem XN (off o:Nat) (p:K4) (κ:V->R):Am off (.ptr p o) κ=κ (.ptr p (o+off)) := by
  show Aa (Nat.add o off) (fun o => κ (.ptr p o))=_
  rw [A9]; rfl
theorem Sh (p:K4) (o:Nat) (κ:V->R):Au (.ptr p o) κ=κ (.ptr p o) := id rfl
end Go.Ev

namespace Go.Ev
set_option linter.unusedVariables false
theorem D.nx_all (d:D):(d.toN=15 ∧ ∀ (k:D->R) (c:R), d.nx k c=c) ∨ ∃ e:D, e.toN=d.toN+1 ∧ ∀ (k:D->R) (c:R), d.nx k c=k e := by
  cases d
  case d0 => exact .inr ⟨.d1, rfl, fun _ _ => rfl⟩
  case d1 => exact .inr ⟨.d2, rfl, fun _ _ => rfl⟩
  case d2 => exact .inr ⟨.d3, rfl, fun _ _ => rfl⟩
  case d3 => exact .inr ⟨.d4, rfl, fun _ _ => rfl⟩
  case d4 => exact .inr ⟨.d5, rfl, fun _ _ => rfl⟩
  case d5 => exact .inr ⟨.d6, rfl, fun _ _ => rfl⟩
  case d6 => exact .inr ⟨.d7, rfl, fun _ _ => rfl⟩
  case d7 => exact .inr ⟨.d8, rfl, fun _ _ => rfl⟩
  case d8 => exact .inr ⟨.d9, rfl, fun _ _ => rfl⟩
  case d9 => exact .inr ⟨.d10, rfl, fun _ _ => rfl⟩
  case d10 => exact .inr ⟨.d11, rfl, fun _ _ => rfl⟩
  case d11 => exact .inr ⟨.d12, rfl, fun _ _ => rfl⟩
  case d12 => exact .inr ⟨.d13, rfl, fun _ _ => rfl⟩
  case d13 => exact .inr ⟨.d14, rfl, fun _ _ => rfl⟩
  case d14 => exact .inr ⟨.d15, rfl, fun _ _ => rfl⟩
  case d15 => exact .inl ⟨rfl, fun _ _ => rfl⟩
theorem K4.nx_all (p:K4) (h:p.toN<65535):∃ q:K4, q.toN=p.toN+1 ∧ ∀ k:K4->R, p.nx k=k q := by
  obtain ⟨a, b, c, d⟩ := p
  simp only [K4.toN] at h
  have hd0:D.d0.toN=0 := id rfl
  have ha := a.toN_lt; have hb := b.toN_lt; have hc := c.toN_lt; have hd := d.toN_lt
  rcases d.nx_all with ⟨d1, d2⟩ | ⟨e, d1, d2⟩
  · rcases c.nx_all with ⟨c1, c2⟩ | ⟨e, c1, c2⟩
    · rcases b.nx_all with ⟨b1, b2⟩ | ⟨e, b1, b2⟩
      · rcases a.nx_all with ⟨a1, a2⟩ | ⟨e, a1, a2⟩
        · omega
        · exact ⟨⟨e, .d0, .d0, .d0⟩, by simp only [K4.toN, hd0]; omega, fun k => by show d.nx _ (c.nx _ (b.nx _ (a.nx _ _)))=_; rw [d2, c2, b2, a2]⟩
      · exact ⟨⟨a, e, .d0, .d0⟩, by simp only [K4.toN, hd0]; omega, fun k => by show d.nx _ (c.nx _ (b.nx _ _))=_; rw [d2, c2, b2]⟩
    · exact ⟨⟨a, b, e, .d0⟩, by simp only [K4.toN, hd0]; omega, fun k => by show d.nx _ (c.nx _ _)=_; rw [d2, c2]⟩
  · exact ⟨⟨a, b, c, e⟩, by simp only [K4.toN]; omega, fun k => by show d.nx _ _=_; rw [d2]⟩
/-- The next place, where there is one. -/
def K4.up (p:K4):K4 := if h:p.toN<65535 then Classical.choose (p.nx_all h) else p
theorem K4.up_toN {p:K4} (h:p.toN<65535):p.up.toN=p.toN+1 := by
  unfold K4.up; rw [dif_pos h]; exact (Classical.choose_spec (p.nx_all h)).1
theorem K4.nx_up {p:K4} (h:p.toN<65535) (k:K4->R):p.nx k=k p.up := by
  unfold K4.up; rw [dif_pos h]; exact (Classical.choose_spec (p.nx_all h)).2 k
theorem K4.ne_of_lt {p q:K4} (h:p.toN<q.toN):p≠q := fun e => by subst e; omega
theorem DH {n:K4} (hn:n.toN<65535) (h:Heap) (o:Ob) (κ:Heap->K4->R):DQ h n o κ=κ (Ac n h (some o)) n.up := by
  rw [Hy]
  have e:Dj h n o κ=n.nx fun n' => κ (Ac n h (some o)) n' := AU _ _ _ _
  rw [e, K4.nx_up hn]
theorem RY {n:K4} (hn:n.toN<65535) (h:Heap) (κ:KV):GH h n κ=κ (.map n) (Ac n h (some (.m [] [] 0))) n.up := DH hn _ _ _
theorem Vl {n:K4} (hn:n.toN<65535) (l:List V) (h:Heap) (κ:KV):Dv (.agg l) h n κ=κ (.ptr n 0) (Ac n h (some (.c (.l l) false none))) n.up := DH hn _ _ _
theorem Yq {n:K4} (hn:n.toN<65535) (cs:Cs) (h:Heap) (κ:KV):DE cs h n κ=κ (.ptr n 0) (Ac n h (some (.c cs false none))) n.up := DH hn _ _ _
theorem Uf {n:K4} (hn:n.toN<65535) (len esz:Nat) (l:List V) (h:Heap) (κ:KV):Cx false len esz l h n κ=κ (.sl n 0 len len true esz) (Ac n h (some (.c (.l l) false none))) n.up := DH hn _ _ _
theorem Uj {n:K4} (hn:n.toN<65535) (esz:Nat) (h:Heap) (κ:KV):Cx true 0 esz [] h n κ=κ (.sl n 0 0 0 true esz) (Ac n h (some (.c (.b 0 0) false none))) n.up := DH hn _ _ _
theorem Zh {n:K4} (hn:n.toN<65535) {a b:Nat} (hab:a≤b) (hb:b≤281474976710656) (zero:List V) (hz:zero.length=1) (k j:IntKind) (ha:a<Hk k) (hb2:b<Hk j) (h:Heap) (κ:KV) :
    Ky 1 true zero (.int k a) (.int j b) h n κ=κ (.sl n 0 a b true 1) (Ac n h (some (.c (.b b 0) false none))) n.up := by
  show br (Nat.ble (Nat.succ a) (Hk k)) (br (Nat.ble (Nat.succ b) (Hk j)) (br (Nat.ble a b) (br (Nat.ble (Nat.mul 1 b) 281474976710656) (DQ h n (.c (.b b 0) false none) fun h' n' => G3 zero fun esz => κ (.sl n 0 a b true esz) h' n') _) _) _) _=_
  rw [Ab.2 ha, Ad, Ab.2 hb2, Ad, Ab.2 hab, Ad, Ab.2 (by show 1*b≤_; omega), Ad, DH hn, CE, hz]
theorem J1:∀ {m:Nat} {xs:List V} {k:List V->R}, m≤xs.length->Dc m xs k=k (xs.take m)
  | 0, xs, k, _ => rfl
  | m+1, [], k, h => by simp at h
  | m+1, x::xs, k, h => by
    have := J1 (m := m) (xs := xs) (k := fun zs => k (x::zs)) (by simpa using h)
    exact this
theorem Ix:∀ {m:Nat} {xs:List V} {k:List V->R}, m≤xs.length->DF m xs k=k (xs.drop m)
  | 0, xs, k, _ => rfl
  | m+1, [], k, h => by simp at h
  | m+1, x::xs, k, h => Ix (m := m) (xs := xs) (k := k) (by simpa using h)
theorem OG:∀ {m:Nat} {xs:List V} {k:V->R} {v:V}, xs[m]? = some v->DT m xs k=k v
  | 0, [], k, v, h => by simp at h
  | 0, x::xs, k, v, h => by simp at h; subst h; rfl
  | m+1, [], k, v, h => by simp at h
  | m+1, x::xs, k, v, h => OG (m := m) (xs := xs) (k := k) (by simpa using h)
theorem GM {p:K4} {h:Heap} {cs:Cs} {s:Bool} {pr:Option K4} (hp:A8 p h=some (.c cs s pr)) (κ:Cs->Bool->Option K4->R):H6 p h κ=κ cs s pr := by
  unfold H6; rw [Cp, hp]
theorem YI {p:K4} {h:Heap} {es:List (V×V)} {bs:List Nat} {c:Nat} (hp:A8 p h=some (.m es bs c)) (κ:List (V×V)->List Nat->Nat->R):Nh p h κ=κ es bs c := by
  unfold Nh; rw [Cp, hp]
theorem Rh:∀ {off:Nat} {xs:List V} {v:V} {κ:List V->R}, off<xs.length->C6 off xs v κ=κ (xs.set off v)
  | 0, [], v, κ, h => by simp at h
  | 0, x::xs, v, κ, h => rfl
  | off+1, [], v, κ, h => by simp at h
  | off+1, x::xs, v, κ, h => Rh (off := off) (xs := xs) (v := v) (κ := fun zs => κ (x::zs)) (by simpa using h)
/-- One cell of a struct. -/
theorem Zy {p:K4} {h:Heap} {xs:List V} {off:Nat} (hp:A8 p h=some (.c (.l xs) false none)) (ho:off<xs.length) (v:V) (κ:Heap->R):Ja h p off v κ=κ (Ac p h (some (.c (.l (xs.set off v)) false none))) := by
  rw [Ja, Jf, GM hp]
  show C6 off xs v (fun zs => Gk none h fun h => Ef p h (some (.c (.l zs) false none)) κ)=_
  rw [Rh ho]
  exact AU _ _ _ _
theorem HA.setS_setS (d:D) (p:HA) (x y:Co):HA.setS d (HA.setS d p x) y=HA.setS d p y := by cases d <;> cases p <;> rfl
theorem HB.setS_setS (d:D) (p:HB) (x y:HA):HB.setS d (HB.setS d p x) y=HB.setS d p y := by cases d <;> cases p <;> rfl
theorem HC.setS_setS (d:D) (p:HC) (x y:HB):HC.setS d (HC.setS d p x) y=HC.setS d p y := by cases d <;> cases p <;> rfl
theorem Heap.setS_setS (d:D) (p:Heap) (x y:HC):Heap.setS d (Heap.setS d p x) y=Heap.setS d p y := by cases d <;> cases p <;> rfl
theorem HE (p:K4) (h:Heap) (x y:Co):Ac p (Ac p h x) y=Ac p h y := by
  cases p
  simp only [Ac, Ef, Heap.setK_eq, HC.setK_eq, HB.setK_eq, HA.setK_eq, Heap.selK_eq, HC.selK_eq, HB.selK_eq, id, Heap.sel_setS_same, HC.sel_setS_same, HB.sel_setS_same, Heap.setS_setS, HC.setS_setS, HB.setS_setS, HA.setS_setS]
/-- A store of one cell to a struct. -/
def TS (o:Co) (h:Heap) (p:K4) (off:Nat) (v:V) (κ:Heap->R):R :=
  match o with
  | some (.c (.l xs) false none) => bif Nat.ble (off+1) xs.length then κ (Ac p h (some (.c (.l (xs.set off v)) false none))) else Ja h p off v κ
  | _ => Ja h p off v κ
theorem I4 (h:Heap) (p:K4) (off:Nat) (v:V) (κ:Heap->R):Ja h p off v κ=TS (A8 p h) h p off v κ := by
  unfold TS
  split
  · rename_i xs hp
    cases hb:Nat.ble (off+1) xs.length with
    | true => exact Zy hp (Ab.1 hb) v κ
    | false => rfl
  · rfl
theorem XJ (xs:List V) (h:Heap) (p:K4) (off:Nat) (v:V) (κ:Heap->R):TS (some (.c (.l xs) false none)) h p off v κ=bif Nat.ble (off+1) xs.length then κ (Ac p h (some (.c (.l (xs.set off v)) false none))) else Ja h p off v κ := id rfl
theorem Vi (p:K4) (off:Nat) (h:Heap) (k:IntKind) (r:Nat) (κ:Heap->R):BQ (.ptr p off) (.int k r) h κ=TS (A8 p h) h p off (.int k r) κ := I4 _ _ _ _ _
theorem RH (p:K4) (off:Nat) (h:Heap) (b:Bool) (κ:Heap->R):BQ (.ptr p off) (.bool b) h κ=TS (A8 p h) h p off (.bool b) κ := I4 _ _ _ _ _
theorem W6 (p:K4) (off:Nat) (h:Heap) (q:K4) (r:Nat) (κ:Heap->R):BQ (.ptr p off) (.ptr q r) h κ=TS (A8 p h) h p off (.ptr q r) κ := I4 _ _ _ _ _
theorem UC (p:K4) (off:Nat) (h:Heap) (q:K4) (κ:Heap->R):BQ (.ptr p off) (.map q) h κ=TS (A8 p h) h p off (.map q) κ := I4 _ _ _ _ _
theorem Oc (p:K4) (off:Nat) (h:Heap) (w:Nl) (κ:Heap->R):BQ (.ptr p off) (.nil w) h κ=TS (A8 p h) h p off (.nil w) κ := I4 _ _ _ _ _
theorem Sg (p:K4) (off:Nat) (h:Heap) (q:K4) (a b c:Nat) (e:Bool) (z:Nat) (κ:Heap->R):BQ (.ptr p off) (.sl q a b c e z) h κ=TS (A8 p h) h p off (.sl q a b c e z) κ := I4 _ _ _ _ _
theorem U5 (p:K4) (off:Nat) (h:Heap) (n c:Nat) (κ:Heap->R):BQ (.ptr p off) (.str n c) h κ=TS (A8 p h) h p off (.str n c) κ := I4 _ _ _ _ _
theorem VW (neg:Bool) (p:K4) (o:Nat) (κ:V->R):E2 neg (.rf .ptr) (.ptr p o) (.nil .ptr) κ=κ (.bool neg) := by cases neg <;> rfl
theorem Vd (neg:Bool) (w:Nl) (κ:V->R):E2 neg (.rf w) (.nil w) (.nil w) κ=κ (.bool (!neg)) := by cases neg <;> cases w <;> rfl
theorem LD (neg:Bool) (p:K4) (a b c:Nat) (e:Bool) (z:Nat) (κ:V->R):E2 neg (.rf .sl) (.sl p a b c e z) (.nil .sl) κ=κ (.bool neg) := by cases neg <;> rfl
theorem Qn (neg:Bool) (n c:Nat) (κ:V->R):E2 neg (.rf .sl) (.oth (.rb n c)) (.nil .sl) κ=κ (.bool neg) := by cases neg <;> rfl
theorem Ru {a b:Nat} (ha:a<18446744073709551616) (hb:b<18446744073709551616):(AY (Hk .i64) (Mk .i64) a+1≤AY (Hk .i64) (Mk .i64) b ↔ Dz .i64 a b=true)∧(Dz .i64 a b=false->AY (Hk .i64) (Mk .i64) b≤AY (Hk .i64) (Mk .i64) a) := by
  have h1:∀ x:Nat, x<18446744073709551616->(Nat.ble (Hk .i64) x=true∧9223372036854775808≤x∧AY (Hk .i64) (Mk .i64) x=x - 9223372036854775808)∨(Nat.ble (Hk .i64) x=false∧x<9223372036854775808∧AY (Hk .i64) (Mk .i64) x=x+9223372036854775808) := fun x hx => by
    unfold AY
    rcases Nat.lt_or_ge x 9223372036854775808 with h | h
    · exact .inr ⟨AQ h, h, by rw [AQ (show x<Hk .i64 from h), Ao]; rfl⟩
    · exact .inl ⟨Ab.2 h, h, by rw [Ab.2 (show Hk .i64≤x from h), Ad]; rfl⟩
  have e:Dz .i64 a b=br (Nat.ble (Hk .i64) a) (br (Nat.ble (Hk .i64) b) (Nat.ble (Nat.succ a) b) true) (br (Nat.ble (Hk .i64) b) false (Nat.ble (Nat.succ a) b)) := id rfl
  rw [e]
  have h2 := h1 a ha; have h3 := h1 b hb
  clear h1 e
  generalize AY (Hk .i64) (Mk .i64) a=ka at *
  generalize AY (Hk .i64) (Mk .i64) b=kb at *
  rcases h2 with ⟨a1, a2, a3⟩ | ⟨a1, a2, a3⟩ <;> rcases h3 with ⟨b1, b2, b3⟩ | ⟨b1, b2, b3⟩ <;> rw [a1, b1] <;> simp only [Ad, Ao, CY, decide_eq_true_eq, decide_eq_false_iff_not, Bool.true_eq_false, Bool.false_eq_true, iff_false, iff_true, Nat.succ_eq_add_one, false_implies, and_true, true_implies] <;> omega
theorem Sb {a b:Nat} (ha:a<18446744073709551616) (hb:b<18446744073709551616) (κ:V->R):Ns (.int .i64 a) (.int .i64 b) κ=κ (.int .i64 (bif Dz .i64 a b then b else a)) := by
  have on:∀ x, CW (Hk .i64) x x=true := fun x => by
    unfold CW
    rcases Nat.lt_or_ge x (Hk .i64) with h | h
    · rw [Ab.2 h, Ad]
    · rw [Ab.2 h]; cases Nat.ble (Nat.succ x) (Hk .i64) <;> rfl
  show br (Bn .i64 .i64) (br (CW (Hk .i64) a a) (br (CW (Hk .i64) b b) (Wq (AY (Hk .i64) (Mk .i64) a) (AY (Hk .i64) (Mk .i64) a) (AY (Hk .i64) (Mk .i64) b) (AY (Hk .i64) (Mk .i64) b) (κ (.int .i64 b)) (κ (.int .i64 a))) (.fail "")) (.fail "")) (.fail "")=_
  rw [AI.2 rfl, Ad, on, Ad, on, Ad]
  unfold Wq
  obtain ⟨k1, k2⟩ := Ru ha hb
  cases hl:Dz .i64 a b with
  | true => rw [Ab.2 (k1.2 hl), Ad]; rfl
  | false =>
    have:¬ (AY (Hk .i64) (Mk .i64) a+1≤AY (Hk .i64) (Mk .i64) b) := fun h => by rw [k1.1 h] at hl; cases hl
    rw [AQ (by show _<_; omega), Ao, Ab.2 (k2 hl), Ad]; rfl
theorem W5 {a b:Nat} (ha:a<18446744073709551616) (hb:b<18446744073709551616) (κ:V->R):JT (.int .i64 a) (.int .i64 b) κ=κ (.int .i64 (bif Dz .i64 b a then b else a)) := by
  have on:∀ x, CW (Hk .i64) x x=true := fun x => by
    unfold CW
    rcases Nat.lt_or_ge x (Hk .i64) with h | h
    · rw [Ab.2 h, Ad]
    · rw [Ab.2 h]; cases Nat.ble (Nat.succ x) (Hk .i64) <;> rfl
  show br (Bn .i64 .i64) (br (CW (Hk .i64) a a) (br (CW (Hk .i64) b b) (Wq (AY (Hk .i64) (Mk .i64) b) (AY (Hk .i64) (Mk .i64) b) (AY (Hk .i64) (Mk .i64) a) (AY (Hk .i64) (Mk .i64) a) (κ (.int .i64 b)) (κ (.int .i64 a))) (.fail "")) (.fail "")) (.fail "")=_
  rw [AI.2 rfl, Ad, on, Ad, on, Ad]
  unfold Wq
  obtain ⟨k1, k2⟩ := Ru hb ha
  cases hl:Dz .i64 b a with
  | true => rw [Ab.2 (k1.2 hl), Ad]; rfl
  | false =>
    have:¬ (AY (Hk .i64) (Mk .i64) b+1≤AY (Hk .i64) (Mk .i64) a) := fun h => by rw [k1.1 h] at hl; cases hl
    rw [AQ (by show _<_; omega), Ao, Ab.2 (k2 hl), Ad]; rfl
theorem Ka {a b:Nat} (ha:a<9223372036854775808) (hb:b<9223372036854775808):Dz .i64 a b=decide (a<b) := UG ha hb
theorem MN {a b:Nat} (ha:9223372036854775808≤a) (hb:b<9223372036854775808):Dz .i64 a b=true := by
  unfold Dz; rw [Ab.2 (show Hk .i64≤a from ha), AQ (show b<Hk .i64 from hb)]; rfl
theorem Uv {a b:Nat} (ha:a<9223372036854775808) (hb:9223372036854775808≤b):Dz .i64 a b=false := by
  unfold Dz; rw [Ab.2 (show Hk .i64≤b from hb), AQ (show a<Hk .i64 from ha)]; rfl
theorem XO {a b:Nat} (ha:9223372036854775808≤a) (hb:9223372036854775808≤b):Dz .i64 a b=decide (a<b) := by
  unfold Dz; rw [Ab.2 (show Hk .i64≤a from ha), Ab.2 (show Hk .i64≤b from hb), Ad, Ad, CY]; exact decide_eq_decide.2 Nat.succ_le_iff
theorem ltu {k:IntKind} {a b:Nat} (hk:Hk k=Mk k) (ha:a<Mk k) (hb:b<Mk k):Dz k a b=decide (a<b) := UG (by rw [hk]; exact ha) (by rw [hk]; exact hb)
theorem XR {a b:Nat} (ha:a<18446744073709551616) (hb:b<18446744073709551616):Dz .u64 a b=decide (a<b) := ltu rfl ha hb
theorem HS {a b:Nat} (h:b≤a) (ha:a<18446744073709551616):Ih .i64 a b=a - b := by
  unfold Ih
  show (a+(18446744073709551616 - b)) % 18446744073709551616=_
  omega
theorem RW:Ih .i64 0 1=18446744073709551615 := by decide
theorem Rm:Ih .i64 18446744073709551615 1=18446744073709551614 := by decide
end Go.Ev

namespace Go.Ev
set_option linter.unusedVariables false
def cb (l:List UInt8):Cs := .b l.length (AH l)
def L2 (l:List UInt8):V := .oth (.rb l.length (AH l))
theorem My (l:List UInt8) (i m:Nat):lo (sh (AH l) i) m=AH ((l.drop i).take m) := by
  rw [DK, F1, IH, Im]
theorem UM (l:List UInt8):lo (AH l) l.length=AH l := by
  rw [DK, Im, List.take_length]
theorem OE (a b:List UInt8):AH a+up (AH b) a.length=AH (a++b) := by
  rw [Ry, GX]
theorem Jp {l:List UInt8} {i m:Nat} (h:i+m≤l.length):((l.drop i).take m).length=m := by
  rw [List.length_take, List.length_drop]; omega
theorem HD {l:List UInt8} {i m:Nat} (h:i+m≤l.length) (κ:Cs->R):AW (cb l) i m κ=κ (cb ((l.drop i).take m)) := by
  show br (Nat.ble (Nat.add i m) l.length) (Aa (lo (sh (AH l) i) m) fun r => κ (.b m r)) _=_
  rw [show Nat.ble (Nat.add i m) l.length=true from Ab.2 h, Ad, A9, My]
  unfold cb; rw [Jp h]
theorem Xv (a b:List UInt8) (κ:Cs->R):NU (cb a) (cb b) κ=κ (cb (a++b)) := by
  show Aa (Nat.add a.length b.length) (fun l => Aa (Nat.add (lo (AH a) a.length) (up (AH b) a.length)) fun r => κ (.b l r))=_
  rw [A9, A9, UM]
  show κ (.b (a.length+b.length) (AH a+up (AH b) a.length))=_
  rw [OE]; unfold cb; rw [List.length_append]
theorem WN {a b:List UInt8} {i:Nat} (h:i+b.length≤a.length) (κ:Cs->R):LN (cb a) i (cb b) κ=κ (cb (a.take i++(b++a.drop (i+b.length)))) := by
  show br (Nat.ble (Nat.add i b.length) a.length) (Aa (Nat.add (lo (AH a) i) (up (Nat.add (lo (AH b) b.length) (up (sh (AH a) (Nat.add i b.length)) b.length)) i)) fun r => κ (.b a.length r)) _=_
  rw [show Nat.ble (Nat.add i b.length) a.length=true from Ab.2 h, Ad, A9, UM]
  have e1:sh (AH a) (Nat.add i b.length)=AH (a.drop (i+b.length)) := by rw [F1, IH]; rfl
  have e2:Nat.add (AH b) (up (sh (AH a) (Nat.add i b.length)) b.length)=AH (b++a.drop (i+b.length)) := by rw [e1]; exact OE _ _
  have e3:lo (AH a) i=AH (a.take i) := by rw [DK, Im]
  have e4:i=(a.take i).length := by rw [List.length_take]; omega
  rw [e2, e3]
  have e5:Nat.add (AH (a.take i)) (up (AH (b++a.drop (i+b.length))) i)=AH (a.take i++(b++a.drop (i+b.length))) := by
    have := OE (a.take i) (b++a.drop (i+b.length))
    rw [←e4] at this; exact this
  rw [e5]
  unfold cb
  have e6:(a.take i++(b++a.drop (i+b.length))).length=a.length := by simp only [List.length_append, List.length_take, List.length_drop]; omega
  rw [e6]
theorem YA {p:K4} {h:Heap} {l:List UInt8} {s:Bool} {pr:Option K4} {off len cap:Nat} {ex:Bool} (hp:A8 p h=some (.c (cb l) s pr)) (hl:off+len≤l.length) (κ:Nat->Cs->R):Gp 1 (.sl p off len cap ex 1) h κ=κ len (cb ((l.drop off).take len)) := by
  show br (Nat.beq 1 1) (H6 p h fun cs _ _ => Aa (Nat.mul len 1) fun m => AW cs off m fun y => κ len y) (.fail "")=_
  rw [Nat.beq_refl, Ad, GM hp, A9, show Nat.mul len 1=len from Nat.mul_one len, HD hl]
theorem Ow {m:Nat} (hm:0<m) (hm2:m≤1000000000000) {n:K4} (hn:n.toN<65535) (y:Cs) (h:Heap) (κ:KV):BK 1 1 (.nil .sl) m y h n κ=κ (.sl n 0 m m false 1) (Ac n h (some (.c y false none))) n.up := by
  show br (Nat.beq m 0) (κ (.nil .sl) h n) (br (Nat.ble (Nat.mul (Nat.add (Nat.mul 4 m) 4096) 1) 281474976710656) (DQ h n (.c y false none) fun h' n' => κ (.sl n 0 m m false 1) h' n') (.fail ""))=_
  rw [CH, decide_eq_false (by omega), Ao, show Nat.ble (Nat.mul (Nat.add (Nat.mul 4 m) 4096) 1) 281474976710656=true from Ab.2 (by show (4*m+4096)*1≤_; omega), Ad, DH hn]
theorem KK {x:V} (hx:x = .nil .sl ∨ ∃ p off len cap ex, x = .sl p off len cap ex 1) (y:Cs) (h:Heap) (n:K4) (κ:KV):BK 1 1 x 0 y h n κ=κ x h n := by
  rcases hx with rfl | ⟨p, off, len, cap, ex, rfl⟩ <;> rfl
/-- Bytes of one's own, full: they grow, and lie anew. -/
theorem Fs {p:K4} {h:Heap} {a b:List UInt8} {pr:Option K4} (hp:A8 p h=some (.c (cb a) false pr)) {ex:Bool} (hb:0<b.length) (hm2:a.length+b.length≤1000000000000) {n:K4} (hn:n.toN<65535) (κ:KV) :
    BK 1 1 (.sl p 0 a.length a.length ex 1) b.length (cb b) h n κ=if ex then κ (.sl n 0 (a++b).length (a++b).length false 1) (Ac n h (some (.c (cb (a++b)) false none))) n.up
      else κ (.sl n 0 (a++b).length (a++b).length false 1) (Ac n (Ac p (E9 pr h) (some (.c (cb a) true none))) (some (.c (cb (a++b)) false (some p)))) n.up := by
  show br (Nat.beq 1 1) (br (Nat.beq b.length 0) (κ (.sl p 0 a.length a.length ex 1) h n) (Aa (Nat.add a.length b.length) fun need => br (Nat.ble need a.length) (Aa (Nat.add 0 (Nat.mul a.length 1)) fun j => CV h p j (cb b) fun h' => κ (.sl p 0 need a.length ex 1) h' n)
    (br (Nat.ble (Nat.mul (Nat.add (Nat.mul 4 need) 4096) 1) 281474976710656)
      (KG p h fun cs sup prev => Aa (Nat.mul a.length 1) fun l => AW cs 0 l fun x => NU x (cb b) fun z =>
        br ex (DQ h n (.c z false none) fun h' n' => κ (.sl n 0 need need false 1) h' n')
          (br sup (.fail "") (Aa (Nat.add 0 l) fun j => AW cs 0 j fun old => Gk prev h fun h => Ef p h (some (.c old true none)) fun h =>
            DQ h n (.c z false (some p)) fun h' n' => κ (.sl n 0 need need false 1) h' n'))) (.fail "")))) (.fail "")=_
  have e1:∀ l:List UInt8, (l.drop 0).take l.length=l := fun l => by rw [List.drop_zero, List.take_length]
  have e3:Nat.ble (Nat.mul (Nat.add (Nat.mul 4 (Nat.add a.length b.length)) 4096) 1) 281474976710656=true := Ab.2 (by show (4*(a.length+b.length)+4096)*1≤_; omega)
  have e4:Nat.ble (Nat.add a.length b.length) a.length=false := AQ (by show a.length<a.length+b.length; omega)
  rw [Nat.beq_refl, Ad, CH, decide_eq_false (by omega), Ao, A9, e4, Ao, e3, Ad, E4, GM hp, A9, show Nat.mul a.length 1=a.length from Nat.mul_one _, HD (by omega), e1, Xv]
  have e2:Nat.add a.length b.length=(a++b).length := by rw [List.length_append]; rfl
  rw [e2]
  cases ex with
  | true => rw [Ad, DH hn]; rfl
  | false =>
    rw [Ao, Ao, A9, show Nat.add 0 a.length=a.length from Nat.zero_add _, HD (by omega), e1, EP, AU, DH hn]; rfl
end Go.Ev

namespace Go.Ev
set_option linter.unusedVariables false
theorem Y3 (c:Ei) (en:List V->(S->R)->R) (bo:Ei->S->Heap->K4->R) (re:S->Heap->K4->R) (args:List V) (h:Heap) (n:K4):Ol c (some (.code en bo re)) args h n=en args fun t => Lg (bo c t h n) re := id rfl
theorem Aa8 (v:V) (l:List V) (k:V->List V->R):K0 (v::l) k=k v l := id rfl
theorem Ab9 (k:R):SC [] k=k := id rfl
theorem Wf (t:S) (h:Heap) (n:K4) (res:S->Heap->K4->R):Lg (.ok .ret t h n) res=res t h n := id rfl
theorem W8 (t:S) (h:Heap) (n:K4) (res:S->Heap->K4->R):Lg (.ok .nrm t h n) res=res t h n := id rfl
theorem Up (b:Bool) (x y:R) (res:S->Heap->K4->R):Lg (bif b then x else y) res=bif b then Lg x res else Lg y res := by cases b <;> rfl
theorem Abr (t:S) (h:Heap) (n:K4):rT t h n = .ok .ret t h n := id rfl
theorem Aaj (t:S) (h:Heap) (n:K4):nR t h n = .ok .nrm t h n := id rfl
theorem Zg (r:Nat):iI r = .int .i64 r := id rfl
theorem ZP (v:V) (κ:V->R):AX (AD v) κ=κ v := id rfl
end Go.Ev

namespace Go.Ev
set_option linter.unusedVariables false
def Xk (o:Co) (κ:List (V×V)->List Nat->Nat->R):R :=
  @Option.rec Ob (fun _ => R) (.fail "") (fun o => @Ob.rec (fun _ => R) (Ca "") κ (Fn "") (.fail "") (AA "") o) o
theorem VM (es:List (V×V)) (bs:List Nat) (c:Nat) (κ:List (V×V)->List Nat->Nat->R):Xk (some (.m es bs c)) κ=κ es bs c := id rfl
theorem JZ (p:K4) (h:Heap) (κ:List (V×V)->List Nat->Nat->R):Nh p h κ=Xk (A8 p h) κ := by unfold Nh; rw [Cp]; rfl
theorem Abx (p:K4) (a c:Nat) (w:V) (h:Heap) (κ:Heap->R):PL (.sc .s) (.map p) (.str a c) w h κ=Xk (A8 p h) fun es bs k => EW (.sc .s) (.str a c) w es fun es' => TQ es' bs k fun bs' k' => κ (Ac p h (some (.m es' bs' k'))) := by
  show PY p h (fun es bs c' k => EW (.sc .s) (.str a c) w es fun es => TQ es bs c' fun bs c => k es bs c) κ=_
  rw [IW, JZ]
  simp only [AU]
theorem ZQ (z:V) (p:K4) (a c:Nat) (h:Heap) (κ:V->R):Jg (.sc .s) z false (.map p) (.str a c) h κ=Xk (A8 p h) fun es _ _ => F2 (.sc .s) (.str a c) es κ (κ z) := by
  show RZ p h (fun es _ _ => F2 (.sc .s) (.str a c) es (fun r => κ r) (κ z))=_
  rw [Fi, JZ]
theorem XP (p:K4) (a c:Nat) (h:Heap) (κ:Heap->R):OO (.sc .s) (.map p) (.str a c) h κ=Xk (A8 p h) fun es bs k => HH (.sc .s) (.str a c) es fun es2 => HP (.sc .s) (.str a c) es bs fun bs' => κ (Ac p h (some (.m es2 bs' k))) := by
  show PY p h (fun es bs c' k => HH (.sc .s) (.str a c) es fun es2 => HP (.sc .s) (.str a c) es bs fun bs => k es2 bs c') κ=_
  rw [IW, JZ]
  simp only [AU]
theorem YS (es:List (V×V)) (κ:Nat->R):TW es κ=κ es.length := by
  induction es generalizing κ with
  | nil => rfl
  | cons e es ih => exact (ih fun n => Aa (Nat.succ n) κ).trans (A9 _ _)
theorem CD {m:Nat} (h:m<9223372036854775808) (κ:V->R):DD m κ=κ (.int .i64 m) := by
  show br (Nat.ble (Nat.succ m) 9223372036854775808) (κ (.int .i64 m)) (.fail "")=_
  rw [show Nat.ble (Nat.succ m) 9223372036854775808=true from Ab.2 h, Ad]
theorem XX (p:K4) (h:Heap) (κ:V->R):Sw (.map p) h κ=Xk (A8 p h) fun es _ _ => DD es.length κ := by
  show RZ p h (fun es _ _ => TW es fun m => DD m κ)=_
  rw [Fi, JZ]
  simp only [YS]
theorem Me (k:V) (κf:V->R) (κn:R):F2 (.sc .s) k [] κf κn=κn := id rfl
theorem MU (a c m d:Nat) (w:V) (es:List (V×V)) (κf:V->R) (κn:R):F2 (.sc .s) (.str a c) ((.str m d, w)::es) κf κn=bif EC a c m d then κf w else F2 (.sc .s) (.str a c) es κf κn := by
  show C8 (EC a c m d) (fun r => br r (κf w) (F2 (.sc .s) (.str a c) es κf κn))=_
  rw [Bv]; cases EC a c m d <;> rfl
theorem Pd (k v:V) (κ:List (V×V)->R):EW (.sc .s) k v [] κ=κ [(k, v)] := id rfl
theorem PD (a c m d:Nat) (v w:V) (es:List (V×V)) (κ:List (V×V)->R):EW (.sc .s) (.str a c) v ((.str m d, w)::es) κ=bif EC a c m d then κ ((.str a c, v)::es) else EW (.sc .s) (.str a c) v es fun l => κ ((.str m d, w)::l) := by
  show C8 (EC a c m d) (fun r => br r (κ ((.str a c, v)::es)) (EW (.sc .s) (.str a c) v es fun l => κ ((.str m d, w)::l)))=_
  rw [Bv]; cases EC a c m d <;> rfl
theorem PT (k:V) (κ:List (V×V)->R):HH (.sc .s) k [] κ=κ [] := id rfl
theorem Pq (a c m d:Nat) (w:V) (es:List (V×V)) (κ:List (V×V)->R):HH (.sc .s) (.str a c) ((.str m d, w)::es) κ=bif EC a c m d then κ es else HH (.sc .s) (.str a c) es fun l => κ ((.str m d, w)::l) := by
  show C8 (EC a c m d) (fun r => br r (κ es) (HH (.sc .s) (.str a c) es fun l => κ ((.str m d, w)::l)))=_
  rw [Bv]; cases EC a c m d <;> rfl
theorem PW (k:V) (bs:List Nat) (κ:List Nat->R):HP (.sc .s) k [] bs κ=κ bs := id rfl
theorem Q9 (a c m d b:Nat) (w:V) (es:List (V×V)) (bs:List Nat) (κ:List Nat->R):HP (.sc .s) (.str a c) ((.str m d, w)::es) (b::bs) κ=bif EC a c m d then κ bs else HP (.sc .s) (.str a c) es bs fun l => κ (b::l) := by
  show C8 (EC a c m d) (fun r => br r (κ bs) (HP (.sc .s) (.str a c) es bs fun l => κ (b::l)))=_
  rw [Bv]; cases EC a c m d <;> rfl
theorem L8 (a c m d:Nat):EC a c m d=(decide (a=m)&&decide (c=d)) := by unfold EC; rw [CH, CH]
theorem P4:∀ (es:List (V×V)) (bs:List Nat), GJ es bs=decide (es.length=bs.length)
  | [], [] => rfl
  | [], _::_ => rfl
  | _::_, [] => rfl
  | e::es, b::bs => by
    have := P4 es bs
    show GJ es bs=_
    rw [this]; simp
theorem Xl (bs:List Nat) (c:Nat) (κ:List Nat->R):Sm bs c κ=κ (bs++[c]) := by
  induction bs generalizing κ with
  | nil => rfl
  | cons b bs ih => exact ih fun l => κ (b::l)
theorem Yj (es:List (V×V)) (bs:List Nat) (c:Nat) (κ:List Nat->Nat->R):TQ es bs c κ=bif decide (es.length=bs.length) then κ bs c else κ (bs++[c]) (c+1) := by
  unfold TQ
  rw [P4]
  cases decide (es.length=bs.length) with
  | true => rfl
  | false =>
    rw [Ao, Xl, A9]; rfl
theorem V1 (x v:V) (xs:List V) (κ:List V->R):C6 0 (x::xs) v κ=κ (v::xs) := id rfl
theorem UR (m:Nat) (x v:V) (xs:List V) (κ:List V->R):C6 (m+1) (x::xs) v κ=C6 m xs v fun zs => κ (x::zs) := id rfl
theorem VC (o:Nat) (k:IntKind) (r:Nat) (z:List V) (κ:List V->R):Ax o (.int k r) z κ=C6 o z (.int k r) κ := id rfl
theorem RU (o:Nat) (b:Bool) (z:List V) (κ:List V->R):Ax o (.bool b) z κ=C6 o z (.bool b) κ := id rfl
theorem VS (o:Nat) (p:K4) (r:Nat) (z:List V) (κ:List V->R):Ax o (.ptr p r) z κ=C6 o z (.ptr p r) κ := id rfl
theorem Wm (o:Nat) (p:K4) (z:List V) (κ:List V->R):Ax o (.map p) z κ=C6 o z (.map p) κ := id rfl
theorem Vb (o:Nat) (a c:Nat) (z:List V) (κ:List V->R):Ax o (.str a c) z κ=C6 o z (.str a c) κ := id rfl
theorem Qx (o:Nat) (w:Nl) (z:List V) (κ:List V->R):Ax o (.nil w) z κ=C6 o z (.nil w) κ := id rfl
theorem Vk (o:Nat) (q:K4) (a b c:Nat) (e:Bool) (x:Nat) (z:List V) (κ:List V->R):Ax o (.sl q a b c e x) z κ=C6 o z (.sl q a b c e x) κ := id rfl
def KC (o:Co) (m off:Nat) (κ:V->R):R := @Option.rec Ob (fun _ => R) (.fail "") (fun o => @Ob.rec (fun _ => R) (fun cs _ _ => AW cs off m fun y => Eh y fun l => κ (.agg l)) (Ca "") (Fn "") (.fail "") (AA "") o) o
theorem UT (m:Nat) (p:K4) (off:Nat) (h:Heap) (κ:V->R):C0 m (.ptr p off) h κ=KC (A8 p h) m off κ := by
  show KG p h (fun cs _ _ => AW cs off m fun y => Eh y fun l => κ (.agg l))=_
  rw [E4]; unfold H6 KC; rw [Cp]
theorem Oh {xs:List V} {m off:Nat} (h:off+m≤xs.length) (s:Bool) (pr:Option K4) (κ:V->R):KC (some (.c (.l xs) s pr)) m off κ=κ (.agg ((xs.drop off).take m)) := by
  show DF off xs (fun ys => Dc m ys fun zs => κ (.agg zs))=_
  rw [Ix (by omega), J1 (by rw [List.length_drop]; omega)]
theorem K4.nx16_all (p:K4) (h:p.toN<65520):∃ q:K4, q.toN=(p.toN / 16+1)*16∧q.d = .d0 ∧ ∀ k:K4->R, p.nx16 k=k q := by
  obtain ⟨a, b, c, d⟩ := p
  simp only [K4.toN] at h
  have hd0:D.d0.toN=0 := rfl
  have ha := a.toN_lt; have hb := b.toN_lt; have hc := c.toN_lt; have hd := d.toN_lt
  rcases c.nx_all with ⟨c1, c2⟩ | ⟨e, c1, c2⟩
  · rcases b.nx_all with ⟨b1, b2⟩ | ⟨e, b1, b2⟩
    · rcases a.nx_all with ⟨a1, a2⟩ | ⟨e, a1, a2⟩
      · omega
      · exact ⟨⟨e, .d0, .d0, .d0⟩, by simp only [K4.toN, hd0]; omega, rfl, fun k => by show c.nx _ (b.nx _ (a.nx _ _))=_; rw [c2, b2, a2]⟩
    · exact ⟨⟨a, e, .d0, .d0⟩, by simp only [K4.toN, hd0]; omega, rfl, fun k => by show c.nx _ (b.nx _ _)=_; rw [c2, b2]⟩
  · exact ⟨⟨a, b, e, .d0⟩, by simp only [K4.toN, hd0]; omega, rfl, fun k => by show c.nx _ _=_; rw [c2]⟩
open Classical in
def K4.up16 (p:K4):K4 := if h:p.toN<65520 then Classical.choose (p.nx16_all h) else p
theorem K4.up16_toN {p:K4} (h:p.toN<65520):p.up16.toN=(p.toN / 16+1)*16 := by
  unfold K4.up16; rw [dif_pos h]; exact (Classical.choose_spec (p.nx16_all h)).1
theorem K4.nx16_up {p:K4} (h:p.toN<65520) (k:K4->R):p.nx16 k=k p.up16 := by
  unfold K4.up16; rw [dif_pos h]; exact (Classical.choose_spec (p.nx16_all h)).2.2 k
def K4.pl (p:K4) (j:D):K4 := ⟨p.a, p.b, p.c, j⟩
theorem K4.pl_toN {p:K4} (h:p.toN<65520) (j:D):(p.up16.pl j).toN=(p.toN / 16+1)*16+j.toN := by
  have h1 := K4.up16_toN h
  have h2:p.up16.d = .d0 := by unfold K4.up16; rw [dif_pos h]; exact (Classical.choose_spec (p.nx16_all h)).2.1
  rw [←h1]
  unfold K4.pl
  simp only [K4.toN, h2]
  show _=_+(D.d0.toN)+_
  rw [show D.d0.toN=0 from rfl, Nat.add_zero]
theorem Vh {n:K4} (h:n.toN<65000) (κ:K4->K4->R):Vr n κ=κ n.up16 n.up16.up16 := by
  show n.nx16 (fun b => b.nx16 fun n => κ b n)=_
  have := K4.up16_toN (p := n) (by omega)
  rw [K4.nx16_up (by omega), K4.nx16_up (by omega)]
/-- What is asked of a place that is to be free. -/
def frO (o:Co) (κ:R):R := Gq o κ
theorem Q4 (κ:R):frO none κ=κ := id rfl
theorem Ab8 (b:K4) (j:D) (h:Heap) (κ:R):noX b j h κ=frO (A8 (b.pl j) h) κ := by
  show b.at j (fun r => BC r h fun x => Gq x κ)=_
  rw [K4.at_eq, BG]; rfl
theorem ZY (b:K4) (j:D) (h:Heap) (F:K4->R) (κ:V->Heap->R):alX b j h F κ=frO (A8 (b.pl j) h) (FL (F (b.pl j)) fun v h _ => κ v h) := by
  show b.at j (fun r => BC r h fun x => Gq x (FL (F r) fun v h _ => κ v h))=_
  rw [K4.at_eq, BG]; rfl
theorem Aj {p q:K4} (h:q.toN<p.toN) (hp:Heap) (o:Option Ob):A8 q (Ac p hp o)=A8 q hp := A6 _ _ fun e => by subst e; omega
theorem Aq {p q:K4} (h:p.toN<q.toN) (hp:Heap) (o:Option Ob):A8 q (Ac p hp o)=A8 q hp := A6 _ _ fun e => by subst e; omega
theorem Ri (v:V) (h:Heap) (n:K4) (κ:KV):D7 (.rv v h n) κ=κ v h n := id rfl
theorem XT (p:K4) {h:Heap} {n:K4} (hn:n.toN<65535) (κ:KV):U9 (.map p) h n κ=Xk (A8 p h) fun _ _ c => κ (.ptr n 0) (Ac n h (some (.it p c [] c))) n.up := by
  show RZ p h (fun _ _ c => DQ h n (.it p c [] c) fun h' n' => κ (.ptr n 0) h' n')=_
  rw [Fi, JZ]
  simp only [DH hn]
def itO (o:Co) (κ0:R) (κ:K4->Nat->List Nat->Nat->R):R := @Option.rec Ob (fun _ => R) (.fail "") (fun o => @Ob.rec (fun _ => R) (Ca "") (Ca "") κ κ0 (AA "") o) o
theorem VY (p:K4) (a:Nat) (l:List Nat) (c:Nat) (κ0:R) (κ:K4->Nat->List Nat->Nat->R):itO (some (.it p a l c)) κ0 κ=κ p a l c := id rfl
theorem Yb (q:K4) (h:Heap) (κ0:R) (κ:K4->Nat->List Nat->Nat->R):Wy q h κ0 κ=itO (A8 q h) κ0 κ := BG _ _ _
theorem Ym (q:K4) (h:Heap) (n:K4) (κ:KV):Uk (.ptr q 0) h n κ=itO (A8 q h) (κ (.tup [.bool false]) h n) fun p since seen c => Xk (A8 p h) fun es bs clk => br (I1 since bs) (br (Nat.ble since c)
    (Gy seen (Px q p since seen clk h n κ) es bs (κ (.tup [.bool false]) h n)) (.fail "")) (.fail "") := by
  show br (Nat.beq 0 0) (Wy q h (κ (.tup [.bool false]) h n) fun p since seen c => RZ p h fun es bs clk => br (I1 since bs) (br (Nat.ble since c) (Gy seen (Px q p since seen clk h n κ) es bs (κ (.tup [.bool false]) h n)) (.fail "")) (.fail "")) (.fail "")=_
  rw [Nat.beq_refl, Ad, Yb, Fi]
  simp only [JZ]
theorem KX (seen:List Nat) (leaf:V×V->Nat->R) (bs:List Nat) (none:R):Gy seen leaf [] bs none=none := id rfl
theorem JN (seen:List Nat) (leaf:V×V->Nat->R) (e:V×V) (es:List (V×V)) (b:Nat) (bs:List Nat) (none:R):Gy seen leaf (e::es) (b::bs) none=br (Ge b seen) (Gy seen leaf es bs none) (G2 seen leaf es bs (leaf e b)) := id rfl
theorem KI (seen:List Nat) (leaf:V×V->Nat->R) (bs:List Nat) (acc:R):G2 seen leaf [] bs acc=acc := id rfl
theorem PM (b:Nat):Ge b []=false := id rfl
theorem MZ (b x:Nat) (l:List Nat):Ge b (x::l)=(decide (x=b) || Ge b l) := by
  show br (Nat.beq x b) true (Ge b l)=_
  rw [CH]; cases decide (x=b) <;> rfl
theorem Mg (s:Nat):I1 s []=true := id rfl
theorem KW (s b:Nat) (bs:List Nat):I1 s (b::bs)=(decide (b<s)&&I1 s bs) := by
  show br (Nat.ble (Nat.succ b) s) (I1 s bs) false=_
  rw [CY]
  cases h:decide (Nat.succ b≤s) with
  | true => rw [decide_eq_true (show b<s from of_decide_eq_true h)]; rfl
  | false => rw [decide_eq_false (show ¬ b<s from of_decide_eq_false h)]; rfl
theorem RB (q p:K4) (since:Nat) (seen:List Nat) (clk:Nat) (h:Heap) (n:K4) (κ:KV) (k x:V) (b:Nat):Px q p since seen clk h n κ (k, x) b=κ (.tup [.bool true, k, x]) (Ac q h (some (.it p since (b::seen) clk))) n := by
  show BP q h (some (.it p since (b::seen) clk)) (fun h' => κ (.tup [.bool true, k, x]) h' n)=_
  rw [BR, AU]
theorem WE (b:Bool) (x y:R):br b x y=bif b then x else y := by cases b <;> rfl
theorem VH (q:K4) (h:Heap) (n:K4) (κ:KV):PF (.ptr q 0) h n κ=itO (A8 q h) (.fail "") fun p since seen c => Xk (A8 p h) fun es bs clk => bif decide (clk=c) then (@List.rec Nat (fun _ => R) (.fail "") (fun s _ _ => Gn s es bs fun k x => κ (.tup [k, x]) h n) seen) else .fail "" := by
  show br (Nat.beq 0 0) (Wy q h (.fail "") fun p since seen c => RZ p h fun es bs clk => br (Nat.beq clk c) (@List.rec Nat (fun _ => R) (.fail "") (fun s _ _ => Gn s es bs fun k x => κ (.tup [k, x]) h n) seen) (.fail "")) (.fail "")=_
  rw [Nat.beq_refl, Ad, Yb, Fi]
  simp only [JZ, CH, WE]
theorem L9 (s:Nat) (k x:V) (es:List (V×V)) (b:Nat) (bs:List Nat) (κ:V->V->R):Gn s ((k, x)::es) (b::bs) κ=bif decide (b=s) then κ k x else Gn s es bs κ := by
  show br (Nat.beq b s) (κ k x) (Gn s es bs κ)=_
  rw [CH, WE]
theorem Ut (x:V) (l:List V) (κ:V->R):BD 0 (.tup (x::l)) κ=κ x := id rfl
theorem Wj (x y:V) (l:List V) (κ:V->R):BD 1 (.tup (x::y::l)) κ=κ y := id rfl
theorem U8 (x y z:V) (l:List V) (κ:V->R):BD 2 (.tup (x::y::z::l)) κ=κ z := id rfl
theorem Af6 (c:Ei) (f:Nat) (its:List Nat) (rd:Rd) (s:V) (h:Heap) (n:K4) (hits:∀ g κ, g∈its->HU g its κ=κ) (g:Nat) (caps:List V) (hs:s = .fn g caps) (hg:g∈its) (hn:n.toN<65000) :
    Ol c (some (.ap f its rd)) [.nil .sl, s] h n=D7 (c (B2 g) (.oth (.yl n.up)::caps) (Ac n.up (Ac n h (some (.c (.l [.nil .sl]) false none))) (some (.lp f n))) n.up.up) fun _ h m => BC n.up h fun o => WW o (KG n h fun cs _ _ => Fb cs 0 fun sv => BP n h none fun h => BP n.up h none fun h => .rv sv h m) := by
  subst hs
  have h1 := K4.up_toN (p := n) (by omega)
  show HU g its (BP n h (some (.c (.l [.nil .sl]) false none)) fun h => n.nx fun n1 => BP n1 h (some (.lp f n)) fun h => n1.nx fun n2 =>
      D7 (c (B2 g) (.oth (.yl n1)::caps) h n2) fun _ h m =>
        BC n1 h fun o => WW o (KG n h fun cs _ _ => Fb cs 0 fun sv => BP n h none fun h => BP n1 h none fun h => .rv sv h m))=_
  rw [hits g _ hg, BR, AU, K4.nx_up (by omega), BR, AU, K4.nx_up (by omega)]
def lpO (o:Co) (κ:Nat->K4->R):R := @Option.rec Ob (fun _ => R) (.fail "") (fun o => @Ob.rec (fun _ => R) (Ca "") (Ca "") (Fn "") (.fail "") (fun f box => κ f box) o) o
theorem Um (f:Nat) (b:K4) (κ:Nat->K4->R):lpO (some (.lp f b)) κ=κ f b := id rfl
theorem XG (c:Ei) (p:K4) (x:V) (h:Heap) (n:K4) (κ:KV):Kd c (.oth (.yl p)) [x] h n κ=lpO (A8 p h) fun f box => D7 (c (B2 f) [.oth .no, .ptr box 0, x] (Ac p h none) n) fun v h n => κ v (Ac p h (some (.lp f box))) n := by
  show BC p h (fun o => @Option.rec Ob (fun _ => R) (.fail "") (fun o => @Ob.rec (fun _ => R) (Ca "") (Ca "") (Fn "") (.fail "")
    (fun f box => BP p h none fun h => D7 (c (B2 f) [.oth .no, .ptr box 0, x] h n) fun v h n => BP p h (some (.lp f box)) fun h => κ v h n) o) o)=_
  rw [BG]
  unfold lpO
  simp only [BR, AU]
theorem Zc (c:Ei) (f:Nat) (its:List Nat) (rd:Rd) (b x:V) (h:Heap) (n:K4):Ol c (some (.ap f its rd)) [.oth .no, b, x] h n=rd c b x h n := id rfl
def TY (o:Co) (off m:Nat) (κ:Cs->R):R := @Option.rec Ob (fun _ => R) (.fail "") (fun o => @Ob.rec (fun _ => R) (fun cs _ _ => AW cs off m κ) (Ca "") (Fn "") (.fail "") (AA "") o) o
theorem Yl (z eb:Nat) (u:V) (p:K4) (off len cap:Nat) (ex:Bool) (h:Heap) (n:K4) (κ:KV):CA z eb u (.sl p off len cap ex z) h n κ=TY (A8 p h) off (len*z) fun y => BK z eb u len y h n κ := by
  show br (Nat.beq z z) (H6 p h fun cs _ _ => Aa (Nat.mul len z) fun m => AW cs off m fun y => BK z eb u len y h n κ) (.fail "")=_
  rw [Nat.beq_refl, Ad]
  unfold H6 TY
  rw [Cp]
  simp only [A9]; rfl
theorem Qy {z eb m:Nat} (hm:0<m) (hs:(4*m+4096)*eb≤281474976710656) {n:K4} (hn:n.toN<65535) (y:Cs) (h:Heap) (κ:KV):BK z eb (.nil .sl) m y h n κ=κ (.sl n 0 m m false z) (Ac n h (some (.c y false none))) n.up := by
  show br (Nat.beq m 0) (κ (.nil .sl) h n) (br (Nat.ble (Nat.mul (Nat.add (Nat.mul 4 m) 4096) eb) 281474976710656) (DQ h n (.c y false none) fun h' n' => κ (.sl n 0 m m false z) h' n') (.fail ""))=_
  rw [CH, decide_eq_false (by omega), Ao, show Nat.ble (Nat.mul (Nat.add (Nat.mul 4 m) 4096) eb) 281474976710656=true from Ab.2 hs, Ad, DH hn]
theorem Y9 (z:Nat) {p:K4} {off len cap:Nat} {ex:Bool} {k:IntKind} {a:Nat} (ha:a<Hk k) (hl:a<len) (κ:V->R):AG z (.sl p off len cap ex z) (.int k a) κ=κ (.ptr p (off+a*z)) := by
  show br (Nat.ble (Nat.succ a) (Hk k)) (br (Nat.beq z z) (br (Nat.ble (Nat.succ a) len) (Aa (Nat.add off (Nat.mul a z)) fun o => κ (.ptr p o)) (.fail "")) (.fail "")) (.fail "")=_
  rw [show Nat.ble (Nat.succ a) (Hk k)=true from Ab.2 ha, Ad, Nat.beq_refl, Ad, show Nat.ble (Nat.succ a) len=true from Ab.2 hl, Ad, A9]; rfl
theorem XW {z:Nat} {p:K4} {off len cap:Nat} {ex:Bool} {a:Nat} (ha:a<9223372036854775808) (hl:a<len) (κ:V->R):AG z (.sl p off len cap ex z) (.int .i64 a) κ=κ (.ptr p (off+a*z)) := Y9 z (k := .i64) ha hl κ
theorem QS {n:K4} (hn:n.toN<65535) (p:K4) (h:Heap) (κ:KV):Dv (.map p) h n κ=κ (.ptr n 0) (Ac n h (some (.c (.l [.map p]) false none))) n.up := DH hn _ _ _
theorem ZX:Hk .i64=9223372036854775808 := rfl
theorem Yd {p:K4} {off len cap:Nat} {ex:Bool} {z:Nat} (h:len<9223372036854775808) (κ:V->R):AJ (.sl p off len cap ex z) κ=κ (.int .i64 len) := CD h κ
theorem TU (κ:V->R):AJ (.nil .sl) κ=κ (.int .i64 0) := id rfl
theorem TV {n c:Nat} (h:n<9223372036854775808) (κ:V->R):AJ (.oth (.rb n c)) κ=κ (.int .i64 n) := CD h κ
theorem V7 {l:List RV} {m z:Nat} (h:m<9223372036854775808) (κ:V->R):AJ (.oth (.rx l m z)) κ=κ (.int .i64 m) := CD h κ
/-- Nothing stands where nothing was Jl. -/
def Al (h:Heap) (n:K4):Prop := ∀ q:K4, n.toN≤q.toN->A8 q h=none
theorem Vj (a b c:V) (s:Bool) (pr:Option K4) (κ:V->R):KC (some (.c (.l [a, b, c]) s pr)) 3 0 κ=κ (.agg [a, b, c]) := id rfl
theorem Vp (a b c:V) (s:Bool) (pr:Option K4) (κ:Cs->R):TY (some (.c (.l [a, b, c]) s pr)) 0 3 κ=κ (.l [a, b, c]) := id rfl
theorem UP (a:V) (s:Bool) (pr:Option K4) (κ:Cs->R):TY (some (.c (.l [a]) s pr)) 0 1 κ=κ (.l [a]) := id rfl
theorem RA (a b c x y z:V) (κ:List V->R):Fj 0 3 (.agg [a, b, c]) [x, y, z] κ=κ [a, b, c] := id rfl
theorem UQ (body:S->Heap->K4->R) (t:S) (h:Heap) (n:K4):B8 body t h n=Pa (body t h n) fun t h n => Pa (body t h n) (Cr body 999999998) := id rfl
theorem Cg (body:S->Heap->K4->R) (t:S) (h:Heap) (n:K4):B8 body t h n=Pa (body t h n) (Cr body 999999999) := id rfl
theorem BN (body:S->Heap->K4->R) (m:Nat) (t:S) (h:Heap) (n:K4):Cr body (m+1) t h n=Pa (body t h n) (Cr body m) := id rfl
theorem N1 (t:S) (h:Heap) (n:K4) (κ:S->Heap->K4->R):Pa (.ok .nrm t h n) κ=κ t h n := id rfl
theorem U0 (i:Nat) (t:S) (h:Heap) (n:K4) (κ:S->Heap->K4->R):Pa (.ok (.exit i) t h n) κ = .ok (.exit i) t h n := id rfl
theorem XF (t:S) (h:Heap) (n:K4) (κ:S->Heap->K4->R):Pa (.ok .ret t h n) κ = .ok .ret t h n := id rfl
theorem Y2 (b:Bool) (x y:R) (κ:S->Heap->K4->R):Pa (bif b then x else y) κ=bif b then Pa x κ else Pa y κ := by cases b <;> rfl
theorem Ro (p:K4) (h:Heap) (i:Nat) (κ:V->R):KG p h (fun cs _ _ => Fb cs i κ)=XD (A8 p h) i κ := Z0 p i h κ
theorem Pr (p:K4) (h:Heap) (κ:R):BC p h (fun o => WW o κ)=WW (A8 p h) κ := BG _ _ _
theorem V2 (f:Nat) (b:K4) (κ:R):WW (some (.lp f b)) κ=κ := id rfl
theorem Rr (p:K4) (h:Heap) (o:Co) (κ:Heap->R):BP p h o κ=κ (Ac p h o) := by rw [BR, AU]
/-- All that a text is told by. -/
theorem qa:type_of% (And.intro (And.intro (And.intro (And.intro (And.intro (And.intro (And.intro @Y3 @Aa8) (And.intro @Ab9 (And.intro @Wf @W8))) (And.intro (And.intro @Up (And.intro @Abr @Aaj)) (And.intro @Zg (And.intro @ZP @XC)))) (And.intro (And.intro (And.intro @Sx (And.intro @Ya @Yo)) (And.intro @XY (And.intro @XV @Y7))) (And.intro (And.intro @XZ (And.intro @Y1 @Sb)) (And.intro @W5 (And.intro @Ab7 @U1))))) (And.intro (And.intro (And.intro (And.intro @XI (And.intro @Ye @Yc)) (And.intro @XM (And.intro @XS @Vx))) (And.intro (And.intro @Sd (And.intro @RD @Sn)) (And.intro @PB (And.intro @PS @Pb)))) (And.intro (And.intro (And.intro @RL (And.intro @Pw @V9)) (And.intro @UB (And.intro @Z0 @UY))) (And.intro (And.intro @Ul (And.intro @UF @XN)) (And.intro @Sh (And.intro @Vi @RH)))))) (And.intro (And.intro (And.intro (And.intro (And.intro @W6 (And.intro @UC @Oc)) (And.intro @Sg (And.intro @U5 @XJ))) (And.intro (And.intro @VW (And.intro @Vd @LD)) (And.intro @Qn (And.intro @A7 @HE)))) (And.intro (And.intro (And.intro @CY (And.intro @Ka @MN)) (And.intro @Uv (And.intro @XO @XR))) (And.intro (And.intro @HS (And.intro @RW @Rm)) (And.intro @Abx (And.intro @VM @ZQ))))) (And.intro (And.intro (And.intro (And.intro @XP (And.intro @XX @CD)) (And.intro @Me (And.intro @MU @Pd))) (And.intro (And.intro @PD (And.intro @PT @Pq)) (And.intro @PW (And.intro @Q9 @L8)))) (And.intro (And.intro (And.intro @Yj (And.intro @V1 @UR)) (And.intro @VC (And.intro @RU @VS))) (And.intro (And.intro @Wm (And.intro @Vb @Qx)) (And.intro @Vk (And.intro @UT @Vh))))))) (And.intro (And.intro (And.intro (And.intro (And.intro (And.intro @Ab8 @ZY) (And.intro @Q4 (And.intro @Aj @Aq))) (And.intro (And.intro @Ri (And.intro @XT @Ym)) (And.intro @VY (And.intro @KX @JN)))) (And.intro (And.intro (And.intro @KI (And.intro @PM @MZ)) (And.intro @Mg (And.intro @KW @RB))) (And.intro (And.intro @WE (And.intro @VH @L9)) (And.intro @Ut (And.intro @Wj @U8))))) (And.intro (And.intro (And.intro (And.intro @Um (And.intro @XG @Zc)) (And.intro @DH (And.intro @RY @Vl))) (And.intro (And.intro @Yq (And.intro @Uf @Uj)) (And.intro @JE (And.intro @Yr @VL)))) (And.intro (And.intro (And.intro @XB (And.intro @Aa6 @XQ)) (And.intro @Yl (And.intro @Qy @XW))) (And.intro (And.intro @QS (And.intro @ZX @Yd)) (And.intro @TU (And.intro @TV @V7)))))) (And.intro (And.intro (And.intro (And.intro (And.intro @Vj (And.intro @Vp @UP)) (And.intro @RA (And.intro @N1 @U0))) (And.intro (And.intro @XF (And.intro @Y2 @Ro)) (And.intro @Pr (And.intro @V2 @Rr)))) (And.intro (And.intro (And.intro @cond_true.{1} (And.intro @cond_false.{1} @List.set_cons_zero.{0})) (And.intro @List.set_cons_succ.{0} (And.intro @List.length_cons.{0} @List.length_nil.{0}))) (And.intro (And.intro @decide_true (And.intro @decide_false @Nat.zero_add)) (And.intro @beq_self_eq_true.{0} (And.intro @Bool.not_true @Bool.not_false))))) (And.intro (And.intro (And.intro (And.intro @bne_self_eq_false.{0} (And.intro @Nat.mod_eq_of_lt @decide_eq_true)) (And.intro @decide_eq_false (And.intro @List.nil_append.{0} @List.cons_append.{0}))) (And.intro (And.intro @List.take_zero.{0} (And.intro @List.drop_zero.{0} @List.drop_succ_cons.{0})) (And.intro @List.take_succ_cons.{0} (And.intro @List.drop_nil.{0} @List.append_nil.{0})))) (And.intro (And.intro (And.intro @Bool.and_true (And.intro @Bool.true_and @Bool.and_false)) (And.intro @Bool.false_and (And.intro @Bool.or_true @Bool.true_or))) (And.intro (And.intro @Bool.or_false (And.intro @Bool.false_or @Nat.one_mul)) (And.intro @Nat.mul_one (And.intro @not_true_eq_false @not_false_eq_true)))))))) := And.intro (And.intro (And.intro (And.intro (And.intro (And.intro (And.intro @Y3 @Aa8) (And.intro @Ab9 (And.intro @Wf @W8))) (And.intro (And.intro @Up (And.intro @Abr @Aaj)) (And.intro @Zg (And.intro @ZP @XC)))) (And.intro (And.intro (And.intro @Sx (And.intro @Ya @Yo)) (And.intro @XY (And.intro @XV @Y7))) (And.intro (And.intro @XZ (And.intro @Y1 @Sb)) (And.intro @W5 (And.intro @Ab7 @U1))))) (And.intro (And.intro (And.intro (And.intro @XI (And.intro @Ye @Yc)) (And.intro @XM (And.intro @XS @Vx))) (And.intro (And.intro @Sd (And.intro @RD @Sn)) (And.intro @PB (And.intro @PS @Pb)))) (And.intro (And.intro (And.intro @RL (And.intro @Pw @V9)) (And.intro @UB (And.intro @Z0 @UY))) (And.intro (And.intro @Ul (And.intro @UF @XN)) (And.intro @Sh (And.intro @Vi @RH)))))) (And.intro (And.intro (And.intro (And.intro (And.intro @W6 (And.intro @UC @Oc)) (And.intro @Sg (And.intro @U5 @XJ))) (And.intro (And.intro @VW (And.intro @Vd @LD)) (And.intro @Qn (And.intro @A7 @HE)))) (And.intro (And.intro (And.intro @CY (And.intro @Ka @MN)) (And.intro @Uv (And.intro @XO @XR))) (And.intro (And.intro @HS (And.intro @RW @Rm)) (And.intro @Abx (And.intro @VM @ZQ))))) (And.intro (And.intro (And.intro (And.intro @XP (And.intro @XX @CD)) (And.intro @Me (And.intro @MU @Pd))) (And.intro (And.intro @PD (And.intro @PT @Pq)) (And.intro @PW (And.intro @Q9 @L8)))) (And.intro (And.intro (And.intro @Yj (And.intro @V1 @UR)) (And.intro @VC (And.intro @RU @VS))) (And.intro (And.intro @Wm (And.intro @Vb @Qx)) (And.intro @Vk (And.intro @UT @Vh))))))) (And.intro (And.intro (And.intro (And.intro (And.intro (And.intro @Ab8 @ZY) (And.intro @Q4 (And.intro @Aj @Aq))) (And.intro (And.intro @Ri (And.intro @XT @Ym)) (And.intro @VY (And.intro @KX @JN)))) (And.intro (And.intro (And.intro @KI (And.intro @PM @MZ)) (And.intro @Mg (And.intro @KW @RB))) (And.intro (And.intro @WE (And.intro @VH @L9)) (And.intro @Ut (And.intro @Wj @U8))))) (And.intro (And.intro (And.intro (And.intro @Um (And.intro @XG @Zc)) (And.intro @DH (And.intro @RY @Vl))) (And.intro (And.intro @Yq (And.intro @Uf @Uj)) (And.intro @JE (And.intro @Yr @VL)))) (And.intro (And.intro (And.intro @XB (And.intro @Aa6 @XQ)) (And.intro @Yl (And.intro @Qy @XW))) (And.intro (And.intro @QS (And.intro @ZX @Yd)) (And.intro @TU (And.intro @TV @V7)))))) (And.intro (And.intro (And.intro (And.intro (And.intro @Vj (And.intro @Vp @UP)) (And.intro @RA (And.intro @N1 @U0))) (And.intro (And.intro @XF (And.intro @Y2 @Ro)) (And.intro @Pr (And.intro @V2 @Rr)))) (And.intro (And.intro (And.intro @cond_true.{1} (And.intro @cond_false.{1} @List.set_cons_zero.{0})) (And.intro @List.set_cons_succ.{0} (And.intro @List.length_cons.{0} @List.length_nil.{0}))) (And.intro (And.intro @decide_true (And.intro @decide_false @Nat.zero_add)) (And.intro @beq_self_eq_true.{0} (And.intro @Bool.not_true @Bool.not_false))))) (And.intro (And.intro (And.intro (And.intro @bne_self_eq_false.{0} (And.intro @Nat.mod_eq_of_lt @decide_eq_true)) (And.intro @decide_eq_false (And.intro @List.nil_append.{0} @List.cons_append.{0}))) (And.intro (And.intro @List.take_zero.{0} (And.intro @List.drop_zero.{0} @List.drop_succ_cons.{0})) (And.intro @List.take_succ_cons.{0} (And.intro @List.drop_nil.{0} @List.append_nil.{0})))) (And.intro (And.intro (And.intro @Bool.and_true (And.intro @Bool.true_and @Bool.and_false)) (And.intro @Bool.false_and (And.intro @Bool.or_true @Bool.true_or))) (And.intro (And.intro @Bool.or_false (And.intro @Bool.false_or @Nat.one_mul)) (And.intro @Nat.mul_one (And.intro @not_true_eq_false @not_false_eq_true)))))))
end Go.Ev

namespace Go.Ev
set_option linter.unusedVariables false
theorem K4.beq_self (p:K4):p.beq p=true := K4.beq_iff.2 rfl
theorem QI (k:IntKind) (r:Nat) (κ:R):BU (.int k r) (.int k r) κ=κ := by
  show br (Bn k k) (br (Nat.beq r r) κ _) _=_
  rw [AI.2 rfl, Nat.beq_refl]; rfl
theorem YF (p:K4) (o:Nat) (κ:R):BU (.ptr p o) (.ptr p o) κ=κ := by
  show br (K4.beq p p) (br (Nat.beq o o) κ _) _=_
  rw [K4.beq_self, Nat.beq_refl]; rfl
theorem YT (w:Nl) (κ:R):BU (.nil w) (.nil w) κ=κ := by cases w <;> rfl
theorem Yy (p:K4) (a b c:Nat) (e:Bool) (z:Nat) (κ:R):BU (.sl p a b c e z) (.sl p a b c e z) κ=κ := by
  show br (K4.beq p p) (br (and (Nat.beq a a) (and (Nat.beq b b) (and (Nat.beq c c) (and (Bool.rec (Bool.rec true false e) e e) (Nat.beq z z))))) κ _) _=_
  rw [K4.beq_self]; simp only [Nat.beq_refl]; cases e <;> rfl
def IK (es:List (V×V)):Prop := ∀ e∈es, ∃ r w, e=(.int .i64 r, w)
theorem IK.nil:IK [] := fun e h => by cases h
theorem Aav (k:Nat) (w:V):∀ es:List (V×V), IK es->∃ es', (∀ κ:List (V×V)->R, EW (.sc .i) (.int .i64 k) w es κ=κ es')∧IK es'∧es'.length≤es.length+1
  | [], _ => ⟨[(.int .i64 k, w)], fun κ => rfl, fun e he => by rcases List.mem_singleton.1 he with rfl; exact ⟨k, w, rfl⟩, by simp⟩
  | e::es, h => by
    obtain ⟨r, u, rfl⟩ := h e List.mem_cons_self
    have hes:IK es := fun x hx => h x (List.mem_cons_of_mem _ hx)
    obtain ⟨es', h1, h2, h3⟩ := Aav k w es hes
    cases hb:Nat.beq k r with
    | true => exact ⟨(.int .i64 k, w)::es, fun κ => by
        show C8 (Nat.beq k r) (fun q => br q (κ ((.int .i64 k, w)::es)) (EW (.sc .i) (.int .i64 k) w es fun l => κ ((.int .i64 r, u)::l)))=_
        rw [Bv, hb]; rfl, fun x hx => by
        rcases List.mem_cons.1 hx with rfl | hx
        · exact ⟨k, w, rfl⟩
        · exact hes x hx, by simp⟩
    | false => exact ⟨(.int .i64 r, u)::es', fun κ => by
        show C8 (Nat.beq k r) (fun q => br q (κ ((.int .i64 k, w)::es)) (EW (.sc .i) (.int .i64 k) w es fun l => κ ((.int .i64 r, u)::l)))=_
        rw [Bv, hb]; exact h1 _, fun x hx => by
        rcases List.mem_cons.1 hx with rfl | hx
        · exact ⟨r, u, rfl⟩
        · exact h2 x hx, by simp only [List.length_cons]; omega⟩
theorem Ago {q:K4} {h:Heap} {es:List (V×V)} {bs:List Nat} {c:Nat} (hq:A8 q h=some (.m es bs c)) (hk:IK es) (k:Nat) (w:V) :
    ∃ es' bs' c', (∀ κ:Heap->R, PL (.sc .i) (.map q) (.int .i64 k) w h κ=κ (Ac q h (some (.m es' bs' c'))))∧IK es' := by
  obtain ⟨es', h1, h2, h3⟩ := Aav k w es hk
  refine ⟨es', if es'.length=bs.length then bs else bs++[c], if es'.length=bs.length then c else c+1, fun κ => ?_, h2⟩
  show PY q h (fun es bs c' k' => EW (.sc .i) (.int .i64 k) w es fun es => TQ es bs c' fun bs c => k' es bs c) κ=_
  rw [IW, YI hq, h1]
  rw [Vq]; exact AU _ _ _ _
def Lf (p:K4) (h:Heap) (c:V) (l:List UInt8):Prop := (c = .nil .sl∧l=[]) ∨ ∃ ex, c = .sl p 0 l.length l.length ex 1∧A8 p h=some (.c (cb l) false none)
theorem Lf.frame {p:K4} {h h':Heap} {c:V} {l:List UInt8} (H:Lf p h c l) (e:A8 p h'=A8 p h):Lf p h' c l := by
  rcases H with H | ⟨ex, h1, h2⟩
  · exact .inl H
  · exact .inr ⟨ex, h1, e.trans h2⟩
theorem Lf.len {p:K4} {h:Heap} {c:V} {l:List UInt8} (H:Lf p h c l) (hl:l.length<9223372036854775808) (κ:V->R):AJ c κ=κ (.int .i64 l.length) := by
  rcases H with ⟨rfl, rfl⟩ | ⟨ex, rfl, h2⟩
  · rfl
  · exact CD hl κ
theorem Kx:∀ m:Nat, AH (List.replicate m 0)=0
  | 0 => rfl
  | m+1 => by rw [List.replicate_succ]; show (0:UInt8).toNat+256*AH (List.replicate m 0)=0; rw [Kx m]; rfl
theorem QV (u:V) {m:Nat} (hm:m≤1000000000000) (h:Heap) (n:K4) (κ:KV):If 1 1 true [.int .u8 0] u (.int .i64 m) h n κ=BK 1 1 u m (cb (List.replicate m 0)) h n κ := by
  show br (Nat.ble (Nat.succ m) 9223372036854775808) (br (Nat.ble (Nat.mul 1 m) 281474976710656) (BK 1 1 u m (.b m 0) h n κ) (.fail "")) (.fail "")=_
  rw [show Nat.ble (Nat.succ m) 9223372036854775808=true from Ab.2 (by omega), Ad, show Nat.ble (Nat.mul 1 m) 281474976710656=true from Ab.2 (by rw [show Nat.mul 1 m=m from Nat.one_mul m]; omega), Ad]
  unfold cb
  rw [Kx, List.length_replicate]
theorem UW {p:K4} {h:Heap} {c:V} {bs:List UInt8} (H:Lf p h c bs) {m:Nat} (hm:0<m) (hb:bs.length+m≤1000000000) {n:K4} (hn:n.toN<65000) (hpn:p.toN<n.toN) :
    ∃ h' pr, (∀ κ:KV, If 1 1 true [.int .u8 0] c (.int .i64 m) h n κ=κ (.sl n 0 (bs++List.replicate m 0).length (bs++List.replicate m 0).length false 1) h' n.up)∧A8 n h'=some (.c (cb (bs++List.replicate m 0)) false pr)∧(pr=none∨pr=some p) ∧
      (∀ q:K4, q≠n->q≠p->A8 q h'=A8 q h) := by
  rcases H with ⟨rfl, rfl⟩ | ⟨ex, rfl, h2⟩
  · refine ⟨_, none, fun κ => ?_, A7 _ _ _, .inl rfl, fun q hq _ => A6 _ _ (Ne.symm hq)⟩
    rw [QV _ (by omega), Ow hm (by omega) (by omega), List.nil_append, List.length_replicate]
  · have hl:(List.replicate m (0:UInt8)).length=m := List.length_replicate
    cases ex with
    | true =>
      refine ⟨_, none, fun κ => ?_, A7 _ _ _, .inl rfl, fun q hq _ => A6 _ _ (Ne.symm hq)⟩
      have e := Fs h2 (ex := true) (b := List.replicate m 0) (by omega) (by omega) (n := n) (by omega) κ
      rw [hl] at e
      rw [QV _ (by omega), e, if_pos rfl]
    | false =>
      refine ⟨Ac n (Ac p h (some (.c (cb bs) true none))) (some (.c (cb (bs++List.replicate m 0)) false (some p))), some p, fun κ => ?_, A7 _ _ _, .inr rfl, fun q hq h3 => (A6 _ _ (Ne.symm hq)).trans (A6 _ _ (Ne.symm h3))⟩
      have e := Fs h2 (ex := false) (b := List.replicate m 0) (by omega) (by omega) (n := n) (by omega) κ
      rw [hl] at e
      rw [QV _ (by omega), e, if_neg (by decide)]; rfl
/-- Bytes that are copied from. -/
def E1 (v:V) (l:List UInt8) (h:Heap):Prop := v=L2 l∨(v = .nil .sl∧l=[]) ∨ ∃ p off cap ex L s pr, v = .sl p off l.length cap ex 1∧A8 p h=some (.c (cb L) s pr)∧off+l.length≤L.length∧(L.drop off).take l.length=l
theorem E1.len {v:V} {l:List UInt8} {h:Heap} (H:E1 v l h) (hl:l.length<9223372036854775808) (κ:V->R):AJ v κ=κ (.int .i64 l.length) := by
  rcases H with rfl | ⟨rfl, rfl⟩ | ⟨p, off, cap, ex, L, s, pr, rfl, h1, h2, h3⟩
  · exact CD hl κ
  · rfl
  · exact CD hl κ
theorem E1.src {v:V} {l:List UInt8} {h:Heap} (H:E1 v l h):∃ y, (∀ κ:Nat->Cs->R, Gp 1 v h κ=κ l.length y)∧(0<l.length->y=cb l) := by
  rcases H with rfl | ⟨rfl, rfl⟩ | ⟨p, off, cap, ex, L, s, pr, rfl, h1, h2, h3⟩
  · exact ⟨cb l, fun κ => rfl, fun _ => rfl⟩
  · exact ⟨.l [], fun κ => rfl, fun h => by cases h⟩
  · refine ⟨cb l, fun κ => ?_, fun _ => rfl⟩
    rw [YA h1 h2, h3]
theorem E1.frame {v:V} {l:List UInt8} {h h':Heap} (H:E1 v l h) (e:∀ p:K4, (∃ off cap ex, v = .sl p off l.length cap ex 1)->A8 p h'=A8 p h):E1 v l h' := by
  rcases H with H | H | ⟨p, off, cap, ex, L, s, pr, rfl, h1, h2, h3⟩
  · exact .inl H
  · exact .inr (.inl H)
  · exact .inr (.inr ⟨p, off, cap, ex, L, s, pr, rfl, (e p ⟨off, cap, ex, rfl⟩).trans h1, h2, h3⟩)
theorem Aby {v:V} {h:Heap} (H:E1 v [] h) {p:K4} {off len cap:Nat} {ex:Bool} (κ:V->Heap->R):Ir 1 (.sl p off len cap ex 1) v h κ=κ (.int .i64 0) h := by
  obtain ⟨y, h1, _⟩ := H.src
  show Gp 1 v h (fun m y => _)=_
  rw [h1]
  show br (Nat.beq 1 1) (Aa (@Bool.rec (fun _ => Nat) len 0 (Nat.ble 0 len)) fun k => br (Nat.beq k 0) (κ (.int .i64 0) h) (Aa (Nat.mul k 1) fun j => AW y 0 j fun y => CV h p off y fun h => DD k fun v => κ v h)) (.fail "")=_
  rw [Nat.beq_refl, Ad, A9, show Nat.ble 0 len=true from Ab.2 (Nat.zero_le _)]; rfl
theorem YY {v:V} {h:Heap} (H:E1 v [] h) (κ:V->Heap->R):Ir 1 (.nil .sl) v h κ=κ (.int .i64 0) h := by
  obtain ⟨y, h1, _⟩ := H.src
  show Gp 1 v h (fun m y => _)=_
  rw [h1]; rfl
theorem QN {v:V} {l bs:List UInt8} {h:Heap} (H:E1 v l h) (h0:0<l.length) {p:K4} {off len cap:Nat} {ex:Bool} {pr:Option K4} (hp:A8 p h=some (.c (cb bs) false pr)) (hl:l.length≤len) (hl2:off+l.length≤bs.length) (hl3:l.length<9223372036854775808) (κ:V->Heap->R) :
    Ir 1 (.sl p off len cap ex 1) v h κ=κ (.int .i64 l.length) (Ac p (E9 pr h) (some (.c (cb (bs.take off++(l++bs.drop (off+l.length)))) false none))) := by
  obtain ⟨y, h1, h2⟩ := H.src
  have hy := h2 h0; subst hy
  show Gp 1 v h (fun m y => _)=_
  rw [h1]
  show br (Nat.beq 1 1) (Aa (@Bool.rec (fun _ => Nat) len l.length (Nat.ble l.length len)) fun k => br (Nat.beq k 0) (κ (.int .i64 0) h) (Aa (Nat.mul k 1) fun j => AW (cb l) 0 j fun y => CV h p off y fun h => DD k fun v => κ v h)) (.fail "")=_
  rw [Nat.beq_refl, Ad, A9, show Nat.ble l.length len=true from Ab.2 hl]
  show br (Nat.beq l.length 0) (κ (.int .i64 0) h) (Aa (Nat.mul l.length 1) fun j => AW (cb l) 0 j fun y => CV h p off y fun h => DD l.length fun v => κ v h)=_
  rw [CH, decide_eq_false (by omega), Ao, A9, show Nat.mul l.length 1=l.length from Nat.mul_one _, HD (by omega), List.drop_zero, List.take_length, Gr]
  unfold E6
  rw [GM hp, Ao, WN hl2, EP, AU, CD hl3]
theorem Lf.same {p:K4} {h:Heap} {c:V} {l:List UInt8} (H:Lf p h c l) (κ:R):BU c c κ=κ := by
  rcases H with ⟨rfl, rfl⟩ | ⟨ex, rfl, h2⟩
  · exact YT _ _
  · exact Yy _ _ _ _ _ _ _
theorem OU {a b:Nat} (h:a<b) (hb:b<4611686018427387904):9223372036854775808≤Ih .i64 a b∧Ih .i64 a b<18446744073709551616 := by
  unfold Ih
  rw [show Mk .i64=18446744073709551616 from rfl, Nat.mod_eq_of_lt (by omega)]
  omega
theorem NT {a b:Nat} (ha:a<4611686018427387904) (hb:b<4611686018427387904) (κ:V->R):Ns (.int .i64 (Ih .i64 a b)) (.int .i64 0) κ=κ (.int .i64 (a - b)) := by
  rcases Nat.lt_or_ge a b with h | h
  · obtain ⟨h1, h2⟩ := OU h hb
    rw [Sb h2 (by omega), MN h1 (by omega), show a - b=0 by omega]; rfl
  · rw [HS h (by omega), Sb (by omega) (by omega), Ka (by omega) (by omega), decide_eq_false (by omega)]; rfl
theorem NV {a b:Nat} (ha:a<4611686018427387904) (hb:b<4611686018427387904):Dz .i64 0 (Ih .i64 a b)=decide (b<a) := by
  rcases Nat.lt_or_ge a b with h | h
  · obtain ⟨h1, h2⟩ := OU h hb
    rw [Uv (by omega) h1, decide_eq_false (by omega)]
  · rw [HS h (by omega), Ka (by omega) (by omega)]
    by_cases h3:b<a
    · rw [decide_eq_true h3, decide_eq_true (by omega)]
    · rw [decide_eq_false h3, decide_eq_false (by omega)]
theorem EN:(false == true)=false := id rfl
theorem EO:(true == true)=true := id rfl
theorem Uh {p:K4} {o len cap a:Nat} {ex:Bool} (ha:a≤len) (hl:len≤cap) (ha2:a<9223372036854775808) (κ:V->R):DW 1 (.sl p o len cap ex 1) (some (.int .i64 a)) none κ=κ (.sl p (o+a) (len - a) (cap - a) ex 1) := by
  show br (Nat.ble (Nat.succ a) 9223372036854775808) (br (Nat.beq 1 1) (br (Nat.ble a len) (br (Nat.ble len cap) (Aa (Nat.sub len a) fun l => Aa (Nat.sub cap a) fun c => Aa (Nat.add o (Nat.mul a 1)) fun o => κ (.sl p o l c ex 1)) (.fail "")) (.fail "")) (.fail "")) (.fail "")=_
  rw [show Nat.ble (Nat.succ a) 9223372036854775808=true from Ab.2 (by omega), Ad, Nat.beq_refl, Ad, Ab.2 ha, Ad, Ab.2 hl, Ad, A9, A9, A9, show Nat.mul a 1=a from Nat.mul_one a]; rfl
theorem Zl (κ:V->R):DW 1 (.nil .sl) (some (.int .i64 0)) none κ=κ (.nil .sl) := id rfl
theorem Ki {bs l:List UInt8} {off:Nat} (h:off+l.length≤bs.length):(bs.take off++(l++bs.drop (off+l.length))).length=bs.length := by
  simp only [List.length_append, List.length_take, List.length_drop]; omega
theorem Xj {pc:K4} {h:Heap} {cv v:V} {bs l:List UInt8} {off:Nat} (ho:Lf pc h cv bs) (hs:E1 v l h) (hoff:off+l.length≤bs.length) (hb:bs.length<1000000000) :
    ∃ h', (∀ κ:Heap->R, DW 1 cv (some (.int .i64 off)) none (fun z => Ir 1 z v h fun _ h => κ h)=κ h')∧Lf pc h' cv (bs.take off++(l++bs.drop (off+l.length))) ∧ ∀ q, q≠pc->A8 q h'=A8 q h := by
  rcases ho with ⟨rfl, rfl⟩ | ⟨ex, rfl, h2⟩
  · obtain rfl:off=0 := by simp only [List.length_nil] at hoff; omega
    obtain rfl:l=[] := List.length_eq_zero_iff.1 (by simp only [List.length_nil] at hoff; omega)
    exact ⟨h, fun κ => by rw [Zl, YY hs], .inl ⟨rfl, rfl⟩, fun q _ => rfl⟩
  · cases l with
    | nil =>
      refine ⟨h, fun κ => by rw [Uh (by simp only [List.length_nil] at hoff; omega) (Nat.le_refl _) (by simp only [List.length_nil] at hoff; omega), Aby hs], .inr ⟨ex, ?_, ?_⟩, fun q _ => rfl⟩
      · rw [Ki hoff]
      · rw [h2, List.length_nil, Nat.add_zero, List.nil_append, List.take_append_drop]
    | cons u l =>
      refine ⟨_, fun κ => by rw [Uh (by omega) (Nat.le_refl _) (by omega), QN hs (by rw [List.length_cons]; omega) h2 (by omega) (by omega) (by omega)], .inr ⟨ex, ?_, ?_⟩, fun q hq => ?_⟩
      · rw [Ki hoff]
      · show A8 pc (Ac pc h _)=_
        rw [A7, Nat.zero_add]
      · exact A6 _ _ (Ne.symm hq)
theorem Xz {a b:Nat} (h:a+b<18446744073709551616):Ih .i64 (a+b) a=b := by rw [HS (by omega) h]; omega
/-- Bytes that were laid anew are written over, all that is new. -/
theorem WK {p n:K4} {h':Heap} {v:V} {bs l:List UInt8} {pr:Option K4} (hp:A8 n h'=some (.c (cb (bs++List.replicate l.length 0)) false pr)) (hpr:pr=none∨pr=some p) (hs:E1 v l h') (h0:0<l.length) (hb:bs.length+l.length<1000000000) :
    ∃ h2, (∀ κ:Heap->R, Ir 1 (.sl n bs.length l.length l.length false 1) v h' (fun _ h => κ h)=κ h2)∧A8 n h2=some (.c (cb (bs++l)) false none) ∧ ∀ q, q≠n->q≠p->A8 q h2=A8 q h' := by
  have hl:(bs++List.replicate l.length (0:UInt8)).length=bs.length+l.length := by rw [List.length_append, List.length_replicate]
  have e := fun κ:Heap->R => QN hs h0 (ex := false) (off := bs.length) (len := l.length) (cap := l.length) hp (Nat.le_refl _) (by omega) (by omega) fun _ h => κ h
  have e2:(bs++List.replicate l.length (0:UInt8)).take bs.length++(l++(bs++List.replicate l.length (0:UInt8)).drop (bs.length+l.length))=bs++l := by
    rw [List.take_left, List.drop_eq_nil_of_le (by omega), List.append_nil]
  rw [e2] at e
  refine ⟨_, e, A7 _ _ _, fun q h1 h2 => ?_⟩
  rw [A6 _ _ (Ne.symm h1)]
  rcases hpr with rfl | rfl
  · rfl
  · exact A6 _ _ (Ne.symm h2)
end Go.Ev

namespace Go.Ev
set_option linter.unusedVariables false
theorem Wv {v b:Nat} (hv:v<18446744073709551616) (hb:b≤64) (κ:V->R):G9 (.int .u64 v) (.int .i64 b) κ=κ (.int .u64 (v >>> b)) := by
  show br (Nat.ble (Nat.succ b) 9223372036854775808) (br (Nat.ble (Nat.succ v) 18446744073709551616) (br (Nat.ble b 64) (Aa (Nat.shiftRight v b) fun r => κ (.int .u64 r)) (κ (.int .u64 0))) (.fail "")) (.fail "")=_
  rw [show Nat.ble (Nat.succ b) 9223372036854775808=true from Ab.2 (by omega), Ad, show Nat.ble (Nat.succ v) 18446744073709551616=true from Ab.2 (by omega), Ad, Ab.2 hb, Ad, A9]; rfl
theorem R9 {v:Nat} (hv:v<18446744073709551616) (κ:V->R):Bw .u8 (.int .u64 v) κ=κ (.int .u8 (v % 256)) := JE (k := .u8) (j := .u64) hv κ
theorem Ua {r:Nat} (hr:r<256) {n:K4} (hn:n.toN<65535) (h:Heap) (κ:KV):Cx true 1 1 [.int .u8 r] h n κ=κ (.sl n 0 1 1 true 1) (Ac n h (some (.c (cb [UInt8.ofNat r]) false none))) n.up := by
  show br (Nat.ble r 255) (Aa (Nat.succ 0) fun m => Aa (Nat.add r (Nat.mul 256 0)) fun c => DQ h n (.c (.b m c) false none) fun h' n' => κ (.sl n 0 1 1 true 1) h' n') (.fail "")=_
  rw [show Nat.ble r 255=true from Ab.2 (by omega), Ad, A9, A9, DH hn]
  have e:(UInt8.ofNat r).toNat=r := by show r % 256=r; omega
  show κ _ (Ac n h (some (.c (.b 1 r) false none))) n.up=κ _ (Ac n h (some (.c (.b 1 ((UInt8.ofNat r).toNat+256*0)) false none))) n.up
  rw [e]; rfl
/-- Bytes that may still know what they grew from. -/
def FE (lo:Nat) (n:K4) (h:Heap) (c:V) (l:List UInt8):Prop := (c = .nil .sl∧l=[]) ∨ ∃ p ex pr, c = .sl p 0 l.length l.length ex 1∧A8 p h=some (.c (cb l) false pr)∧lo≤p.toN∧p.toN<n.toN∧(pr=none ∨ ∃ q, pr=some q∧lo≤q.toN∧q.toN<n.toN)
theorem FE.frame {lo:Nat} {n n':K4} {h h':Heap} {c:V} {l:List UInt8} (H:FE lo n h c l) (hn:n.toN≤n'.toN) (e:∀ q:K4, lo≤q.toN->q.toN<n.toN->A8 q h'=A8 q h):FE lo n' h' c l := by
  rcases H with H | ⟨p, ex, pr, h1, h2, h3, h4, h5⟩
  · exact .inl H
  · refine .inr ⟨p, ex, pr, h1, (e p h3 h4).trans h2, h3, by omega, ?_⟩
    rcases h5 with h5 | ⟨q, h5, h6, h7⟩
    · exact .inl h5
    · exact .inr ⟨q, h5, h6, by omega⟩
theorem FE.nil {lo:Nat} {n:K4} {h:Heap}:FE lo n h (.nil .sl) [] := .inl ⟨rfl, rfl⟩
theorem FE.len {lo:Nat} {n:K4} {h:Heap} {c:V} {l:List UInt8} (H:FE lo n h c l) (hl:l.length<9223372036854775808) (κ:V->R):AJ c κ=κ (.int .i64 l.length) := by
  rcases H with ⟨rfl, rfl⟩ | ⟨p, ex, pr, rfl, _⟩
  · rfl
  · exact CD hl κ
theorem FE.src {lo:Nat} {n:K4} {h:Heap} {c:V} {l:List UInt8} (H:FE lo n h c l):E1 c l h := by
  rcases H with ⟨rfl, rfl⟩ | ⟨p, ex, pr, rfl, h2, _⟩
  · exact .inr (.inl ⟨rfl, rfl⟩)
  · exact .inr (.inr ⟨p, 0, l.length, ex, l, false, pr, rfl, h2, by omega, by rw [List.drop_zero, List.take_length]⟩)
theorem grow {lo:Nat} {n:K4} {h:Heap} {c:V} {l b:List UInt8} (H:FE lo n h c l) (hlo:lo≤n.toN) (hb:l.length+b.length≤1000000000) (hn:n.toN<65000) {y:Cs} (hy:0<b.length->y=cb b) :
    ∃ c' h' n', (∀ κ:KV, BK 1 1 c b.length y h n κ=κ c' h' n')∧FE lo n' h' c' (l++b)∧n.toN≤n'.toN∧n'.toN≤n.toN+1∧(∀ q:K4, q.toN<lo->A8 q h'=A8 q h)∧(Al h n->Al h' n') := by
  have u1 := K4.up_toN (p := n) (by omega)
  rcases Nat.eq_zero_or_pos b.length with h0 | h0
  · obtain rfl := List.length_eq_zero_iff.1 h0
    refine ⟨c, h, n, fun κ => KK ?_ _ _ _ _, by rw [List.append_nil]; exact H, by omega, by omega, fun q _ => rfl, fun h => h⟩
    rcases H with ⟨rfl, _⟩ | ⟨p, ex, pr, rfl, _⟩
    · exact .inl rfl
    · exact .inr ⟨p, _, _, _, ex, rfl⟩
  · obtain rfl := hy h0
    rcases H with ⟨rfl, rfl⟩ | ⟨p, ex, pr, rfl, h2, h3, h4, h5⟩
    · refine ⟨_, _, _, fun κ => Ow h0 (by omega) (by omega) _ _ _, ?_, by omega, by omega, fun q hq => Aj (by omega) _ _, fun hf q hq => (Aq (by omega) _ _).trans (hf q (by omega))⟩
      exact .inr ⟨n, false, none, rfl, A7 _ _ _, hlo, by omega, .inl rfl⟩
    · cases ex with
      | true =>
        refine ⟨_, _, _, fun κ => (Fs h2 h0 (by omega) (by omega) κ).trans (if_pos rfl), ?_, by omega, by omega, fun q hq => Aj (by omega) _ _, fun hf q hq => (Aq (by omega) _ _).trans (hf q (by omega))⟩
        exact .inr ⟨n, false, none, rfl, A7 _ _ _, hlo, by omega, .inl rfl⟩
      | false =>
        refine ⟨_, _, _, fun κ => (Fs h2 h0 (by omega) (by omega) κ).trans (if_neg (by decide)), ?_, by omega, by omega, fun q hq => ?_, fun hf q hq => ?_⟩
        · exact .inr ⟨n, false, some p, rfl, A7 _ _ _, hlo, by omega, .inr ⟨p, rfl, h3, by omega⟩⟩
        · rw [Aj (by omega), Aj (by omega)]
          rcases h5 with rfl | ⟨r, rfl, h6, h7⟩
          · rfl
          · exact A6 _ _ (K4.ne_of_lt (by omega)).symm
        · rw [Aq (by omega), Aq (by omega)]
          rcases h5 with rfl | ⟨r, rfl, h6, h7⟩
          · exact hf q (by omega)
          · exact (A6 _ _ (K4.ne_of_lt (by omega))).trans (hf q (by omega))
/-- .. by what is copied from. -/
theorem IU {lo:Nat} {n:K4} {h:Heap} {c v:V} {l b:List UInt8} (H:FE lo n h c l) (hs:E1 v b h) (hlo:lo≤n.toN) (hb:l.length+b.length≤1000000000) (hn:n.toN<65000) :
    ∃ c' h' n', (∀ κ:KV, CA 1 1 c v h n κ=κ c' h' n')∧FE lo n' h' c' (l++b)∧n.toN≤n'.toN∧n'.toN≤n.toN+1∧(∀ q:K4, q.toN<lo->A8 q h'=A8 q h)∧(Al h n->Al h' n') := by
  obtain ⟨y, h1, h2⟩ := hs.src
  obtain ⟨c', h', n', e, r⟩ := grow H hlo hb hn h2
  refine ⟨c', h', n', fun κ => ?_, r⟩
  show Gp 1 v h (fun m y => BK 1 1 c m y h n κ)=_
  rw [h1, e]
end Go.Ev

namespace Go.Ev
set_option linter.unusedVariables false
theorem FF:(true == false)=false := id rfl
theorem FG:(false == false)=true := id rfl
theorem DJ (g:Bool) (h:Heap) (n:K4) (F:KV->R) (κ:KV):Bu g Ar h n F κ=κ Ar h n := id rfl
theorem D9 (g:Bool) (F:(V->R)->R) (κ:V->R):OI g Ar F κ=κ Ar := id rfl
theorem J6 {xs:List V} {off m:Nat} (h:off+m≤xs.length) (κ:Cs->R):AW (.l xs) off m κ=κ (.l ((xs.drop off).take m)) := by
  show DF off xs (fun ys => Dc m ys fun zs => κ (.l zs))=_
  rw [Ix (by omega), J1 (by rw [List.length_drop]; omega)]
theorem TZ (a b:List V) (κ:Cs->R):NU (.l a) (.l b) κ=κ (.l (a++b)) := by
  show Ew a b (fun zs => κ (.l zs))=_
  rw [Dd]
theorem Zp {a b:List V} {i:Nat} (h:i+b.length≤a.length) (κ:Cs->R):LN (.l a) i (.l b) κ=κ (.l (a.take i++(b++a.drop (i+b.length)))) := by
  show Dc i a (fun x => G3 b fun m => Aa (Nat.add i m) fun j => DF j a fun y => Ew b y fun t => Ew x t fun zs => κ (.l zs))=_
  rw [J1 (by omega), CE, A9, Ix (by show i+b.length≤_; exact h), Dd, Dd]; rfl
theorem Zd {p:K4} {h:Heap} {a b:List V} {pr:Option K4} {off:Nat} (hp:A8 p h=some (.c (.l a) false pr)) (hl:off+b.length≤a.length) (κ:Heap->R):CV h p off (.l b) κ=κ (Ac p (E9 pr h) (some (.c (.l (a.take off++(b++a.drop (off+b.length)))) false none))) := by
  rw [Gr]; unfold E6
  rw [GM hp, Ao, Zp hl, EP, AU]
theorem SN {m:Nat} {p:K4} {h:Heap} {a b:List V} {pr:Option K4} {off:Nat} (hp:A8 p h=some (.c (.l a) false pr)) (hm:b.length=m) (hl:off+b.length≤a.length) (κ:Heap->R):Di m (.ptr p off) (.agg b) h κ=κ (Ac p (E9 pr h) (some (.c (.l (a.take off++(b++a.drop (off+b.length)))) false none))) := by
  show G3 b (fun k => br (Nat.beq k m) (CV h p off (.l b) κ) (.fail ""))=_
  rw [CE, hm, Nat.beq_refl, Ad, Zd hp hl, hm]
/-- A slice that is read: its cells. -/
def LS (h:Heap) (n:K4) (av:List K4) (z:Nat) (v:V) (l:List V) (k:Nat):Prop := (v = .nil .sl∧l=[]∧k=0) ∨ ∃ p off cap ex a s pr, v = .sl p off k cap ex z∧A8 p h=some (.c (.l a) s pr)∧off+k*z≤a.length∧(a.drop off).take (k*z)=l∧p.toN<n.toN ∧ ∀ q∈av, p≠q
theorem LS.len {h:Heap} {n:K4} {av:List K4} {z:Nat} {v:V} {l:List V} {k:Nat} (H:LS h n av z v l k) (hk:k<9223372036854775808) (κ:V->R):AJ v κ=κ (.int .i64 k) := by
  rcases H with ⟨rfl, _, rfl⟩ | ⟨p, off, cap, ex, a, s, pr, rfl, _⟩
  · rfl
  · exact CD hk κ
theorem LS.frame {h h':Heap} {n n':K4} {av av':List K4} {z:Nat} {v:V} {l:List V} {k:Nat} (H:LS h n av z v l k) (hn:n.toN≤n'.toN) (e:∀ p:K4, p.toN<n.toN->(∀ q∈av, p≠q)->A8 p h'=A8 p h ∧ ∀ q∈av', p≠q):LS h' n' av' z v l k := by
  rcases H with H | ⟨p, off, cap, ex, a, s, pr, rfl, h1, h2, h3, h4, h5⟩
  · exact .inl H
  · exact .inr ⟨p, off, cap, ex, a, s, pr, rfl, ((e p h4 h5).1).trans h1, h2, h3, by omega, (e p h4 h5).2⟩
theorem LS.more {h h':Heap} {n n':K4} {av:List K4} {z:Nat} {v:V} {l:List V} {k:Nat} (H:LS h n av z v l k) (hn:n.toN≤n'.toN) (e:∀ p:K4, p.toN<n.toN->A8 p h'=A8 p h):LS h' n' av z v l k := H.frame hn fun p hp hq => ⟨e p hp, hq⟩
theorem LS.src {h:Heap} {n:K4} {av:List K4} {z:Nat} {v:V} {l:List V} {k:Nat} (H:LS h n av z v l k) (κ:Nat->Cs->R):Gp z v h κ=κ k (.l l) := by
  rcases H with ⟨rfl, rfl, rfl⟩ | ⟨p, off, cap, ex, a, s, pr, rfl, h1, h2, rfl, _⟩
  · rfl
  · show br (Nat.beq z z) (H6 p h fun cs _ _ => Aa (Nat.mul k z) fun m => AW cs off m fun y => κ k y) (.fail "")=_
    rw [Nat.beq_refl, Ad, GM h1, A9, show Nat.mul k z=k*z from rfl, J6 h2]
theorem LS.lenl {h:Heap} {n:K4} {av:List K4} {z:Nat} {v:V} {l:List V} {k:Nat} (H:LS h n av z v l k):l.length=k*z := by
  rcases H with ⟨_, rfl, rfl⟩ | ⟨p, off, cap, ex, a, s, pr, _, _, h2, rfl, _⟩
  · simp
  · rw [List.length_take, List.length_drop]; omega
/-- An element's place, and its cells. -/
theorem LS.ix {h:Heap} {n:K4} {av:List K4} {z:Nat} {v:V} {l:List V} {k i:Nat} (H:LS h n av z v l k) (hi:i<k) (h2:i<9223372036854775808) :
    ∃ p o, (∀ κ:V->R, AG z v (.int .i64 i) κ=κ (.ptr p o))∧(∀ (κ:V->R), KC (A8 p h) z o κ=κ (.agg ((l.drop (i*z)).take z)))∧(∀ (j:Nat) (x:V) (κ:V->R), l[i*z+j]? = some x->XD (A8 p h) (o+j) κ=κ x) := by
  rcases H with ⟨rfl, rfl, rfl⟩ | ⟨p, off, cap, ex, a, s, pr, rfl, h1, h3, rfl, _⟩
  · cases hi
  · have hm:i*z+z≤k*z := by rw [←Nat.succ_mul]; exact Nat.mul_le_mul_right z hi
    refine ⟨p, off+i*z, fun κ => Y9 z (k := .i64) h2 hi κ, fun κ => ?_, fun j x κ hx => ?_⟩
    · rw [h1, Oh (by omega)]
      congr 2
      rw [List.drop_take, List.take_take, List.drop_drop, Nat.min_eq_left (by omega)]
    · rw [h1, UY]
      rw [List.getElem?_take] at hx
      split at hx
      · rw [List.getElem?_drop, ←Nat.add_assoc] at hx
        exact OG hx
      · cases hx
theorem LS.at1 {h:Heap} {n:K4} {av:List K4} {v:V} {l:List V} {k i:Nat} (H:LS h n av 1 v l k) (hi:i<k) (h2:i<9223372036854775808) {x:V} (hx:l[i]? = some x) :
    ∃ p o, (∀ κ:V->R, AG 1 v (.int .i64 i) κ=κ (.ptr p o)) ∧ ∀ κ:V->R, XD (A8 p h) o κ=κ x := by
  obtain ⟨p, o, e1, _, e3⟩ := H.ix hi h2
  exact ⟨p, o, e1, fun κ => e3 0 x κ (by rw [Nat.mul_one]; exact hx)⟩
/-- A slice of one's own. -/
def TB (lo:Nat) (n:K4) (h:Heap) (z:Nat) (v:V) (l:List V) (k:Nat):Prop := (v = .nil .sl∧l=[]∧k=0) ∨ ∃ p ex pr, v = .sl p 0 k k ex z∧A8 p h=some (.c (.l l) false pr)∧l.length=k*z∧lo≤p.toN∧p.toN<n.toN∧(pr=none ∨ ∃ q, pr=some q∧lo≤q.toN∧q.toN<n.toN)
theorem TB.frame {lo:Nat} {n n':K4} {h h':Heap} {z:Nat} {v:V} {l:List V} {k:Nat} (H:TB lo n h z v l k) (hn:n.toN≤n'.toN) (e:∀ q:K4, lo≤q.toN->q.toN<n.toN->A8 q h'=A8 q h):TB lo n' h' z v l k := by
  rcases H with H | ⟨p, ex, pr, h1, h2, h3, h4, h5, h6⟩
  · exact .inl H
  · refine .inr ⟨p, ex, pr, h1, (e p h4 h5).trans h2, h3, h4, by omega, ?_⟩
    rcases h6 with h6 | ⟨q, h6, h7, h8⟩
    · exact .inl h6
    · exact .inr ⟨q, h6, h7, by omega⟩
theorem TB.ls {lo:Nat} {n:K4} {h:Heap} {z:Nat} {v:V} {l:List V} {k:Nat} (H:TB lo n h z v l k) (av:List K4) (hav:∀ q∈av, q.toN<lo∨n.toN≤q.toN):LS h n av z v l k := by
  rcases H with H | ⟨p, ex, pr, h1, h2, h3, h4, h5, h6⟩
  · exact .inl H
  · refine .inr ⟨p, 0, k, ex, l, false, pr, h1, h2, by omega, by rw [List.drop_zero, ←h3, List.take_length], h5, fun q hq e => ?_⟩
    have := hav q hq
    rw [←e] at this
    omega
/-- What slices.Clone makes of a slice that is not nil. -/
theorem US {h:Heap} {n:K4} {av:List K4} {z eb:Nat} {v:V} {l:List V} {k:Nat} (H:LS h n av z v l k) (hs:(4*k+4096)*eb≤281474976710656) (hn:n.toN<64000) :
    ∃ h' n' v', (∀ κ:KV, CA z eb (.sl n 0 0 0 true z) v (Ac n h (some (.c (.l []) false none))) n.up κ=κ v' h' n')∧n.toN<n'.toN∧n'.toN≤n.toN+2∧(∃ p ex, v' = .sl p 0 k k ex z∧A8 p h'=some (.c (.l l) false none)∧n.toN≤p.toN∧p.toN<n'.toN)∧(∀ q:K4, q.toN<n.toN->A8 q h'=A8 q h)∧(Al h n->Al h' n') := by
  have u1 := K4.up_toN (p := n) (by omega)
  have u2 := K4.up_toN (p := n.up) (by omega)
  have H1:LS (Ac n h (some (.c (.l []) false none))) n.up av z v l k := H.more (by omega) fun p hp => Aj hp _ _
  have hl := H.lenl
  have e0:∀ κ:KV, CA z eb (.sl n 0 0 0 true z) v (Ac n h (some (.c (.l []) false none))) n.up κ=BK z eb (.sl n 0 0 0 true z) k (.l l) (Ac n h (some (.c (.l []) false none))) n.up κ := fun κ => by
    show Gp z v _ (fun m y => BK z eb (.sl n 0 0 0 true z) m y _ n.up κ)=_
    rw [H1.src]
  rcases Nat.eq_zero_or_pos k with rfl | hk
  · obtain rfl:l=[] := List.length_eq_zero_iff.1 (by rw [hl, Nat.zero_mul])
    refine ⟨_, n.up, .sl n 0 0 0 true z, fun κ => ?_, by omega, by omega, ⟨n, true, rfl, A7 _ _ _, Nat.le_refl _, by omega⟩, fun q hq => Aj hq _ _, fun hf q hq => (Aq (by omega) _ _).trans (hf q (by omega))⟩
    rw [e0]
    show br (Nat.beq z z) (br (Nat.beq 0 0) (κ (.sl n 0 0 0 true z) _ n.up) _) _=_
    rw [Nat.beq_refl, Ad]; rfl
  · have O:TB n.toN n.up (Ac n h (some (.c (.l []) false none))) z (.sl n 0 0 0 true z) [] 0 := .inr ⟨n, true, none, rfl, A7 _ _ _, by simp, Nat.le_refl _, by omega, .inl rfl⟩
    have e4:∀ κ:KV, BK z eb (.sl n 0 0 0 true z) k (.l l) (Ac n h (some (.c (.l []) false none))) n.up κ=κ (.sl n.up 0 k k false z) (Ac n.up (Ac n h (some (.c (.l []) false none))) (some (.c (.l l) false none))) n.up.up := fun κ => by
      show br (Nat.beq z z) (br (Nat.beq k 0) (κ (.sl n 0 0 0 true z) _ n.up) (Aa (Nat.add 0 k) fun need => br (Nat.ble need 0) (Aa (Nat.add 0 (Nat.mul 0 z)) fun j => CV _ n j (.l l) fun h' => κ (.sl n 0 need 0 true z) h' n.up)
        (br (Nat.ble (Nat.mul (Nat.add (Nat.mul 4 need) 4096) eb) 281474976710656)
          (KG n _ fun cs sup prev => Aa (Nat.mul 0 z) fun l0 => AW cs 0 l0 fun x => NU x (.l l) fun y =>
            br true (DQ _ n.up (.c y false none) fun h' n' => κ (.sl n.up 0 need need false z) h' n')
              (br sup (.fail "") (Aa (Nat.add 0 l0) fun j => AW cs 0 j fun old => Gk prev _ fun h => Ef n h (some (.c old true none)) fun h =>
                DQ h n.up (.c y false (some n)) fun h' n' => κ (.sl n.up 0 need need false z) h' n'))) (.fail "")))) (.fail "")=_
      rw [Nat.beq_refl, Ad, CH, decide_eq_false (by omega), Ao, A9, show Nat.add 0 k=k from Nat.zero_add k, show Nat.ble k 0=false from AQ hk, Ao, show Nat.ble (Nat.mul (Nat.add (Nat.mul 4 k) 4096) eb) 281474976710656=true from Ab.2 hs, Ad, E4, GM (A7 _ _ _), A9, show Nat.mul 0 z=0 from Nat.zero_mul z, J6 (by simp), TZ, Ad, DH (by omega)]
      rfl
    refine ⟨_, n.up.up, .sl n.up 0 k k false z, fun κ => (e0 κ).trans (e4 κ), by omega, by omega, ⟨n.up, false, rfl, A7 _ _ _, by omega, by omega⟩, fun q hq => ?_, fun hf q hq => ?_⟩
    · rw [Aj (by omega), Aj hq]
    · rw [Aq (by omega), Aq (by omega)]; exact hf q (by omega)
/-- Bytes that may still know what they grew from; where their places may be. -/
def EX (P:K4->Prop) (n:K4) (h:Heap) (c:V) (l:List UInt8):Prop := (c = .nil .sl∧l=[]) ∨ ∃ p ex pr, c = .sl p 0 l.length l.length ex 1∧A8 p h=some (.c (cb l) false pr)∧P p∧p.toN<n.toN∧(pr=none ∨ ∃ q, pr=some q∧P q∧q.toN<n.toN)
theorem EX.frame {P P':K4->Prop} {n n':K4} {h h':Heap} {c:V} {l:List UInt8} (H:EX P n h c l) (hn:n.toN≤n'.toN) (hP:∀ q:K4, q.toN<n.toN->P q->P' q) (e:∀ q:K4, q.toN<n.toN->P q->A8 q h'=A8 q h):EX P' n' h' c l := by
  rcases H with H | ⟨p, ex, pr, h1, h2, h3, h4, h5⟩
  · exact .inl H
  · refine .inr ⟨p, ex, pr, h1, (e p h4 h3).trans h2, hP p h4 h3, by omega, ?_⟩
    rcases h5 with h5 | ⟨q, h5, h6, h7⟩
    · exact .inl h5
    · exact .inr ⟨q, h5, hP q h7 h6, by omega⟩
theorem EX.len {P:K4->Prop} {n:K4} {h:Heap} {c:V} {l:List UInt8} (H:EX P n h c l) (hl:l.length<9223372036854775808) (κ:V->R):AJ c κ=κ (.int .i64 l.length) := by
  rcases H with ⟨rfl, rfl⟩ | ⟨p, ex, pr, rfl, _⟩
  · rfl
  · exact CD hl κ
theorem EX.src {P:K4->Prop} {n:K4} {h:Heap} {c:V} {l:List UInt8} (H:EX P n h c l):E1 c l h := by
  rcases H with ⟨rfl, rfl⟩ | ⟨p, ex, pr, rfl, h2, _⟩
  · exact .inr (.inl ⟨rfl, rfl⟩)
  · exact .inr (.inr ⟨p, 0, l.length, ex, l, false, pr, rfl, h2, by omega, by rw [List.drop_zero, List.take_length]⟩)
theorem Aap {P:K4->Prop} {n:K4} {h:Heap} {c:V} {l b:List UInt8} (H:EX P n h c l) (hP:P n) (hb:l.length+b.length≤1000000000) (hn:n.toN<65000) {y:Cs} (hy:0<b.length->y=cb b) :
    ∃ c' h' n', (∀ κ:KV, BK 1 1 c b.length y h n κ=κ c' h' n')∧EX P n' h' c' (l++b)∧n.toN≤n'.toN∧n'.toN≤n.toN+1∧(∀ q:K4, q.toN<n.toN->¬ P q->A8 q h'=A8 q h)∧(Al h n->Al h' n') := by
  have u1 := K4.up_toN (p := n) (by omega)
  rcases Nat.eq_zero_or_pos b.length with h0 | h0
  · obtain rfl := List.length_eq_zero_iff.1 h0
    refine ⟨c, h, n, fun κ => KK ?_ _ _ _ _, by rw [List.append_nil]; exact H, by omega, by omega, fun q _ _ => rfl, fun h => h⟩
    rcases H with ⟨rfl, _⟩ | ⟨p, ex, pr, rfl, _⟩
    · exact .inl rfl
    · exact .inr ⟨p, _, _, _, ex, rfl⟩
  · obtain rfl := hy h0
    rcases H with ⟨rfl, rfl⟩ | ⟨p, ex, pr, rfl, h2, h3, h4, h5⟩
    · refine ⟨_, _, _, fun κ => Ow h0 (by omega) (by omega) _ _ _, ?_, by omega, by omega, fun q hq _ => Aj (by omega) _ _, fun hf q hq => (Aq (by omega) _ _).trans (hf q (by omega))⟩
      exact .inr ⟨n, false, none, rfl, A7 _ _ _, hP, by omega, .inl rfl⟩
    · cases ex with
      | true =>
        refine ⟨_, _, _, fun κ => (Fs h2 h0 (by omega) (by omega) κ).trans (if_pos rfl), ?_, by omega, by omega, fun q hq _ => Aj (by omega) _ _, fun hf q hq => (Aq (by omega) _ _).trans (hf q (by omega))⟩
        exact .inr ⟨n, false, none, rfl, A7 _ _ _, hP, by omega, .inl rfl⟩
      | false =>
        refine ⟨_, _, _, fun κ => (Fs h2 h0 (by omega) (by omega) κ).trans (if_neg (by decide)), ?_, by omega, by omega, fun q hq hnp => ?_, fun hf q hq => ?_⟩
        · exact .inr ⟨n, false, some p, rfl, A7 _ _ _, hP, by omega, .inr ⟨p, rfl, h3, by omega⟩⟩
        · rw [Aj (by omega), A6 _ _ (fun e:p=q => hnp (by rw [←e]; exact h3))]
          rcases h5 with rfl | ⟨r, rfl, h6, h7⟩
          · rfl
          · exact A6 _ _ fun e:r=q => hnp (by rw [←e]; exact h6)
        · rw [Aq (by omega), Aq (by omega)]
          rcases h5 with rfl | ⟨r, rfl, h6, h7⟩
          · exact hf q (by omega)
          · exact (A6 _ _ (K4.ne_of_lt (by omega))).trans (hf q (by omega))
theorem Hn {P:K4->Prop} {n:K4} {h:Heap} {c v:V} {l b:List UInt8} (H:EX P n h c l) (hs:E1 v b h) (hP:P n) (hb:l.length+b.length≤1000000000) (hn:n.toN<65000) :
    ∃ c' h' n', (∀ κ:KV, CA 1 1 c v h n κ=κ c' h' n')∧EX P n' h' c' (l++b)∧n.toN≤n'.toN∧n'.toN≤n.toN+1∧(∀ q:K4, q.toN<n.toN->¬ P q->A8 q h'=A8 q h)∧(Al h n->Al h' n') := by
  obtain ⟨y, h1, h2⟩ := hs.src
  obtain ⟨c', h', n', e, r⟩ := Aap H hP hb hn h2
  refine ⟨c', h', n', fun κ => ?_, r⟩
  show Gp 1 v h (fun m y => BK 1 1 c m y h n κ)=_
  rw [h1, e]
/-- Six cells written over six. -/
theorem H5 (p:K4) (h:Heap) (a0 a1 a2 a3 a4 a5 b0 b1 b2 b3 b4 b5:V) (κ:Heap->R):Di 6 (.ptr p 0) (.agg [b0, b1, b2, b3, b4, b5]) (Ac p h (some (.c (.l [a0, a1, a2, a3, a4, a5]) false none))) κ=κ (Ac p h (some (.c (.l [b0, b1, b2, b3, b4, b5]) false none))) := by
  rw [SN (m := 6) (b := [b0, b1, b2, b3, b4, b5]) (A7 _ _ _) rfl (by simp)]
  show κ (Ac p (Ac p h _) _)=_
  rw [HE]; rfl
theorem Et (a b c d e f:V) (s:Bool) (pr:Option K4) (κ:V->R):KC (some (.c (.l [a, b, c, d, e, f]) s pr)) 6 0 κ=κ (.agg [a, b, c, d, e, f]) := id rfl
theorem Pi {a b:Nat} (ha:a<4294967296) (hb:b<4294967296):Dz .u32 a b=decide (a<b) := ltu rfl ha hb
/-- A slice that is read, out of the way of what grows. -/
def Wo (P:K4->Prop) (h:Heap) (n:K4) (z:Nat) (v:V) (l:List V) (k:Nat):Prop := (v = .nil .sl∧l=[]∧k=0) ∨ ∃ p off cap ex a s pr, v = .sl p off k cap ex z∧A8 p h=some (.c (.l a) s pr)∧off+k*z≤a.length∧(a.drop off).take (k*z)=l∧p.toN<n.toN ∧ ¬ P p
theorem Wo.ls {P:K4->Prop} {h:Heap} {n:K4} {z:Nat} {v:V} {l:List V} {k:Nat} (H:Wo P h n z v l k):LS h n [] z v l k := by
  rcases H with H | ⟨p, off, cap, ex, a, s, pr, h1, h2, h3, h4, h5, _⟩
  · exact .inl H
  · exact .inr ⟨p, off, cap, ex, a, s, pr, h1, h2, h3, h4, h5, fun q hq => by cases hq⟩
theorem Wo.frame {P P':K4->Prop} {h h':Heap} {n n':K4} {z:Nat} {v:V} {l:List V} {k:Nat} (H:Wo P h n z v l k) (hn:n.toN≤n'.toN) (e:∀ q:K4, q.toN<n.toN->¬ P q->A8 q h'=A8 q h ∧ ¬ P' q):Wo P' h' n' z v l k := by
  rcases H with H | ⟨p, off, cap, ex, a, s, pr, h1, h2, h3, h4, h5, h6⟩
  · exact .inl H
  · exact .inr ⟨p, off, cap, ex, a, s, pr, h1, ((e p h5 h6).1).trans h2, h3, h4, by omega, (e p h5 h6).2⟩
theorem LS.lsq {P:K4->Prop} {h:Heap} {n:K4} {av:List K4} {z:Nat} {v:V} {l:List V} {k:Nat} (H:LS h n av z v l k) (hP:∀ q:K4, q.toN<n.toN->¬ P q):Wo P h n z v l k := by
  rcases H with H | ⟨p, off, cap, ex, a, s, pr, h1, h2, h3, h4, h5, _⟩
  · exact .inl H
  · exact .inr ⟨p, off, cap, ex, a, s, pr, h1, h2, h3, h4, h5, hP p h5⟩
theorem YH {z:Nat} {p:K4} {o len cap a:Nat} {ex:Bool} (ha:a≤len) (hl:len≤cap) (ha2:a<9223372036854775808) (κ:V->R):DW z (.sl p o len cap ex z) (some (.int .i64 a)) none κ=κ (.sl p (o+a*z) (len - a) (cap - a) ex z) := by
  show br (Nat.ble (Nat.succ a) 9223372036854775808) (br (Nat.beq z z) (br (Nat.ble a len) (br (Nat.ble len cap) (Aa (Nat.sub len a) fun l => Aa (Nat.sub cap a) fun c => Aa (Nat.add o (Nat.mul a z)) fun o => κ (.sl p o l c ex z)) (.fail "")) (.fail "")) (.fail "")) (.fail "")=_
  rw [show Nat.ble (Nat.succ a) 9223372036854775808=true from Ab.2 (by omega), Ad, Nat.beq_refl, Ad, Ab.2 ha, Ad, Ab.2 hl, Ad, A9, A9, A9]; rfl
theorem Z3 {z:Nat} {p:K4} {o len cap b:Nat} {ex:Bool} (hl:b≤cap) (ha2:b<9223372036854775808) (κ:V->R):DW z (.sl p o len cap ex z) none (some (.int .i64 b)) κ=κ (.sl p o b cap ex z) := by
  show br (Nat.ble (Nat.succ b) 9223372036854775808) (br (Nat.beq z z) (br (Nat.ble 0 b) (br (Nat.ble b cap) (Aa (Nat.sub b 0) fun l => Aa (Nat.sub cap 0) fun c => Aa (Nat.add o (Nat.mul 0 z)) fun o => κ (.sl p o l c ex z)) (.fail "")) (.fail "")) (.fail "")) (.fail "")=_
  rw [show Nat.ble (Nat.succ b) 9223372036854775808=true from Ab.2 (by omega), Ad, Nat.beq_refl, Ad, show Nat.ble 0 b=true from Ab.2 (Nat.zero_le _), Ad, Ab.2 hl, Ad, A9, A9, A9, show Nat.mul 0 z=0 from Nat.zero_mul z]; rfl
/-- An append that finds room. -/
theorem Xf {z eb k m cap:Nat} {p n:K4} {h:Heap} {ex:Bool} {a b:List V} {pr:Option K4} (hp:A8 p h=some (.c (.l a) false pr)) (hm:0<m) (hc:k+m≤cap) (hl:k*z+b.length≤a.length) (κ:KV) :
    BK z eb (.sl p 0 k cap ex z) m (.l b) h n κ=κ (.sl p 0 (k+m) cap ex z) (Ac p (E9 pr h) (some (.c (.l (a.take (k*z)++(b++a.drop (k*z+b.length)))) false none))) n := by
  show br (Nat.beq z z) (br (Nat.beq m 0) (κ (.sl p 0 k cap ex z) h n) (Aa (Nat.add k m) fun need => br (Nat.ble need cap) (Aa (Nat.add 0 (Nat.mul k z)) fun j => CV h p j (.l b) fun h' => κ (.sl p 0 need cap ex z) h' n) _)) (.fail "")=_
  rw [Nat.beq_refl, Ad, CH, decide_eq_false (by omega), Ao, A9, show Nat.ble (Nat.add k m) cap=true from Ab.2 hc, Ad, A9, show Nat.add 0 (Nat.mul k z)=k*z from Nat.zero_add _, Zd hp hl]; rfl
theorem Sa (c:Ei) (f:Nat) (caps l:List V) (h:Heap) (n:K4) (κ:KV):GD c (.fn f caps) l h n κ=Ag (c (B2 f) (l++caps) h n) κ := by
  show Ew l caps (fun l => Ag (c (B2 f) l h n) κ)=_
  rw [Dd]
theorem Qf (c:Ei) (f:Nat) (caps l:List V) (h:Heap) (n:K4) (κ:KV):Kd c (.fn f caps) l h n κ=D7 (c (B2 f) (l++caps) h n) κ := by
  show Ew l caps (fun l => D7 (c (B2 f) l h n) κ)=_
  rw [Dd]
theorem TO {z eb k m:Nat} {p n:K4} {h:Heap} {ex:Bool} {l b:List V} {pr:Option K4} (h2:A8 p h=some (.c (.l l) false pr)) (h3:l.length=k*z) (hm:0<m) (hs:(4*(k+m)+4096)*eb≤281474976710656) (hn:n.toN<65000) (κ:KV) :
    BK z eb (.sl p 0 k k ex z) m (.l b) h n κ=br ex (κ (.sl n 0 (k+m) (k+m) false z) (Ac n h (some (.c (.l (l++b)) false none))) n.up) (κ (.sl n 0 (k+m) (k+m) false z) (Ac n (Ac p (E9 pr h) (some (.c (.l l) true none))) (some (.c (.l (l++b)) false (some p)))) n.up) := by
  show br (Nat.beq z z) (br (Nat.beq m 0) (κ (.sl p 0 k k ex z) h n) (Aa (Nat.add k m) fun need => br (Nat.ble need k) (Aa (Nat.add 0 (Nat.mul k z)) fun j => CV h p j (.l b) fun h' => κ (.sl p 0 need k ex z) h' n)
    (br (Nat.ble (Nat.mul (Nat.add (Nat.mul 4 need) 4096) eb) 281474976710656)
      (KG p h fun cs sup prev => Aa (Nat.mul k z) fun l => AW cs 0 l fun x => NU x (.l b) fun y =>
        br ex (DQ h n (.c y false none) fun h' n' => κ (.sl n 0 need need false z) h' n')
          (br sup (.fail "") (Aa (Nat.add 0 l) fun j => AW cs 0 j fun old => Gk prev h fun h => Ef p h (some (.c old true none)) fun h =>
            DQ h n (.c y false (some p)) fun h' n' => κ (.sl n 0 need need false z) h' n'))) (.fail "")))) (.fail "")=_
  have e4:Nat.ble (Nat.add k m) k=false := AQ (by show k<k+m; omega)
  have e1:(l.drop 0).take (k*z)=l := by rw [List.drop_zero, ←h3, List.take_length]
  rw [Nat.beq_refl, Ad, CH, decide_eq_false (by omega), Ao, A9, e4, Ao, show Nat.ble (Nat.mul (Nat.add (Nat.mul 4 (Nat.add k m)) 4096) eb) 281474976710656=true from Ab.2 hs, Ad, E4, GM h2, A9, show Nat.mul k z=k*z from rfl, J6 (by omega), e1, TZ, Ao, A9, show Nat.add 0 (k*z)=k*z from Nat.zero_add _, J6 (by omega), e1, EP, AU, DH (by omega), DH (by omega)]
  rfl
/-- One element appended to a full slice of one's own: all but its cells stays. -/
theorem Aao {z eb k m:Nat} {p n:K4} {h:Heap} {ex:Bool} {l b:List V} (h2:A8 p h=some (.c (.l l) false none)) (h3:l.length=k*z) (hm:0<m) (hs:(4*(k+m)+4096)*eb≤281474976710656) (hpn:p.toN<n.toN) (hn:n.toN<65000) :
    ∃ h' pr, (∀ κ:KV, BK z eb (.sl p 0 k k ex z) m (.l b) h n κ=κ (.sl n 0 (k+m) (k+m) false z) h' n.up)∧A8 n h'=some (.c (.l (l++b)) false pr)∧(∀ q:K4, q.toN<n.toN->q≠p->A8 q h'=A8 q h)∧(Al h n->Al h' n.up) := by
  have u1 := K4.up_toN (p := n) (by omega)
  have e0 := fun κ => TO (eb := eb) (ex := ex) (b := b) (m := m) h2 h3 hm hs hn κ
  cases ex with
  | true => exact ⟨_, none, fun κ => (e0 κ).trans (Ad _ _), A7 _ _ _, fun q hq _ => Aj hq _ _, fun hf q hq => (Aq (by omega) _ _).trans (hf q (by omega))⟩
  | false => exact ⟨_, some p, fun κ => (e0 κ).trans (Ao _ _), A7 _ _ _, fun q hq hqp => (Aj hq _ _).trans (A6 _ _ (Ne.symm hqp)), fun hf q hq => (Aq (by omega) _ _).trans ((Aq (by omega) _ _).trans (hf q (by omega)))⟩
end Go.Ev

namespace Go.Ev
open Go.RowKit Go.ChangeShapes
set_option linter.unusedVariables false
/-- The blocks of the list stay. -/
def GZ (ρ:Env) (w:World) (bl:List Nat):Prop := ∀ b∈bl, ∀ c e fr, w.heap[b]? = some (.cells c e fr)->ρ.gl b=some (c, e, fr)
theorem GZ.sub {ρ:Env} {w:World} {bl cl:List Nat} (h:GZ ρ w bl) (hs:∀ b∈cl, b∈bl):GZ ρ w cl := fun b hb => h b (hs b hb)
theorem Ve {P:Program} {fs:List Nat} {v:Nat->Value} {w:World} {l:List Nat}:GZ (JG P fs v (LQ w l)) w l := fun b hb c e fr h => Tw hb h
/-- Elements of one cell each, in memory: a slice that is told. -/
theorem Ab4 {w:World} {a:Addr} {len cap:Nat} (hl:len≤cap) {l:List RV} {bl:List Nat} (hll:l.length=len) (hc:∀ ρ, GZ ρ w bl->∀ j r, l[j]? = some r->∃ v, w.cell? (a.add j)=some v∧GA ρ r v) :
    ∀ ρ φ, GZ ρ w (a.block::bl)->As ρ φ (.oth (.rx l len 1)) (.slice (some a) len cap) := by
  intro ρ φ hg
  have hg2 := hg.sub (cl := bl) fun b hb => List.mem_cons_of_mem _ hb
  simp only [As]
  refine ⟨a, cap, rfl, hl, by rw [hll, Nat.mul_one], fun hpos => ?_⟩
  obtain ⟨v0, hv0, _⟩ := hc ρ hg2 0 (l[0]'(by omega)) (List.getElem?_eq_getElem _)
  obtain ⟨b, o, c, e', fr, ea, hw, hco⟩ := R1 (show w.cell? a=_ from hv0)
  refine ⟨b, o, c, e', fr, ea, hg b (by rw [ea]; simp) c e' fr hw, fun j r hj => ?_⟩
  obtain ⟨v, hv, hr⟩ := hc ρ hg2 j r hj
  rw [ea, Go.WideShapes.add_plain] at hv
  exact ⟨v, by simpa [World.cell?, hw] using hv, hr⟩
/-- A slice of ints. -/
theorem Xn {P:Program} {H:Type} {enc:TypeId×Value->H} {w:World} {base:Nat} {spare:Nat->Bool} {held:Bool} {fuel:Nat} {t e:TypeId} {cs:List Value} {x:DataW H×List MemPlace}
    (ht:P.underlying t=some (.slice e)) (he:P.underlying e=some (.int .i64)) (ce:P.cellsOf e=1) (h:DataW.trod enc P w base spare held fuel t cs=some x) :
    cs=[.slice none 0 0] ∨ ∃ a len cap, cs=[.slice (some a) len cap]∧len≤maxLen ∧ ∃ (l:List Nat) (bl:List Nat), l.length=len∧(∀ o∈l, o<18446744073709551616) ∧
      ∀ ρ φ, GZ ρ w bl->As ρ φ (.oth (.rx (l.map (RV.i .i64)) len 1)) (.slice (some a) len cap) := by
  rcases Go.Deep.open_slice1 ht ce h with ⟨hc, _⟩ | ⟨a, len, cap, m, n, V, D, Pl, hc, _, hl, hm, hmm, _, hx⟩
  · exact .inl hc
  · have hlm:len≤m := by rw [hmm]; split <;> omega
    have one:∀ i, i<len->∃ (o:Nat) (bl:List Nat), o<18446744073709551616 ∧ ∃ v, w.cell? (a.add i)=some v ∧ ∀ ρ, GZ ρ w bl->GA ρ (.i .i64 o) v := fun i hi => by
      obtain ⟨e1, e3⟩ := hx i (by omega)
      obtain ⟨z, ez, _, wz⟩ := DataW.trod_int he e3
      simp at ez
      have hb := U3 wz
      obtain ⟨r, hr, hz⟩:∃ r:Nat, r<18446744073709551616∧z=Ck .i64 r := by
        rcases Int.lt_or_le z 0 with hn | hn
        · refine ⟨(z+18446744073709551616).toNat, by omega, ?_⟩
          rw [Cz (show ¬ (z+18446744073709551616).toNat<Hk .i64 by show ¬ _<9223372036854775808; omega)]
          show z=((z+18446744073709551616).toNat:Int) - (18446744073709551616:Nat); omega
        · refine ⟨z.toNat, by omega, ?_⟩
          rw [Ap (show z.toNat<Hk .i64 by show _<9223372036854775808; omega)]; omega
      exact ⟨r, [], hr, .int .i64 z, by rw [e1, ez], fun ρ _ => ⟨hr, by rw [hz]⟩⟩
    have all:∀ k, k≤len->∃ (l:List Nat) (bl:List Nat), l.length=k∧(∀ o∈l, o<18446744073709551616) ∧ ∀ ρ, GZ ρ w bl->∀ j r, (l.map (RV.i .i64))[j]? = some r->∃ v, w.cell? (a.add j)=some v∧GA ρ r v := by
      intro k
      induction k with
      | zero => exact fun _ => ⟨[], [], rfl, (fun o ho => by cases ho), fun ρ _ j r h => by simp at h⟩
      | succ k ih =>
        intro hk
        obtain ⟨l, bl, h1, h2, h3⟩ := ih (by omega)
        obtain ⟨o, cl, g1, v, g2, g3⟩ := one k (by omega)
        refine ⟨l++[o], bl++cl, by simp [h1], fun o' ho => ?_, fun ρ hg j r hj => ?_⟩
        · rcases List.mem_append.1 ho with ho | ho
          · exact h2 o' ho
          · rw [List.mem_singleton.1 ho]; exact g1
        · rw [List.map_append] at hj
          by_cases hjn:j<k
          · rw [List.getElem?_append_left (by simp; omega)] at hj
            exact h3 ρ (hg.sub fun b hb => List.mem_append_left _ hb) j r hj
          · rw [List.getElem?_append_right (by simp; omega)] at hj
            rcases Nat.eq_zero_or_pos (j - (l.map (RV.i .i64)).length) with h | h
            · rw [h] at hj
              simp at hj
              subst hj
              obtain rfl:j=k := by simp at h; omega
              exact ⟨v, g2, g3 ρ (hg.sub fun b hb => List.mem_append_right _ hb)⟩
            · rw [List.getElem?_eq_none (by simp at h ⊢; omega)] at hj; cases hj
    obtain ⟨l, bl, h1, h2, h3⟩ := all len (Nat.le_refl _)
    refine .inr ⟨a, len, cap, hc, by omega, l, a.block::bl, h1, h2, fun ρ φ hg => ?_⟩
    exact Ab4 hl (by simp [h1]) h3 ρ φ hg
theorem PQ {l:List RV} {m i:Nat} (hi:i<m) (h2:i<9223372036854775808) (κ:V->R):AG 1 (.oth (.rx l m 1)) (.int .i64 i) κ=κ (.oth (.rp (l.drop i))) := by
  show br (Nat.ble (Nat.succ i) 9223372036854775808) (br (Nat.beq 1 1) (br (Nat.ble (Nat.succ i) m) (Aa (Nat.mul i 1) fun j => κ (.oth (.rp (l.drop j)))) (.fail "")) (.fail "")) (.fail "")=_
  rw [show Nat.ble (Nat.succ i) 9223372036854775808=true from Ab.2 h2, Ad, Nat.beq_refl, Ad, show Nat.ble (Nat.succ i) m=true from Ab.2 hi, Ad, A9, show Nat.mul i 1=i from Nat.mul_one i]
theorem PC (r:RV) (l:List RV) (h:Heap) (κ:V->R):Av (.oth (.rp (r::l))) h κ=κ r.v := id rfl
end Go.Ev

namespace Go.Ev
set_option linter.unusedVariables false
def OL (o:Co):Bool := @Option.rec Ob (fun _ => Bool) true (fun _ => false) o
theorem EK {o:Co} (h:OL o=true):o=none := by cases o with
  | none => rfl
  | some _ => cases h
theorem AV {a b:Bool} (h:and a b=true):a=true∧b=true := by cases a <;> cases b <;> first | exact ⟨rfl, rfl⟩ | cases h
def OJ (p:HA):Bool := @HA.rec (fun _ => Bool) (fun A B C E F G I J L M N O P Q T U => and (OL A) (and (OL B) (and (OL C) (and (OL E) (and (OL F) (and (OL G) (and (OL I) (and (OL J) (and (OL L) (and (OL M) (and (OL N) (and (OL O) (and (OL P) (and (OL Q) (and (OL T) (OL U)))))))))))))))) p
def OK (p:HB):Bool := @HB.rec (fun _ => Bool) (fun A B C E F G I J L M N O P Q T U => and (OJ A) (and (OJ B) (and (OJ C) (and (OJ E) (and (OJ F) (and (OJ G) (and (OJ I) (and (OJ J) (and (OJ L) (and (OJ M) (and (OJ N) (and (OJ O) (and (OJ P) (and (OJ Q) (and (OJ T) (OJ U)))))))))))))))) p
def Qa (p:HC):Bool := @HC.rec (fun _ => Bool) (fun A B C E F G I J L M N O P Q T U => and (OK A) (and (OK B) (and (OK C) (and (OK E) (and (OK F) (and (OK G) (and (OK I) (and (OK J) (and (OK L) (and (OK M) (and (OK N) (and (OK O) (and (OK P) (and (OK Q) (and (OK T) (OK U)))))))))))))))) p
theorem EY {p:HA} (h:OJ p=true) (d:D):HA.sel d p=none := by
  cases p with | mk A B C E F G I J L M N O P Q T U =>
  unfold OJ at h
  dsimp only at h
  obtain ⟨a0, h⟩ := AV h
  obtain ⟨a1, h⟩ := AV h
  obtain ⟨a2, h⟩ := AV h
  obtain ⟨a3, h⟩ := AV h
  obtain ⟨a4, h⟩ := AV h
  obtain ⟨a5, h⟩ := AV h
  obtain ⟨a6, h⟩ := AV h
  obtain ⟨a7, h⟩ := AV h
  obtain ⟨a8, h⟩ := AV h
  obtain ⟨a9, h⟩ := AV h
  obtain ⟨a10, h⟩ := AV h
  obtain ⟨a11, h⟩ := AV h
  obtain ⟨a12, h⟩ := AV h
  obtain ⟨a13, h⟩ := AV h
  obtain ⟨a14, h⟩ := AV h
  cases d
  · exact EK a0
  · exact EK a1
  · exact EK a2
  · exact EK a3
  · exact EK a4
  · exact EK a5
  · exact EK a6
  · exact EK a7
  · exact EK a8
  · exact EK a9
  · exact EK a10
  · exact EK a11
  · exact EK a12
  · exact EK a13
  · exact EK a14
  · exact EK h
theorem EZ {p:HB} (h:OK p=true) (c d:D):HA.sel d (HB.sel c p)=none := by
  cases p with | mk A B C E F G I J L M N O P Q T U =>
  unfold OK at h
  dsimp only at h
  obtain ⟨a0, h⟩ := AV h
  obtain ⟨a1, h⟩ := AV h
  obtain ⟨a2, h⟩ := AV h
  obtain ⟨a3, h⟩ := AV h
  obtain ⟨a4, h⟩ := AV h
  obtain ⟨a5, h⟩ := AV h
  obtain ⟨a6, h⟩ := AV h
  obtain ⟨a7, h⟩ := AV h
  obtain ⟨a8, h⟩ := AV h
  obtain ⟨a9, h⟩ := AV h
  obtain ⟨a10, h⟩ := AV h
  obtain ⟨a11, h⟩ := AV h
  obtain ⟨a12, h⟩ := AV h
  obtain ⟨a13, h⟩ := AV h
  obtain ⟨a14, h⟩ := AV h
  cases c
  · exact EY a0 d
  · exact EY a1 d
  · exact EY a2 d
  · exact EY a3 d
  · exact EY a4 d
  · exact EY a5 d
  · exact EY a6 d
  · exact EY a7 d
  · exact EY a8 d
  · exact EY a9 d
  · exact EY a10 d
  · exact EY a11 d
  · exact EY a12 d
  · exact EY a13 d
  · exact EY a14 d
  · exact EY h d
theorem Acb {p:HC} (h:Qa p=true) (b c d:D):HA.sel d (HB.sel c (HC.sel b p))=none := by
  cases p with | mk A B C E F G I J L M N O P Q T U =>
  unfold Qa at h
  dsimp only at h
  obtain ⟨a0, h⟩ := AV h
  obtain ⟨a1, h⟩ := AV h
  obtain ⟨a2, h⟩ := AV h
  obtain ⟨a3, h⟩ := AV h
  obtain ⟨a4, h⟩ := AV h
  obtain ⟨a5, h⟩ := AV h
  obtain ⟨a6, h⟩ := AV h
  obtain ⟨a7, h⟩ := AV h
  obtain ⟨a8, h⟩ := AV h
  obtain ⟨a9, h⟩ := AV h
  obtain ⟨a10, h⟩ := AV h
  obtain ⟨a11, h⟩ := AV h
  obtain ⟨a12, h⟩ := AV h
  obtain ⟨a13, h⟩ := AV h
  obtain ⟨a14, h⟩ := AV h
  cases b
  · exact EZ a0 c d
  · exact EZ a1 c d
  · exact EZ a2 c d
  · exact EZ a3 c d
  · exact EZ a4 c d
  · exact EZ a5 c d
  · exact EZ a6 c d
  · exact EZ a7 c d
  · exact EZ a8 c d
  · exact EZ a9 c d
  · exact EZ a10 c d
  · exact EZ a11 c d
  · exact EZ a12 c d
  · exact EZ a13 c d
  · exact EZ a14 c d
  · exact EZ h c d
def SX (f:D->Bool):Bool := and (f .d0) (and (f .d1) (and (f .d2) (and (f .d3) (and (f .d4) (and (f .d5) (and (f .d6) (and (f .d7) (and (f .d8) (and (f .d9) (and (f .d10) (and (f .d11) (and (f .d12) (and (f .d13) (and (f .d14) (f .d15)))))))))))))))
theorem Om {f:D->Bool} (h:SX f=true) (d:D):f d=true := by
  unfold SX at h
  obtain ⟨a0, h⟩ := AV h
  obtain ⟨a1, h⟩ := AV h
  obtain ⟨a2, h⟩ := AV h
  obtain ⟨a3, h⟩ := AV h
  obtain ⟨a4, h⟩ := AV h
  obtain ⟨a5, h⟩ := AV h
  obtain ⟨a6, h⟩ := AV h
  obtain ⟨a7, h⟩ := AV h
  obtain ⟨a8, h⟩ := AV h
  obtain ⟨a9, h⟩ := AV h
  obtain ⟨a10, h⟩ := AV h
  obtain ⟨a11, h⟩ := AV h
  obtain ⟨a12, h⟩ := AV h
  obtain ⟨a13, h⟩ := AV h
  obtain ⟨a14, h⟩ := AV h
  cases d
  · exact a0
  · exact a1
  · exact a2
  · exact a3
  · exact a4
  · exact a5
  · exact a6
  · exact a7
  · exact a8
  · exact a9
  · exact a10
  · exact a11
  · exact a12
  · exact a13
  · exact a14
  · exact h
end Go.Ev

namespace Go.Ev
set_option linter.unusedVariables false
def Yp (n:K4) (p:HC):Bool := SX fun b => SX fun c => SX fun d => @Bool.rec (fun _ => Bool) true (OL (HA.sel d (HB.sel c (HC.sel b p)))) (Nat.ble n.toN (K4.toN ⟨.d0, b, c, d⟩))
theorem Xg {n:K4} {p:HC} (h:Yp n p=true) (b c d:D) (hn:n.toN≤(K4.toN ⟨.d0, b, c, d⟩)):HA.sel d (HB.sel c (HC.sel b p))=none := by
  have h1 := Om (Om (Om h b) c) d
  rw [show Nat.ble n.toN (K4.toN ⟨.d0, b, c, d⟩)=true from Nat.ble_eq_true_of_le hn] at h1
  exact EK h1
def Vv (n:K4) (p:Heap):Bool := and (Yp n (Heap.sel .d0 p)) (SX fun a => @D.rec (fun _ => Bool) true (Qa (Heap.sel .d1 p)) (Qa (Heap.sel .d2 p)) (Qa (Heap.sel .d3 p)) (Qa (Heap.sel .d4 p)) (Qa (Heap.sel .d5 p)) (Qa (Heap.sel .d6 p)) (Qa (Heap.sel .d7 p)) (Qa (Heap.sel .d8 p)) (Qa (Heap.sel .d9 p)) (Qa (Heap.sel .d10 p)) (Qa (Heap.sel .d11 p)) (Qa (Heap.sel .d12 p)) (Qa (Heap.sel .d13 p)) (Qa (Heap.sel .d14 p)) (Qa (Heap.sel .d15 p)) a)
theorem WA {n:K4} {p:Heap} (h:Vv n p=true):Al p n := by
  obtain ⟨h1, h2⟩ := AV h
  rintro ⟨a, b, c, d⟩ hq
  show HA.sel d (HB.sel c (HC.sel b (Heap.sel a p)))=none
  have h3 := Om h2 a
  cases a
  · exact Xg h1 b c d hq
  all_goals exact Acb h3 b c d
def Y5 (r:R):Bool :=
  @R.rec (fun _ => Bool) (fun _ _ _ _ => false) (fun v h n => and (I8 v) (and (Nat.ble n.toN 4000) (Vv n h))) (fun _ => false) (fun _ _ _ _ => false) r
theorem Xy {r:R} (h:Y5 r=true):∃ h n, r = .rv (.bool true) h n∧n.toN≤4000∧Al h n := by
  cases r with
  | rv v hh n =>
    obtain ⟨h1, h2⟩ := AV (show and (I8 v) (and (Nat.ble n.toN 4000) (Vv n hh))=true from h)
    obtain ⟨h2, h3⟩ := AV h2
    exact ⟨hh, n, by rw [KU h1], Nat.le_of_ble_eq_true h2, WA h3⟩
  | _ => cases h
end Go.Ev
