/- AN EVALUATOR OF THE MODEL OF Go, PROVED SOUND, PART 5: what it says of a call holds in every world, on every tape. Conditions: none of its own; each theorem bears its premises. -/
import Derived.Test.YtdgefeadbcbglaaQEv4
import Derived.ChangeSame
import Derived.Deep.Slices
import Derived.Shelf.Strconv.Itoa1
import GoSem.ClaimGoes
set_option linter.unusedSimpArgs false
set_option linter.unusedVariables false
namespace Go.Ev
set_option linter.unusedVariables false
/-- What a function is: code, or a step of the evaluator's own. -/
inductive Ent where
  | code (entry:List V->(S->R)->R) (body:IZ->S->Heap->K4->R) (res:S->Heap->K4->R)
  | prim (p:Qi)
  | br (k:Nat) (entry:List V->(S->R)->R) (body:IZ->S->Heap->K4->R) (res:S->Heap->K4->R)
  | ap (f:Nat) (its:List Nat) (rd:Rd)
  | tree (p:Qi)
abbrev FP := Option Ent
/-- Sixteen functions. -/
inductive FA where
  | mk (A B C E F G I J L M N O P Q T U:FP)
noncomputable def FA.sel (d:D) (p:FA):FP :=
  @FA.rec (fun _ => FP) (fun A B C E F G I J L M N O P Q T U => @D.rec (fun _ => FP) A B C E F G I J L M N O P Q T U d) p
noncomputable def Ado (p:FA) (k:FP->R):R := @FA.rec (fun _ => R) (fun A B C E F G I J L M N O P Q T U => k A) p
noncomputable def Aep (p:FA) (k:FP->R):R := @FA.rec (fun _ => R) (fun A B C E F G I J L M N O P Q T U => k B) p
noncomputable def Adg (p:FA) (k:FP->R):R := @FA.rec (fun _ => R) (fun A B C E F G I J L M N O P Q T U => k C) p
noncomputable def Aen (p:FA) (k:FP->R):R := @FA.rec (fun _ => R) (fun A B C E F G I J L M N O P Q T U => k E) p
noncomputable def Aap (p:FA) (k:FP->R):R := @FA.rec (fun _ => R) (fun A B C E F G I J L M N O P Q T U => k F) p
noncomputable def Abc (p:FA) (k:FP->R):R := @FA.rec (fun _ => R) (fun A B C E F G I J L M N O P Q T U => k G) p
noncomputable def Ac6 (p:FA) (k:FP->R):R := @FA.rec (fun _ => R) (fun A B C E F G I J L M N O P Q T U => k I) p
noncomputable def Aea (p:FA) (k:FP->R):R := @FA.rec (fun _ => R) (fun A B C E F G I J L M N O P Q T U => k J) p
noncomputable def Aaa (p:FA) (k:FP->R):R := @FA.rec (fun _ => R) (fun A B C E F G I J L M N O P Q T U => k L) p
noncomputable def Aer (p:FA) (k:FP->R):R := @FA.rec (fun _ => R) (fun A B C E F G I J L M N O P Q T U => k M) p
noncomputable def ZU (p:FA) (k:FP->R):R := @FA.rec (fun _ => R) (fun A B C E F G I J L M N O P Q T U => k N) p
noncomputable def Zn (p:FA) (k:FP->R):R := @FA.rec (fun _ => R) (fun A B C E F G I J L M N O P Q T U => k O) p
noncomputable def YQ (p:FA) (k:FP->R):R := @FA.rec (fun _ => R) (fun A B C E F G I J L M N O P Q T U => k P) p
noncomputable def Aa5 (p:FA) (k:FP->R):R := @FA.rec (fun _ => R) (fun A B C E F G I J L M N O P Q T U => k Q) p
noncomputable def Yg (p:FA) (k:FP->R):R := @FA.rec (fun _ => R) (fun A B C E F G I J L M N O P Q T U => k T) p
noncomputable def ZG (p:FA) (k:FP->R):R := @FA.rec (fun _ => R) (fun A B C E F G I J L M N O P Q T U => k U) p
noncomputable def FA.selK (d:D):FA->(FP->R)->R :=
  @D.rec (fun _ => FA->(FP->R)->R) Ado Aep Adg Aen Aap Abc Ac6 Aea Aaa Aer ZU Zn YQ Aa5 Yg ZG d
theorem FA.selK_eq (d:D) (p:FA) (k:FP->R):FA.selK d p k=k (FA.sel d p) := by
  cases d <;> cases p <;> rfl
/-- Of those sixteen. -/
inductive FB where
  | mk (A B C E F G I J L M N O P Q T U:FA)
noncomputable def FB.sel (d:D) (p:FB):FA :=
  @FB.rec (fun _ => FA) (fun A B C E F G I J L M N O P Q T U => @D.rec (fun _ => FA) A B C E F G I J L M N O P Q T U d) p
noncomputable def Aej (p:FB) (k:FA->R):R := @FB.rec (fun _ => R) (fun A B C E F G I J L M N O P Q T U => k A) p
noncomputable def Ae1 (p:FB) (k:FA->R):R := @FB.rec (fun _ => R) (fun A B C E F G I J L M N O P Q T U => k B) p
noncomputable def Abw (p:FB) (k:FA->R):R := @FB.rec (fun _ => R) (fun A B C E F G I J L M N O P Q T U => k C) p
noncomputable def Abs (p:FB) (k:FA->R):R := @FB.rec (fun _ => R) (fun A B C E F G I J L M N O P Q T U => k E) p
noncomputable def Adv (p:FB) (k:FA->R):R := @FB.rec (fun _ => R) (fun A B C E F G I J L M N O P Q T U => k F) p
noncomputable def Acj (p:FB) (k:FA->R):R := @FB.rec (fun _ => R) (fun A B C E F G I J L M N O P Q T U => k G) p
noncomputable def Ab9 (p:FB) (k:FA->R):R := @FB.rec (fun _ => R) (fun A B C E F G I J L M N O P Q T U => k I) p
noncomputable def Abm (p:FB) (k:FA->R):R := @FB.rec (fun _ => R) (fun A B C E F G I J L M N O P Q T U => k J) p
noncomputable def Aab (p:FB) (k:FA->R):R := @FB.rec (fun _ => R) (fun A B C E F G I J L M N O P Q T U => k L) p
noncomputable def Ac2 (p:FB) (k:FA->R):R := @FB.rec (fun _ => R) (fun A B C E F G I J L M N O P Q T U => k M) p
noncomputable def YJ (p:FB) (k:FA->R):R := @FB.rec (fun _ => R) (fun A B C E F G I J L M N O P Q T U => k N) p
noncomputable def Zh (p:FB) (k:FA->R):R := @FB.rec (fun _ => R) (fun A B C E F G I J L M N O P Q T U => k O) p
noncomputable def YL (p:FB) (k:FA->R):R := @FB.rec (fun _ => R) (fun A B C E F G I J L M N O P Q T U => k P) p
noncomputable def YS (p:FB) (k:FA->R):R := @FB.rec (fun _ => R) (fun A B C E F G I J L M N O P Q T U => k Q) p
noncomputable def YN (p:FB) (k:FA->R):R := @FB.rec (fun _ => R) (fun A B C E F G I J L M N O P Q T U => k T) p
noncomputable def ZJ (p:FB) (k:FA->R):R := @FB.rec (fun _ => R) (fun A B C E F G I J L M N O P Q T U => k U) p
noncomputable def FB.selK (d:D):FB->(FA->R)->R :=
  @D.rec (fun _ => FB->(FA->R)->R) Aej Ae1 Abw Abs Adv Acj Ab9 Abm Aab Ac2 YJ Zh YL YS YN ZJ d
theorem FB.selK_eq (d:D) (p:FB) (k:FA->R):FB.selK d p k=k (FB.sel d p) := by
  cases d <;> cases p <;> rfl
/-- The table of the functions. -/
inductive FC where
  | mk (A B C E F G I J L M N O P Q T U:FB)
noncomputable def FC.sel (d:D) (p:FC):FB :=
  @FC.rec (fun _ => FB) (fun A B C E F G I J L M N O P Q T U => @D.rec (fun _ => FB) A B C E F G I J L M N O P Q T U d) p
noncomputable def Abq (p:FC) (k:FB->R):R := @FC.rec (fun _ => R) (fun A B C E F G I J L M N O P Q T U => k A) p
noncomputable def Ab6 (p:FC) (k:FB->R):R := @FC.rec (fun _ => R) (fun A B C E F G I J L M N O P Q T U => k B) p
noncomputable def Adb (p:FC) (k:FB->R):R := @FC.rec (fun _ => R) (fun A B C E F G I J L M N O P Q T U => k C) p
noncomputable def Aca (p:FC) (k:FB->R):R := @FC.rec (fun _ => R) (fun A B C E F G I J L M N O P Q T U => k E) p
noncomputable def Aei (p:FC) (k:FB->R):R := @FC.rec (fun _ => R) (fun A B C E F G I J L M N O P Q T U => k F) p
noncomputable def Adk (p:FC) (k:FB->R):R := @FC.rec (fun _ => R) (fun A B C E F G I J L M N O P Q T U => k G) p
noncomputable def Aem (p:FC) (k:FB->R):R := @FC.rec (fun _ => R) (fun A B C E F G I J L M N O P Q T U => k I) p
noncomputable def Ac3 (p:FC) (k:FB->R):R := @FC.rec (fun _ => R) (fun A B C E F G I J L M N O P Q T U => k J) p
noncomputable def Acv (p:FC) (k:FB->R):R := @FC.rec (fun _ => R) (fun A B C E F G I J L M N O P Q T U => k L) p
noncomputable def Ad2 (p:FC) (k:FB->R):R := @FC.rec (fun _ => R) (fun A B C E F G I J L M N O P Q T U => k M) p
noncomputable def Zl (p:FC) (k:FB->R):R := @FC.rec (fun _ => R) (fun A B C E F G I J L M N O P Q T U => k N) p
noncomputable def YK (p:FC) (k:FB->R):R := @FC.rec (fun _ => R) (fun A B C E F G I J L M N O P Q T U => k O) p
noncomputable def Zc (p:FC) (k:FB->R):R := @FC.rec (fun _ => R) (fun A B C E F G I J L M N O P Q T U => k P) p
noncomputable def YM (p:FC) (k:FB->R):R := @FC.rec (fun _ => R) (fun A B C E F G I J L M N O P Q T U => k Q) p
noncomputable def YH (p:FC) (k:FB->R):R := @FC.rec (fun _ => R) (fun A B C E F G I J L M N O P Q T U => k T) p
noncomputable def ZE (p:FC) (k:FB->R):R := @FC.rec (fun _ => R) (fun A B C E F G I J L M N O P Q T U => k U) p
noncomputable def FC.selK (d:D):FC->(FB->R)->R :=
  @D.rec (fun _ => FC->(FB->R)->R) Abq Ab6 Adb Aca Aei Adk Aem Ac3 Acv Ad2 Zl YK Zc YM YH ZE d
theorem FC.selK_eq (d:D) (p:FC) (k:FB->R):FC.selK d p k=k (FC.sel d p) := by
  cases d <;> cases p <;> rfl
noncomputable def Ed (k:K3) (T:FC):FP := FA.sel k.c (FB.sel k.b (FC.sel k.a T))
noncomputable def WB (k:K3) (T:FC) (κ:FP->R):R := @K3.rec (fun _ => R) (fun a b c => FC.selK a T fun x => FB.selK b x fun y => FA.selK c y κ) k
theorem S2 (k:K3) (T:FC) (κ:FP->R):WB k T κ=κ (Ed k T) := by
  cases k; simp only [WB, Ed, FC.selK_eq, FB.selK_eq, FA.selK_eq]
noncomputable abbrev QJ (ps:List K2):List V->Regs->(Regs->R)->R :=
  @List.rec K2 (fun _ => List V->Regs->(Regs->R)->R) (fun l t κ => U4 l (κ t)) (fun p _ ih l t κ => OX l fun v l => Pf p t v fun t => ih l t κ) ps
theorem Qb:∀ (ps:List K2) (l:List V) (t:Regs) (κ:Regs->R), QJ ps l t κ=Tz l ps t κ
  | [], l, t, κ => by cases l <;> rfl
  | p::ps, l, t, κ => by
    cases l with
    | nil => rfl
    | cons v l =>
      show Pf p t v (fun t => QJ ps l t κ)=Pf p t v fun t => Tz l ps t κ
      rw [Pq, Pq, Qb]
noncomputable def M4 (r:R) (res:S->Heap->K4->R):R :=
  @R.rec (fun _ => R) (fun e t h n => @Ex.rec (fun _ => R) (res t h n) (fun _ => .fail "") (res t h n) e) (fun _ _ _ => .fail "") (fun w => .fail w) (fun _ _ a b => .both a b) r
noncomputable def Oe (r:R):R := @R.rec (fun _ => R) (fun _ _ _ _ => .fail "") (fun v h n => .rv v h n) (fun w => .fail w) (fun _ _ _ _ => .fail "") r
noncomputable def X8 (v:V) (yes no:R):R :=
  @V.rec (fun _ => R) (fun _ => Unit) (fun _ _ => no) (fun _ => no) (fun _ _ => no) (fun _ _ _ _ _ _ => no) (fun _ _ => no) (fun _ _ => no) (fun _ => no) (fun _ => no) (fun _ _ _ => no) (fun _ _ => no)
    (fun o => @Ot.rec (fun _ => R) no (fun _ => no) (fun _ => no) yes (fun _ _ _ => no) (fun _ _ => no) no (fun _ _ => no) (fun _ _ _ _ => no) (fun _ _ _ _ => no) (fun _ _ _ => no) (fun _ _ => no) (fun _ _ => no) (fun _ _ _ => no) (fun _ => no) o) () (fun _ _ _ _ => ()) v
noncomputable def apX (f:Nat) (its:List Nat) (rd:Rd) (cf:IZ) (args:List V) (h:Heap) (n:K4):R :=
  OX args fun v l => X8 v (OX l fun b l => OX l fun x l => U4 l (rd cf b x h n)) (XP f its cf args h n)
noncomputable def P9 (cf:IZ) (o:FP) (args:List V) (h:Heap) (n:K4):R :=
  @Option.rec Ent (fun _ => R) (.fail "") (fun e => @Ent.rec (fun _ => R) (fun entry body res => entry args fun t => M4 (body cf t h n) res) (fun p => Oe (p args h n)) (fun k entry body res => Oe (brK k (fun hs => entry args fun t => M4 (body cf t hs n) res) args h n)) (fun f its rd => apX f its rd cf args h n) (fun p => p args h n) e) o
/-- What a call comes to. -/
noncomputable def CN (T:FC) (m:Nat):IZ :=
  @Nat.rec (fun _ => IZ) (fun _ _ _ _ => .fail "") (fun _ ih f args h n => WB f T fun o => P9 ih o args h n) m
/-- The kept registers out of all of them. -/
noncomputable abbrev Ye (sm:SM) (t:Regs):S := @List.rec (K2×SL) (fun _ => S) Hn (fun x _ ih => S.put x.2 ih (D8 x.1 t)) sm
theorem SX {t:Regs}:∀ {sm:SM}, RL sm=true->∀ {p:K2} {s:SL}, Ez p sm=some s->S.get s (Ye sm t)=D8 p t
  | [], _, p, s, h => by cases h
  | x::l, hok, p, s, h => by
    simp only [RL, Bool.and_eq_true] at hok
    have e1:Ye (x::l) t=S.put x.2 (Ye l t) (D8 x.1 t) := rfl
    rw [e1]
    simp only [Ez] at h
    cases hb:K2.beq x.1 p with
    | true =>
      rw [hb] at h
      have h:some x.2=some s := h
      cases h
      rw [S.get_put_same, K2.beq_iff.1 hb]
    | false =>
      rw [hb] at h
      have h:Ez p l=some s := h
      have hne:x.2≠s := fun e => by
        have := List.all_eq_true.1 hok.1 _ (Jl h)
        rw [←e] at this
        simp [SL.beq, O8.beq_self, O4.beq_self] at this
      rw [S.get_put_ne _ _ hne]
      exact SX hok.2 h
noncomputable abbrev UI (sm:SM) (r:ARes) (t:S) (h:Heap) (κ:V->R):R :=
  @ARes.rec (fun _ => R) (fun p => Dj sm [] t (.t p) κ) (fun p m => Dj sm [] t (.t p) fun v => Mc v fun q off => O5 q h fun cs _ _ =>
    @Option.rec Nat (fun _ => R) (H6 cs off κ) (fun m => Dg cs off m fun y => GE y fun l => κ (.agg l)) m) r
noncomputable abbrev Sf (sm:SM) (rs:List ARes) (t:S) (h:Heap):(List V->R)->R :=
  @List.rec ARes (fun _ => (List V->R)->R) (fun κ => κ []) (fun r _ ih κ => UI sm r t h fun v => ih fun vs => κ (v::vs)) rs
noncomputable abbrev PX (sm:SM) (rs:List ARes) (t:S) (h:Heap) (n:K4):R :=
  Sf sm rs t h fun l => @List.rec V (fun _ => R) (.rv (.tup []) h n) (fun v vs _ => @List.rec V (fun _ => R) (.rv v h n) (fun _ _ _ => .rv (.tup l) h n) vs) l
/-- A function as it is run. -/
noncomputable abbrev Ace (sm:SM) (a:AFn):Ent := @AFn.rec (fun _ => Ent) (fun ps c rs => .code (fun l κ => QJ ps l MR fun t => κ (Ye sm t)) (fun cf t h n => JA sm cf c r0 [] t h n) (fun t h n => PX sm rs t h n)) a
noncomputable def ARes.reg (r:ARes):K2 := @ARes.rec (fun _ => K2) (fun p => p) (fun p _ => p) r
noncomputable def okF (sm:SM) (a:AFn):Bool := RL sm&&(LW sm a.code (fun _ => true) []&&a.rs.all fun r => JN sm r.reg)
noncomputable abbrev Ze (sm:SM) (o:Option AFn):FP := @Option.rec AFn (fun _ => FP) none (fun a => some (Ace sm a)) o
noncomputable def okO (sm:SM) (o:Option AFn):Bool := @Option.rec AFn (fun _ => Bool) false (fun a => okF sm a) o
section
variable {P:Program} {ρ:Env} {B:Nat}
/-- It is that function. -/
def CQ (P:Program) (f:FuncId) (e:Ent):Prop := ∃ sm:SM, Ze sm (MQ P f)=some e∧okO sm (MQ P f)=true
theorem CQ.mk {f:FuncId} {e:Ent} (sm:SM) (h:Ze sm (MQ P f)=some e) (k:okO sm (MQ P f)=true):CQ P f e := ⟨sm, h, k⟩
/-- It is that function, run on what it can reach. -/
def Adm (P:Program) (f:FuncId) (e:Ent):Prop := ∃ k en bo re, e = .br k en bo re∧CQ P f (.code en bo re)
/-- It ranges over a function. -/
def G5 (P:Program) (ρ:Env) (f:FuncId) (e:Ent):Prop := ∃ its rd A, e = .ap f its rd∧ρ.ap f=some A∧Nq P f=some A∧V7 P A=some rd ∧ ∀ g∈its, LQ P g
/-- A step of the evaluator's own that may come to many ways. -/
def Vv (P:Program) (ρ:Env) (B:Nat) (f:FuncId) (p:Qi):Prop :=
  ∀ args h n (Φ:R->Prop), (p args h n).sat Φ->∀ φ w (xs:Array Value), Gam ρ B h n φ w->DE ρ φ args xs.toList →
    P7 P f xs w fun x w' => ∃ v h1 n1 φ', Φ (.rv v h1 n1)∧Fr h h1 φ φ' n n1 w w'∧Gam ρ B h1 n1 φ' w'∧B1 ρ φ' v x
def Oz (P:Program) (ρ:Env) (B:Nat) (f:FuncId) (e:Ent):Prop := (CQ P f e∨Adm P f e)∨((∃ p, e = .prim p∧R7 P ρ B f p)∨(G5 P ρ f e ∨ ∃ p, e = .tree p∧Vv P ρ B f p))
def LH (P:Program) (ρ:Env) (B:Nat) (T:FC):Prop := (∀ f e, Ed (Dx f) T=some e->Oz P ρ B f e) ∧ ∀ f A, ρ.ap f=some A->∃ e, Ed (Dx f) T=some e∧G5 P ρ f e
theorem OT {r:R} {Φ:R->Prop} (h:(Oe r).sat Φ):∃ v h1 n1, r = .rv v h1 n1∧Φ (.rv v h1 n1) := by
  cases r with
  | rv v h1 n1 => exact ⟨v, h1, n1, rfl, h⟩
  | _ => exact h.elim
theorem UK {sm:SM} {r:ARes} {t:Regs} {t':S} (ri:RI sm [] [] t t') (hk:JN sm r.reg=true) (hp:Heap) (κ:V->R):UI sm r t' hp κ=MG r t hp κ := by
  have kn:∀ p, JN sm p=true->Gc sm [] p=true := fun p h => by unfold Gc; rw [h, Bool.or_true]
  cases r with
  | tmp p => show Dj sm [] t' (.t p) κ=JH p t κ; rw [ri.tell (kn p hk), EK]
  | cel p m =>
    show Dj sm [] t' (.t p) _=JH p t _
    rw [ri.tell (kn p hk), EK, GN]
theorem PZ {sm:SM} {t:Regs} {t':S} (ri:RI sm [] [] t t') {hp:Heap}:∀ {rs:List ARes} {κ:List V->R}, (∀ r∈rs, JN sm r.reg=true)->Sf sm rs t' hp κ=LO rs t hp κ
  | [], κ, _ => rfl
  | r::rs, κ, h => by
    have e1:Sf sm (r::rs) t' hp κ=UI sm r t' hp fun v => Sf sm rs t' hp fun vs => κ (v::vs) := rfl
    have e2:LO (r::rs) t hp κ=MG r t hp fun v => LO rs t hp fun vs => κ (v::vs) := rfl
    rw [e1, e2, UK ri (h r (List.mem_cons_self ..))]
    congr 1; funext v
    exact PZ ri fun r hr => h r (List.mem_cons_of_mem _ hr)
theorem V3 {sm:SM} {t:Regs} {t':S} (ri:RI sm [] [] t t') {hp:Heap} {n:K4} {rs:List ARes} (h:∀ r∈rs, JN sm r.reg=true):PX sm rs t' hp n=R1 rs t hp n := PZ ri h
/-- What is asked behind a body. -/
def Zo (res:S->Heap->K4->R) (Φ:R->Prop):R->Prop
  | .ok .nrm t h n => (res t h n).sat Φ
  | .ok .ret t h n => (res t h n).sat Φ
  | _ => False
theorem N1 {res:S->Heap->K4->R} {Φ:R->Prop}:∀ {r:R}, (M4 r res).sat Φ->r.sat (Zo res Φ)
  | .ok e t h n, hs => by
    cases e with
    | nrm => exact hs
    | ret => exact hs
    | exit j => exact hs.elim
  | .rv _ _ _, hs => hs.elim
  | .fail _, hs => hs.elim
  | .both a b, hs => ⟨N1 (r := a) hs.1, N1 (r := b) hs.2⟩
theorem WJ {r:ARes} {t:Regs} {h:Heap} {κ:V->R} (hg:(MG r t h κ).good):∃ v, MG r t h κ=κ v := by
  cases r with
  | tmp p => exact ⟨_, EK p t κ⟩
  | cel p m =>
    have e1:MG (.cel p m) t h κ=Mc (D8 p t) fun q off => Jw q h fun cs _ _ =>
        @Option.rec Nat (fun _ => R) (H6 cs off κ) (fun m => Dg cs off m fun y => GE y fun l => κ (.agg l)) m := EK p t _
    rw [e1] at hg
    obtain ⟨q, off, hv, e2⟩ := FD hg
    rw [e2] at hg
    obtain ⟨cs, sup, prev, hq, e3⟩ := Fl hg
    rw [e3] at hg
    cases m with
    | none =>
      obtain ⟨v, _, e4⟩ := Jq (show R.good (H6 cs off κ) from hg)
      exact ⟨v, e1.trans (e2.trans (e3.trans e4))⟩
    | some m =>
      obtain ⟨hle, y, hyl, hya, e4⟩ := ED (show R.good (Dg cs off m fun y => GE y fun l => κ (.agg l)) from hg)
      obtain ⟨l, e5, _, _⟩ := Il y fun l => κ (.agg l)
      exact ⟨.agg l, e1.trans (e2.trans (e3.trans (Eq.trans e4 e5)))⟩
theorem Si:∀ {rs:List ARes} {t:Regs} {h:Heap} {κ:List V->R}, (LO rs t h κ).good->∃ vs, LO rs t h κ=κ vs
  | [], t, h, κ, _ => ⟨[], rfl⟩
  | r::rs, t, h, κ, hg => by
    have hg:R.good (MG r t h fun v => LO rs t h fun vs => κ (v::vs)) := hg
    obtain ⟨v, e1⟩ := WJ hg
    rw [e1] at hg
    obtain ⟨vs, e2⟩ := Si hg
    exact ⟨v::vs, Eq.trans e1 e2⟩
theorem WM {rs:List ARes} {t:Regs} {h:Heap} {n:K4} (hg:(R1 rs t h n).good):∃ v, R1 rs t h n = .rv v h n := by
  obtain ⟨vs, e⟩ := Si (show R.good (LO rs t h _) from hg)
  have e:R1 rs t h n=_ := e
  match vs, e with
  | [], e => exact ⟨_, e⟩
  | [u], e => exact ⟨_, e⟩
  | u::u'::us, e => exact ⟨_, e⟩
theorem OA (hρ:DA ρ) (hm:P.follows .mixedOrders=true) {cf:CF} {cf2:IZ} (hct:KR P ρ B cf) (hR:KD P ρ B cf) (h2:∀ f, cf2 (Dx f)=cf f) {f:FuncId} {e:Ent} (he:CQ P f e) {args:List V} {h:Heap} {n:K4} {Φ:R->Prop}
    (hr:(P9 cf2 (some e) args h n).sat Φ) {φ:CP} {w:World} {xs:Array Value} (g:Gam ρ B h n φ w) (hxs:DE ρ φ args xs.toList) :
    P7 P f xs w fun x w' => ∃ v h1 n1 φ', Φ (.rv v h1 n1)∧Fr h h1 φ φ' n n1 w w'∧Gam ρ B h1 n1 φ' w'∧B1 ρ φ' v x := by
  obtain ⟨sm, hd, hok⟩ := he
  cases hf:MQ P f with
  | none => rw [hf] at hd; cases hd
  | some a =>
    rw [hf] at hd hok
    obtain ⟨fn, c, ps, rs, hfn, hb, hps, hrs, hname, rfl⟩ := Rz hf
    have hd:some (Ent.code (fun l κ => QJ ps l MR fun t => κ (Ye sm t)) (fun cf t h n => JA sm cf (CZ P fn.ntmps c) r0 [] t h n) (fun t h n => PX sm rs t h n))=some e := hd
    cases hd
    have hok:(RL sm&&(LW sm (CZ P fn.ntmps c) (fun _ => true) []&&rs.all fun r => JN sm r.reg))=true := hok
    rw [Bool.and_eq_true, Bool.and_eq_true] at hok
    obtain ⟨hsm, hok⟩ := hok
    have inj:∀ {p q s}, Ez p sm=some s->Ez q sm=some s->p=q := fun h h' => Qd hsm h h'
    have hr:(QJ ps args MR (fun t => M4 (JA sm cf2 (CZ P fn.ntmps c) r0 [] (Ye sm t) h n) fun t h n => PX sm rs t h n)).sat Φ := hr
    rw [Qb] at hr
    obtain ⟨hlen, t0, e2, H0⟩ := OW (k := 0) (fun i s hi => by
      obtain ⟨hi', hi2⟩ := List.getElem?_eq_some_iff.1 hi
      simp at hi2; omega) hps (R.sat_good hr)
    rw [e2] at hr
    simp only [List.length_range] at hlen
    have hxl:xs.size=args.length := by have := CW hxs; simpa using this
    have hxN:xs.size≤fn.ntmps := by
      rcases Nat.eq_zero_or_pos xs.size with h0 | h0
      · omega
      · have := NK hps (xs.size - 1) (List.mem_range.2 (by omega)); omega
    have hT:TR ρ fn.ntmps φ t0 { tmps := xs++Array.replicate (fn.ntmps - xs.size) undef, defers := [] } := {
      size := by simp; omega
      defers := rfl
      at_ := fun s p hs hp => by
        rw [H0 s p hp, if_pos (Nat.zero_le _), Nat.sub_zero, Q6]
        show B1 ρ φ _ ((xs++Array.replicate (fn.ntmps - xs.size) undef).getD s undef)
        rw [Array.getD_eq_getD_getElem?]
        by_cases hsx:s<xs.size
        · rw [Array.getElem?_append_left hsx]
          have hsa:s<args.length := by omega
          rw [List.getElem?_eq_getElem hsa]
          obtain ⟨x, hx, hrx⟩ := (Em.1 hxs).2 s _ (List.getElem?_eq_getElem hsa)
          rw [Array.getElem?_toList] at hx
          rw [hx]; exact hrx
        · rw [Array.getElem?_append_right (by omega), Array.getElem?_replicate, if_pos (by omega), List.getElem?_eq_none (by omega)]
          exact Hb }
    have hx := N1 hr
    have hOK := (Y9 (N := fn.ntmps) (sm := sm) hρ hm hct hR h2 c).join hok.1 (RI.start inj fun p s hs => SX hsm hs) hx
    intro o a K Q hK
    have hcf':(callFunc f xs).run P w = .ok (.enter f xs) w := by
      have hname':fn.name ≠ "runtime.NumGoroutine" := by simpa using hname
      simp [callFunc, hfn, hname', hb]
    rw [hcf']
    refine calls_of_wp hfn hb (hOK φ _ w hT g _ fun e t1 h2' n2 hres φ' a' w' tf f1 g1 T1 hk => ?_)
    have fin:(PX sm rs t1 h2' n2).sat Φ->∃ X, (results fn a'.tmps).run P w' = .ok X w'∧K (a.put o.dst X) w' := fun hres => by
      rw [V3 (RI.start inj hk) fun r hr => List.all_eq_true.1 hok.2 r hr] at hres
      obtain ⟨v, hv⟩ := WM (R.sat_good hres)
      obtain ⟨_, _, Hres⟩ := TG (ρ := ρ) (B := B) hrs hv
      rw [hv] at hres
      obtain ⟨X, hX, hrX⟩ := Hres φ' a' w' T1 g1
      exact ⟨X, hX, hK X w' ⟨v, h2', n2, φ', hres, f1, g1, hrX⟩⟩
    cases e with
    | nrm => obtain ⟨X, hX, hKX⟩ := fin hres; exact ⟨T1.defers, X, hX, hKX⟩
    | exit id => exact hres.elim
    | ret => obtain ⟨X, hX, hKX⟩ := fin hres; exact ⟨T1.defers, X, hX, hKX⟩
/-- THE CALL IS SOUND. -/
theorem T0 (hρ:DA ρ) (hm:P.follows .mixedOrders=true) {T:FC} (hT:LH P ρ B T):∀ m, KR P ρ B (fun f => CN T m (Dx f))∧KD P ρ B (fun f => CN T m (Dx f)) := by
  intro m
  induction m with
  | zero => exact ⟨fun f args h n Φ hr => hr.elim, fun f A fn hA box x h n Φ hr => hr.elim⟩
  | succ m ih =>
    obtain ⟨hct, hR⟩ := ih
    have e1:∀ f args h n, CN T (m+1) (Dx f) args h n=P9 (CN T m) (Ed (Dx f) T) args h n := fun f args h n => S2 (Dx f) T fun o => P9 (CN T m) o args h n
    refine ⟨fun f args h n Φ hr φ w xs g hxs => ?_, fun f A fn hA box x h n Φ hr φ w tmps X l D g hrec unc hsz hbox hX => ?_⟩
    · have hr:(CN T (m+1) (Dx f) args h n).sat Φ := hr
      rw [e1] at hr
      cases ho:Ed (Dx f) T with
      | none => rw [ho] at hr; exact hr.elim
      | some e =>
        rw [ho] at hr
        rcases hT.1 f e ho with (he | ⟨k, en, bo, re, rfl, he⟩) | (⟨p, rfl, hp⟩ | (⟨its, rd, A, rfl, hA, h1, h2, h3⟩ | ⟨p, rfl, hp⟩))
        · exact OA hρ hm hct hR (fun _ => rfl) he hr g hxs
        · obtain ⟨v, h1, n1, hr, hΦ⟩ := OT (show (Oe (brK k (fun hs => en args fun t => M4 (bo (CN T m) t hs n) re) args h n)).sat Φ from hr)
          intro o a K Q hK
          exact Xg hr g hxs (fun hs Φ hsat gs => OA hρ hm hct hR (fun _ => rfl) he (h := hs) hsat gs hxs) o a K Q fun x w' ⟨φ', f1, g1, r1⟩ => hK x w' ⟨v, h1, n1, φ', hΦ, f1, g1, r1⟩
        · obtain ⟨v, h1, n1, hr, hΦ⟩ := OT (show (Oe (p args h n)).sat Φ from hr)
          intro o a K Q hK
          exact hp args h n v h1 n1 hr φ w xs g hxs o a K Q fun x w' ⟨φ', f1, g1, r1⟩ => hK x w' ⟨v, h1, n1, φ', hΦ, f1, g1, r1⟩
        · have hr:(apX f its rd (CN T m) args h n).sat Φ := hr
          unfold apX at hr
          obtain ⟨v, l, hl, q1⟩ := KG (R.sat_good hr)
          rw [q1] at hr
          subst hl
          by_cases hv:v = .oth .no
          · subst hv
            obtain ⟨y, ys, _, hy, _⟩ := AI.1 hxs
            simp only [B1] at hy
          · have e2:∀ A C:R, X8 v A C=C := fun A C => by
              cases v with
              | oth o => cases o with
                | no => exact absurd rfl hv
                | _ => rfl
              | _ => rfl
            rw [e2] at hr
            exact Yw hA h1 h3 hct (fun _ => rfl) hr g hxs
        · exact hp args h n Φ hr φ w xs g hxs
    · obtain ⟨e, ho, its, rd, A', rfl, hA', h1, h2, h3⟩ := hT.2 f A hA
      rw [hA] at hA'; cases hA'
      have hr:(CN T (m+1) (Dx f) [.oth .no, .ptr box 0, x] h n).sat Φ := hr
      rw [e1, ho] at hr
      have hr:(rd (CN T m) (.ptr box 0) x h n).sat Φ := hr
      exact Z3 hρ hct.ok (fun _ => rfl) h2 hr g hrec unc hsz hbox hX
theorem Ua (hρ:DA ρ) (hm:P.follows .mixedOrders=true) {T:FC} (hT:LH P ρ B T) (m:Nat):Gl P ρ B fun f => CN T m (Dx f) := (T0 hρ hm hT m).1.ok
end
end Go.Ev

namespace Go.Ev
open Go.RowKit
set_option linter.unusedVariables false
noncomputable abbrev EA (w:Bool) (v:V) (h:Heap) (n:K4) (F:KV->R) (κ:KV):R := gd w v F κ h n
noncomputable abbrev D4 (v:V):R := .rv v C6 ⟨.d0, .d0, .d0, .d0⟩
noncomputable abbrev alY (b:K4) (j:D) (h:Heap) (F:K4->R) (κ:KV):R := b.at j fun r => Db r h fun x => In x (Hv (F r) κ)
noncomputable abbrev alX (b:K4) (j:D) (h:Heap) (F:K4->R) (κ:V->Heap->R):R := alY b j h F fun v h _ => κ v h
noncomputable abbrev X7 (b:K4) (j:D) (h:Heap) (κ:R):R := b.at j fun r => Db r h fun x => In x κ
abbrev U:V := E8
abbrev Q0:SQ := .mk U U U U
noncomputable abbrev g0 (t:S) (k:V->R):R := @S.rec (fun _ => R) (fun c0 c1 c2 c3 c4 c5 c6 c7 => @SQ.rec (fun _ => R) (fun d0 d1 d2 d3 => k d0) c0) t
noncomputable abbrev w0 (t:S) (v:V) (k:S->R):R := @S.rec (fun _ => R) (fun c0 c1 c2 c3 c4 c5 c6 c7 => @SQ.rec (fun _ => R) (fun d0 d1 d2 d3 => k (.mk (.mk v d1 d2 d3) c1 c2 c3 c4 c5 c6 c7)) c0) t
noncomputable abbrev g1 (t:S) (k:V->R):R := @S.rec (fun _ => R) (fun c0 c1 c2 c3 c4 c5 c6 c7 => @SQ.rec (fun _ => R) (fun d0 d1 d2 d3 => k d1) c0) t
noncomputable abbrev w1 (t:S) (v:V) (k:S->R):R := @S.rec (fun _ => R) (fun c0 c1 c2 c3 c4 c5 c6 c7 => @SQ.rec (fun _ => R) (fun d0 d1 d2 d3 => k (.mk (.mk d0 v d2 d3) c1 c2 c3 c4 c5 c6 c7)) c0) t
noncomputable abbrev g2 (t:S) (k:V->R):R := @S.rec (fun _ => R) (fun c0 c1 c2 c3 c4 c5 c6 c7 => @SQ.rec (fun _ => R) (fun d0 d1 d2 d3 => k d2) c0) t
noncomputable abbrev w2 (t:S) (v:V) (k:S->R):R := @S.rec (fun _ => R) (fun c0 c1 c2 c3 c4 c5 c6 c7 => @SQ.rec (fun _ => R) (fun d0 d1 d2 d3 => k (.mk (.mk d0 d1 v d3) c1 c2 c3 c4 c5 c6 c7)) c0) t
noncomputable abbrev g3 (t:S) (k:V->R):R := @S.rec (fun _ => R) (fun c0 c1 c2 c3 c4 c5 c6 c7 => @SQ.rec (fun _ => R) (fun d0 d1 d2 d3 => k d3) c0) t
noncomputable abbrev w3 (t:S) (v:V) (k:S->R):R := @S.rec (fun _ => R) (fun c0 c1 c2 c3 c4 c5 c6 c7 => @SQ.rec (fun _ => R) (fun d0 d1 d2 d3 => k (.mk (.mk d0 d1 d2 v) c1 c2 c3 c4 c5 c6 c7)) c0) t
noncomputable abbrev g4 (t:S) (k:V->R):R := @S.rec (fun _ => R) (fun c0 c1 c2 c3 c4 c5 c6 c7 => @SQ.rec (fun _ => R) (fun d0 d1 d2 d3 => k d0) c1) t
noncomputable abbrev w4 (t:S) (v:V) (k:S->R):R := @S.rec (fun _ => R) (fun c0 c1 c2 c3 c4 c5 c6 c7 => @SQ.rec (fun _ => R) (fun d0 d1 d2 d3 => k (.mk c0 (.mk v d1 d2 d3) c2 c3 c4 c5 c6 c7)) c1) t
noncomputable abbrev g5 (t:S) (k:V->R):R := @S.rec (fun _ => R) (fun c0 c1 c2 c3 c4 c5 c6 c7 => @SQ.rec (fun _ => R) (fun d0 d1 d2 d3 => k d1) c1) t
noncomputable abbrev w5 (t:S) (v:V) (k:S->R):R := @S.rec (fun _ => R) (fun c0 c1 c2 c3 c4 c5 c6 c7 => @SQ.rec (fun _ => R) (fun d0 d1 d2 d3 => k (.mk c0 (.mk d0 v d2 d3) c2 c3 c4 c5 c6 c7)) c1) t
noncomputable abbrev g6 (t:S) (k:V->R):R := @S.rec (fun _ => R) (fun c0 c1 c2 c3 c4 c5 c6 c7 => @SQ.rec (fun _ => R) (fun d0 d1 d2 d3 => k d2) c1) t
noncomputable abbrev w6 (t:S) (v:V) (k:S->R):R := @S.rec (fun _ => R) (fun c0 c1 c2 c3 c4 c5 c6 c7 => @SQ.rec (fun _ => R) (fun d0 d1 d2 d3 => k (.mk c0 (.mk d0 d1 v d3) c2 c3 c4 c5 c6 c7)) c1) t
noncomputable abbrev g7 (t:S) (k:V->R):R := @S.rec (fun _ => R) (fun c0 c1 c2 c3 c4 c5 c6 c7 => @SQ.rec (fun _ => R) (fun d0 d1 d2 d3 => k d3) c1) t
noncomputable abbrev w7 (t:S) (v:V) (k:S->R):R := @S.rec (fun _ => R) (fun c0 c1 c2 c3 c4 c5 c6 c7 => @SQ.rec (fun _ => R) (fun d0 d1 d2 d3 => k (.mk c0 (.mk d0 d1 d2 v) c2 c3 c4 c5 c6 c7)) c1) t
noncomputable abbrev g8 (t:S) (k:V->R):R := @S.rec (fun _ => R) (fun c0 c1 c2 c3 c4 c5 c6 c7 => @SQ.rec (fun _ => R) (fun d0 d1 d2 d3 => k d0) c2) t
noncomputable abbrev w8 (t:S) (v:V) (k:S->R):R := @S.rec (fun _ => R) (fun c0 c1 c2 c3 c4 c5 c6 c7 => @SQ.rec (fun _ => R) (fun d0 d1 d2 d3 => k (.mk c0 c1 (.mk v d1 d2 d3) c3 c4 c5 c6 c7)) c2) t
noncomputable abbrev g9 (t:S) (k:V->R):R := @S.rec (fun _ => R) (fun c0 c1 c2 c3 c4 c5 c6 c7 => @SQ.rec (fun _ => R) (fun d0 d1 d2 d3 => k d1) c2) t
noncomputable abbrev w9 (t:S) (v:V) (k:S->R):R := @S.rec (fun _ => R) (fun c0 c1 c2 c3 c4 c5 c6 c7 => @SQ.rec (fun _ => R) (fun d0 d1 d2 d3 => k (.mk c0 c1 (.mk d0 v d2 d3) c3 c4 c5 c6 c7)) c2) t
noncomputable abbrev F9 (t:S) (k:V->R):R := @S.rec (fun _ => R) (fun c0 c1 c2 c3 c4 c5 c6 c7 => @SQ.rec (fun _ => R) (fun d0 d1 d2 d3 => k d2) c2) t
noncomputable abbrev Fa (t:S) (v:V) (k:S->R):R := @S.rec (fun _ => R) (fun c0 c1 c2 c3 c4 c5 c6 c7 => @SQ.rec (fun _ => R) (fun d0 d1 d2 d3 => k (.mk c0 c1 (.mk d0 d1 v d3) c3 c4 c5 c6 c7)) c2) t
noncomputable abbrev Fb (t:S) (k:V->R):R := @S.rec (fun _ => R) (fun c0 c1 c2 c3 c4 c5 c6 c7 => @SQ.rec (fun _ => R) (fun d0 d1 d2 d3 => k d3) c2) t
noncomputable abbrev Fd (t:S) (v:V) (k:S->R):R := @S.rec (fun _ => R) (fun c0 c1 c2 c3 c4 c5 c6 c7 => @SQ.rec (fun _ => R) (fun d0 d1 d2 d3 => k (.mk c0 c1 (.mk d0 d1 d2 v) c3 c4 c5 c6 c7)) c2) t
noncomputable abbrev EW (t:S) (k:V->R):R := @S.rec (fun _ => R) (fun c0 c1 c2 c3 c4 c5 c6 c7 => @SQ.rec (fun _ => R) (fun d0 d1 d2 d3 => k d0) c3) t
noncomputable abbrev EV (t:S) (v:V) (k:S->R):R := @S.rec (fun _ => R) (fun c0 c1 c2 c3 c4 c5 c6 c7 => @SQ.rec (fun _ => R) (fun d0 d1 d2 d3 => k (.mk c0 c1 c2 (.mk v d1 d2 d3) c4 c5 c6 c7)) c3) t
noncomputable abbrev F3 (t:S) (k:V->R):R := @S.rec (fun _ => R) (fun c0 c1 c2 c3 c4 c5 c6 c7 => @SQ.rec (fun _ => R) (fun d0 d1 d2 d3 => k d1) c3) t
noncomputable abbrev Ff (t:S) (v:V) (k:S->R):R := @S.rec (fun _ => R) (fun c0 c1 c2 c3 c4 c5 c6 c7 => @SQ.rec (fun _ => R) (fun d0 d1 d2 d3 => k (.mk c0 c1 c2 (.mk d0 v d2 d3) c4 c5 c6 c7)) c3) t
noncomputable abbrev Fc (t:S) (k:V->R):R := @S.rec (fun _ => R) (fun c0 c1 c2 c3 c4 c5 c6 c7 => @SQ.rec (fun _ => R) (fun d0 d1 d2 d3 => k d2) c3) t
noncomputable abbrev F7 (t:S) (v:V) (k:S->R):R := @S.rec (fun _ => R) (fun c0 c1 c2 c3 c4 c5 c6 c7 => @SQ.rec (fun _ => R) (fun d0 d1 d2 d3 => k (.mk c0 c1 c2 (.mk d0 d1 v d3) c4 c5 c6 c7)) c3) t
noncomputable abbrev F0 (t:S) (k:V->R):R := @S.rec (fun _ => R) (fun c0 c1 c2 c3 c4 c5 c6 c7 => @SQ.rec (fun _ => R) (fun d0 d1 d2 d3 => k d3) c3) t
noncomputable abbrev EZ (t:S) (v:V) (k:S->R):R := @S.rec (fun _ => R) (fun c0 c1 c2 c3 c4 c5 c6 c7 => @SQ.rec (fun _ => R) (fun d0 d1 d2 d3 => k (.mk c0 c1 c2 (.mk d0 d1 d2 v) c4 c5 c6 c7)) c3) t
noncomputable abbrev F6 (t:S) (k:V->R):R := @S.rec (fun _ => R) (fun c0 c1 c2 c3 c4 c5 c6 c7 => @SQ.rec (fun _ => R) (fun d0 d1 d2 d3 => k d0) c4) t
noncomputable abbrev F5 (t:S) (v:V) (k:S->R):R := @S.rec (fun _ => R) (fun c0 c1 c2 c3 c4 c5 c6 c7 => @SQ.rec (fun _ => R) (fun d0 d1 d2 d3 => k (.mk c0 c1 c2 c3 (.mk v d1 d2 d3) c5 c6 c7)) c4) t
noncomputable abbrev F8 (t:S) (k:V->R):R := @S.rec (fun _ => R) (fun c0 c1 c2 c3 c4 c5 c6 c7 => @SQ.rec (fun _ => R) (fun d0 d1 d2 d3 => k d1) c4) t
noncomputable abbrev Fe (t:S) (v:V) (k:S->R):R := @S.rec (fun _ => R) (fun c0 c1 c2 c3 c4 c5 c6 c7 => @SQ.rec (fun _ => R) (fun d0 d1 d2 d3 => k (.mk c0 c1 c2 c3 (.mk d0 v d2 d3) c5 c6 c7)) c4) t
noncomputable abbrev ER (t:S) (k:V->R):R := @S.rec (fun _ => R) (fun c0 c1 c2 c3 c4 c5 c6 c7 => @SQ.rec (fun _ => R) (fun d0 d1 d2 d3 => k d2) c4) t
noncomputable abbrev ES (t:S) (v:V) (k:S->R):R := @S.rec (fun _ => R) (fun c0 c1 c2 c3 c4 c5 c6 c7 => @SQ.rec (fun _ => R) (fun d0 d1 d2 d3 => k (.mk c0 c1 c2 c3 (.mk d0 d1 v d3) c5 c6 c7)) c4) t
noncomputable abbrev Fh (t:S) (k:V->R):R := @S.rec (fun _ => R) (fun c0 c1 c2 c3 c4 c5 c6 c7 => @SQ.rec (fun _ => R) (fun d0 d1 d2 d3 => k d3) c4) t
noncomputable abbrev Fg (t:S) (v:V) (k:S->R):R := @S.rec (fun _ => R) (fun c0 c1 c2 c3 c4 c5 c6 c7 => @SQ.rec (fun _ => R) (fun d0 d1 d2 d3 => k (.mk c0 c1 c2 c3 (.mk d0 d1 d2 v) c5 c6 c7)) c4) t
section
variable {P:Program} {ρ:Env} {B:Nat}
/-- What stands at a function's place in the table. -/
def CR (P:Program) (ρ:Env) (B:Nat) (f:FuncId) (o:FP):Prop := ∀ e, o=some e->Oz P ρ B f e
theorem CR.no {f:FuncId}:CR P ρ B f none := fun e h => by cases h
theorem CR.fn {f:FuncId} {e:Ent} (h:CQ P f e):CR P ρ B f (some e) := fun e' h' => by cases h'; exact .inl (.inl h)
theorem CR.br {f:FuncId} {k:Nat} {en:List V->(S->R)->R} {bo:IZ->S->Heap->K4->R} {re:S->Heap->K4->R} (h:CQ P f (.code en bo re)):CR P ρ B f (some (.br k en bo re)) := fun e' h' => by cases h'; exact .inl (.inr ⟨k, en, bo, re, rfl, h⟩)
theorem CR.pr {f:FuncId} {p:Qi} (h:R7 P ρ B f p):CR P ρ B f (some (.prim p)) := fun e' h' => by cases h'; exact .inr (.inl ⟨p, rfl, h⟩)
noncomputable def JS (s:String):Qi := fun _ _ _ => .fail s
theorem CR.noP {f:FuncId} (s:String):CR P ρ B f (some (.prim (JS s))) := CR.pr fun args h n v h1 n1 hx => by cases hx
theorem CR.ap {f:FuncId} {its:List Nat} {rd:Rd} {A:ApC} (hA:ρ.ap f=some A) (h1:Nq P f=some A) (h2:V7 P A=some rd) (h3:∀ g∈its, LQ P g):CR P ρ B f (some (.ap f its rd)) := fun e' h' => by cases h'; exact .inr (.inr (.inl ⟨its, rd, A, rfl, hA, h1, h2, h3⟩))
theorem CR.tr {f:FuncId} {p:Qi} (h:Vv P ρ B f p):CR P ρ B f (some (.tree p)) := fun e' h' => by cases h'; exact .inr (.inr (.inr ⟨p, rfl, h⟩))
def KP (P:Program) (ρ:Env) (B:Nat) (base:Nat) (x:FA):Prop := ∀ d, CR P ρ B (base+d.toN) (FA.sel d x)
def Pd (P:Program) (ρ:Env) (B:Nat) (base:Nat) (x:FB):Prop := ∀ d, KP P ρ B (base+16*d.toN) (FB.sel d x)
theorem I0 {base:Nat} {c0 c1 c2 c3 c4 c5 c6 c7 c8 c9 ca cb cc cd ce cf:FP} (h0:CR P ρ B (base+0) c0) (h1:CR P ρ B (base+1) c1) (h2:CR P ρ B (base+2) c2) (h3:CR P ρ B (base+3) c3) (h4:CR P ρ B (base+4) c4) (h5:CR P ρ B (base+5) c5) (h6:CR P ρ B (base+6) c6) (h7:CR P ρ B (base+7) c7) (h8:CR P ρ B (base+8) c8) (h9:CR P ρ B (base+9) c9) (h10:CR P ρ B (base+10) ca) (h11:CR P ρ B (base+11) cb) (h12:CR P ρ B (base+12) cc) (h13:CR P ρ B (base+13) cd) (h14:CR P ρ B (base+14) ce) (h15:CR P ρ B (base+15) cf):KP P ρ B base (.mk c0 c1 c2 c3 c4 c5 c6 c7 c8 c9 ca cb cc cd ce cf) := fun d => by
  cases d
  · exact h0
  · exact h1
  · exact h2
  · exact h3
  · exact h4
  · exact h5
  · exact h6
  · exact h7
  · exact h8
  · exact h9
  · exact h10
  · exact h11
  · exact h12
  · exact h13
  · exact h14
  · exact h15
theorem Xv {base:Nat} {c0 c1 c2 c3 c4 c5 c6 c7 c8 c9 ca cb cc cd ce cf:FA} (h0:KP P ρ B (base+16*0) c0) (h1:KP P ρ B (base+16*1) c1) (h2:KP P ρ B (base+16*2) c2) (h3:KP P ρ B (base+16*3) c3) (h4:KP P ρ B (base+16*4) c4) (h5:KP P ρ B (base+16*5) c5) (h6:KP P ρ B (base+16*6) c6) (h7:KP P ρ B (base+16*7) c7) (h8:KP P ρ B (base+16*8) c8) (h9:KP P ρ B (base+16*9) c9) (h10:KP P ρ B (base+16*10) ca) (h11:KP P ρ B (base+16*11) cb) (h12:KP P ρ B (base+16*12) cc) (h13:KP P ρ B (base+16*13) cd) (h14:KP P ρ B (base+16*14) ce) (h15:KP P ρ B (base+16*15) cf):Pd P ρ B base (.mk c0 c1 c2 c3 c4 c5 c6 c7 c8 c9 ca cb cc cd ce cf) := fun d => by
  cases d
  · exact h0
  · exact h1
  · exact h2
  · exact h3
  · exact h4
  · exact h5
  · exact h6
  · exact h7
  · exact h8
  · exact h9
  · exact h10
  · exact h11
  · exact h12
  · exact h13
  · exact h14
  · exact h15
def LJ:FA := .mk none none none none none none none none none none none none none none none none
def Ns:FB := .mk LJ LJ LJ LJ LJ LJ LJ LJ LJ LJ LJ LJ LJ LJ LJ LJ
theorem Sw (d:D):FA.sel d LJ=none := by cases d <;> rfl
theorem S0 (d:D):FB.sel d Ns=LJ := by cases d <;> rfl
theorem Kd {base:Nat}:KP P ρ B base LJ := fun d => by rw [Sw]; exact CR.no
theorem FZ {base:Nat}:Pd P ρ B base Ns := fun d => by rw [S0]; exact Kd
theorem ofN_lt {x:Nat} {d:D} (h:D.ofN x=d) (hd:d ≠ .d15):x=d.toN := by
  rcases Nat.lt_or_ge x 15 with hx | hx
  · rw [←h, D.toN_ofN x (by omega)]
  · exfalso
    obtain ⟨y, rfl⟩:∃ y, x=y+15 := ⟨x - 15, by omega⟩
    exact hd h.symm
theorem XR {c0 c1 c2 c3 c4 c5 c6 c7 c8 c9 ca cb cc cd ce:FB} (h0:Pd P ρ B (256*0) c0) (h1:Pd P ρ B (256*1) c1) (h2:Pd P ρ B (256*2) c2) (h3:Pd P ρ B (256*3) c3) (h4:Pd P ρ B (256*4) c4) (h5:Pd P ρ B (256*5) c5) (h6:Pd P ρ B (256*6) c6) (h7:Pd P ρ B (256*7) c7) (h8:Pd P ρ B (256*8) c8) (h9:Pd P ρ B (256*9) c9) (h10:Pd P ρ B (256*10) ca) (h11:Pd P ρ B (256*11) cb) (h12:Pd P ρ B (256*12) cc) (h13:Pd P ρ B (256*13) cd) (h14:Pd P ρ B (256*14) ce):∀ f e, Ed (Dx f) (.mk c0 c1 c2 c3 c4 c5 c6 c7 c8 c9 ca cb cc cd ce Ns)=some e->Oz P ρ B f e := fun f e h => by
  have hc:(D.ofN (f % 16)).toN=f % 16 := D.toN_ofN _ (by omega)
  have hb:(D.ofN (f / 16 % 16)).toN=f / 16 % 16 := D.toN_ofN _ (by omega)
  have key:∀ x:FB, Pd P ρ B (256*(f / 256)) x->FA.sel (D.ofN (f % 16)) (FB.sel (D.ofN (f / 16 % 16)) x)=some e->Oz P ρ B f e := fun x hx hs => by
    have := hx (D.ofN (f / 16 % 16)) (D.ofN (f % 16)) e hs
    rw [hc, hb] at this
    have e1:256*(f / 256)+16*(f / 16 % 16)+f % 16=f := by omega
    rw [e1] at this; exact this
  have h:FA.sel (D.ofN (f % 16)) (FB.sel (D.ofN (f / 16 % 16)) (FC.sel (D.ofN (f / 256)) (.mk c0 c1 c2 c3 c4 c5 c6 c7 c8 c9 ca cb cc cd ce Ns)))=some e := h
  generalize hd:D.ofN (f / 256)=d at h
  cases d
  · have := ofN_lt hd (by intro h; cases h); rw [show D.toN .d0=0 from rfl] at this; exact key c0 (by rw [this]; exact h0) h
  · have := ofN_lt hd (by intro h; cases h); rw [show D.toN .d1=1 from rfl] at this; exact key c1 (by rw [this]; exact h1) h
  · have := ofN_lt hd (by intro h; cases h); rw [show D.toN .d2=2 from rfl] at this; exact key c2 (by rw [this]; exact h2) h
  · have := ofN_lt hd (by intro h; cases h); rw [show D.toN .d3=3 from rfl] at this; exact key c3 (by rw [this]; exact h3) h
  · have := ofN_lt hd (by intro h; cases h); rw [show D.toN .d4=4 from rfl] at this; exact key c4 (by rw [this]; exact h4) h
  · have := ofN_lt hd (by intro h; cases h); rw [show D.toN .d5=5 from rfl] at this; exact key c5 (by rw [this]; exact h5) h
  · have := ofN_lt hd (by intro h; cases h); rw [show D.toN .d6=6 from rfl] at this; exact key c6 (by rw [this]; exact h6) h
  · have := ofN_lt hd (by intro h; cases h); rw [show D.toN .d7=7 from rfl] at this; exact key c7 (by rw [this]; exact h7) h
  · have := ofN_lt hd (by intro h; cases h); rw [show D.toN .d8=8 from rfl] at this; exact key c8 (by rw [this]; exact h8) h
  · have := ofN_lt hd (by intro h; cases h); rw [show D.toN .d9=9 from rfl] at this; exact key c9 (by rw [this]; exact h9) h
  · have := ofN_lt hd (by intro h; cases h); rw [show D.toN .d10=10 from rfl] at this; exact key ca (by rw [this]; exact h10) h
  · have := ofN_lt hd (by intro h; cases h); rw [show D.toN .d11=11 from rfl] at this; exact key cb (by rw [this]; exact h11) h
  · have := ofN_lt hd (by intro h; cases h); rw [show D.toN .d12=12 from rfl] at this; exact key cc (by rw [this]; exact h12) h
  · have := ofN_lt hd (by intro h; cases h); rw [show D.toN .d13=13 from rfl] at this; exact key cd (by rw [this]; exact h13) h
  · have := ofN_lt hd (by intro h; cases h); rw [show D.toN .d14=14 from rfl] at this; exact key ce (by rw [this]; exact h14) h
  · have h:FA.sel (D.ofN (f % 16)) (FB.sel (D.ofN (f / 16 % 16)) Ns)=some e := h
    rw [S0, Sw] at h; cases h
/-- The environment of a program in which some functions range over functions. -/
noncomputable def JP (P:Program) (fs:List Nat):Env := { v := fun _ => .bool true, ap := fun f => @Bool.rec (fun _ => Option ApC) none (Nq P f) (fs.contains f) }
noncomputable def Pr (P:Program) (g:FuncId):Bool := match P.funcs[g]? with
  | some fn => fn.body.isSome && !(fn.name == "runtime.NumGoroutine")
  | none => false
theorem RC {g:FuncId} (h:Pr P g=true):LQ P g := by
  unfold Pr at h
  split at h
  · rename_i fn hfn
    simp only [Bool.and_eq_true, Bool.not_eq_true'] at h
    obtain ⟨c, hc⟩ := Option.isSome_iff_exists.1 h.1
    exact ⟨fn, c, hfn, hc, h.2⟩
  · cases h
noncomputable def Z1 (P:Program) (f:FuncId):Option Rd := (Nq P f).bind (V7 P)
theorem G5.mk {fs:List Nat} {f:FuncId} {its:List Nat} {rd:Rd} (hf:fs.contains f=true) (h:Z1 P f=some rd) (hb:its.all (Pr P)=true):G5 P (JP P fs) f (.ap f its rd) := by
  unfold Z1 at h
  cases hA:Nq P f with
  | none => rw [hA] at h; cases h
  | some A =>
    rw [hA] at h
    exact ⟨its, rd, A, rfl, by show @Bool.rec (fun _ => Option ApC) none (Nq P f) (fs.contains f)=_; rw [hf]; exact hA, hA, h, fun g hg => RC (List.all_eq_true.1 hb g hg)⟩
theorem CR.apE {f:FuncId} {e:Ent} (h:G5 P ρ f e):CR P ρ B f (some e) := fun e' h' => by cases h'; exact .inr (.inr (.inl h))
theorem LH.mk {fs:List Nat} {T:FC} (h:∀ f e, Ed (Dx f) T=some e->Oz P (JP P fs) B f e) (ha:∀ f∈fs, ∃ e, Ed (Dx f) T=some e∧G5 P (JP P fs) f e):LH P (JP P fs) B T := by
  refine ⟨h, fun f A hA => ?_⟩
  have hA:@Bool.rec (fun _ => Option ApC) none (Nq P f) (fs.contains f)=some A := hA
  cases hc:fs.contains f with
  | false => rw [hc] at hA; cases hA
  | true => exact ha f (List.contains_iff_mem.1 hc)
theorem Y6 {Q:Nat->Prop}:∀ f∈([]:List Nat), Q f := fun f h => by cases h
theorem S3 {Q:Nat->Prop} {x:Nat} {l:List Nat} (h:Q x) (k:∀ f∈l, Q f):∀ f∈x::l, Q f := fun f hf => by
  rcases List.mem_cons.1 hf with rfl | hf
  · exact h
  · exact k f hf
/-- A call that is evaluated to true, from values that the arguments tell of. -/
theorem Jn (hρ:DA ρ) (hm:P.follows .mixedOrders=true) {T:FC} (hT:∀ B, LH P ρ B T) {m:Nat} {f:FuncId} {fn:Func} {args:List V}
    (hf:P.funcs[f]? = some fn) (hb:fn.body.isSome=true) (hn:(fn.name == "runtime.NumGoroutine")=false) (hx:Qo (CN T m (Dx f) args C6 X2)=true) {xs:Array Value} (hr:DE ρ (fun _ => none) args xs.toList) (w:World) (hgl:Wo ρ w := by intro b c e fr h; have h:(none:Option (Array Value×TypeId×(Nat×Nat)))=some (c, e, fr) := h; cases h) :
    Calls P f xs w fun e w' => e = .returned (.bool true)∧Below w.heap.size w w' := by
  obtain ⟨h1, n1, hx⟩ := VE hx
  obtain ⟨c, hc⟩ := Option.isSome_iff_exists.1 hb
  have := JO (R := fun x w' => x = .bool true∧Below w.heap.size w w') hf hc (by simpa using hn) (fun o a K Q hK =>
    Ua (B := w.heap.size) hρ hm (hT _) m f args C6 X2 _ h1 n1 hx (fun _ => none) w xs (TO w X2 hgl) hr o a K Q fun x w' ⟨φ', f1, _, hr⟩ => hK x w' ⟨by simpa only [B1] using hr, QF f1⟩)
  refine this.mono fun e w' he => ?_
  cases e with
  | returned v => exact ⟨by rw [he.1], he.2⟩
  | _ => exact he.elim
end
end Go.Ev

namespace Go.Ev
set_option linter.unusedVariables false
open Go.RowKit
noncomputable def Ml:Qi := fun args h n =>
  OX args fun v l => U4 l (G4 v (.fail "") fun p => Se p h fun es bs c => Hy h n (.m es bs c) fun h n' => .rv (.map n) h n')
/-- It is maps.Clone: the function that it calls. -/
def Sa (P:Program) (f:FuncId):Option FuncId :=
  match P.funcs[f]? with
  | some fn => match fn.body with
    | some (.seq (.region _ r0 false) (.seq (.seq (.region _ r1 false) (.cond (.tmp 4) _ .skip)) (.seq (.region _ r3 false) .ret))) =>
      match r0.toList, r1.toList, r3.toList, fn.results.toList with
      | [o1], [o2, o3], [o4, o5, o6, o7, o8], [.tmp s2] => match o1.op, o2.op, o3.op, o4.op, o5.op, o6.op, o7.op, o8.op with
        | .assign (.const c1), .move (.tmp s0), .binOp .eql t3 (.tmp s3) (.const (.map none)) _, .move (.tmp s0'), .makeInterface t5 (.tmp s5), .call ct, .typeAssert (.tmp s7) _ t7 false, .assign (.tmp s8) =>
          match ct.callee, ct.args.toList, P.underlying t5 with
          | .value (.func g), [.tmp s6], some (.map _ _) =>
            if (fn.name == "runtime.NumGoroutine")=false∧fn.ntmps=9∧s2=2∧s0=0∧s0'=0∧s3=3∧s5=5∧s6=6∧s7=7∧s8=8∧t3=t5∧t7=t5∧o1.dst=some 2∧o2.dst=some 3∧o3.dst=some 4∧o4.dst=some 5∧o5.dst=some 6∧o6.dst=some 7∧o7.dst=some 8∧o8.dst=some 2 ∧
              o1.guard=none∧o2.guard=none∧o3.guard=none∧o4.guard=none∧o5.guard=none∧o6.guard=none∧o7.guard=none∧o8.guard=none then some g else none
          | _, _, _ => none
        | _, _, _, _, _, _, _, _ => none
      | _, _, _, _ => none
    | _ => none
  | none => none
section
variable {P:Program} {ρ:Env} {B:Nat}
theorem QN (w:World) (t k e:TypeId) (p:Option Nat) (h:P.underlying t=some (.map k e)):(binOp .eql t (.map p) (.map none)).run P w = .ok (.bool p.isNone) w := by
  have key:∀ d, (Op.equalIn (d+1) t (.map p) (.map none)).run P w = .ok p.isNone w := fun d => by cases p <;> simp [Op.equalIn, run_underlying h]
  simp only [binOp]
  simp [show Op.equal t (.map p) (.map none)=Op.equalIn (9999+1) t (.map p) (.map none) from rfl, key 9999]
theorem Mq (w:World) (t xT k e:TypeId) (v:Value) (h:P.underlying t=some (.map k e)):(Instr.typeAssert (.iface t v) xT t false).run P w = .ok v w := by
  simp [Instr.typeAssert, run_underlying h, go_sem, Result.andThen]
theorem TF {w:World} {r:Nat} {es:Array MapEntry} {c:Nat} (t:TypeId) (hb:w.heap[r]? = some (.map es c)) :
    (Extern.MapsClone.clone #[.iface t (.map (some r))]).run P w = .ok (.iface t (.map (some w.heap.size))) (w.alloc (.map es c)) := by
  have e:Extern.MapsClone.clone #[.iface t (.map (some r))]=(getObj r >>= fun o => match o with
      | .map entries clock => (newObj (.map entries clock) >>= fun n => pure (.iface t (.map (some n))))
      | _ => stuck "maps.clone: a map expected") := rfl
  rw [e]
  have hg:(getObj r).run P w = .ok (.map es c) w := by simp [getObj, Sem.run, hb]
  simp [hg, Result.andThen, go_sem]
theorem Vs {f g:FuncId} (hc:Sa P f=some g) (b:Bare P g Extern.MapsClone.clone):R7 P ρ B f Ml := by
  intro args h n v h1 n1 hx φ w xs gm hr
  have hg:(Ml args h n).good := by rw [hx]; trivial
  unfold Ml at hx hg
  obtain ⟨m, l, rfl, q1⟩ := KG hg
  rw [q1] at hx hg
  obtain ⟨rfl, q2⟩ := Qv hg
  rw [q2] at hx hg
  rcases FQ hg with ⟨_, q3⟩ | ⟨p, rfl, q3⟩
  · rw [q3] at hg; exact hg.elim
  rw [q3, Hh] at hx hg
  obtain ⟨es, bs, c, hp, q4⟩ := GK hg
  rw [q4, Ji] at hx hg
  obtain ⟨n', hn, q5⟩ := Di hg
  rw [q5] at hx
  cases hx
  obtain ⟨X, l0, hX, r0, hl0⟩ := AI.1 hr
  have hl0 := BN.1 hl0
  subst hl0
  obtain ⟨bk, s, tot, hφ, rfl⟩ := HG r0
  obtain ⟨ents, k1, k2, k3⟩ := gm.obj p _ bk s tot hp hφ
  have hxe:xs = #[.map (some bk)] := by cases xs; simp at hX; rw [hX]
  subst hxe
  unfold Sa at hc
  split at hc
  next fn hfn =>
    split at hc
    next i0 r0 i1 r1 cthen i3 r3 hbody =>
      split at hc
      next o1 o2 o3 o4 o5 o6 o7 o8 s2 e0 e1 e3 ers =>
        split at hc
        next c1 s0 t3 s3 t3' s0' t5 s5 ct s7 t7' t7 s8 p1 p2 p3 p4 p5 p6 p7 p8 =>
          split at hc
          next g' s6 kt et hcal hargs hu =>
            split at hc
            next hc' =>
              cases hc
              obtain ⟨hname, hnt, rfl, rfl, rfl, rfl, rfl, rfl, rfl, rfl, rfl, rfl, d1, d2, d3, d4, d5, d6, d7, d8, g1, g2, g3, g4, g5, g6, g7, g8⟩ := hc'
              have hres:fn.results = #[.tmp 2] := by cases hh:fn.results with | mk l => rw [hh] at ers; simp at ers; rw [ers]
              have hcargs:ct.args = #[.tmp 6] := by cases hh:ct.args with | mk l => rw [hh] at hargs; simp at hargs; rw [hargs]
              have e1':(callFunc f #[.map (some bk)]).run P w = .ok (.enter f #[.map (some bk)]) w := by
                have hname':fn.name ≠ "runtime.NumGoroutine" := by simpa using hname
                simp [callFunc, hfn, hname', hbody]
              intro o a K Q hK
              rw [e1']
              refine (callsIn_wide (n := 0)).1 (callsIn_of_wp_marks hfn hbody trivial ?_ rfl)
              rw [hnt]
              simp only [List.size_toArray, List.length_cons, List.length_nil, Nat.reduceAdd, Nat.reduceSub, Array.replicate_succ, Array.replicate_zero, List.push_toArray, List.append_toArray, List.nil_append, List.cons_append]
              refine wpIn_seq (wpIn_region_list ?_)
              rw [e0]
              refine wpListIn_plain g1 fun K1 hK1 => DZ (x := c1) (w' := w) (by simp [execOp, p1, Act.eval]) (hK1 _ _ ?_)
              refine wpListIn_nil ?_
              refine wpIn_seq (wpIn_seq (wpIn_region_list ?_))
              rw [e1, d1]
              refine wpListIn_plain g2 fun K2 hK2 => DZ (x := .map (some bk)) (w' := w) (by simp [execOp, p2, Act.eval, Act.put]) (hK2 _ _ ?_)
              rw [d2]
              refine wpListIn_plain g3 fun K3 hK3 => DZ (x := .bool false) (w' := w) (by simp [execOp, p3, Act.eval, Act.put, eqGuard, QN w _ _ _ _ hu]) (hK3 _ _ ?_)
              rw [d3]
              refine wpListIn_nil (wpIn_cond_false (by simp [Act.eval, Act.put]) (wpIn_skip ?_))
              refine wpIn_seq (wpIn_region_list ?_)
              rw [e3]
              refine wpListIn_plain g4 fun K4 hK4 => DZ (x := .map (some bk)) (w' := w) (by simp [execOp, p4, Act.eval, Act.put]) (hK4 _ _ ?_)
              rw [d4]
              refine wpListIn_plain g5 fun K5 hK5 => DZ (x := .iface t7 (.map (some bk))) (w' := w) (by simp [execOp, p5, Act.eval, Act.put, Instr.makeInterface, run_underlying hu]) (hK5 _ _ ?_)
              rw [d5]
              refine wpListIn_plain g6 fun K6 hK6 => DZ (x := .iface t7 (.map (some w.heap.size))) (w' := w.alloc (.map ents c)) (by
                simp only [execOp, p6, resolve, hcal, hcargs, Deferred.ofValue, Act.eval, Act.put]
                have := b.run (TF (P := P) t7 k1)
                simp [invoke, Act.eval, this]) (hK6 _ _ ?_)
              rw [d6]
              refine wpListIn_plain g7 fun K7 hK7 => DZ (x := .map (some w.heap.size)) (w' := w.alloc (.map ents c)) (by simp [execOp, p7, Act.eval, Act.put, Mq _ _ _ _ _ _ hu]) (hK7 _ _ ?_)
              rw [d7]
              refine wpListIn_plain g8 fun K8 hK8 => DZ (x := .map (some w.heap.size)) (w' := w.alloc (.map ents c)) (by simp [execOp, p8, Act.eval, Act.put]) (hK8 _ _ ?_)
              rw [d8]
              refine wpListIn_nil (wpIn_ret ?_)
              show LeavesInM Fence.wide 0 P fn _ _ [] .returning (w.alloc (.map ents c))
              unfold LeavesInM LeavesIn
              refine ⟨.map (some w.heap.size), by simp [results, hres, Act.put], ?_⟩
              refine hK _ _ ⟨GC φ n (w.heap.size, 0, 0), Fr.alloc gm.at_n (by omega) (Nat.le_refl _) (by omega) _ _ 0, gm.alloc gm.at_n (by omega) (by omega) (.m es bs c) rfl _ 0 fun φ' hle w' hw' => ⟨ents, hw', NN hle k2, k3⟩, ?_⟩
              simp only [B1]
              exact ⟨w.heap.size, 0, 0, E5 _ _ _, rfl⟩
            next => cases hc
          next => cases hc
        next => cases hc
      next => cases hc
    next => cases hc
  next => cases hc
end
end Go.Ev

namespace Go.Ev
set_option linter.unusedVariables false
theorem HA.setS_sel (d:D) (p:HA):HA.setS d p (HA.sel d p)=p := by cases d <;> cases p <;> rfl
theorem HB.setS_sel (d:D) (p:HB):HB.setS d p (HB.sel d p)=p := by cases d <;> cases p <;> rfl
theorem HC.setS_sel (d:D) (p:HC):HC.setS d p (HC.sel d p)=p := by cases d <;> cases p <;> rfl
theorem Heap.setS_sel (d:D) (p:Heap):Heap.setS d p (Heap.sel d p)=p := by cases d <;> cases p <;> rfl
theorem R8 (p:K4) (h:Heap):Aq p h (A6 p h)=h := by
  cases p
  simp only [A6, Aq, Hj, Heap.setK_eq, HC.setK_eq, HB.setK_eq, HA.setK_eq, Heap.selK_eq, HC.selK_eq, HB.selK_eq, id, HA.setS_sel, HB.setS_sel, HC.setS_sel, Heap.setS_sel]
noncomputable def Qr (r:R) (κ:S->Heap->K4->R):R :=
  @R.rec (fun _ => R) (fun e t h n => @Ex.rec (fun _ => R) (κ t h n) (fun id => .ok (.exit id) t h n) (.ok .ret t h n) e) (fun _ _ _ => .fail "") (fun w => .fail w) (fun _ _ a b => .both a b) r
abbrev QU := S->Heap->(Nat->S->R)->R->R
noncomputable def Jc (body:S->Heap->K4->R) (ih:Nat->S->Heap->K4->R) (k:Nat) (t:S) (h:Heap) (n:K4):R :=
  @Nat.rec (fun _ => R) (.fail "") (fun k _ => Qr (body t h n) (ih k)) k
noncomputable def NG (body:S->Heap->K4->R) (J:QU) (r:Nat):Nat->S->Heap->K4->R :=
  @Nat.rec (fun _ => Nat->S->Heap->K4->R) (fun k => Gw body k)
    (fun _ ih k t h n => J t h (fun j t' => br (Nat.ble j k) (A4 (Nat.sub k j) fun k => Jc body ih k t' h n) (Gw body k t h n)) (Jc body ih k t h n)) r
noncomputable def Ls (body:S->Heap->K4->R) (J:QU):S->Heap->K4->R := NG body J 1000000 1000000000
def MT (body:S->Heap->K4->R) (J:QU):Prop :=
  ∀ t h κ κ0, J t h κ κ0=κ0 ∨ ∃ j t', J t h κ κ0=κ j t' ∧ ∀ k n, Gw body (j+k) t h n=Gw body k t' h n
theorem FV (body:S->Heap->K4->R):∀ (k:Nat) (t:S) (h:Heap) (n:K4), Gw body k t h n=Jc body (Gw body) k t h n
  | 0, _, _, _ => rfl
  | _+1, _, _, _ => rfl
theorem WP {body:S->Heap->K4->R} {J:QU} (H:MT body J):∀ (r k:Nat), NG body J r k=Gw body k := by
  intro r
  induction r with
  | zero => exact fun _ => rfl
  | succ r ih =>
    intro k
    funext t h n
    have e0:NG body J (r+1) k t h n=J t h (fun j t' => br (Nat.ble j k) (A4 (Nat.sub k j) fun k => Jc body (NG body J r) k t' h n) (Gw body k t h n)) (Jc body (NG body J r) k t h n) := rfl
    have ih:NG body J r=Gw body := funext ih
    rw [e0, ih]
    rcases H t h (fun j t' => br (Nat.ble j k) (A4 (Nat.sub k j) fun k => Jc body (Gw body) k t' h n) (Gw body k t h n)) (Jc body (Gw body) k t h n) with e | ⟨j, t', e, hj⟩
    · rw [e, ←FV]
    · rw [e]
      cases hb:Nat.ble j k with
      | false => rfl
      | true =>
        have hb := Nat.le_of_ble_eq_true hb
        show A4 (Nat.sub k j) (fun k => Jc body (Gw body) k t' h n)=_
        rw [A2, ←FV, show Nat.sub k j=k - j from rfl, ←hj (k - j) n, show j+(k - j)=k by omega]
theorem Ld {body:S->Heap->K4->R} {J:QU} (H:MT body J):Ei body=Ls body J := (WP H 1000000 1000000000).symm
noncomputable def EE:S->Heap->K4->R := fun t h n => g7 t fun z20 => g6 t fun z21 => Dc z20 z21 fun z22 => DB z22 (B2 2 (g5 t fun z23 => AG z23 fun z24 => BO 2 z24 fun z25 => BW z25 h fun z26 => g2 t fun z27 => CV z27 z20 fun z28 => MM z28 (.int .i64 64) fun z29 => Pw (.sc .i) z26 z29 (.bool true) h fun h => .ok .nrm t h n) fun t h n => g7 t fun z2a => CV z2a (.int .i64 1) fun z2b => w7 t z2b fun t => .ok .nrm t h n) <| .ok (.exit 1) t h n
noncomputable def Nh (v:V) (κ0:R) (κ:Nat->R):R :=
  @V.rec (fun _ => R) (fun _ => Unit) (fun k r => br (D0 k .i64) (κ r) κ0) (fun _ => κ0) (fun _ _ => κ0) (fun _ _ _ _ _ _ => κ0) (fun _ _ => κ0) (fun _ _ => κ0) (fun _ => κ0) (fun _ => κ0) (fun _ _ _ => κ0) (fun _ _ => κ0) (fun _ => κ0) () (fun _ _ _ _ => ()) v
noncomputable def Wg (v:V) (κ0:R) (κ:K4->Nat->R):R :=
  @V.rec (fun _ => R) (fun _ => Unit) (fun _ _ => κ0) (fun _ => κ0) (fun p o => κ p o) (fun _ _ _ _ _ _ => κ0) (fun _ _ => κ0) (fun _ _ => κ0) (fun _ => κ0) (fun _ => κ0) (fun _ _ _ => κ0) (fun _ _ => κ0) (fun _ => κ0) () (fun _ _ _ _ => ()) v
noncomputable def VN (v:V) (κ0:R) (κ:K4->R):R :=
  @V.rec (fun _ => R) (fun _ => Unit) (fun _ _ => κ0) (fun _ => κ0) (fun _ _ => κ0) (fun _ _ _ _ _ _ => κ0) (fun _ _ => κ0) (fun _ _ => κ0) (fun _ => κ0) (fun p => κ p) (fun _ _ _ => κ0) (fun _ _ => κ0) (fun _ => κ0) () (fun _ _ _ _ => ()) v
noncomputable def JR (v:V):Bool :=
  @V.rec (fun _ => Bool) (fun _ => Unit) (fun _ _ => false) (fun b => b) (fun _ _ => false) (fun _ _ _ _ _ _ => false) (fun _ _ => false) (fun _ _ => false) (fun _ => false) (fun _ => false) (fun _ _ _ => false) (fun _ _ => false) (fun _ => false) () (fun _ _ _ _ => ()) v
noncomputable def Ya (m:Nat):List V->R->(V->R)->R :=
  @Nat.rec (fun _ => List V->R->(V->R)->R) (fun xs κ0 k => @List.rec V (fun _ => R) κ0 (fun x _ _ => k x) xs)
    (fun _ ih xs κ0 k => @List.rec V (fun _ => R) κ0 (fun _ ys _ => ih ys κ0 k) xs) m
noncomputable def S7 (o:Eh) (i:Nat) (κ0:R) (κ:V->R):R :=
  @Option.rec Ob (fun _ => R) κ0 (fun o => @Ob.rec (fun _ => R) (fun cs _ _ => @Cs.rec (fun _ => R) (fun xs => Ya i xs κ0 κ) (fun _ _ => κ0) cs) (fun _ _ _ => κ0) (fun _ _ _ _ => κ0) κ0 (fun _ _ => κ0) o) o
noncomputable def Sz (o:Eh) (κ0:R) (κ:List (V×V)->List Nat->R):R :=
  @Option.rec Ob (fun _ => R) κ0 (fun o => @Ob.rec (fun _ => R) (fun _ _ _ => κ0) (fun es bs _ => κ es bs) (fun _ _ _ _ => κ0) κ0 (fun _ _ => κ0) o) o
/-- Is the key there, and true? -/
noncomputable def Q7 (k:Nat) (es:List (V×V)):Bool :=
  @List.rec (V×V) (fun _ => Bool) false (fun e _ ih => @Prod.rec V V (fun _ => Bool) (fun a b => @V.rec (fun _ => Bool) (fun _ => Unit) (fun kd r => br (D0 kd .i64) (br (Nat.beq k r) (JR b) ih) false) (fun _ => false) (fun _ _ => false) (fun _ _ _ _ _ _ => false) (fun _ _ => false) (fun _ _ => false) (fun _ => false) (fun _ => false) (fun _ _ _ => false) (fun _ _ => false) (fun _ => false) () (fun _ _ _ _ => ()) a) e) es
noncomputable def Ps:QU := fun t h κ κ0 => g7 t fun i => g6 t fun m => g2 t fun a => g5 t fun x =>
  Nh i κ0 fun i0 => Nh m κ0 fun m0 => Nh a κ0 fun a0 => Wg x κ0 fun p off => Db p h fun o => S7 o (Nat.add off 2) κ0 fun u => VN u κ0 fun q => Db q h fun o => Sz o κ0 fun es bs =>
    br (Nat.ble m0 4611686018427387904) (br (Nat.ble a0 4611686018427387904) (br (Nat.ble i0 m0) (br (Iy es bs) (A4 (Nat.div (Nat.add a0 i0) 64) fun k => br (Q7 k es)
      (A4 (Nat.sub m0 i0) fun j1 => A4 (Nat.sub (Nat.mul 64 (Nat.succ k)) (Nat.add a0 i0)) fun j2 => br (Nat.ble j1 j2) (A4 (Nat.add i0 j1) fun i => w7 t (.int .i64 i) fun t => κ j1 t) (A4 (Nat.add i0 j2) fun i => w7 t (.int .i64 i) fun t => κ j2 t))
      κ0) κ0) κ0) κ0) κ0
theorem UR (v:V) (κ0:R) (κ:Nat->R):Nh v κ0 κ=κ0 ∨ ∃ r, v = .int .i64 r∧Nh v κ0 κ=κ r := by
  cases v with
  | int k r =>
    show br (D0 k .i64) (κ r) κ0=κ0 ∨ ∃ r', V.int k r = .int .i64 r'∧br (D0 k .i64) (κ r) κ0=κ r'
    cases hb:D0 k .i64 with
    | false => exact .inl rfl
    | true => exact .inr ⟨r, by rw [BV.1 hb], rfl⟩
  | _ => exact .inl rfl
theorem Vp (v:V) (κ0:R) (κ:K4->Nat->R):Wg v κ0 κ=κ0 ∨ ∃ p o, v = .ptr p o∧Wg v κ0 κ=κ p o := by
  cases v with
  | ptr p o => exact .inr ⟨p, o, rfl, rfl⟩
  | _ => exact .inl rfl
theorem Ub (v:V) (κ0:R) (κ:K4->R):VN v κ0 κ=κ0 ∨ ∃ p, v = .map p∧VN v κ0 κ=κ p := by
  cases v with
  | map p => exact .inr ⟨p, rfl, rfl⟩
  | _ => exact .inl rfl
theorem Q3:∀ (m:Nat) (xs:List V) (κ0:R) (κ:V->R), Ya m xs κ0 κ=κ0 ∨ ∃ v, xs[m]? = some v∧Ya m xs κ0 κ=κ v
  | 0, [], _, _ => .inl rfl
  | 0, x::_, _, _ => .inr ⟨x, rfl, rfl⟩
  | m+1, [], _, _ => .inl rfl
  | m+1, x::xs, κ0, κ => Q3 m xs κ0 κ
theorem P1:∀ {m:Nat} {xs:List V} {v:V} {κ:V->R}, xs[m]? = some v->G6 m xs κ=κ v
  | 0, [], _, _, h => by cases h
  | 0, x::_, _, _, h => by cases h; rfl
  | m+1, [], _, _, h => by cases h
  | m+1, x::xs, v, κ, h => P1 (m := m) (xs := xs) h
theorem U0 (o:Eh) (i:Nat) (κ0:R) (κ:V->R):S7 o i κ0 κ=κ0 ∨ ∃ xs sup prev v, o=some (.c (.l xs) sup prev)∧xs[i]? = some v∧S7 o i κ0 κ=κ v := by
  cases o with
  | none => exact .inl rfl
  | some o => cases o with
    | c cs sup prev => cases cs with
      | l xs =>
        rcases Q3 i xs κ0 κ with e | ⟨v, h, e⟩
        · exact .inl e
        · exact .inr ⟨xs, sup, prev, v, rfl, h, e⟩
      | b _ _ => exact .inl rfl
    | _ => exact .inl rfl
theorem Th (o:Eh) (κ0:R) (κ:List (V×V)->List Nat->R):Sz o κ0 κ=κ0 ∨ ∃ es bs c, o=some (.m es bs c)∧Sz o κ0 κ=κ es bs := by
  cases o with
  | none => exact .inl rfl
  | some o => cases o with
    | m es bs c => exact .inr ⟨es, bs, c, rfl, rfl⟩
    | _ => exact .inl rfl
theorem N5 {v:V} (h:JR v=true):v = .bool true := by
  cases v with
  | bool b => rw [show b=true from h]
  | _ => cases h
theorem RY {k:Nat}:∀ {es:List (V×V)} {κ:List (V×V)->R}, Q7 k es=true->GP (.sc .i) (.int .i64 k) (.bool true) es κ=κ es
  | [], κ, h => by cases h
  | (a, b)::es, κ, h => by
    cases a with
    | int kd r =>
      have h:br (D0 kd .i64) (br (Nat.beq k r) (JR b) (Q7 k es)) false=true := h
      cases hk:D0 kd .i64 with
      | false => rw [hk] at h; cases h
      | true =>
        have hkd := BV.1 hk
        subst hkd
        have hx:br (Nat.beq k r) (JR b) (Q7 k es)=true := h
        have e0:GP (.sc .i) (.int .i64 k) (.bool true) ((.int .i64 r, b)::es) κ=DV (Nat.beq k r) fun q => br q (κ ((.int .i64 k, .bool true)::es)) (GP (.sc .i) (.int .i64 k) (.bool true) es fun l => κ ((.int .i64 r, b)::l)) := rfl
        rw [e0, CY]
        cases hb:Nat.beq k r with
        | true =>
          rw [hb] at hx
          rw [N5 (show JR b=true from hx), Nat.eq_of_beq_eq_true hb]; rfl
        | false =>
          rw [hb] at hx
          exact RY (κ := fun l => κ ((.int .i64 r, b)::l)) (show Q7 k es=true from hx)
    | _ => cases h
theorem Sg {a b:Nat} {κ:V->R} (h:a<b) (hb:b≤4611686018427387904):Dc (.int .i64 a) (.int .i64 b) κ=κ (.bool true) := by
  have e0:Dc (.int .i64 a) (.int .i64 b) κ=DV (br (Nat.ble 9223372036854775808 a) (br (Nat.ble 9223372036854775808 b) (Nat.ble (Nat.succ a) b) true) (br (Nat.ble 9223372036854775808 b) false (Nat.ble (Nat.succ a) b))) fun r => κ (.bool r) := rfl
  have h1:Nat.ble 9223372036854775808 a=false := Bool.eq_false_iff.2 fun h => by have := Nat.le_of_ble_eq_true h; omega
  have h2:Nat.ble 9223372036854775808 b=false := Bool.eq_false_iff.2 fun h => by have := Nat.le_of_ble_eq_true h; omega
  have h3:Nat.ble (Nat.succ a) b=true := Nat.ble_eq_true_of_le h
  rw [e0, CY, h1, h2, h3]; rfl
theorem MH {a b:Nat} {κ:V->R} (h:a+b<18446744073709551616):CV (.int .i64 a) (.int .i64 b) κ=κ (.int .i64 (a+b)) := by
  have e0:CV (.int .i64 a) (.int .i64 b) κ=A4 (Nat.mod (Nat.add a b) 18446744073709551616) fun r => κ (.int .i64 r) := rfl
  rw [e0, A2, show Nat.mod (Nat.add a b) 18446744073709551616=a+b from Nat.mod_eq_of_lt h]
theorem Vk {a:Nat} {κ:V->R} (h:a<9223372036854775808):MM (.int .i64 a) (.int .i64 64) κ=κ (.int .i64 (a / 64)) := by
  have e0:MM (.int .i64 a) (.int .i64 64) κ=br (Nat.ble (Nat.succ a) 9223372036854775808) (A4 (Nat.div a 64) fun r => κ (.int .i64 r)) (.fail "") := rfl
  rw [e0, show Nat.ble (Nat.succ a) 9223372036854775808=true from Nat.ble_eq_true_of_le h]
  show A4 (Nat.div a 64) (fun r => κ (V.int .i64 r))=κ (V.int .i64 (a / 64))
  rw [A2]; rfl
theorem Iq {id:Nat} {t:S} {h:Heap} {n:K4} {κ:S->Heap->K4->R}:B2 id (.ok .nrm t h n) κ=κ t h n := rfl
theorem YB {p:K4} {off:Nat} {h:Heap} {xs:List V} {sup:Bool} {prev:Option K4} {v:V} {κ:V->R} (hp:A6 p h=some (.c (.l xs) sup prev)) (hv:xs[off]? = some v):BW (.ptr p off) h κ=κ v := by
  show O5 p h (fun cs _ _ => H6 cs off κ)=_
  rw [GN]
  have e:(Jw p h fun cs _ _ => H6 cs off κ)=@Option.rec Ob (fun _ => R) (.fail "") (fun o => @Ob.rec (fun _ => R) (fun cs _ _ => H6 cs off κ) (fun _ _ _ => .fail "") (fun _ _ _ _ => .fail "") (.fail "") (fun _ _ => .fail "") o) (A6 p h) := Ee _ _ _
  rw [e, hp]
  exact P1 hv
theorem Zu {q:K4} {h:Heap} {es:List (V×V)} {bs:List Nat} {c k:Nat} {κ:Heap->R} (hq:A6 q h=some (.m es bs c)) (hs:Iy es bs=true) (hh:Q7 k es=true):Pw (.sc .i) (.map q) (.int .i64 k) (.bool true) h κ=κ h := by
  show PQ q h (fun es bs c k' => GP (.sc .i) (.int .i64 k) (.bool true) es fun es => U5 es bs c fun bs c => k' es bs c) κ=κ h
  rw [KE]
  have e:∀ F, Oq q h F=@Option.rec Ob (fun _ => R) (.fail "") (fun o => @Ob.rec (fun _ => R) (fun _ _ _ => .fail "") F (fun _ _ _ _ => .fail "") (.fail "") (fun _ _ => .fail "") o) (A6 q h) := fun F => Ee _ _ _
  rw [e, hq]
  show GP (.sc .i) (.int .i64 k) (.bool true) es (fun es' => U5 es' bs c fun bs c => Hj q h (some (.m es' bs c)) κ)=κ h
  rw [RY hh]
  unfold U5
  rw [hs]
  show Hj q h (some (.m es bs c)) κ=κ h
  rw [CS, ←hq, R8]
theorem QP {d0 d1 d3 d4:V} {c2 c3 c4 c5 c6 c7:SQ} {h:Heap} {n p q:K4} {off i0 m0 a0 c:Nat} {xs:List V} {sup:Bool} {prev:Option K4} {es:List (V×V)} {bs:List Nat}
    (hp:A6 p h=some (.c (.l xs) sup prev)) (hv:xs[off+2]? = some (.map q)) (hq:A6 q h=some (.m es bs c)) (hs:Iy es bs=true) (hm:m0≤4611686018427387904) (ha:a0≤4611686018427387904) (hi:i0<m0) (hh:Q7 ((a0+i0) / 64) es=true) :
    EE (.mk (.mk d0 d1 (.int .i64 a0) d3) (.mk d4 (.ptr p off) (.int .i64 m0) (.int .i64 i0)) c2 c3 c4 c5 c6 c7) h n = .ok .nrm (.mk (.mk d0 d1 (.int .i64 a0) d3) (.mk d4 (.ptr p off) (.int .i64 m0) (.int .i64 (i0+1))) c2 c3 c4 c5 c6 c7) h n := by
  have e1:∀ κ:V->R, AG (.ptr p off) κ=κ (.ptr p off) := fun κ => rfl
  have e2:∀ κ:V->R, BO 2 (.ptr p off) κ=κ (.ptr p (off+2)) := fun κ => by
    show A4 (Nat.add off 2) (fun o => κ (.ptr p o))=_
    rw [A2]
  unfold EE
  show Dc (.int .i64 i0) (.int .i64 m0) _=_
  rw [Sg hi hm]
  show B2 2 (AG (.ptr p off) _) _=_
  rw [e1, e2, YB hp hv]
  show B2 2 (CV (.int .i64 a0) (.int .i64 i0) _) _=_
  rw [MH (by omega), Vk (by omega), Zu hq hs hh, Iq]
  show CV (.int .i64 i0) (.int .i64 1) _=_
  rw [MH (by omega)]
theorem KK {d0 d1 d3 d4:V} {c2 c3 c4 c5 c6 c7:SQ} {h:Heap} {n p q:K4} {off m0 a0 c k:Nat} {xs:List V} {sup:Bool} {prev:Option K4} {es:List (V×V)} {bs:List Nat}
    (hp:A6 p h=some (.c (.l xs) sup prev)) (hv:xs[off+2]? = some (.map q)) (hq:A6 q h=some (.m es bs c)) (hs:Iy es bs=true) (hm:m0≤4611686018427387904) (ha:a0≤4611686018427387904) (hh:Q7 k es=true) :
    ∀ (j i0:Nat), i0+j≤m0->(∀ r, r<j->(a0+(i0+r)) / 64=k)->∀ K, Gw EE (j+K) (.mk (.mk d0 d1 (.int .i64 a0) d3) (.mk d4 (.ptr p off) (.int .i64 m0) (.int .i64 i0)) c2 c3 c4 c5 c6 c7) h n
      = Gw EE K (.mk (.mk d0 d1 (.int .i64 a0) d3) (.mk d4 (.ptr p off) (.int .i64 m0) (.int .i64 (i0+j))) c2 c3 c4 c5 c6 c7) h n
  | 0, i0, _, _, K => by rw [Nat.zero_add]; rfl
  | j+1, i0, hj, hr, K => by
    have h0 := hr 0 (by omega)
    rw [show j+1+K=(j+K)+1 by omega, FV]
    show Qr (EE _ h n) (Gw EE (j+K))=_
    rw [QP hp hv hq hs hm ha (by omega) (by rw [show a0+i0=a0+(i0+0) by omega, h0]; exact hh)]
    show Gw EE (j+K) _ h n=_
    rw [KK hp hv hq hs hm ha hh j (i0+1) (by omega) (fun r hr' => by have := hr (r+1) (by omega); rw [←this]; congr 2; omega) K, show i0+1+j=i0+(j+1) by omega]
section
variable {G:R->Prop}
theorem Hf {v:V} {κ0:R} {κ:Nat->R} (g0:G κ0) (g1:∀ r, v = .int .i64 r->G (κ r)):G (Nh v κ0 κ) := by
  rcases UR v κ0 κ with e | ⟨r, h, e⟩ <;> rw [e]
  · exact g0
  · exact g1 r h
theorem Uu {v:V} {κ0:R} {κ:K4->Nat->R} (g0:G κ0) (g1:∀ p o, v = .ptr p o->G (κ p o)):G (Wg v κ0 κ) := by
  rcases Vp v κ0 κ with e | ⟨p, o, h, e⟩ <;> rw [e]
  · exact g0
  · exact g1 p o h
theorem Vh {v:V} {κ0:R} {κ:K4->R} (g0:G κ0) (g1:∀ p, v = .map p->G (κ p)):G (VN v κ0 κ) := by
  rcases Ub v κ0 κ with e | ⟨p, h, e⟩ <;> rw [e]
  · exact g0
  · exact g1 p h
theorem TM {o:Eh} {i:Nat} {κ0:R} {κ:V->R} (g0:G κ0) (g1:∀ xs sup prev v, o=some (.c (.l xs) sup prev)->xs[i]? = some v->G (κ v)):G (S7 o i κ0 κ) := by
  rcases U0 o i κ0 κ with e | ⟨xs, sup, prev, v, h, h', e⟩ <;> rw [e]
  · exact g0
  · exact g1 xs sup prev v h h'
theorem Td {o:Eh} {κ0:R} {κ:List (V×V)->List Nat->R} (g0:G κ0) (g1:∀ es bs c, o=some (.m es bs c)->G (κ es bs)):G (Sz o κ0 κ) := by
  rcases Th o κ0 κ with e | ⟨es, bs, c, h, e⟩ <;> rw [e]
  · exact g0
  · exact g1 es bs c h
theorem Fv {b:Bool} {x y:R} (g0:G y) (g1:b=true->G x):G (br b x y) := by
  cases b with
  | false => exact g0
  | true => exact g1 rfl
theorem Jo {p:K4} {h:Heap} {κ:Eh->R} (g:G (κ (A6 p h))):G (Db p h κ) := by rw [Dy]; exact g
theorem JY {m:Nat} {κ:Nat->R} (g:G (κ m)):G (A4 m κ) := by rw [A2]; exact g
end
theorem RH:MT EE Ps := by
  intro t h κ κ0
  cases t with
  | mk c0 c1 c2 c3 c4 c5 c6 c7 =>
    cases c0 with
    | mk d0 d1 a d3 =>
      cases c1 with
      | mk d4 x m i =>
        obtain ⟨T, hT⟩:∃ T:S, T = .mk (.mk d0 d1 a d3) (.mk d4 x m i) c2 c3 c4 c5 c6 c7 := ⟨_, rfl⟩
        obtain ⟨G, hG⟩:∃ G:R->Prop, ∀ r, G r ↔ (r=κ0 ∨ ∃ j t', r=κ j t' ∧ ∀ k n, Gw EE (j+k) T h n=Gw EE k t' h n) := ⟨_, fun r => Iff.rfl⟩
        have g0:G κ0 := (hG _).2 (.inl rfl)
        rw [←hT]
        refine (hG _).1 ?_
        rw [hT]
        refine Hf (G := G) g0 fun i0 hi => Hf (G := G) g0 fun m0 hm => Hf (G := G) g0 fun a0 ha => Uu (G := G) g0 fun p off hx => Jo (G := G) (TM (G := G) g0 fun xs sup prev u hp hv => Vh (G := G) g0 fun q hu => ?_)
        subst hi hm ha hx hu
        refine Jo (G := G) (Td (G := G) g0 fun es bs c hq => Fv (G := G) g0 fun b1 => Fv (G := G) g0 fun b2 => Fv (G := G) g0 fun b3 => Fv (G := G) g0 fun b4 => JY (G := G) (Fv (G := G) g0 fun b5 => JY (G := G) (JY (G := G) ?_)))
        have b1 := Nat.le_of_ble_eq_true b1
        have b2 := Nat.le_of_ble_eq_true b2
        have b3 := Nat.le_of_ble_eq_true b3
        have e1:Nat.sub m0 i0=m0 - i0 := rfl
        have e2:Nat.sub (Nat.mul 64 (Nat.succ (Nat.div (Nat.add a0 i0) 64))) (Nat.add a0 i0)=64*((a0+i0) / 64+1) - (a0+i0) := rfl
        have e3:Nat.div (Nat.add a0 i0) 64=(a0+i0) / 64 := rfl
        rw [e1, e2]
        rw [e3] at b5
        have key:∀ j, j≤m0 - i0->j≤64*((a0+i0) / 64+1) - (a0+i0)->∀ K n, Gw EE (j+K) (.mk (.mk d0 d1 (.int .i64 a0) d3) (.mk d4 (.ptr p off) (.int .i64 m0) (.int .i64 i0)) c2 c3 c4 c5 c6 c7) h n
            = Gw EE K (.mk (.mk d0 d1 (.int .i64 a0) d3) (.mk d4 (.ptr p off) (.int .i64 m0) (.int .i64 (i0+j))) c2 c3 c4 c5 c6 c7) h n := fun j hj1 hj2 K n =>
          KK hp hv hq b4 b1 b2 b5 j i0 (by omega) (fun r hr => by omega) K
        cases hb:Nat.ble (m0 - i0) (64*((a0+i0) / 64+1) - (a0+i0)) with
        | true =>
          rw [show ∀ x y:R, br true x y=x from fun _ _ => rfl, A2]
          refine (hG _).2 (.inr ⟨m0 - i0, _, rfl, fun K n => ?_⟩)
          rw [hT]
          exact key _ (Nat.le_refl _) (Nat.le_of_ble_eq_true hb) K n
        | false =>
          rw [show ∀ x y:R, br false x y=y from fun _ _ => rfl, A2]
          refine (hG _).2 (.inr ⟨64*((a0+i0) / 64+1) - (a0+i0), _, rfl, fun K n => ?_⟩)
          rw [hT]
          refine key _ ?_ (Nat.le_refl _) K n
          rcases Nat.lt_or_ge (64*((a0+i0) / 64+1) - (a0+i0)) (m0 - i0) with h' | h'
          · omega
          · rw [Nat.ble_eq_true_of_le h'] at hb; cases hb
theorem PW:Ei EE=Ls EE Ps := Ld RH
noncomputable def Li:S->Heap->K4->R := fun t h n => g7 t fun ze => Dc ze (.int .i64 8) fun zf => DB zf (B2 3 (g3 t fun zg => Jb zg (.int .u64 1) fun zh => Oo zg (.int .u32 1) fun zi => RT zi fun zj => Oo (.int .u32 2197175160) zj fun zk => Lm zh zk fun zl => w3 t zl fun t => .ok .nrm t h n) fun t h n => g7 t fun zm => CV zm (.int .i64 1) fun zn => w7 t zn fun t => .ok .nrm t h n) <| .ok (.exit 2) t h n
noncomputable def YR (v:V) (κ0:R) (κ:Nat->R):R :=
  @V.rec (fun _ => R) (fun _ => Unit) (fun k r => br (D0 k .u32) (κ r) κ0) (fun _ => κ0) (fun _ _ => κ0) (fun _ _ _ _ _ _ => κ0) (fun _ _ => κ0) (fun _ _ => κ0) (fun _ => κ0) (fun _ => κ0) (fun _ _ _ => κ0) (fun _ _ => κ0) (fun _ => κ0) () (fun _ _ _ _ => ()) v
noncomputable def KI (x:Nat):Nat := Nat.xor (Nat.shiftRight x 1) (Nat.land 2197175160 (Nat.mod (Nat.add 0 (Nat.sub 4294967296 (Nat.land x 1))) 4294967296))
noncomputable def Io (j:Nat):Nat->Nat := @Nat.rec (fun _ => Nat->Nat) (fun x => x) (fun _ ih x => ih (KI x)) j
theorem Ui {G:R->Prop} {v:V} {κ0:R} {κ:Nat->R} (g0:G κ0) (g1:∀ r, v = .int .u32 r->G (κ r)):G (YR v κ0 κ) := by
  cases v with
  | int k r =>
    show G (br (D0 k .u32) (κ r) κ0)
    cases hb:D0 k .u32 with
    | false => exact g0
    | true => exact g1 r (by rw [BV.1 hb])
  | _ => exact g0
theorem SF {x:Nat} (h:x<4294967296):KI x<4294967296 := by
  have h1:x >>> 1<2 ^ 32 := by rw [Nat.shiftRight_eq_div_pow]; omega
  have h2:2197175160 &&& ((0+(4294967296 - (x &&& 1))) % 4294967296)<2 ^ 32 := Nat.lt_of_le_of_lt Nat.and_le_left (by decide)
  exact Nat.xor_lt_two_pow h1 h2
theorem T7 {d0 d1 d2 d4 d5 d6:V} {c2 c3 c4 c5 c6 c7:SQ} {h:Heap} {n:K4} {i x:Nat} (hi:i<8) (hx:x<4294967296) :
    Li (.mk (.mk d0 d1 d2 (.int .u32 x)) (.mk d4 d5 d6 (.int .i64 i)) c2 c3 c4 c5 c6 c7) h n = .ok .nrm (.mk (.mk d0 d1 d2 (.int .u32 (KI x))) (.mk d4 d5 d6 (.int .i64 (i+1))) c2 c3 c4 c5 c6 c7) h n := by
  have e1:∀ κ:V->R, Jb (.int .u32 x) (.int .u64 1) κ=κ (.int .u32 (Nat.shiftRight x 1)) := fun κ => by
    have e0:Jb (.int .u32 x) (.int .u64 1) κ=br (Nat.ble (Nat.succ x) 4294967296) (A4 (Nat.shiftRight x 1) fun r => κ (.int .u32 r)) (.fail "") := rfl
    rw [e0, show Nat.ble (Nat.succ x) 4294967296=true from Nat.ble_eq_true_of_le hx]
    show A4 (Nat.shiftRight x 1) (fun r => κ (V.int .u32 r))=_
    rw [A2]
  have e2:∀ (a b:Nat) (κ:V->R), Oo (.int .u32 a) (.int .u32 b) κ=κ (.int .u32 (Nat.land a b)) := fun a b κ => by
    have e0:Oo (.int .u32 a) (.int .u32 b) κ=A4 (Nat.land a b) fun r => κ (.int .u32 r) := rfl
    rw [e0, A2]
  have e3:∀ (a b:Nat) (κ:V->R), Lm (.int .u32 a) (.int .u32 b) κ=κ (.int .u32 (Nat.xor a b)) := fun a b κ => by
    have e0:Lm (.int .u32 a) (.int .u32 b) κ=A4 (Nat.xor a b) fun r => κ (.int .u32 r) := rfl
    rw [e0, A2]
  have e4:∀ (a:Nat) (κ:V->R), RT (.int .u32 a) κ=κ (.int .u32 (Nat.mod (Nat.add 0 (Nat.sub 4294967296 a)) 4294967296)) := fun a κ => by
    have e0:RT (.int .u32 a) κ=A4 (Nat.mod (Nat.add 0 (Nat.sub 4294967296 a)) 4294967296) fun r => κ (.int .u32 r) := rfl
    rw [e0, A2]
  unfold Li
  show Dc (.int .i64 i) (.int .i64 8) _=_
  rw [Sg hi (by omega)]
  show B2 3 (Jb (.int .u32 x) (.int .u64 1) _) _=_
  rw [e1, e2, e4, e2, e3, Iq]
  show CV (.int .i64 i) (.int .i64 1) _=_
  rw [MH (by omega)]; rfl
theorem Ms {d0 d1 d2 d4 d5 d6:V} {c2 c3 c4 c5 c6 c7:SQ} {h:Heap} {n:K4} :
    ∀ (j i x:Nat), i+j≤8->x<4294967296->∀ K, Gw Li (j+K) (.mk (.mk d0 d1 d2 (.int .u32 x)) (.mk d4 d5 d6 (.int .i64 i)) c2 c3 c4 c5 c6 c7) h n
      = Gw Li K (.mk (.mk d0 d1 d2 (.int .u32 (Io j x))) (.mk d4 d5 d6 (.int .i64 (i+j))) c2 c3 c4 c5 c6 c7) h n
  | 0, i, x, _, _, K => by rw [Nat.zero_add]; rfl
  | j+1, i, x, hj, hx, K => by
    rw [show j+1+K=(j+K)+1 by omega, FV]
    show Qr (Li _ h n) (Gw Li (j+K))=_
    rw [T7 (by omega) hx]
    show Gw Li (j+K) _ h n=_
    rw [Ms j (i+1) (KI x) (by omega) (SF hx) K, show i+1+j=i+(j+1) by omega]; rfl
end Go.Ev

namespace Go.Ev
set_option linter.unusedVariables false
theorem LX (x:Nat):KI x=(x >>> 1) ^^^ (if x % 2=1 then 2197175160 else 0) := by
  show (x >>> 1) ^^^ (2197175160 &&& ((0+(4294967296 - (x &&& 1))) % 4294967296))=_
  rw [Nat.and_one_is_mod]
  rcases Nat.mod_two_eq_zero_or_one x with h | h <;> rw [h] <;> rfl
theorem VF (a b:Nat):KI (a ^^^ b)=KI a ^^^ KI b := by
  rw [LX, LX, LX, Nat.shiftRight_xor_distrib]
  have h:(a ^^^ b) % 2=(a+b) % 2 := by
    have e := Nat.xor_mod_two_pow (a := a) (b := b) (n := 1)
    rw [Nat.pow_one] at e
    rw [e]
    rcases Nat.mod_two_eq_zero_or_one a with ha | ha <;> rcases Nat.mod_two_eq_zero_or_one b with hb | hb <;> rw [ha, hb, Nat.add_mod, ha, hb] <;> rfl
  rcases Nat.mod_two_eq_zero_or_one a with ha | ha <;> rcases Nat.mod_two_eq_zero_or_one b with hb | hb
  · have:(a ^^^ b) % 2=0 := by omega
    simp [ha, hb, this]
  · have:(a ^^^ b) % 2=1 := by omega
    simp [ha, hb, this, Nat.xor_assoc]
  · have:(a ^^^ b) % 2=1 := by omega
    simp only [ha, hb, this, if_true, if_false, Nat.xor_zero, reduceIte, Nat.zero_ne_one]
    simp only [Nat.xor_assoc, Nat.xor_comm (b >>> 1)]
  · have:(a ^^^ b) % 2=0 := by omega
    simp only [ha, hb, this, reduceIte, Nat.xor_zero, Nat.zero_ne_one]
    generalize a >>> 1=p
    generalize b >>> 1=q
    apply Nat.eq_of_testBit_eq
    intro i
    simp only [Nat.testBit_xor]
    cases p.testBit i <;> cases q.testBit i <;> cases (2197175160:Nat).testBit i <;> rfl
theorem Qp:∀ (j a b:Nat), Io j (a ^^^ b)=Io j a ^^^ Io j b
  | 0, _, _ => rfl
  | j+1, a, b => by
    show Io j (KI (a ^^^ b))=Io j (KI a) ^^^ Io j (KI b)
    rw [VF, Qp]
theorem T5 (m:Nat):KI (2*m)=m := by
  rw [LX, Nat.mul_mod_right, Nat.shiftRight_eq_div_pow]; simp
theorem QM:∀ (j q:Nat), Io j (2 ^ j*q)=q
  | 0, q => by show 2 ^ 0*q=q; omega
  | j+1, q => by
    show Io j (KI (2 ^ (j+1)*q))=q
    rw [show 2 ^ (j+1)*q=2*(2 ^ j*q) by rw [Nat.pow_succ, Nat.mul_comm (2 ^ j) 2, Nat.mul_assoc], T5, QM]
theorem Tm (y:Nat):y=(2 ^ 8*(y / 2 ^ 8)) ^^^ (y % 2 ^ 8) := by
  apply Nat.eq_of_testBit_eq
  intro i
  rw [Nat.testBit_xor, Nat.testBit_two_pow_mul, Nat.testBit_mod_two_pow, Nat.testBit_div_two_pow]
  by_cases h:8≤i
  · have h2:¬ i<8 := by omega
    simp [h, h2, show i - 8+8=i by omega]
  · have h2:i<8 := by omega
    simp [h, h2]
theorem SH:∀ (j:Nat) {x:Nat}, x<4294967296->Io j x<4294967296
  | 0, _, h => h
  | j+1, x, h => by show Io j (KI x)<_; exact SH j (SF h)
noncomputable def Pp:Nat := 739192992287711479272199505450802174180944935565270117958735211195864883404034321072575759094604862722103638970562105654534965976895685875045062592379112792078985738769595739548904202597956689934399229134939183684703714920378025961387270778473281346239181994539903784708069763525514523240966634758967547723819948093640238732618841930738396489733218495472825776362786651876001733504161834172818020394346043168775838788836904094212573134772649703407841545716218812283123984658267516726659948613643534969466376019494666614718815429190684246327365394372519258139400530706807260825564948901732507176286259752944669944548605679086391305931301222988237278526118373278492307487107474296386730408839343753629123128283572704772544098648517013212824233746728729854273945055038163572363387039908578405517982904131040319505009390255243990278860523606265815895619710957563380635837315129012976704357344131429050367435482781212454439427280336740616644805562249867251859340971513883299426874200217165290071196282711253218164865174241416073419876796213293517950780480733835793334181716730049909888366296838117288969681076010175182486226749959458237712061794030512295298309798453151350168298336411933176330063767835252143862258384197256040876755067274410026075604127347481305827849130625987059819492849891529288490451730106428376839488665315100810248841715739596040091270955624355315201462555945279029196416991040143682248153287045556144390819759753283690710943841433520922330785319143598322120010359670046292912296136999474302691355293324886616216537430761212949134977443278613456733727644009057088654822989287437792990360527449046917776586498554113667460252688333953726837853077886002223252717428049737186417130969568838070377296274375688487884511950345697105344492065413654582468965021167618282726469469929715764674333614324035309623813703284835732759643444816186743644084768553800456975483023122915759126937036001171360984116527371042249105866775992680472790331893395027602898497596949565462107432141452181910127216554936352241472142685417685618824675396402282974391037184848625305334079832924861339728594832024687877422901193159812755254516361032103358958860399075665489958680801135040793967932263797765198140728704255468134266160630916650637156666977854355604551105352627939572551570066195951258251545213658746024110892771407706843609824354401912642345941057507434795836161327506684973593222243082074173577446865175872619707633030268690896528048779238513612740446475572226293760
noncomputable abbrev Pa (y:Nat):Nat := Nat.xor (Nat.shiftRight y 8) (Nat.land (Nat.shiftRight Pp (Nat.mul 32 (Nat.land y 255))) 4294967295)
theorem Wf:Y4 (fun b => Nat.beq (Io 8 b) (Nat.land (Nat.shiftRight Pp (Nat.mul 32 b)) 4294967295)) 256=true := by kernel_rfl
theorem SW (y:Nat):Pa y=Io 8 y := by
  have h255:Nat.land y 255=y % 2 ^ 8 := Nat.and_two_pow_sub_one_eq_mod y 8
  have hb:y % 2 ^ 8<256 := Nat.mod_lt _ (by decide)
  have key:Io 8 (y % 2 ^ 8)=Nat.land (Nat.shiftRight Pp (Nat.mul 32 (y % 2 ^ 8))) 4294967295 := Nat.eq_of_beq_eq_true (We Wf _ hb)
  have e:Io 8 y=Io 8 (2 ^ 8*(y / 2 ^ 8)) ^^^ Io 8 (y % 2 ^ 8) := by rw [←Qp, ←Tm]
  rw [e, QM, key]
  show Nat.xor (Nat.shiftRight y 8) (Nat.land (Nat.shiftRight Pp (Nat.mul 32 (Nat.land y 255))) 4294967295)=_
  rw [h255]
  show (y >>> 8) ^^^ _=_
  rw [Nat.shiftRight_eq_div_pow]
theorem ZX {a b:Nat} {κ:V->R} (h:b≤a) (ha:a≤4611686018427387904):Dc (.int .i64 a) (.int .i64 b) κ=κ (.bool false) := by
  have e0:Dc (.int .i64 a) (.int .i64 b) κ=DV (br (Nat.ble 9223372036854775808 a) (br (Nat.ble 9223372036854775808 b) (Nat.ble (Nat.succ a) b) true) (br (Nat.ble 9223372036854775808 b) false (Nat.ble (Nat.succ a) b))) fun r => κ (.bool r) := rfl
  have h1:Nat.ble 9223372036854775808 a=false := Bool.eq_false_iff.2 fun h => by have := Nat.le_of_ble_eq_true h; omega
  have h2:Nat.ble 9223372036854775808 b=false := Bool.eq_false_iff.2 fun h => by have := Nat.le_of_ble_eq_true h; omega
  have h3:Nat.ble (Nat.succ a) b=false := Bool.eq_false_iff.2 fun h => by have := Nat.le_of_ble_eq_true h; omega
  rw [e0, CY, h1, h2, h3]; rfl
theorem UT {p:K4} {off len cap esz i:Nat} {ex:Bool} {κ:V->R} (h:i<len) (hi:i<9223372036854775808):DI esz (.sl p off len cap ex esz) (.int .i64 i) κ=κ (.ptr p (off+i*esz)) := by
  have e0:DI esz (.sl p off len cap ex esz) (.int .i64 i) κ=br (Nat.ble (Nat.succ i) 9223372036854775808) (br (Nat.beq esz esz) (br (Nat.ble (Nat.succ i) len) (A4 (Nat.add off (Nat.mul i esz)) fun o => κ (.ptr p o)) (.fail "")) (.fail "")) (.fail "") := rfl
  rw [e0, show Nat.ble (Nat.succ i) 9223372036854775808=true from Nat.ble_eq_true_of_le hi, show Nat.ble (Nat.succ i) len=true from Nat.ble_eq_true_of_le h, show Nat.beq esz esz=true from Nat.beq_refl _]
  show A4 (Nat.add off (Nat.mul i esz)) (fun o => κ (.ptr p o))=_
  rw [A2]; rfl
theorem Ug {p:K4} {off m c:Nat} {h:Heap} {sup:Bool} {prev:Option K4} {κ:V->R} (hp:A6 p h=some (.c (.b m c) sup prev)) (hv:off<m):BW (.ptr p off) h κ=κ (.int .u8 (lo (sh c off) 1)) := by
  show O5 p h (fun cs _ _ => H6 cs off κ)=_
  rw [GN]
  have e:(Jw p h fun cs _ _ => H6 cs off κ)=@Option.rec Ob (fun _ => R) (.fail "") (fun o => @Ob.rec (fun _ => R) (fun cs _ _ => H6 cs off κ) (fun _ _ _ => .fail "") (fun _ _ _ _ => .fail "") (.fail "") (fun _ _ => .fail "") o) (A6 p h) := Ee _ _ _
  rw [e, hp]
  show br (Nat.ble (Nat.succ off) m) (A4 (lo (sh c off) 1) fun r => κ (.int .u8 r)) (.fail "")=_
  rw [show Nat.ble (Nat.succ off) m=true from Nat.ble_eq_true_of_le hv]
  show A4 (lo (sh c off) 1) (fun r => κ (V.int .u8 r))=_
  rw [A2]
theorem SC (c:Nat):lo c 1<256 := by rw [FH]; exact Nat.mod_lt _ (by decide)
theorem SE (c a:Nat):sh (sh c a) 1=sh c (a+1) := by
  rw [GV, GV, GV, Nat.div_div_eq_div_mul, ←Nat.pow_add]
noncomputable def slE (v:V) (κ0:R) (κ:K4->Nat->Nat->Nat->R):R :=
  @V.rec (fun _ => R) (fun _ => Unit) (fun _ _ => κ0) (fun _ => κ0) (fun _ _ => κ0) (fun p off len _ _ esz => κ p off len esz) (fun _ _ => κ0) (fun _ _ => κ0) (fun _ => κ0) (fun _ => κ0) (fun _ _ _ => κ0) (fun _ _ => κ0) (fun _ => κ0) () (fun _ _ _ _ => ()) v
theorem SS {G:R->Prop} {v:V} {κ0:R} {κ:K4->Nat->Nat->Nat->R} (g0:G κ0) (g1:∀ p off len cap ex esz, v = .sl p off len cap ex esz->G (κ p off len esz)):G (slE v κ0 κ) := by
  cases v with
  | sl p off len cap ex esz => exact g1 p off len cap ex esz rfl
  | _ => exact g0
noncomputable def Xn (o:Eh) (κ0:R) (κ:Nat->Nat->R):R :=
  @Option.rec Ob (fun _ => R) κ0 (fun o => @Ob.rec (fun _ => R) (fun cs _ _ => @Cs.rec (fun _ => R) (fun _ => κ0) κ cs) (fun _ _ _ => κ0) (fun _ _ _ _ => κ0) κ0 (fun _ _ => κ0) o) o
theorem QE {G:R->Prop} {o:Eh} {κ0:R} {κ:Nat->Nat->R} (g0:G κ0) (g1:∀ n c sup prev, o=some (.c (.b n c) sup prev)->G (κ n c)):G (Xn o κ0 κ) := by
  cases o with
  | none => exact g0
  | some o => cases o with
    | c cs sup prev => cases cs with
      | l xs => exact g0
      | b n c => exact g1 n c sup prev rfl
    | _ => exact g0
noncomputable def Yj (v:V) (κ0:R) (κ:Nat->R):R :=
  @V.rec (fun _ => R) (fun _ => Unit) (fun k r => br (D0 k .u64) (κ r) κ0) (fun _ => κ0) (fun _ _ => κ0) (fun _ _ _ _ _ _ => κ0) (fun _ _ => κ0) (fun _ _ => κ0) (fun _ => κ0) (fun _ => κ0) (fun _ _ _ => κ0) (fun _ _ => κ0) (fun _ => κ0) () (fun _ _ _ _ => ()) v
theorem Va {G:R->Prop} {v:V} {κ0:R} {κ:Nat->R} (g0:G κ0) (g1:∀ r, v = .int .u64 r->G (κ r)):G (Yj v κ0 κ) := by
  cases v with
  | int k r =>
    show G (br (D0 k .u64) (κ r) κ0)
    cases hb:D0 k .u64 with
    | false => exact g0
    | true => exact g1 r (by rw [BV.1 hb])
  | _ => exact g0
noncomputable def Hl:S->Heap->K4->R := fun t h n => g6 t fun z5 => g5 t fun z6 => Dc z5 z6 fun z7 => DB z7 (B2 1 (g4 t fun z8 => DI 1 z8 z5 fun z9 => BW z9 h fun za => g3 t fun zb => FS .u32 za fun zc => Lm zb zc fun zd => B2 2 (w3 t zd fun t => w7 t (.int .i64 0) fun t => Ei Li t h n) fun t h n => .ok .nrm t h n) fun t h n => g6 t fun zo => CV zo (.int .i64 1) fun zp => w6 t zp fun t => .ok .nrm t h n) <| .ok (.exit 0) t h n
noncomputable def P5 (j:Nat):Nat->Nat->Nat := @Nat.rec (fun _ => Nat->Nat->Nat) (fun _ x => x) (fun _ ih d x => ih (sh d 1) (Pa (Nat.xor x (lo d 1)))) j
noncomputable def XV (j:Nat):Nat->Nat->(Nat->R)->R := @Nat.rec (fun _ => Nat->Nat->(Nat->R)->R) (fun _ x κ => κ x) (fun _ ih d x κ => A4 (Nat.xor x (lo d 1)) fun y => A4 (Pa y) fun x => A4 (sh d 1) fun d => ih d x κ) j
theorem ST:∀ (j d x:Nat) (κ:Nat->R), XV j d x κ=κ (P5 j d x)
  | 0, _, _, _ => rfl
  | j+1, d, x, κ => by
    show A4 (Nat.xor x (lo d 1)) (fun y => A4 (Pa y) fun x => A4 (sh d 1) fun d => XV j d x κ)=κ (P5 j (sh d 1) (Pa (Nat.xor x (lo d 1))))
    rw [A2, A2, A2, ST]
theorem WX (d j:Nat):lo (lo d (j+1)) 1=lo d 1 := by
  rw [FH, FH, FH, Nat.pow_succ, Nat.mod_mul_left_mod]
theorem WU (d j:Nat):sh (lo d (j+1)) 1=lo (sh d 1) j := by
  rw [FH, FH, GV, GV, Nat.pow_succ, Nat.pow_one, Nat.mul_comm, Nat.mod_mul_right_div_self]
theorem S9:∀ (j d x:Nat), P5 j (lo d j) x=P5 j d x
  | 0, _, _ => rfl
  | j+1, d, x => by
    show P5 j (sh (lo d (j+1)) 1) (Pa (Nat.xor x (lo (lo d (j+1)) 1)))=P5 j (sh d 1) (Pa (Nat.xor x (lo d 1)))
    rw [WX, WU, S9]
noncomputable def UC:QU := fun t h κ κ0 => g6 t fun i => g5 t fun m => g4 t fun s => g3 t fun x => Nh i κ0 fun i0 => Nh m κ0 fun m0 => slE s κ0 fun p off len esz => YR x κ0 fun x0 => Db p h fun o => Xn o κ0 fun nb c =>
  br (Nat.ble (Nat.succ i0) m0) (br (Nat.ble m0 len) (br (Nat.ble (Nat.add off len) nb) (br (Nat.beq esz 1) (br (Nat.ble (Nat.succ x0) 4294967296) (br (Nat.ble m0 4611686018427387904)
    (A4 (Nat.sub m0 i0) fun j => A4 (lo (sh c (Nat.add off i0)) j) fun d => XV j d x0 fun x => w3 t (.int .u32 x) fun t => w6 t (.int .i64 m0) fun t => w7 t (.int .i64 8) fun t => κ j t) κ0) κ0) κ0) κ0) κ0) κ0
theorem VG (body:S->Heap->K4->R) (k:Nat) (t:S) (h:Heap) (n:K4):Gw body (k+1) t h n=Qr (body t h n) (Gw body k) := FV body (k+1) t h n
theorem QT {id:Nat} {t:S} {h:Heap} {n:K4} {κ:S->Heap->K4->R}:B2 id (.ok (.exit id) t h n) κ=κ t h n := by
  show br (Nat.beq id id) (κ t h n) (.ok (.exit id) t h n)=κ t h n
  rw [Nat.beq_refl]; rfl
theorem Tj {d0 d1 d2 d4 d5 d6:V} {c2 c3 c4 c5 c6 c7:SQ} {h:Heap} {n:K4} {x:Nat} (hx:x<4294967296) :
    Ei Li (.mk (.mk d0 d1 d2 (.int .u32 x)) (.mk d4 d5 d6 (.int .i64 0)) c2 c3 c4 c5 c6 c7) h n = .ok (.exit 2) (.mk (.mk d0 d1 d2 (.int .u32 (Io 8 x))) (.mk d4 d5 d6 (.int .i64 8)) c2 c3 c4 c5 c6 c7) h n := by
  show Gw Li 1000000000 _ _ _=_
  rw [show (1000000000:Nat)=8+(999999991+1) from rfl, Ms 8 0 x (by omega) hx, VG]
  have e:Li (.mk (.mk d0 d1 d2 (.int .u32 (Io 8 x))) (.mk d4 d5 d6 (.int .i64 (0+8))) c2 c3 c4 c5 c6 c7) h n = .ok (.exit 2) (.mk (.mk d0 d1 d2 (.int .u32 (Io 8 x))) (.mk d4 d5 d6 (.int .i64 (0+8))) c2 c3 c4 c5 c6 c7) h n := by
    unfold Li
    show Dc (.int .i64 (0+8)) (.int .i64 8) _=_
    rw [ZX (by omega) (by omega)]; rfl
  rw [e]; rfl
theorem Vc {k:IntKind} {r:Nat} {κ:V->R} (h:r<256) (hk:256≤Mk k):FS k (.int .u8 r) κ=κ (.int k r) := by
  have e0:FS k (.int .u8 r) κ=br (Nat.ble (Nat.succ r) 256) (A4 (Nat.mod r (Mk k)) fun r => κ (.int k r)) (br (Nat.ble (Mk k) 256) (A4 (Nat.mod r (Mk k)) fun r => κ (.int k r)) (A4 (Nat.sub (Mk k) (Nat.sub 256 r)) fun r => κ (.int k r))) := rfl
  rw [e0, show Nat.ble (Nat.succ r) 256=true from Nat.ble_eq_true_of_le h]
  show A4 (Nat.mod r (Mk k)) (fun r => κ (V.int k r))=_
  rw [A2, show Nat.mod r (Mk k)=r from Nat.mod_eq_of_lt (by omega)]
theorem M3 {d0 d1 d2 d7:V} {c2 c3 c4 c5 c6 c7:SQ} {h:Heap} {n p:K4} {off len cap m i x nb c:Nat} {ex sup:Bool} {prev:Option K4}
    (hp:A6 p h=some (.c (.b nb c) sup prev)) (hi:i<m) (hm:m≤len) (hl:off+len≤nb) (hb:m≤4611686018427387904) (hx:x<4294967296) :
    Hl (.mk (.mk d0 d1 d2 (.int .u32 x)) (.mk (.sl p off len cap ex 1) (.int .i64 m) (.int .i64 i) d7) c2 c3 c4 c5 c6 c7) h n
      = .ok .nrm (.mk (.mk d0 d1 d2 (.int .u32 (Pa (Nat.xor x (lo (sh c (off+i)) 1))))) (.mk (.sl p off len cap ex 1) (.int .i64 m) (.int .i64 (i+1)) (.int .i64 8)) c2 c3 c4 c5 c6 c7) h n := by
  unfold Hl
  show Dc (.int .i64 i) (.int .i64 m) _=_
  rw [Sg hi hb]
  show B2 1 (DI 1 (.sl p off len cap ex 1) (.int .i64 i) _) _=_
  rw [UT (by omega) (by omega), Ug hp (by omega)]
  show B2 1 (FS .u32 (.int .u8 (lo (sh c (off+i*1)) 1)) _) _=_
  rw [Vc (SC _) (by decide), Nat.mul_one]
  have e3:∀ (a b:Nat) (κ:V->R), Lm (.int .u32 a) (.int .u32 b) κ=κ (.int .u32 (Nat.xor a b)) := fun a b κ => by
    have e0:Lm (.int .u32 a) (.int .u32 b) κ=A4 (Nat.xor a b) fun r => κ (.int .u32 r) := rfl
    rw [e0, A2]
  rw [e3]
  have hx2:Nat.xor x (lo (sh c (off+i)) 1)<4294967296 := Nat.xor_lt_two_pow (n := 32) hx (Nat.lt_trans (SC _) (by decide))
  rw [SW]
  generalize Nat.xor x (lo (sh c (off+i)) 1)=y at hx2
  show B2 1 (B2 2 (Ei Li (.mk (.mk d0 d1 d2 (.int .u32 y)) (.mk (.sl p off len cap ex 1) (.int .i64 m) (.int .i64 i) (.int .i64 0)) c2 c3 c4 c5 c6 c7) h n) _) _=_
  rw [Tj hx2, QT, Iq]
  show CV (.int .i64 i) (.int .i64 1) _=_
  rw [MH (by omega)]
theorem Lr {d0 d1 d2:V} {c2 c3 c4 c5 c6 c7:SQ} {h:Heap} {n p:K4} {off len cap m nb c:Nat} {ex sup:Bool} {prev:Option K4}
    (hp:A6 p h=some (.c (.b nb c) sup prev)) (hm:m≤len) (hl:off+len≤nb) (hb:m≤4611686018427387904) :
    ∀ (j i x:Nat) (d7:V), i+(j+1)≤m->x<4294967296->∀ K, Gw Hl (j+1+K) (.mk (.mk d0 d1 d2 (.int .u32 x)) (.mk (.sl p off len cap ex 1) (.int .i64 m) (.int .i64 i) d7) c2 c3 c4 c5 c6 c7) h n
      = Gw Hl K (.mk (.mk d0 d1 d2 (.int .u32 (P5 (j+1) (sh c (off+i)) x))) (.mk (.sl p off len cap ex 1) (.int .i64 m) (.int .i64 (i+(j+1))) (.int .i64 8)) c2 c3 c4 c5 c6 c7) h n
  | 0, i, x, d7, hj, hx, K => by
    rw [show 0+1+K=K+1 by omega, FV]
    show Qr (Hl _ h n) (Gw Hl K)=_
    rw [M3 hp (by omega) hm hl hb hx]; rfl
  | j+1, i, x, d7, hj, hx, K => by
    rw [show j+1+1+K=(j+1+K)+1 by omega, FV]
    show Qr (Hl _ h n) (Gw Hl (j+1+K))=_
    rw [M3 hp (by omega) hm hl hb hx]
    show Gw Hl (j+1+K) _ h n=_
    rw [Lr hp hm hl hb j (i+1) _ _ (by omega) (by rw [SW]; exact SH 8 (Nat.xor_lt_two_pow (n := 32) hx (Nat.lt_trans (SC _) (by decide)))) K]
    have e:P5 (j+1+1) (sh c (off+i)) x=P5 (j+1) (sh (sh c (off+i)) 1) (Pa (Nat.xor x (lo (sh c (off+i)) 1))) := rfl
    rw [e, SE, show off+(i+1)=off+i+1 by omega, show i+1+(j+1)=i+(j+1+1) by omega]
theorem U3:MT Hl UC := by
  intro t h κ κ0
  cases t with
  | mk c0 c1 c2 c3 c4 c5 c6 c7 =>
    cases c0 with
    | mk d0 d1 d2 x =>
      cases c1 with
      | mk s m i d7 =>
        obtain ⟨T, hT⟩:∃ T:S, T = .mk (.mk d0 d1 d2 x) (.mk s m i d7) c2 c3 c4 c5 c6 c7 := ⟨_, rfl⟩
        obtain ⟨G, hG⟩:∃ G:R->Prop, ∀ r, G r ↔ (r=κ0 ∨ ∃ j t', r=κ j t' ∧ ∀ k n, Gw Hl (j+k) T h n=Gw Hl k t' h n) := ⟨_, fun r => Iff.rfl⟩
        have g0:G κ0 := (hG _).2 (.inl rfl)
        rw [←hT]
        refine (hG _).1 ?_
        rw [hT]
        refine Hf (G := G) g0 fun i0 hi => Hf (G := G) g0 fun m0 hm => SS (G := G) g0 fun p off len cap ex esz hs => Ui (G := G) g0 fun x0 hx => Jo (G := G) (QE (G := G) g0 fun nb c sup prev hp => ?_)
        subst hi hm hs hx
        refine Fv (G := G) g0 fun b1 => Fv (G := G) g0 fun b2 => Fv (G := G) g0 fun b3 => Fv (G := G) g0 fun b4 => Fv (G := G) g0 fun b5 => Fv (G := G) g0 fun b6 => ?_
        have b1 := Nat.le_of_ble_eq_true b1
        have b2 := Nat.le_of_ble_eq_true b2
        have b3:off+len≤nb := Nat.le_of_ble_eq_true b3
        have b4 := Nat.eq_of_beq_eq_true b4
        have b5 := Nat.le_of_ble_eq_true b5
        have b6 := Nat.le_of_ble_eq_true b6
        subst b4
        obtain ⟨j, hj⟩:∃ j, Nat.sub m0 i0=j+1 := ⟨m0 - i0 - 1, by show m0 - i0=_; omega⟩
        have hj':m0 - i0=j+1 := hj
        rw [hj, A2, A2, ST, S9]
        refine (hG _).2 (.inr ⟨j+1, _, rfl, fun K n => ?_⟩)
        rw [hT, Lr hp b2 b3 b6 j i0 x0 d7 (by omega) b5 K, show i0+(j+1)=m0 by omega]; rfl
theorem WC:Ei Hl=Ls Hl UC := Ld U3
noncomputable def Ip:S->Heap->K4->R := fun t h n => g5 t fun z3 => g4 t fun z4 => Dc z3 z4 fun z5 => DB z5 (B2 1 (g3 t fun z6 => DI 1 z6 z3 fun z7 => BW z7 h fun z8 => g2 t fun z9 => Q9 z9 (.int .u64 8) fun za => FS .u64 z8 fun zb => UO za zb fun zc => w2 t zc fun t => .ok .nrm t h n) fun t h n => g5 t fun zd => CV zd (.int .i64 1) fun ze => w5 t ze fun t => .ok .nrm t h n) <| .ok (.exit 0) t h n
noncomputable abbrev LB (x b:Nat):Nat := Nat.lor (Nat.mod (Nat.shiftLeft x 8) 18446744073709551616) b
noncomputable def Kt (j:Nat):Nat->Nat->Nat := @Nat.rec (fun _ => Nat->Nat->Nat) (fun _ x => x) (fun _ ih d x => ih (sh d 1) (LB x (lo d 1))) j
noncomputable def V4 (j:Nat):Nat->Nat->(Nat->R)->R := @Nat.rec (fun _ => Nat->Nat->(Nat->R)->R) (fun _ x κ => κ x) (fun _ ih d x κ => A4 (LB x (lo d 1)) fun x => A4 (sh d 1) fun d => ih d x κ) j
theorem Q8:∀ (j d x:Nat) (κ:Nat->R), V4 j d x κ=κ (Kt j d x)
  | 0, _, _, _ => rfl
  | j+1, d, x, κ => by
    show A4 (LB x (lo d 1)) (fun x => A4 (sh d 1) fun d => V4 j d x κ)=κ (Kt j (sh d 1) (LB x (lo d 1)))
    rw [A2, A2, Q8]
theorem QQ:∀ (j d x:Nat), Kt j (lo d j) x=Kt j d x
  | 0, _, _ => rfl
  | j+1, d, x => by
    show Kt j (sh (lo d (j+1)) 1) (LB x (lo (lo d (j+1)) 1))=Kt j (sh d 1) (LB x (lo d 1))
    rw [WX, WU, QQ]
noncomputable def UA:QU := fun t h κ κ0 => g5 t fun i => g4 t fun m => g3 t fun s => g2 t fun x => Nh i κ0 fun i0 => Nh m κ0 fun m0 => slE s κ0 fun p off len esz => Yj x κ0 fun x0 => Db p h fun o => Xn o κ0 fun nb c =>
  br (Nat.ble (Nat.succ i0) m0) (br (Nat.ble m0 len) (br (Nat.ble (Nat.add off len) nb) (br (Nat.beq esz 1) (br (Nat.ble m0 4611686018427387904)
    (A4 (Nat.sub m0 i0) fun j => A4 (lo (sh c (Nat.add off i0)) j) fun d => V4 j d x0 fun x => w2 t (.int .u64 x) fun t => w5 t (.int .i64 m0) fun t => κ j t) κ0) κ0) κ0) κ0) κ0
theorem R3 {d0 d1 d6 d7:V} {c2 c3 c4 c5 c6 c7:SQ} {h:Heap} {n p:K4} {off len cap m i x nb c:Nat} {ex sup:Bool} {prev:Option K4}
    (hp:A6 p h=some (.c (.b nb c) sup prev)) (hi:i<m) (hm:m≤len) (hl:off+len≤nb) (hb:m≤4611686018427387904) :
    Ip (.mk (.mk d0 d1 (.int .u64 x) (.sl p off len cap ex 1)) (.mk (.int .i64 m) (.int .i64 i) d6 d7) c2 c3 c4 c5 c6 c7) h n
      = .ok .nrm (.mk (.mk d0 d1 (.int .u64 (LB x (lo (sh c (off+i)) 1))) (.sl p off len cap ex 1)) (.mk (.int .i64 m) (.int .i64 (i+1)) d6 d7) c2 c3 c4 c5 c6 c7) h n := by
  unfold Ip
  show Dc (.int .i64 i) (.int .i64 m) _=_
  rw [Sg hi hb]
  show B2 1 (DI 1 (.sl p off len cap ex 1) (.int .i64 i) _) _=_
  rw [UT (by omega) (by omega), Ug hp (by omega), Nat.mul_one]
  have e1:∀ (κ:V->R), Q9 (.int .u64 x) (.int .u64 8) κ=κ (.int .u64 (Nat.mod (Nat.shiftLeft x 8) 18446744073709551616)) := fun κ => by
    have e0:Q9 (.int .u64 x) (.int .u64 8) κ=A4 (Nat.mod (Nat.shiftLeft x 8) 18446744073709551616) fun r => κ (.int .u64 r) := rfl
    rw [e0, A2]
  have e2:∀ (a b:Nat) (κ:V->R), UO (.int .u64 a) (.int .u64 b) κ=κ (.int .u64 (Nat.lor a b)) := fun a b κ => by
    have e0:UO (.int .u64 a) (.int .u64 b) κ=A4 (Nat.lor a b) fun r => κ (.int .u64 r) := rfl
    rw [e0, A2]
  show B2 1 (Q9 (.int .u64 x) (.int .u64 8) _) _=_
  rw [e1, Vc (SC _) (by decide), e2, Iq]
  show CV (.int .i64 i) (.int .i64 1) _=_
  rw [MH (by omega)]
theorem LD {d0 d1 d6 d7:V} {c2 c3 c4 c5 c6 c7:SQ} {h:Heap} {n p:K4} {off len cap m nb c:Nat} {ex sup:Bool} {prev:Option K4}
    (hp:A6 p h=some (.c (.b nb c) sup prev)) (hm:m≤len) (hl:off+len≤nb) (hb:m≤4611686018427387904) :
    ∀ (j i x:Nat), i+j≤m->∀ K, Gw Ip (j+K) (.mk (.mk d0 d1 (.int .u64 x) (.sl p off len cap ex 1)) (.mk (.int .i64 m) (.int .i64 i) d6 d7) c2 c3 c4 c5 c6 c7) h n
      = Gw Ip K (.mk (.mk d0 d1 (.int .u64 (Kt j (sh c (off+i)) x)) (.sl p off len cap ex 1)) (.mk (.int .i64 m) (.int .i64 (i+j)) d6 d7) c2 c3 c4 c5 c6 c7) h n
  | 0, i, x, hj, K => by rw [Nat.zero_add]; rfl
  | j+1, i, x, hj, K => by
    rw [show j+1+K=(j+K)+1 by omega, FV]
    show Qr (Ip _ h n) (Gw Ip (j+K))=_
    rw [R3 hp (by omega) hm hl hb]
    show Gw Ip (j+K) _ h n=_
    rw [LD hp hm hl hb j (i+1) _ (by omega) K]
    have e:Kt (j+1) (sh c (off+i)) x=Kt j (sh (sh c (off+i)) 1) (LB x (lo (sh c (off+i)) 1)) := rfl
    rw [e, SE, show off+(i+1)=off+i+1 by omega, show i+1+j=i+(j+1) by omega]
theorem TI:MT Ip UA := by
  intro t h κ κ0
  cases t with
  | mk c0 c1 c2 c3 c4 c5 c6 c7 =>
    cases c0 with
    | mk d0 d1 x s =>
      cases c1 with
      | mk m i d6 d7 =>
        obtain ⟨T, hT⟩:∃ T:S, T = .mk (.mk d0 d1 x s) (.mk m i d6 d7) c2 c3 c4 c5 c6 c7 := ⟨_, rfl⟩
        obtain ⟨G, hG⟩:∃ G:R->Prop, ∀ r, G r ↔ (r=κ0 ∨ ∃ j t', r=κ j t' ∧ ∀ k n, Gw Ip (j+k) T h n=Gw Ip k t' h n) := ⟨_, fun r => Iff.rfl⟩
        have g0:G κ0 := (hG _).2 (.inl rfl)
        rw [←hT]
        refine (hG _).1 ?_
        rw [hT]
        refine Hf (G := G) g0 fun i0 hi => Hf (G := G) g0 fun m0 hm => SS (G := G) g0 fun p off len cap ex esz hs => Va (G := G) g0 fun x0 hx => Jo (G := G) (QE (G := G) g0 fun nb c sup prev hp => ?_)
        subst hi hm hs hx
        refine Fv (G := G) g0 fun b1 => Fv (G := G) g0 fun b2 => Fv (G := G) g0 fun b3 => Fv (G := G) g0 fun b4 => Fv (G := G) g0 fun b6 => ?_
        have b1 := Nat.le_of_ble_eq_true b1
        have b2 := Nat.le_of_ble_eq_true b2
        have b3:off+len≤nb := Nat.le_of_ble_eq_true b3
        have b4 := Nat.eq_of_beq_eq_true b4
        have b6 := Nat.le_of_ble_eq_true b6
        subst b4
        rw [A2, A2, Q8, QQ]
        refine (hG _).2 (.inr ⟨Nat.sub m0 i0, _, rfl, fun K n => ?_⟩)
        rw [hT, LD hp b2 b3 b6 (Nat.sub m0 i0) i0 x0 (by show i0+(m0 - i0)≤m0; omega) K, show i0+Nat.sub m0 i0=m0 by show i0+(m0 - i0)=m0; omega]; rfl
theorem WR:Ei Ip=Ls Ip UA := Ld TI
end Go.Ev

namespace Go.Ev
set_option linter.unusedVariables false
section
variable {P:Program} {ρ:Env} {B:Nat}
end
abbrev iI (n:Nat):V := .int .i64 n
abbrev iW (n:Nat):V := .int .u32 n
abbrev iB (n:Nat):V := .int .u8 n
abbrev iL (n:Nat):V := .int .u64 n
abbrev nR (t:S) (h:Heap) (n:K4):R := .ok .nrm t h n
abbrev rT (t:S) (h:Heap) (n:K4):R := .ok .ret t h n
noncomputable def o8 (i:Nat):O8 := @Nat.rec (fun _ => O8) .d0 (fun i _ => @Nat.rec (fun _ => O8) .d1 (fun i _ => @Nat.rec (fun _ => O8) .d2 (fun i _ => @Nat.rec (fun _ => O8) .d3 (fun i _ => @Nat.rec (fun _ => O8) .d4 (fun i _ => @Nat.rec (fun _ => O8) .d5 (fun i _ => @Nat.rec (fun _ => O8) .d6 (fun _ _ => .d7) i) i) i) i) i) i) i
noncomputable def o4 (i:Nat):O4 := @Nat.rec (fun _ => O4) .d0 (fun i _ => @Nat.rec (fun _ => O4) .d1 (fun i _ => @Nat.rec (fun _ => O4) .d2 (fun _ _ => .d3) i) i) i
noncomputable def mS (l:List Nat):SM := @List.rec Nat (fun _ => Nat->SM) (fun _ => []) (fun p _ ih i => (⟨D.ofN (Nat.div p 16), D.ofN (Nat.mod p 16)⟩, ⟨o8 (Nat.div i 4), o4 (Nat.mod i 4)⟩)::ih (Nat.succ i)) l 0
end Go.Ev

namespace Go.Ev
set_option linter.unusedVariables false
abbrev My := Nat->Option (Array Value×TypeId×(Nat×Nat))
/-- The environment of a program whose blocks gl stay as they are. -/
noncomputable def WZ (P:Program) (fs:List Nat) (gl:My):Env := { JP P fs with gl := gl }
section
variable {P:Program} {ρ:Env} {B:Nat}
theorem G5.gl {fs:List Nat} {gl:My} {f:FuncId} {e:Ent} (h:G5 P (JP P fs) f e):G5 P (WZ P fs gl) f e := h
/-- A table that stays. -/
def Wq (P:Program) (gl:My) (name:String) (k:IntKind) (zs:List Int):Prop := ∃ g e fr, P.globalNamed name=some g∧gl g=some ((zs.map fun z => Value.int k z).toArray, e, fr)
theorem Wq.is {gl:My} {name:String} {k:IntKind} {zs:List Int} {h:Heap} {n:K4} {φ:CP} {w:World} (t:Wq P gl name k zs) (hgl:ρ.gl=gl) (g:Gam ρ B h n φ w):Lib.TabIs P w name k zs := by
  obtain ⟨b, e, fr, h1, h2⟩ := t
  obtain ⟨_, h3⟩ := g.glob b _ e fr (by rw [hgl]; exact h2)
  unfold Lib.TabIs World.var?
  rw [h1, Option.bind_some, h3]
/-- The blocks of a world that a list names. -/
noncomputable def MO (w:World) (l:List Nat):My := fun b => if b∈l then (match w.heap[b]? with | some (.cells c e fr) => some (c, e, fr) | _ => none) else none
theorem W1 {P:Program} {fs:List Nat} {w:World} {l:List Nat}:Wo (WZ P fs (MO w l)) w := fun b c e fr h => by
  have h:MO w l b=some (c, e, fr) := h
  unfold MO at h
  split at h
  · split at h
    · rename_i c' e' fr' hw
      cases h
      refine ⟨?_, hw⟩
      rcases Nat.lt_or_ge b w.heap.size with hb | hb
      · exact hb
      · rw [Array.getElem?_eq_none hb] at hw; cases hw
    · cases h
  · cases h
theorem Wq.of {w:World} {l:List Nat} {g:Nat} {name:String} {k:IntKind} {zs:List Int} (hg:P.globalNamed name=some g) (hl:g∈l) (h:Lib.TabIs P w name k zs):Wq P (MO w l) name k zs := by
  unfold Lib.TabIs World.var? at h
  rw [hg, Option.bind_some] at h
  split at h
  · rename_i c e fr hw
    cases h
    refine ⟨g, e, fr, hg, ?_⟩
    unfold MO
    rw [if_pos hl, hw]
  · cases h
end
end Go.Ev

namespace Go.Ev
set_option linter.unusedVariables false
open Go.RowKit
section
variable {P:Program} {ρ:Env} {B:Nat}
/-- What stands below stays; new blocks are nothing to it. -/
theorem Gam.below {h:Heap} {n:K4} {φ:CP} {w w':World} (g:Gam ρ B h n φ w) (b:Below w.heap.size w w'):Gam ρ B h n φ w'∧Fr h h φ φ n n w w' := by
  obtain ⟨b1, b2, b3, b4, b5⟩ := b
  refine ⟨⟨Nat.le_trans g.base b4, g.dom, fun p b s t hp => ⟨(g.blk p b s t hp).1, Nat.lt_of_lt_of_le (g.blk p b s t hp).2 b4⟩, fun p o b s t ho hp => El (b5 b (g.blk p b s t hp).2) (g.obj p o b s t ho hp), g.sep, g.sup,
    fun b c e fr hb => ⟨(g.glob b c e fr hb).1, by rw [b5 b (Nat.lt_of_lt_of_le (g.glob b c e fr hb).1 g.base)]; exact (g.glob b c e fr hb).2⟩⟩,
    ⟨CP.le_refl φ, fun _ _ h => .inl h, Nat.le_refl _, b1, b2, b3, b4, fun b hb _ => b5 b hb, fun _ _ _ _ h => .inl h, fun _ _ h => h⟩⟩
end
end Go.Ev

namespace Go.Ev
set_option linter.unusedVariables false
/-- The environment of a program with symbols, whose blocks gl stay as they are. -/
noncomputable def LG (P:Program) (fs:List Nat) (v:Nat->Value) (gl:My):Env := { JP P fs with v := v, gl := gl }
theorem ZN {P:Program} {fs:List Nat} {v:Nat->Value} {gl:My} (h:∀ i, (v i).oneCell'=true):DA (LG P fs v gl) := h
section
variable {P:Program} {ρ:Env} {B:Nat}
theorem G5.ar {fs:List Nat} {v:Nat->Value} {gl:My} {f:FuncId} {e:Ent} (h:G5 P (JP P fs) f e):G5 P (LG P fs v gl) f e := h
theorem LH.mkA {fs:List Nat} {v:Nat->Value} {gl:My} {T:FC} (h:∀ f e, Ed (Dx f) T=some e->Oz P (LG P fs v gl) B f e) (ha:∀ f∈fs, ∃ e, Ed (Dx f) T=some e∧G5 P (LG P fs v gl) f e):LH P (LG P fs v gl) B T := by
  refine ⟨h, fun f A hA => ?_⟩
  have hA:@Bool.rec (fun _ => Option ApC) none (Nq P f) (fs.contains f)=some A := hA
  cases hc:fs.contains f with
  | false => rw [hc] at hA; cases hA
  | true => exact ha f (List.contains_iff_mem.1 hc)
theorem PJ {fs:List Nat} {v:Nat->Value} {w:World} {l:List Nat}:Wo (LG P fs v (MO w l)) w := fun b c e fr h => W1 (P := P) (fs := fs) (w := w) (l := l) b c e fr h
theorem T9 {w:World} {l:List Nat} {b:Nat} {c:Array Value} {e:TypeId} {fr:Nat×Nat} (hb:b∈l) (h:w.heap[b]? = some (.cells c e fr)):MO w l b=some (c, e, fr) := by
  unfold MO
  rw [if_pos hb, h]
/-- A cell of a world. -/
theorem Mj {w:World} {a:Addr} {v:Value} (h:w.cell? a=some v):∃ b o c e fr, a=⟨b, o, none⟩∧w.heap[b]? = some (.cells c e fr)∧c[o]? = some v := by
  obtain ⟨b, o, sp⟩ := a
  unfold World.cell? at h
  split at h
  · rename_i c e fr hw
    split at h
    · cases h
    · rename_i hs
      cases sp with
      | none => exact ⟨b, o, c, e, fr, rfl, hw, h⟩
      | some x => exact absurd rfl hs
  · cases h
end
section
variable {ρ:Env} {φ:CP} {b o len cap lo hi hi' i:Nat} {c:Array Value} {e:TypeId} {fr:Nat×Nat}
end
end Go.Ev

namespace Go.Ev
set_option linter.unusedVariables false
theorem Cd (k:IntKind) (a b:Nat) (κ:V->R):CV (.int k a) (.int k b) κ=κ (.int k ((a+b) % Mk k)) := by
  show kM k k (fun M => A4 (Nat.mod (Nat.add a b) M) fun r => κ (.int k r))=_
  rw [Qe, BV.2 rfl, Aa, A2]; rfl
/-- A difference. -/
noncomputable def Md (k:IntKind) (a b:Nat):Nat := (a+(Mk k - b)) % Mk k
theorem CH (k:IntKind) (a b:Nat) (κ:V->R):DW (.int k a) (.int k b) κ=κ (.int k (Md k a b)) := by
  show kM k k (fun M => A4 (Nat.mod (Nat.add a (Nat.sub M b)) M) fun r => κ (.int k r))=_
  rw [Qe, BV.2 rfl, Aa, A2]; rfl
theorem Cy (k:IntKind) (a b:Nat) (κ:V->R):OC (.int k a) (.int k b) κ=κ (.int k ((a*b) % Mk k)) := by
  show kM k k (fun M => A4 (Nat.mod (Nat.mul a b) M) fun r => κ (.int k r))=_
  rw [Qe, BV.2 rfl, Aa, A2]; rfl
theorem EU (a b:Nat):Nat.beq a b=decide (a=b) := by
  rw [Bool.eq_iff_iff, decide_eq_true_iff]
  exact ⟨Nat.eq_of_beq_eq_true, fun h => by rw [h]; exact Nat.beq_refl b⟩
theorem Cp (k:IntKind) (a b:Nat) (κ:V->R):E2 (.int k a) (.int k b) κ=κ (.bool (decide (a=b))) := by
  show kM k k (fun _ => DV (Nat.beq a b) fun r => κ (.bool r))=_
  rw [Qe, BV.2 rfl, Aa, CY, EU]
theorem CI (k:IntKind) (a b:Nat) (κ:V->R):E4 (.int k a) (.int k b) κ=κ (.bool (decide (¬ a=b))) := by
  show kM k k (fun _ => br (Nat.beq a b) (κ (.bool false)) (κ (.bool true)))=_
  rw [Qe, BV.2 rfl, Aa, EU]
  by_cases h:a=b
  · rw [decide_eq_true h, decide_eq_false (fun g => g h)]; rfl
  · rw [decide_eq_false h, decide_eq_true h]; rfl
/-- Signed numbers that are not negative, and unsigned ones, by their residues. -/
theorem Vq {k:IntKind} {a b:Nat} (ha:a<Hk k) (hb:b<Hk k):Ga k a b=decide (a<b) := by
  unfold Ga
  rw [CO ha, CO hb, AJ, AJ, Ac]
  exact decide_eq_decide.2 Nat.succ_le_iff
theorem Cf (k:IntKind) (a b:Nat) (κ:V->R):Dc (.int k a) (.int k b) κ=κ (.bool (Ga k a b)) := by
  show kH k k (fun H => DV (Wn H a b) fun r => κ (.bool r))=_
  rw [Sm, BV.2 rfl, Aa, CY]; rfl
theorem CJ (k:IntKind) (a b:Nat) (κ:V->R):ET (.int k a) (.int k b) κ=κ (.bool (Ga k b a)) := by
  show kH k k (fun H => DV (Wn H b a) fun r => κ (.bool r))=_
  rw [Sm, BV.2 rfl, Aa, CY]; rfl
theorem Cb (k:IntKind) (a b:Nat) (κ:V->R):KH (.int k a) (.int k b) κ=κ (.bool (!Ga k b a)) := by
  show kH k k (fun H => br (Wn H b a) (κ (.bool false)) (κ (.bool true)))=_
  rw [Sm, BV.2 rfl, Aa, UD]; cases Ga k b a <;> rfl
theorem Ce (k:IntKind) (a b:Nat) (κ:V->R):Gb (.int k a) (.int k b) κ=κ (.bool (!Ga k a b)) := by
  show kH k k (fun H => br (Wn H a b) (κ (.bool false)) (κ (.bool true)))=_
  rw [Sm, BV.2 rfl, Aa, UD]; cases Ga k a b <;> rfl
theorem Ci {k:IntKind} {a b:Nat} (ha:a<Hk k) (hb:b<Hk k) (h0:0<b) (κ:V->R):MM (.int k a) (.int k b) κ=κ (.int k (a / b)) := by
  show br (D0 k k) (br (Nat.ble (Nat.succ a) (Hk k)) (br (Nat.ble (Nat.succ b) (Hk k)) (br (Nat.ble 1 b) (A4 (Nat.div a b) fun r => κ (.int k r)) _) _) _) _=_
  rw [BV.2 rfl, Aa, A5.2 ha, Aa, A5.2 hb, Aa, A5.2 h0, Aa, A2]; rfl
theorem CG {k:IntKind} {a b:Nat} (ha:a<Hk k) (hb:b<Hk k) (h0:0<b) (κ:V->R):Vy (.int k a) (.int k b) κ=κ (.int k (a % b)) := by
  show br (D0 k k) (br (Nat.ble (Nat.succ a) (Hk k)) (br (Nat.ble (Nat.succ b) (Hk k)) (br (Nat.ble 1 b) (A4 (Nat.mod a b) fun r => κ (.int k r)) _) _) _) _=_
  rw [BV.2 rfl, Aa, A5.2 ha, Aa, A5.2 hb, Aa, A5.2 h0, Aa, A2]; rfl
theorem Cg (k:IntKind) (a b:Nat) (κ:V->R):Oo (.int k a) (.int k b) κ=κ (.int k (a &&& b)) := by
  show br (D0 k k) (A4 (Nat.land a b) fun r => κ (.int k r)) _=_
  rw [BV.2 rfl, Aa, A2]; rfl
theorem Do (k:IntKind) (a b:Nat) (κ:V->R):UO (.int k a) (.int k b) κ=κ (.int k (a ||| b)) := by
  show br (D0 k k) (A4 (Nat.lor a b) fun r => κ (.int k r)) _=_
  rw [BV.2 rfl, Aa, A2]; rfl
theorem Cm (k:IntKind) (a b:Nat) (κ:V->R):Lm (.int k a) (.int k b) κ=κ (.int k (a ^^^ b)) := by
  show br (D0 k k) (A4 (Nat.xor a b) fun r => κ (.int k r)) _=_
  rw [BV.2 rfl, Aa, A2]; rfl
/-- A number turned into one of another kind: not negative. -/
theorem Cz {k j:IntKind} {a:Nat} (h:a<Hk j) (κ:V->R):FS k (.int j a) κ=κ (.int k (a % Mk k)) := by
  show br (Nat.ble (Nat.succ a) (Hk j)) (A4 (Nat.mod a (Mk k)) fun r => κ (.int k r)) _=_
  rw [A5.2 h, Aa, A2]; rfl
theorem Ds (b:Bool) (x y:R):DB (.bool b) x y=bif b then x else y := by cases b <;> rfl
theorem BJ (b:Bool) (x y:V) (κ:V->R):CU (.bool b) x y κ=bif b then κ x else κ y := by cases b <;> rfl
theorem Ch (b:Bool) (κ:V->R):G8 (.bool b) κ=κ (.bool (!b)) := by cases b <;> rfl
theorem CK (w b:Bool) (h:Heap) (n:K4) (F:KV->R) (κ:KV):EA w (.bool b) h n F κ=bif b == w then F κ else κ E8 h n := by cases w <;> cases b <;> rfl
theorem Cv (w b:Bool) (F:(V->R)->R) (κ:V->R):gdV w (.bool b) F κ=bif b == w then F κ else κ E8 := by cases w <;> cases b <;> rfl
theorem C7 (v:V) (h:Heap) (n:K4) (κ:V->R):DF (.rv v h n) κ=κ v := id rfl
theorem CM (v:V) (h:Heap) (n:K4) (κ:KV):Hv (.rv v h n) κ=κ v h n := id rfl
theorem B4 (v:V) (h:Heap) (n:K4) (κ:KV):Ab (.rv v h n) κ=κ v h n := id rfl
theorem AR (t:S) (h:Heap) (n:K4) (κ:S->Heap->K4->R):DM (.ok .nrm t h n) κ=κ t h n := id rfl
theorem AM (i:Nat) (t:S) (h:Heap) (n:K4) (κ:S->Heap->K4->R):DM (.ok (.exit i) t h n) κ = .ok (.exit i) t h n := id rfl
theorem AX (t:S) (h:Heap) (n:K4) (κ:S->Heap->K4->R):DM (.ok .ret t h n) κ = .ok .ret t h n := id rfl
theorem AF (i:Nat) (t:S) (h:Heap) (n:K4) (κ:S->Heap->K4->R):B2 i (.ok .nrm t h n) κ=κ t h n := id rfl
theorem AD (i:Nat) (t:S) (h:Heap) (n:K4) (κ:S->Heap->K4->R):B2 i (.ok .ret t h n) κ = .ok .ret t h n := id rfl
theorem AA (i j:Nat) (t:S) (h:Heap) (n:K4) (κ:S->Heap->K4->R):B2 i (.ok (.exit j) t h n) κ=bif decide (j=i) then κ t h n else .ok (.exit j) t h n := by
  show br (Nat.beq j i) (κ t h n) (.ok (.exit j) t h n)=_
  rw [EU]; cases decide (j=i) <;> rfl
theorem AY (b:Bool) (x y:R) (κ:S->Heap->K4->R):DM (bif b then x else y) κ=bif b then DM x κ else DM y κ := by cases b <;> rfl
theorem As (i:Nat) (b:Bool) (x y:R) (κ:S->Heap->K4->R):B2 i (bif b then x else y) κ=bif b then B2 i x κ else B2 i y κ := by cases b <;> rfl
theorem Bo (b:Bool) (x y:R) (κ:V->R):DF (bif b then x else y) κ=bif b then DF x κ else DF y κ := by cases b <;> rfl
theorem BD (b:Bool) (x y:R) (κ:KV):Hv (bif b then x else y) κ=bif b then Hv x κ else Hv y κ := by cases b <;> rfl
/-- What a cell of an object is. -/
noncomputable def ldO (o:Eh) (off:Nat) (κ:V->R):R := @Option.rec Ob (fun _ => R) (.fail "") (fun o => @Ob.rec (fun _ => R) (fun cs _ _ => H6 cs off κ) (fun _ _ _ => .fail "") (fun _ _ _ _ => .fail "") (.fail "") (fun _ _ => .fail "") o) o
theorem Df (p:K4) (off:Nat) (h:Heap) (κ:V->R):BW (.ptr p off) h κ=ldO (A6 p h) off κ := by
  show O5 p h (fun cs _ _ => H6 cs off κ)=_
  rw [GN]; unfold Jw ldO; rw [Ee]
theorem CC (xs:List V) (s:Bool) (pr:Option K4) (off:Nat) (κ:V->R):ldO (some (.c (.l xs) s pr)) off κ=G6 off xs κ := id rfl
theorem BE (x:V) (xs:List V) (κ:V->R):G6 0 (x::xs) κ=κ x := id rfl
theorem Bx (m:Nat) (x:V) (xs:List V) (κ:V->R):G6 (m+1) (x::xs) κ=G6 m xs κ := id rfl
theorem Cn (off o:Nat) (p:K4) (κ:V->R):BO off (.ptr p o) κ=κ (.ptr p (o+off)) := by
  show A4 (Nat.add o off) (fun o => κ (.ptr p o))=_
  rw [A2]; rfl
theorem AS (p:K4) (o:Nat) (κ:V->R):AG (.ptr p o) κ=κ (.ptr p o) := id rfl
end Go.Ev

namespace Go.Ev
set_option linter.unusedVariables false
theorem D.nx_all (d:D):(d.toN=15 ∧ ∀ (k:D->R) (c:R), d.nx k c=c) ∨ ∃ e:D, e.toN=d.toN+1 ∧ ∀ (k:D->R) (c:R), d.nx k c=k e := by
  cases d
  case d0 => exact .inr ⟨.d1, rfl, fun _ _ => rfl⟩
  case d1 => exact .inr ⟨.d2, rfl, fun _ _ => rfl⟩
  case d2 => exact .inr ⟨.d3, rfl, fun _ _ => rfl⟩
  case d3 => exact .inr ⟨.d4, rfl, fun _ _ => rfl⟩
  case d4 => exact .inr ⟨.d5, rfl, fun _ _ => rfl⟩
  case d5 => exact .inr ⟨.d6, rfl, fun _ _ => rfl⟩
  case d6 => exact .inr ⟨.d7, rfl, fun _ _ => rfl⟩
  case d7 => exact .inr ⟨.d8, rfl, fun _ _ => rfl⟩
  case d8 => exact .inr ⟨.d9, rfl, fun _ _ => rfl⟩
  case d9 => exact .inr ⟨.d10, rfl, fun _ _ => rfl⟩
  case d10 => exact .inr ⟨.d11, rfl, fun _ _ => rfl⟩
  case d11 => exact .inr ⟨.d12, rfl, fun _ _ => rfl⟩
  case d12 => exact .inr ⟨.d13, rfl, fun _ _ => rfl⟩
  case d13 => exact .inr ⟨.d14, rfl, fun _ _ => rfl⟩
  case d14 => exact .inr ⟨.d15, rfl, fun _ _ => rfl⟩
  case d15 => exact .inl ⟨rfl, fun _ _ => rfl⟩
theorem K4.nx_all (p:K4) (h:p.toN<65535):∃ q:K4, q.toN=p.toN+1 ∧ ∀ k:K4->R, p.nx k=k q := by
  obtain ⟨a, b, c, d⟩ := p
  simp only [K4.toN] at h
  have hd0:D.d0.toN=0 := id rfl
  have ha := a.toN_lt; have hb := b.toN_lt; have hc := c.toN_lt; have hd := d.toN_lt
  rcases d.nx_all with ⟨d1, d2⟩ | ⟨e, d1, d2⟩
  · rcases c.nx_all with ⟨c1, c2⟩ | ⟨e, c1, c2⟩
    · rcases b.nx_all with ⟨b1, b2⟩ | ⟨e, b1, b2⟩
      · rcases a.nx_all with ⟨a1, a2⟩ | ⟨e, a1, a2⟩
        · omega
        · exact ⟨⟨e, .d0, .d0, .d0⟩, by simp only [K4.toN, hd0]; omega, fun k => by show d.nx _ (c.nx _ (b.nx _ (a.nx _ _)))=_; rw [d2, c2, b2, a2]⟩
      · exact ⟨⟨a, e, .d0, .d0⟩, by simp only [K4.toN, hd0]; omega, fun k => by show d.nx _ (c.nx _ (b.nx _ _))=_; rw [d2, c2, b2]⟩
    · exact ⟨⟨a, b, e, .d0⟩, by simp only [K4.toN, hd0]; omega, fun k => by show d.nx _ (c.nx _ _)=_; rw [d2, c2]⟩
  · exact ⟨⟨a, b, c, e⟩, by simp only [K4.toN]; omega, fun k => by show d.nx _ _=_; rw [d2]⟩
/-- The next place, where there is one. -/
noncomputable def K4.up (p:K4):K4 := if h:p.toN<65535 then Classical.choose (p.nx_all h) else p
theorem K4.up_toN {p:K4} (h:p.toN<65535):p.up.toN=p.toN+1 := by
  unfold K4.up; rw [dif_pos h]; exact (Classical.choose_spec (p.nx_all h)).1
theorem K4.nx_up {p:K4} (h:p.toN<65535) (k:K4->R):p.nx k=k p.up := by
  unfold K4.up; rw [dif_pos h]; exact (Classical.choose_spec (p.nx_all h)).2 k
theorem K4.ne_of_lt {p q:K4} (h:p.toN<q.toN):p≠q := fun e => by subst e; omega
theorem BT {n:K4} (hn:n.toN<65535) (h:Heap) (o:Ob) (κ:Heap->K4->R):Hy h n o κ=κ (Aq n h (some o)) n.up := by
  rw [Ji]
  have e:Fi h n o κ=n.nx fun n' => κ (Aq n h (some o)) n' := CS _ _ _ _
  rw [e, K4.nx_up hn]
theorem AW {n:K4} (hn:n.toN<65535) (h:Heap) (κ:KV):HS h n κ=κ (.map n) (Aq n h (some (.m [] [] 0))) n.up := BT hn _ _ _
theorem Bj {n:K4} (hn:n.toN<65535) (l:List V) (h:Heap) (κ:KV):HD (.agg l) h n κ=κ (.ptr n 0) (Aq n h (some (.c (.l l) false none))) n.up := BT hn _ _ _
theorem Cx {n:K4} (hn:n.toN<65535) (cs:Cs) (h:Heap) (κ:KV):S6 cs h n κ=κ (.ptr n 0) (Aq n h (some (.c cs false none))) n.up := BT hn _ _ _
theorem Br {n:K4} (hn:n.toN<65535) (len esz:Nat) (l:List V) (h:Heap) (κ:KV):GA false len esz l h n κ=κ (.sl n 0 len len true esz) (Aq n h (some (.c (.l l) false none))) n.up := BT hn _ _ _
theorem BB {n:K4} (hn:n.toN<65535) (esz:Nat) (h:Heap) (κ:KV):GA true 0 esz [] h n κ=κ (.sl n 0 0 0 true esz) (Aq n h (some (.c (.b 0 0) false none))) n.up := BT hn _ _ _
theorem LZ {p:K4} {h:Heap} {cs:Cs} {s:Bool} {pr:Option K4} (hp:A6 p h=some (.c cs s pr)) (κ:Cs->Bool->Option K4->R):Jw p h κ=κ cs s pr := by
  unfold Jw; rw [Ee, hp]
theorem XW {p:K4} {h:Heap} {es:List (V×V)} {bs:List Nat} {c:Nat} (hp:A6 p h=some (.m es bs c)) (κ:List (V×V)->List Nat->Nat->R):Oq p h κ=κ es bs c := by
  unfold Oq; rw [Ee, hp]
theorem Sl:∀ {off:Nat} {xs:List V} {v:V} {κ:List V->R}, off<xs.length->DT off xs v κ=κ (xs.set off v)
  | 0, [], v, κ, h => by simp at h
  | 0, x::xs, v, κ, h => rfl
  | off+1, [], v, κ, h => by simp at h
  | off+1, x::xs, v, κ, h => Sl (off := off) (xs := xs) (v := v) (κ := fun zs => κ (x::zs)) (by simpa using h)
/-- One cell of a struct. -/
theorem ZL {p:K4} {h:Heap} {xs:List V} {off:Nat} (hp:A6 p h=some (.c (.l xs) false none)) (ho:off<xs.length) (v:V) (κ:Heap->R):KZ h p off v κ=κ (Aq p h (some (.c (.l (xs.set off v)) false none))) := by
  rw [KZ, La, LZ hp]
  show DT off xs v (fun zs => Lx none h fun h => Hj p h (some (.c (.l zs) false none)) κ)=_
  rw [Sl ho]
  exact CS _ _ _ _
theorem HA.setS_setS (d:D) (p:HA) (x y:Eh):HA.setS d (HA.setS d p x) y=HA.setS d p y := by cases d <;> cases p <;> rfl
theorem HB.setS_setS (d:D) (p:HB) (x y:HA):HB.setS d (HB.setS d p x) y=HB.setS d p y := by cases d <;> cases p <;> rfl
theorem HC.setS_setS (d:D) (p:HC) (x y:HB):HC.setS d (HC.setS d p x) y=HC.setS d p y := by cases d <;> cases p <;> rfl
theorem Heap.setS_setS (d:D) (p:Heap) (x y:HC):Heap.setS d (Heap.setS d p x) y=Heap.setS d p y := by cases d <;> cases p <;> rfl
theorem Ao (p:K4) (h:Heap) (x y:Eh):Aq p (Aq p h x) y=Aq p h y := by
  cases p
  simp only [Aq, Hj, Heap.setK_eq, HC.setK_eq, HB.setK_eq, HA.setK_eq, Heap.selK_eq, HC.selK_eq, HB.selK_eq, id, Heap.sel_setS_same, HC.sel_setS_same, HB.sel_setS_same, Heap.setS_setS, HC.setS_setS, HB.setS_setS, HA.setS_setS]
/-- A store of one cell to a struct. -/
noncomputable def VK (o:Eh) (h:Heap) (p:K4) (off:Nat) (v:V) (κ:Heap->R):R :=
  match o with
  | some (.c (.l xs) false none) => bif Nat.ble (off+1) xs.length then κ (Aq p h (some (.c (.l (xs.set off v)) false none))) else KZ h p off v κ
  | _ => KZ h p off v κ
theorem Ke (h:Heap) (p:K4) (off:Nat) (v:V) (κ:Heap->R):KZ h p off v κ=VK (A6 p h) h p off v κ := by
  unfold VK
  split
  · rename_i xs hp
    cases hb:Nat.ble (off+1) xs.length with
    | true => exact ZL hp (A5.1 hb) v κ
    | false => rfl
  · rfl
theorem CL (xs:List V) (h:Heap) (p:K4) (off:Nat) (v:V) (κ:Heap->R):VK (some (.c (.l xs) false none)) h p off v κ=bif Nat.ble (off+1) xs.length then κ (Aq p h (some (.c (.l (xs.set off v)) false none))) else KZ h p off v κ := id rfl
theorem Bz (p:K4) (off:Nat) (h:Heap) (k:IntKind) (r:Nat) (κ:Heap->R):E0 (.ptr p off) (.int k r) h κ=VK (A6 p h) h p off (.int k r) κ := Ke _ _ _ _ _
theorem AV (p:K4) (off:Nat) (h:Heap) (b:Bool) (κ:Heap->R):E0 (.ptr p off) (.bool b) h κ=VK (A6 p h) h p off (.bool b) κ := Ke _ _ _ _ _
theorem B8 (p:K4) (off:Nat) (h:Heap) (q:K4) (r:Nat) (κ:Heap->R):E0 (.ptr p off) (.ptr q r) h κ=VK (A6 p h) h p off (.ptr q r) κ := Ke _ _ _ _ _
theorem Be (p:K4) (off:Nat) (h:Heap) (q:K4) (κ:Heap->R):E0 (.ptr p off) (.map q) h κ=VK (A6 p h) h p off (.map q) κ := Ke _ _ _ _ _
theorem BF (p:K4) (off:Nat) (h:Heap) (w:Nl) (κ:Heap->R):E0 (.ptr p off) (.nil w) h κ=VK (A6 p h) h p off (.nil w) κ := Ke _ _ _ _ _
theorem Ck (p:K4) (off:Nat) (h:Heap) (q:K4) (a b c:Nat) (e:Bool) (z:Nat) (κ:Heap->R):E0 (.ptr p off) (.sl q a b c e z) h κ=VK (A6 p h) h p off (.sl q a b c e z) κ := Ke _ _ _ _ _
theorem Ba (p:K4) (off:Nat) (h:Heap) (n c:Nat) (κ:Heap->R):E0 (.ptr p off) (.str n c) h κ=VK (A6 p h) h p off (.str n c) κ := Ke _ _ _ _ _
theorem Bk (neg:Bool) (p:K4) (o:Nat) (κ:V->R):GH neg (.rf .ptr) (.ptr p o) (.nil .ptr) κ=κ (.bool neg) := by cases neg <;> rfl
theorem B6 (neg:Bool) (w:Nl) (κ:V->R):GH neg (.rf w) (.nil w) (.nil w) κ=κ (.bool (!neg)) := by cases neg <;> cases w <;> rfl
theorem Bw (neg:Bool) (p:K4) (a b c:Nat) (e:Bool) (z:Nat) (κ:V->R):GH neg (.rf .sl) (.sl p a b c e z) (.nil .sl) κ=κ (.bool neg) := by cases neg <;> rfl
theorem BG (neg:Bool) (n c:Nat) (κ:V->R):GH neg (.rf .sl) (.oth (.rb n c)) (.nil .sl) κ=κ (.bool neg) := by cases neg <;> rfl
theorem Sv {a b:Nat} (ha:a<18446744073709551616) (hb:b<18446744073709551616):(CT (Hk .i64) (Mk .i64) a+1≤CT (Hk .i64) (Mk .i64) b ↔ Ga .i64 a b=true)∧(Ga .i64 a b=false->CT (Hk .i64) (Mk .i64) b≤CT (Hk .i64) (Mk .i64) a) := by
  have h1:∀ x:Nat, x<18446744073709551616->(Nat.ble (Hk .i64) x=true∧9223372036854775808≤x∧CT (Hk .i64) (Mk .i64) x=x - 9223372036854775808)∨(Nat.ble (Hk .i64) x=false∧x<9223372036854775808∧CT (Hk .i64) (Mk .i64) x=x+9223372036854775808) := fun x hx => by
    unfold CT
    rcases Nat.lt_or_ge x 9223372036854775808 with h | h
    · exact .inr ⟨CO h, h, by rw [CO (show x<Hk .i64 from h), AJ]; rfl⟩
    · exact .inl ⟨A5.2 h, h, by rw [A5.2 (show Hk .i64≤x from h), Aa]; rfl⟩
  have e:Ga .i64 a b=br (Nat.ble (Hk .i64) a) (br (Nat.ble (Hk .i64) b) (Nat.ble (Nat.succ a) b) true) (br (Nat.ble (Hk .i64) b) false (Nat.ble (Nat.succ a) b)) := id rfl
  rw [e]
  have h2 := h1 a ha; have h3 := h1 b hb
  clear h1 e
  generalize CT (Hk .i64) (Mk .i64) a=ka at *
  generalize CT (Hk .i64) (Mk .i64) b=kb at *
  rcases h2 with ⟨a1, a2, a3⟩ | ⟨a1, a2, a3⟩ <;> rcases h3 with ⟨b1, b2, b3⟩ | ⟨b1, b2, b3⟩ <;> rw [a1, b1] <;> simp only [Aa, AJ, Ac, decide_eq_true_eq, decide_eq_false_iff_not, Bool.true_eq_false, Bool.false_eq_true, iff_false, iff_true, Nat.succ_eq_add_one, false_implies, and_true, true_implies] <;> omega
theorem BZ {a b:Nat} (ha:a<18446744073709551616) (hb:b<18446744073709551616) (κ:V->R):LF (.int .i64 a) (.int .i64 b) κ=κ (.int .i64 (bif Ga .i64 a b then b else a)) := by
  have on:∀ x, EG (Hk .i64) x x=true := fun x => by
    unfold EG
    rcases Nat.lt_or_ge x (Hk .i64) with h | h
    · rw [A5.2 h, Aa]
    · rw [A5.2 h]; cases Nat.ble (Nat.succ x) (Hk .i64) <;> rfl
  show br (D0 .i64 .i64) (br (EG (Hk .i64) a a) (br (EG (Hk .i64) b b) (VI (CT (Hk .i64) (Mk .i64) a) (CT (Hk .i64) (Mk .i64) a) (CT (Hk .i64) (Mk .i64) b) (CT (Hk .i64) (Mk .i64) b) (κ (.int .i64 b)) (κ (.int .i64 a))) (.fail "")) (.fail "")) (.fail "")=_
  rw [BV.2 rfl, Aa, on, Aa, on, Aa]
  unfold VI
  obtain ⟨k1, k2⟩ := Sv ha hb
  cases hl:Ga .i64 a b with
  | true => rw [A5.2 (k1.2 hl), Aa]; rfl
  | false =>
    have:¬ (CT (Hk .i64) (Mk .i64) a+1≤CT (Hk .i64) (Mk .i64) b) := fun h => by rw [k1.1 h] at hl; cases hl
    rw [CO (by show _<_; omega), AJ, A5.2 (k2 hl), Aa]; rfl
theorem CD {a b:Nat} (ha:a<18446744073709551616) (hb:b<18446744073709551616) (κ:V->R):Qk (.int .i64 a) (.int .i64 b) κ=κ (.int .i64 (bif Ga .i64 b a then b else a)) := by
  have on:∀ x, EG (Hk .i64) x x=true := fun x => by
    unfold EG
    rcases Nat.lt_or_ge x (Hk .i64) with h | h
    · rw [A5.2 h, Aa]
    · rw [A5.2 h]; cases Nat.ble (Nat.succ x) (Hk .i64) <;> rfl
  show br (D0 .i64 .i64) (br (EG (Hk .i64) a a) (br (EG (Hk .i64) b b) (VI (CT (Hk .i64) (Mk .i64) b) (CT (Hk .i64) (Mk .i64) b) (CT (Hk .i64) (Mk .i64) a) (CT (Hk .i64) (Mk .i64) a) (κ (.int .i64 b)) (κ (.int .i64 a))) (.fail "")) (.fail "")) (.fail "")=_
  rw [BV.2 rfl, Aa, on, Aa, on, Aa]
  unfold VI
  obtain ⟨k1, k2⟩ := Sv hb ha
  cases hl:Ga .i64 b a with
  | true => rw [A5.2 (k1.2 hl), Aa]; rfl
  | false =>
    have:¬ (CT (Hk .i64) (Mk .i64) b+1≤CT (Hk .i64) (Mk .i64) a) := fun h => by rw [k1.1 h] at hl; cases hl
    rw [CO (by show _<_; omega), AJ, A5.2 (k2 hl), Aa]; rfl
theorem D9 {a b:Nat} (ha:a<9223372036854775808) (hb:b<9223372036854775808):Ga .i64 a b=decide (a<b) := Vq ha hb
theorem C4 {a b:Nat} (ha:9223372036854775808≤a) (hb:b<9223372036854775808):Ga .i64 a b=true := by
  unfold Ga; rw [A5.2 (show Hk .i64≤a from ha), CO (show b<Hk .i64 from hb)]; rfl
theorem C2 {a b:Nat} (ha:a<9223372036854775808) (hb:9223372036854775808≤b):Ga .i64 a b=false := by
  unfold Ga; rw [A5.2 (show Hk .i64≤b from hb), CO (show a<Hk .i64 from ha)]; rfl
theorem Cu {a b:Nat} (ha:9223372036854775808≤a) (hb:9223372036854775808≤b):Ga .i64 a b=decide (a<b) := by
  unfold Ga; rw [A5.2 (show Hk .i64≤a from ha), A5.2 (show Hk .i64≤b from hb), Aa, Aa, Ac]; exact decide_eq_decide.2 Nat.succ_le_iff
theorem ltu {k:IntKind} {a b:Nat} (hk:Hk k=Mk k) (ha:a<Mk k) (hb:b<Mk k):Ga k a b=decide (a<b) := Vq (by rw [hk]; exact ha) (by rw [hk]; exact hb)
theorem C9 {a b:Nat} (ha:a<18446744073709551616) (hb:b<18446744073709551616):Ga .u64 a b=decide (a<b) := ltu rfl ha hb
theorem BX {a b:Nat} (h:b≤a) (ha:a<18446744073709551616):Md .i64 a b=a - b := by
  unfold Md
  show (a+(18446744073709551616 - b)) % 18446744073709551616=_
  omega
theorem AL:Md .i64 0 1=18446744073709551615 := by decide
theorem AQ:Md .i64 18446744073709551615 1=18446744073709551614 := by decide
end Go.Ev

namespace Go.Ev
set_option linter.unusedVariables false
/-- A text, bytes in memory, bytes of memory that stays. -/
def sb (l:List UInt8):V := .str l.length (BU l)
def cb (l:List UInt8):Cs := .b l.length (BU l)
def Nd (l:List UInt8):V := .oth (.rb l.length (BU l))
theorem OD (l:List UInt8) (i m:Nat):lo (sh (BU l) i) m=BU ((l.drop i).take m) := by
  rw [FH, GV, Kv, Km]
theorem VD (l:List UInt8):lo (BU l) l.length=BU l := by
  rw [FH, Km, List.take_length]
theorem LR (a b:List UInt8):BU a+up (BU b) a.length=BU (a++b) := by
  rw [SP, J8]
theorem Oj {l:List UInt8} {i m:Nat} (h:i+m≤l.length):((l.drop i).take m).length=m := by
  rw [List.length_take, List.length_drop]; omega
theorem If {l:List UInt8} {i m:Nat} (h:i+m≤l.length) (κ:Cs->R):Dg (cb l) i m κ=κ (cb ((l.drop i).take m)) := by
  show br (Nat.ble (Nat.add i m) l.length) (A4 (lo (sh (BU l) i) m) fun r => κ (.b m r)) _=_
  rw [show Nat.ble (Nat.add i m) l.length=true from A5.2 h, Aa, A2, OD]
  unfold cb; rw [Oj h]
theorem WL (a b:List UInt8) (κ:Cs->R):U7 (cb a) (cb b) κ=κ (cb (a++b)) := by
  show A4 (Nat.add a.length b.length) (fun l => A4 (Nat.add (lo (BU a) a.length) (up (BU b) a.length)) fun r => κ (.b l r))=_
  rw [A2, A2, VD]
  show κ (.b (a.length+b.length) (BU a+up (BU b) a.length))=_
  rw [LR]; unfold cb; rw [List.length_append]
theorem Wd {a b:List UInt8} {i:Nat} (h:i+b.length≤a.length) (κ:Cs->R):Pm (cb a) i (cb b) κ=κ (cb (a.take i++(b++a.drop (i+b.length)))) := by
  show br (Nat.ble (Nat.add i b.length) a.length) (A4 (Nat.add (lo (BU a) i) (up (Nat.add (lo (BU b) b.length) (up (sh (BU a) (Nat.add i b.length)) b.length)) i)) fun r => κ (.b a.length r)) _=_
  rw [show Nat.ble (Nat.add i b.length) a.length=true from A5.2 h, Aa, A2, VD]
  have e1:sh (BU a) (Nat.add i b.length)=BU (a.drop (i+b.length)) := by rw [GV, Kv]; rfl
  have e2:Nat.add (BU b) (up (sh (BU a) (Nat.add i b.length)) b.length)=BU (b++a.drop (i+b.length)) := by rw [e1]; exact LR _ _
  have e3:lo (BU a) i=BU (a.take i) := by rw [FH, Km]
  have e4:i=(a.take i).length := by rw [List.length_take]; omega
  rw [e2, e3]
  have e5:Nat.add (BU (a.take i)) (up (BU (b++a.drop (i+b.length))) i)=BU (a.take i++(b++a.drop (i+b.length))) := by
    have := LR (a.take i) (b++a.drop (i+b.length))
    rw [←e4] at this; exact this
  rw [e5]
  unfold cb
  have e6:(a.take i++(b++a.drop (i+b.length))).length=a.length := by simp only [List.length_append, List.length_take, List.length_drop]; omega
  rw [e6]
theorem Xd (l:List UInt8) (h:l.length<9223372036854775808) (κ:V->R):JQ (sb l) κ=κ (.int .i64 l.length) := by
  show br (Nat.ble (Nat.succ l.length) 9223372036854775808) (κ (.int .i64 l.length)) _=_
  rw [A5.2 h, Aa]
theorem Yk {a b:List UInt8} (h:a.length+b.length≤1000000000) (κ:V->R):CV (sb a) (sb b) κ=κ (sb (a++b)) := by
  have e0:CV (sb a) (sb b) κ=Nr .add (sb a) (sb b) κ := Sq .add _ _ _
  rw [e0]
  show A4 (Nat.add a.length b.length) (fun l => br (Nat.ble l 1000000000) (A4 (Nat.add (BU a) (up (BU b) a.length)) fun r => κ (.str l r)) _)=_
  rw [A2, show Nat.ble (Nat.add a.length b.length) 1000000000=true from A5.2 h, Aa, A2]
  show κ (.str (a.length+b.length) (BU a+up (BU b) a.length))=_
  rw [LR]; unfold sb; rw [List.length_append]
theorem Us (a b:List UInt8):G7 a.length (BU a) b.length (BU b)=decide (a=b) := by
  unfold G7
  rw [EU, EU]
  by_cases h:a=b
  · subst h; simp
  · rw [decide_eq_false h]
    by_cases hl:a.length=b.length
    · rw [decide_eq_true hl, Bool.true_and, decide_eq_false (fun he => h (Kn hl he))]
    · rw [decide_eq_false hl]; rfl
theorem XC {p:K4} {h:Heap} {l:List UInt8} {s:Bool} {pr:Option K4} {off len cap:Nat} {ex:Bool} (hp:A6 p h=some (.c (cb l) s pr)) (hl:off+len≤l.length) (κ:V->R):G1 (.sl p off len cap ex 1) h κ=κ (sb ((l.drop off).take len)) := by
  show br (Nat.beq 1 1) (O5 p h fun cs _ _ => Dg cs off len fun y => @Cs.rec (fun _ => R) (fun l => EI l (fun m c => κ (.str m c)) (.fail "")) (fun m c => κ (.str m c)) y) (.fail "")=_
  rw [Nat.beq_refl, Aa, GN, LZ hp, If hl]; rfl
theorem Zp {p:K4} {h:Heap} {l:List UInt8} {s:Bool} {pr:Option K4} {off len cap:Nat} {ex:Bool} (hp:A6 p h=some (.c (cb l) s pr)) (hl:off+len≤l.length) (κ:Nat->Cs->R):JW 1 (.sl p off len cap ex 1) h κ=κ len (cb ((l.drop off).take len)) := by
  show br (Nat.beq 1 1) (Jw p h fun cs _ _ => A4 (Nat.mul len 1) fun m => Dg cs off m fun y => κ len y) (.fail "")=_
  rw [Nat.beq_refl, Aa, LZ hp, A2, show Nat.mul len 1=len from Nat.mul_one len, If hl]
theorem WE {m:Nat} (hm:0<m) (hm2:m≤1000000000000) {n:K4} (hn:n.toN<65535) (y:Cs) (h:Heap) (κ:KV):EX 1 1 (.nil .sl) m y h n κ=κ (.sl n 0 m m false 1) (Aq n h (some (.c y false none))) n.up := by
  show br (Nat.beq m 0) (κ (.nil .sl) h n) (br (Nat.ble (Nat.mul (Nat.add (Nat.mul 4 m) 4096) 1) 281474976710656) (Hy h n (.c y false none) fun h' n' => κ (.sl n 0 m m false 1) h' n') (.fail ""))=_
  rw [EU, decide_eq_false (by omega), AJ, show Nat.ble (Nat.mul (Nat.add (Nat.mul 4 m) 4096) 1) 281474976710656=true from A5.2 (by show (4*m+4096)*1≤_; omega), Aa, BT hn]
theorem V6 {x:V} (hx:x = .nil .sl ∨ ∃ p off len cap ex, x = .sl p off len cap ex 1) (y:Cs) (h:Heap) (n:K4) (κ:KV):EX 1 1 x 0 y h n κ=κ x h n := by
  rcases hx with rfl | ⟨p, off, len, cap, ex, rfl⟩ <;> rfl
/-- Bytes of one's own, full: they grow, and lie anew. -/
theorem MJ {p:K4} {h:Heap} {a b:List UInt8} {pr:Option K4} (hp:A6 p h=some (.c (cb a) false pr)) {ex:Bool} (hb:0<b.length) (hm2:a.length+b.length≤1000000000000) {n:K4} (hn:n.toN<65535) (κ:KV) :
    EX 1 1 (.sl p 0 a.length a.length ex 1) b.length (cb b) h n κ=if ex then κ (.sl n 0 (a++b).length (a++b).length false 1) (Aq n h (some (.c (cb (a++b)) false none))) n.up
      else κ (.sl n 0 (a++b).length (a++b).length false 1) (Aq n (Aq p (HQ pr h) (some (.c (cb a) true none))) (some (.c (cb (a++b)) false (some p)))) n.up := by
  show br (Nat.beq 1 1) (br (Nat.beq b.length 0) (κ (.sl p 0 a.length a.length ex 1) h n) (A4 (Nat.add a.length b.length) fun need => br (Nat.ble need a.length) (A4 (Nat.add 0 (Nat.mul a.length 1)) fun j => Hq h p j (cb b) fun h' => κ (.sl p 0 need a.length ex 1) h' n)
    (br (Nat.ble (Nat.mul (Nat.add (Nat.mul 4 need) 4096) 1) 281474976710656)
      (O5 p h fun cs sup prev => A4 (Nat.mul a.length 1) fun l => Dg cs 0 l fun x => U7 x (cb b) fun z =>
        br ex (Hy h n (.c z false none) fun h' n' => κ (.sl n 0 need need false 1) h' n')
          (br sup (.fail "") (A4 (Nat.add 0 l) fun j => Dg cs 0 j fun old => Lx prev h fun h => Hj p h (some (.c old true none)) fun h =>
            Hy h n (.c z false (some p)) fun h' n' => κ (.sl n 0 need need false 1) h' n'))) (.fail "")))) (.fail "")=_
  have e1:∀ l:List UInt8, (l.drop 0).take l.length=l := fun l => by rw [List.drop_zero, List.take_length]
  have e3:Nat.ble (Nat.mul (Nat.add (Nat.mul 4 (Nat.add a.length b.length)) 4096) 1) 281474976710656=true := A5.2 (by show (4*(a.length+b.length)+4096)*1≤_; omega)
  have e4:Nat.ble (Nat.add a.length b.length) a.length=false := CO (by show a.length<a.length+b.length; omega)
  rw [Nat.beq_refl, Aa, EU, decide_eq_false (by omega), AJ, A2, e4, AJ, e3, Aa, GN, LZ hp, A2, show Nat.mul a.length 1=a.length from Nat.mul_one _, If (by omega), e1, WL]
  have e2:Nat.add a.length b.length=(a++b).length := by rw [List.length_append]; rfl
  rw [e2]
  cases ex with
  | true => rw [Aa, BT hn]; rfl
  | false =>
    rw [AJ, AJ, A2, show Nat.add 0 a.length=a.length from Nat.zero_add _, If (by omega), e1, IY, CS, BT hn]; rfl
end Go.Ev

namespace Go.Ev
set_option linter.unusedVariables false
theorem Cj (c:IZ) (en:List V->(S->R)->R) (bo:IZ->S->Heap->K4->R) (re:S->Heap->K4->R) (args:List V) (h:Heap) (n:K4):P9 c (some (.code en bo re)) args h n=en args fun t => M4 (bo c t h n) re := id rfl
theorem Dv (v:V) (l:List V) (k:V->List V->R):OX (v::l) k=k v l := id rfl
theorem Du (k:R):U4 [] k=k := id rfl
theorem BK (t:S) (h:Heap) (n:K4) (res:S->Heap->K4->R):M4 (.ok .ret t h n) res=res t h n := id rfl
theorem Bm (t:S) (h:Heap) (n:K4) (res:S->Heap->K4->R):M4 (.ok .nrm t h n) res=res t h n := id rfl
theorem Bl (b:Bool) (x y:R) (res:S->Heap->K4->R):M4 (bif b then x else y) res=bif b then M4 x res else M4 y res := by cases b <;> rfl
theorem Dp (t:S) (h:Heap) (n:K4):rT t h n = .ok .ret t h n := id rfl
theorem Dr (t:S) (h:Heap) (n:K4):nR t h n = .ok .nrm t h n := id rfl
theorem Dm (r:Nat):iI r = .int .i64 r := id rfl
theorem Dw (v:V) (κ:V->R):DF (D4 v) κ=κ v := id rfl
end Go.Ev

namespace Go.Ev
set_option linter.unusedVariables false
noncomputable def WQ (o:Eh) (κ:List (V×V)->List Nat->Nat->R):R :=
  @Option.rec Ob (fun _ => R) (.fail "") (fun o => @Ob.rec (fun _ => R) (fun _ _ _ => .fail "") κ (fun _ _ _ _ => .fail "") (.fail "") (fun _ _ => .fail "") o) o
theorem C3 (es:List (V×V)) (bs:List Nat) (c:Nat) (κ:List (V×V)->List Nat->Nat->R):WQ (some (.m es bs c)) κ=κ es bs c := id rfl
theorem LE (p:K4) (h:Heap) (κ:List (V×V)->List Nat->Nat->R):Oq p h κ=WQ (A6 p h) κ := by unfold Oq; rw [Ee]; rfl
theorem Dl (p:K4) (a c:Nat) (w:V) (h:Heap) (κ:Heap->R):Pw (.sc .s) (.map p) (.str a c) w h κ=WQ (A6 p h) fun es bs k => GP (.sc .s) (.str a c) w es fun es' => U5 es' bs k fun bs' k' => κ (Aq p h (some (.m es' bs' k'))) := by
  show PQ p h (fun es bs c' k => GP (.sc .s) (.str a c) w es fun es => U5 es bs c' fun bs c => k es bs c) κ=_
  rw [KE, LE]
  simp only [CS]
theorem Dq (z:V) (p:K4) (a c:Nat) (h:Heap) (κ:V->R):K9 (.sc .s) z false (.map p) (.str a c) h κ=WQ (A6 p h) fun es _ _ => GU (.sc .s) (.str a c) es κ (κ z) := by
  show Se p h (fun es _ _ => GU (.sc .s) (.str a c) es (fun r => κ r) (κ z))=_
  rw [Hh, LE]
theorem Ca (p:K4) (a c:Nat) (h:Heap) (κ:Heap->R):QA (.sc .s) (.map p) (.str a c) h κ=WQ (A6 p h) fun es bs k => JE (.sc .s) (.str a c) es fun es2 => JG (.sc .s) (.str a c) es bs fun bs' => κ (Aq p h (some (.m es2 bs' k))) := by
  show PQ p h (fun es bs c' k => JE (.sc .s) (.str a c) es fun es2 => JG (.sc .s) (.str a c) es bs fun bs => k es2 bs c') κ=_
  rw [KE, LE]
  simp only [CS]
theorem XB (es:List (V×V)) (κ:Nat->R):UL es κ=κ es.length := by
  induction es generalizing κ with
  | nil => rfl
  | cons e es ih => exact (ih fun n => A4 (Nat.succ n) κ).trans (A2 _ _)
theorem AH {m:Nat} (h:m<9223372036854775808) (κ:V->R):Fy m κ=κ (.int .i64 m) := by
  show br (Nat.ble (Nat.succ m) 9223372036854775808) (κ (.int .i64 m)) (.fail "")=_
  rw [show Nat.ble (Nat.succ m) 9223372036854775808=true from A5.2 h, Aa]
theorem C8 (p:K4) (h:Heap) (κ:V->R):QG (.map p) h κ=WQ (A6 p h) fun es _ _ => Fy es.length κ := by
  show Se p h (fun es _ _ => UL es fun m => Fy m κ)=_
  rw [Hh, LE]
  simp only [XB]
theorem Aj (k:V) (κf:V->R) (κn:R):GU (.sc .s) k [] κf κn=κn := id rfl
theorem Ak (a c m d:Nat) (w:V) (es:List (V×V)) (κf:V->R) (κn:R):GU (.sc .s) (.str a c) ((.str m d, w)::es) κf κn=bif G7 a c m d then κf w else GU (.sc .s) (.str a c) es κf κn := by
  show DV (G7 a c m d) (fun r => br r (κf w) (GU (.sc .s) (.str a c) es κf κn))=_
  rw [CY]; cases G7 a c m d <;> rfl
theorem Az (k v:V) (κ:List (V×V)->R):GP (.sc .s) k v [] κ=κ [(k, v)] := id rfl
theorem At (a c m d:Nat) (v w:V) (es:List (V×V)) (κ:List (V×V)->R):GP (.sc .s) (.str a c) v ((.str m d, w)::es) κ=bif G7 a c m d then κ ((.str a c, v)::es) else GP (.sc .s) (.str a c) v es fun l => κ ((.str m d, w)::l) := by
  show DV (G7 a c m d) (fun r => br r (κ ((.str a c, v)::es)) (GP (.sc .s) (.str a c) v es fun l => κ ((.str m d, w)::l)))=_
  rw [CY]; cases G7 a c m d <;> rfl
theorem Av (k:V) (κ:List (V×V)->R):JE (.sc .s) k [] κ=κ [] := id rfl
theorem Aw (a c m d:Nat) (w:V) (es:List (V×V)) (κ:List (V×V)->R):JE (.sc .s) (.str a c) ((.str m d, w)::es) κ=bif G7 a c m d then κ es else JE (.sc .s) (.str a c) es fun l => κ ((.str m d, w)::l) := by
  show DV (G7 a c m d) (fun r => br r (κ es) (JE (.sc .s) (.str a c) es fun l => κ ((.str m d, w)::l)))=_
  rw [CY]; cases G7 a c m d <;> rfl
theorem AB (k:V) (bs:List Nat) (κ:List Nat->R):JG (.sc .s) k [] bs κ=κ bs := id rfl
theorem AE (a c m d b:Nat) (w:V) (es:List (V×V)) (bs:List Nat) (κ:List Nat->R):JG (.sc .s) (.str a c) ((.str m d, w)::es) (b::bs) κ=bif G7 a c m d then κ bs else JG (.sc .s) (.str a c) es bs fun l => κ (b::l) := by
  show DV (G7 a c m d) (fun r => br r (κ bs) (JG (.sc .s) (.str a c) es bs fun l => κ (b::l)))=_
  rw [CY]; cases G7 a c m d <;> rfl
theorem Ay (a c m d:Nat):G7 a c m d=(decide (a=m)&&decide (c=d)) := by unfold G7; rw [EU, EU]
theorem Qz:∀ (es:List (V×V)) (bs:List Nat), Iy es bs=decide (es.length=bs.length)
  | [], [] => rfl
  | [], _::_ => rfl
  | _::_, [] => rfl
  | e::es, b::bs => by
    have := Qz es bs
    show Iy es bs=_
    rw [this]; simp
theorem W6 (bs:List Nat) (c:Nat) (κ:List Nat->R):SJ bs c κ=κ (bs++[c]) := by
  induction bs generalizing κ with
  | nil => rfl
  | cons b bs ih => exact ih fun l => κ (b::l)
theorem Cl (es:List (V×V)) (bs:List Nat) (c:Nat) (κ:List Nat->Nat->R):U5 es bs c κ=bif decide (es.length=bs.length) then κ bs c else κ (bs++[c]) (c+1) := by
  unfold U5
  rw [Qz]
  cases decide (es.length=bs.length) with
  | true => rfl
  | false =>
    rw [AJ, W6, A2]; rfl
theorem BC (x v:V) (xs:List V) (κ:List V->R):DT 0 (x::xs) v κ=κ (v::xs) := id rfl
theorem Bi (m:Nat) (x v:V) (xs:List V) (κ:List V->R):DT (m+1) (x::xs) v κ=DT m xs v fun zs => κ (x::zs) := id rfl
theorem Bs (o:Nat) (k:IntKind) (r:Nat) (z:List V) (κ:List V->R):BQ o (.int k r) z κ=DT o z (.int k r) κ := id rfl
theorem AO (o:Nat) (b:Bool) (z:List V) (κ:List V->R):BQ o (.bool b) z κ=DT o z (.bool b) κ := id rfl
theorem Bc (o:Nat) (p:K4) (r:Nat) (z:List V) (κ:List V->R):BQ o (.ptr p r) z κ=DT o z (.ptr p r) κ := id rfl
theorem B7 (o:Nat) (p:K4) (z:List V) (κ:List V->R):BQ o (.map p) z κ=DT o z (.map p) κ := id rfl
theorem B9 (o:Nat) (a c:Nat) (z:List V) (κ:List V->R):BQ o (.str a c) z κ=DT o z (.str a c) κ := id rfl
theorem B3 (o:Nat) (w:Nl) (z:List V) (κ:List V->R):BQ o (.nil w) z κ=DT o z (.nil w) κ := id rfl
theorem BY (o:Nat) (q:K4) (a b c:Nat) (e:Bool) (x:Nat) (z:List V) (κ:List V->R):BQ o (.sl q a b c e x) z κ=DT o z (.sl q a b c e x) κ := id rfl
noncomputable def XT (o:Eh) (m off:Nat) (κ:V->R):R := @Option.rec Ob (fun _ => R) (.fail "") (fun o => @Ob.rec (fun _ => R) (fun cs _ _ => Dg cs off m fun y => GE y fun l => κ (.agg l)) (fun _ _ _ => .fail "") (fun _ _ _ _ => .fail "") (.fail "") (fun _ _ => .fail "") o) o
theorem Cc (m:Nat) (p:K4) (off:Nat) (h:Heap) (κ:V->R):MP m (.ptr p off) h κ=XT (A6 p h) m off κ := by
  show O5 p h (fun cs _ _ => Dg cs off m fun y => GE y fun l => κ (.agg l))=_
  rw [GN]; unfold Jw XT; rw [Ee]
theorem K4.nx16_all (p:K4) (h:p.toN<65520):∃ q:K4, q.toN=(p.toN / 16+1)*16∧q.d = .d0 ∧ ∀ k:K4->R, p.nx16 k=k q := by
  obtain ⟨a, b, c, d⟩ := p
  simp only [K4.toN] at h
  have hd0:D.d0.toN=0 := rfl
  have ha := a.toN_lt; have hb := b.toN_lt; have hc := c.toN_lt; have hd := d.toN_lt
  rcases c.nx_all with ⟨c1, c2⟩ | ⟨e, c1, c2⟩
  · rcases b.nx_all with ⟨b1, b2⟩ | ⟨e, b1, b2⟩
    · rcases a.nx_all with ⟨a1, a2⟩ | ⟨e, a1, a2⟩
      · omega
      · exact ⟨⟨e, .d0, .d0, .d0⟩, by simp only [K4.toN, hd0]; omega, rfl, fun k => by show c.nx _ (b.nx _ (a.nx _ _))=_; rw [c2, b2, a2]⟩
    · exact ⟨⟨a, e, .d0, .d0⟩, by simp only [K4.toN, hd0]; omega, rfl, fun k => by show c.nx _ (b.nx _ _)=_; rw [c2, b2]⟩
  · exact ⟨⟨a, b, e, .d0⟩, by simp only [K4.toN, hd0]; omega, rfl, fun k => by show c.nx _ _=_; rw [c2]⟩
open Classical in
noncomputable def K4.up16 (p:K4):K4 := if h:p.toN<65520 then Classical.choose (p.nx16_all h) else p
theorem K4.up16_toN {p:K4} (h:p.toN<65520):p.up16.toN=(p.toN / 16+1)*16 := by
  unfold K4.up16; rw [dif_pos h]; exact (Classical.choose_spec (p.nx16_all h)).1
theorem K4.nx16_up {p:K4} (h:p.toN<65520) (k:K4->R):p.nx16 k=k p.up16 := by
  unfold K4.up16; rw [dif_pos h]; exact (Classical.choose_spec (p.nx16_all h)).2.2 k
noncomputable def K4.pl (p:K4) (j:D):K4 := ⟨p.a, p.b, p.c, j⟩
theorem K4.pl_toN {p:K4} (h:p.toN<65520) (j:D):(p.up16.pl j).toN=(p.toN / 16+1)*16+j.toN := by
  have h1 := K4.up16_toN h
  have h2:p.up16.d = .d0 := by unfold K4.up16; rw [dif_pos h]; exact (Classical.choose_spec (p.nx16_all h)).2.1
  rw [←h1]
  unfold K4.pl
  simp only [K4.toN, h2]
  show _=_+(D.d0.toN)+_
  rw [show D.d0.toN=0 from rfl, Nat.add_zero]
theorem Bd {n:K4} (h:n.toN<65000) (κ:K4->K4->R):PK n κ=κ n.up16 n.up16.up16 := by
  show n.nx16 (fun b => b.nx16 fun n => κ b n)=_
  have := K4.up16_toN (p := n) (by omega)
  rw [K4.nx16_up (by omega), K4.nx16_up (by omega)]
/-- What is asked of a place that is to be free. -/
noncomputable def frO (o:Eh) (κ:R):R := In o κ
theorem Ar (κ:R):frO none κ=κ := id rfl
theorem Dt (b:K4) (j:D) (h:Heap) (κ:R):X7 b j h κ=frO (A6 (b.pl j) h) κ := by
  show b.at j (fun r => Db r h fun x => In x κ)=_
  rw [K4.at_eq, Dy]; rfl
theorem Dn (b:K4) (j:D) (h:Heap) (F:K4->R) (κ:V->Heap->R):alX b j h F κ=frO (A6 (b.pl j) h) (Hv (F (b.pl j)) fun v h _ => κ v h) := by
  show b.at j (fun r => Db r h fun x => In x (Hv (F r) fun v h _ => κ v h))=_
  rw [K4.at_eq, Dy]; rfl
theorem Ah {p q:K4} (h:q.toN<p.toN) (hp:Heap) (o:Option Ob):A6 q (Aq p hp o)=A6 q hp := A1 _ _ fun e => by subst e; omega
theorem Ai {p q:K4} (h:p.toN<q.toN) (hp:Heap) (o:Option Ob):A6 q (Aq p hp o)=A6 q hp := A1 _ _ fun e => by subst e; omega
theorem AZ (v:V) (h:Heap) (n:K4) (κ:KV):EO (.rv v h n) κ=κ v h n := id rfl
theorem Co (p:K4) {h:Heap} {n:K4} (hn:n.toN<65535) (κ:KV):TV (.map p) h n κ=WQ (A6 p h) fun _ _ c => κ (.ptr n 0) (Aq n h (some (.it p c [] c))) n.up := by
  show Se p h (fun _ _ c => Hy h n (.it p c [] c) fun h' n' => κ (.ptr n 0) h' n')=_
  rw [Hh, LE]
  simp only [BT hn]
noncomputable def itO (o:Eh) (κ0:R) (κ:K4->Nat->List Nat->Nat->R):R := @Option.rec Ob (fun _ => R) (.fail "") (fun o => @Ob.rec (fun _ => R) (fun _ _ _ => .fail "") (fun _ _ _ => .fail "") κ κ0 (fun _ _ => .fail "") o) o
theorem Bu (p:K4) (a:Nat) (l:List Nat) (c:Nat) (κ0:R) (κ:K4->Nat->List Nat->Nat->R):itO (some (.it p a l c)) κ0 κ=κ p a l c := id rfl
theorem X4 (q:K4) (h:Heap) (κ0:R) (κ:K4->Nat->List Nat->Nat->R):WK q h κ0 κ=itO (A6 q h) κ0 κ := Dy _ _ _
theorem CE (q:K4) (h:Heap) (n:K4) (κ:KV):Tf (.ptr q 0) h n κ=itO (A6 q h) (κ (.tup [.bool false]) h n) fun p since seen c => WQ (A6 p h) fun es bs clk => br (JM since bs) (br (Nat.ble since c)
    (Ir seen (PE q p since seen clk h n κ) es bs (κ (.tup [.bool false]) h n)) (.fail "")) (.fail "") := by
  show br (Nat.beq 0 0) (WK q h (κ (.tup [.bool false]) h n) fun p since seen c => Se p h fun es bs clk => br (JM since bs) (br (Nat.ble since c) (Ir seen (PE q p since seen clk h n κ) es bs (κ (.tup [.bool false]) h n)) (.fail "")) (.fail "")) (.fail "")=_
  rw [Nat.beq_refl, Aa, X4, Hh]
  simp only [LE]
theorem Ag (seen:List Nat) (leaf:V×V->Nat->R) (bs:List Nat) (none:R):Ir seen leaf [] bs none=none := id rfl
theorem A9 (seen:List Nat) (leaf:V×V->Nat->R) (e:V×V) (es:List (V×V)) (b:Nat) (bs:List Nat) (none:R):Ir seen leaf (e::es) (b::bs) none=br (Ie b seen) (Ir seen leaf es bs none) (HY seen leaf es bs (leaf e b)) := id rfl
theorem Af (seen:List Nat) (leaf:V×V->Nat->R) (bs:List Nat) (acc:R):HY seen leaf [] bs acc=acc := id rfl
theorem Au (b:Nat):Ie b []=false := id rfl
theorem Al (b x:Nat) (l:List Nat):Ie b (x::l)=(decide (x=b) || Ie b l) := by
  show br (Nat.beq x b) true (Ie b l)=_
  rw [EU]; cases decide (x=b) <;> rfl
theorem Am (s:Nat):JM s []=true := id rfl
theorem Ae (s b:Nat) (bs:List Nat):JM s (b::bs)=(decide (b<s)&&JM s bs) := by
  show br (Nat.ble (Nat.succ b) s) (JM s bs) false=_
  rw [Ac]
  cases h:decide (Nat.succ b≤s) with
  | true => rw [decide_eq_true (show b<s from of_decide_eq_true h)]; rfl
  | false => rw [decide_eq_false (show ¬ b<s from of_decide_eq_false h)]; rfl
theorem AT (q p:K4) (since:Nat) (seen:List Nat) (clk:Nat) (h:Heap) (n:K4) (κ:KV) (k x:V) (b:Nat):PE q p since seen clk h n κ (k, x) b=κ (.tup [.bool true, k, x]) (Aq q h (some (.it p since (b::seen) clk))) n := by
  show DG q h (some (.it p since (b::seen) clk)) (fun h' => κ (.tup [.bool true, k, x]) h' n)=_
  rw [DJ, CS]
theorem De (b:Bool) (x y:R):br b x y=bif b then x else y := by cases b <;> rfl
theorem Bn (q:K4) (h:Heap) (n:K4) (κ:KV):O9 (.ptr q 0) h n κ=itO (A6 q h) (.fail "") fun p since seen c => WQ (A6 p h) fun es bs clk => bif decide (clk=c) then (@List.rec Nat (fun _ => R) (.fail "") (fun s _ _ => Ii s es bs fun k x => κ (.tup [k, x]) h n) seen) else .fail "" := by
  show br (Nat.beq 0 0) (WK q h (.fail "") fun p since seen c => Se p h fun es bs clk => br (Nat.beq clk c) (@List.rec Nat (fun _ => R) (.fail "") (fun s _ _ => Ii s es bs fun k x => κ (.tup [k, x]) h n) seen) (.fail "")) (.fail "")=_
  rw [Nat.beq_refl, Aa, X4, Hh]
  simp only [LE, EU, De]
theorem Ad (s:Nat) (k x:V) (es:List (V×V)) (b:Nat) (bs:List Nat) (κ:V->V->R):Ii s ((k, x)::es) (b::bs) κ=bif decide (b=s) then κ k x else Ii s es bs κ := by
  show br (Nat.beq b s) (κ k x) (Ii s es bs κ)=_
  rw [EU, De]
theorem BA (x:V) (l:List V) (κ:V->R):DN 0 (.tup (x::l)) κ=κ x := id rfl
theorem BH (x y:V) (l:List V) (κ:V->R):DN 1 (.tup (x::y::l)) κ=κ y := id rfl
theorem Bq (x y z:V) (l:List V) (κ:V->R):DN 2 (.tup (x::y::z::l)) κ=κ z := id rfl
theorem ZH (c:IZ) (f:Nat) (its:List Nat) (rd:Rd) (s:V) (h:Heap) (n:K4) (hits:∀ g κ, g∈its->KC g its κ=κ) (g:Nat) (caps:List V) (hs:s = .fn g caps) (hg:g∈its) (hn:n.toN<65000) :
    P9 c (some (.ap f its rd)) [.nil .sl, s] h n=EO (c (Dx g) (.oth (.yl n.up)::caps) (Aq n.up (Aq n h (some (.c (.l [.nil .sl]) false none))) (some (.lp f n))) n.up.up) fun _ h m => Db n.up h fun o => VU o (O5 n h fun cs _ _ => H6 cs 0 fun sv => DG n h none fun h => DG n.up h none fun h => .rv sv h m) := by
  subst hs
  have h1 := K4.up_toN (p := n) (by omega)
  show KC g its (DG n h (some (.c (.l [.nil .sl]) false none)) fun h => n.nx fun n1 => DG n1 h (some (.lp f n)) fun h => n1.nx fun n2 =>
      EO (c (Dx g) (.oth (.yl n1)::caps) h n2) fun _ h m =>
        Db n1 h fun o => VU o (O5 n h fun cs _ _ => H6 cs 0 fun sv => DG n h none fun h => DG n1 h none fun h => .rv sv h m))=_
  rw [hits g _ hg, DJ, CS, K4.nx_up (by omega), DJ, CS, K4.nx_up (by omega)]
noncomputable def lpO (o:Eh) (κ:Nat->K4->R):R := @Option.rec Ob (fun _ => R) (.fail "") (fun o => @Ob.rec (fun _ => R) (fun _ _ _ => .fail "") (fun _ _ _ => .fail "") (fun _ _ _ _ => .fail "") (.fail "") (fun f box => κ f box) o) o
theorem Bf (f:Nat) (b:K4) (κ:Nat->K4->R):lpO (some (.lp f b)) κ=κ f b := id rfl
theorem CA (c:IZ) (p:K4) (x:V) (h:Heap) (n:K4) (κ:KV):TU c (.oth (.yl p)) [x] h n κ=lpO (A6 p h) fun f box => EO (c (Dx f) [.oth .no, .ptr box 0, x] (Aq p h none) n) fun v h n => κ v (Aq p h (some (.lp f box))) n := by
  show Db p h (fun o => @Option.rec Ob (fun _ => R) (.fail "") (fun o => @Ob.rec (fun _ => R) (fun _ _ _ => .fail "") (fun _ _ _ => .fail "") (fun _ _ _ _ => .fail "") (.fail "")
    (fun f box => DG p h none fun h => EO (c (Dx f) [.oth .no, .ptr box 0, x] h n) fun v h n => DG p h (some (.lp f box)) fun h => κ v h n) o) o)=_
  rw [Dy]
  unfold lpO
  simp only [DJ, CS]
theorem Dh (c:IZ) (f:Nat) (its:List Nat) (rd:Rd) (b x:V) (h:Heap) (n:K4):P9 c (some (.ap f its rd)) [.oth .no, b, x] h n=rd c b x h n := id rfl
noncomputable def VT (o:Eh) (off m:Nat) (κ:Cs->R):R := @Option.rec Ob (fun _ => R) (.fail "") (fun o => @Ob.rec (fun _ => R) (fun cs _ _ => Dg cs off m κ) (fun _ _ _ => .fail "") (fun _ _ _ _ => .fail "") (.fail "") (fun _ _ => .fail "") o) o
theorem CB (z eb:Nat) (u:V) (p:K4) (off len cap:Nat) (ex:Bool) (h:Heap) (n:K4) (κ:KV):I3 z eb u (.sl p off len cap ex z) h n κ=VT (A6 p h) off (len*z) fun y => EX z eb u len y h n κ := by
  show br (Nat.beq z z) (Jw p h fun cs _ _ => A4 (Nat.mul len z) fun m => Dg cs off m fun y => EX z eb u len y h n κ) (.fail "")=_
  rw [Nat.beq_refl, Aa]
  unfold Jw VT
  rw [Ee]
  simp only [A2]; rfl
theorem Bt {z eb m:Nat} (hm:0<m) (hs:(4*m+4096)*eb≤281474976710656) {n:K4} (hn:n.toN<65535) (y:Cs) (h:Heap) (κ:KV):EX z eb (.nil .sl) m y h n κ=κ (.sl n 0 m m false z) (Aq n h (some (.c y false none))) n.up := by
  show br (Nat.beq m 0) (κ (.nil .sl) h n) (br (Nat.ble (Nat.mul (Nat.add (Nat.mul 4 m) 4096) eb) 281474976710656) (Hy h n (.c y false none) fun h' n' => κ (.sl n 0 m m false z) h' n') (.fail ""))=_
  rw [EU, decide_eq_false (by omega), AJ, show Nat.ble (Nat.mul (Nat.add (Nat.mul 4 m) 4096) eb) 281474976710656=true from A5.2 hs, Aa, BT hn]
theorem Zi (z:Nat) {p:K4} {off len cap:Nat} {ex:Bool} {k:IntKind} {a:Nat} (ha:a<Hk k) (hl:a<len) (κ:V->R):DI z (.sl p off len cap ex z) (.int k a) κ=κ (.ptr p (off+a*z)) := by
  show br (Nat.ble (Nat.succ a) (Hk k)) (br (Nat.beq z z) (br (Nat.ble (Nat.succ a) len) (A4 (Nat.add off (Nat.mul a z)) fun o => κ (.ptr p o)) (.fail "")) (.fail "")) (.fail "")=_
  rw [show Nat.ble (Nat.succ a) (Hk k)=true from A5.2 ha, Aa, Nat.beq_refl, Aa, show Nat.ble (Nat.succ a) len=true from A5.2 hl, Aa, A2]; rfl
theorem Cq {z:Nat} {p:K4} {off len cap:Nat} {ex:Bool} {a:Nat} (ha:a<9223372036854775808) (hl:a<len) (κ:V->R):DI z (.sl p off len cap ex z) (.int .i64 a) κ=κ (.ptr p (off+a*z)) := Zi z (k := .i64) ha hl κ
theorem B5 {n:K4} (hn:n.toN<65535) (p:K4) (h:Heap) (κ:KV):HD (.map p) h n κ=κ (.ptr n 0) (Aq n h (some (.c (.l [.map p]) false none))) n.up := BT hn _ _ _
theorem Dk:Hk .i64=9223372036854775808 := rfl
theorem Cw {p:K4} {off len cap:Nat} {ex:Bool} {z:Nat} (h:len<9223372036854775808) (κ:V->R):D7 (.sl p off len cap ex z) κ=κ (.int .i64 len) := AH h κ
theorem By (κ:V->R):D7 (.nil .sl) κ=κ (.int .i64 0) := id rfl
theorem Bv {n c:Nat} (h:n<9223372036854775808) (κ:V->R):D7 (.oth (.rb n c)) κ=κ (.int .i64 n) := AH h κ
theorem Bh {l:List RV} {m z:Nat} (h:m<9223372036854775808) (κ:V->R):D7 (.oth (.rx l m z)) κ=κ (.int .i64 m) := AH h κ
/-- Nothing stands where nothing was Nf. -/
def DU (h:Heap) (n:K4):Prop := ∀ q:K4, n.toN≤q.toN->A6 q h=none
theorem Bb (a b c:V) (s:Bool) (pr:Option K4) (κ:V->R):XT (some (.c (.l [a, b, c]) s pr)) 3 0 κ=κ (.agg [a, b, c]) := id rfl
theorem BL (a b c:V) (s:Bool) (pr:Option K4) (κ:Cs->R):VT (some (.c (.l [a, b, c]) s pr)) 0 3 κ=κ (.l [a, b, c]) := id rfl
theorem Bp (a:V) (s:Bool) (pr:Option K4) (κ:Cs->R):VT (some (.c (.l [a]) s pr)) 0 1 κ=κ (.l [a]) := id rfl
theorem AU (a b c x y z:V) (κ:List V->R):Lh 0 3 (.agg [a, b, c]) [x, y, z] κ=κ [a, b, c] := id rfl
theorem R2 (body:S->Heap->K4->R) (t:S) (h:Heap) (n:K4):Ei body t h n=Qr (body t h n) fun t h n => Qr (body t h n) (Gw body 999999998) := id rfl
theorem Mt (body:S->Heap->K4->R) (t:S) (h:Heap) (n:K4):Ei body t h n=Qr (body t h n) (Gw body 999999999) := id rfl
theorem R9 (body:S->Heap->K4->R) (m:Nat) (t:S) (h:Heap) (n:K4):Gw body (m+1) t h n=Qr (body t h n) (Gw body m) := id rfl
theorem C5 (t:S) (h:Heap) (n:K4) (κ:S->Heap->K4->R):Qr (.ok .nrm t h n) κ=κ t h n := id rfl
theorem C1 (i:Nat) (t:S) (h:Heap) (n:K4) (κ:S->Heap->K4->R):Qr (.ok (.exit i) t h n) κ = .ok (.exit i) t h n := id rfl
theorem Cr (t:S) (h:Heap) (n:K4) (κ:S->Heap->K4->R):Qr (.ok .ret t h n) κ = .ok .ret t h n := id rfl
theorem Ct (b:Bool) (x y:R) (κ:S->Heap->K4->R):Qr (bif b then x else y) κ=bif b then Qr x κ else Qr y κ := by cases b <;> rfl
theorem AP (p:K4) (h:Heap) (i:Nat) (κ:V->R):O5 p h (fun cs _ _ => H6 cs i κ)=ldO (A6 p h) i κ := Df p i h κ
theorem Ax (p:K4) (h:Heap) (κ:R):Db p h (fun o => VU o κ)=VU (A6 p h) κ := Dy _ _ _
theorem BI (f:Nat) (b:K4) (κ:R):VU (some (.lp f b)) κ=κ := id rfl
theorem AN (p:K4) (h:Heap) (o:Eh) (κ:Heap->R):DG p h o κ=κ (Aq p h o) := by rw [DJ, CS]
end Go.Ev

namespace Go.Ev
set_option linter.unusedVariables false
theorem K4.beq_self (p:K4):p.beq p=true := K4.beq_iff.2 rfl
theorem Rp (k:IntKind) (r:Nat) (κ:R):DK (.int k r) (.int k r) κ=κ := by
  show br (D0 k k) (br (Nat.beq r r) κ _) _=_
  rw [BV.2 rfl, Nat.beq_refl]; rfl
theorem Xt (p:K4) (κ:R):DK (.map p) (.map p) κ=κ := by
  show br (K4.beq p p) κ _=_
  rw [K4.beq_self]; rfl
theorem Xi (w:Nl) (κ:R):DK (.nil w) (.nil w) κ=κ := by cases w <;> rfl
theorem Y3 (p:K4) (a b c:Nat) (e:Bool) (z:Nat) (κ:R):DK (.sl p a b c e z) (.sl p a b c e z) κ=κ := by
  show br (K4.beq p p) (br (and (Nat.beq a a) (and (Nat.beq b b) (and (Nat.beq c c) (and (Bool.rec (Bool.rec true false e) e e) (Nat.beq z z))))) κ _) _=_
  rw [K4.beq_self]; simp only [Nat.beq_refl]; cases e <;> rfl
def IK (es:List (V×V)):Prop := ∀ e∈es, ∃ r w, e=(.int .i64 r, w)
theorem IK.nil:IK [] := fun e h => by cases h
theorem Zd (k:Nat) (w:V):∀ es:List (V×V), IK es->∃ es', (∀ κ:List (V×V)->R, GP (.sc .i) (.int .i64 k) w es κ=κ es')∧IK es'∧es'.length≤es.length+1
  | [], _ => ⟨[(.int .i64 k, w)], fun κ => rfl, fun e he => by rcases List.mem_singleton.1 he with rfl; exact ⟨k, w, rfl⟩, by simp⟩
  | e::es, h => by
    obtain ⟨r, u, rfl⟩ := h e List.mem_cons_self
    have hes:IK es := fun x hx => h x (List.mem_cons_of_mem _ hx)
    obtain ⟨es', h1, h2, h3⟩ := Zd k w es hes
    cases hb:Nat.beq k r with
    | true => exact ⟨(.int .i64 k, w)::es, fun κ => by
        show DV (Nat.beq k r) (fun q => br q (κ ((.int .i64 k, w)::es)) (GP (.sc .i) (.int .i64 k) w es fun l => κ ((.int .i64 r, u)::l)))=_
        rw [CY, hb]; rfl, fun x hx => by
        rcases List.mem_cons.1 hx with rfl | hx
        · exact ⟨k, w, rfl⟩
        · exact hes x hx, by simp⟩
    | false => exact ⟨(.int .i64 r, u)::es', fun κ => by
        show DV (Nat.beq k r) (fun q => br q (κ ((.int .i64 k, w)::es)) (GP (.sc .i) (.int .i64 k) w es fun l => κ ((.int .i64 r, u)::l)))=_
        rw [CY, hb]; exact h1 _, fun x hx => by
        rcases List.mem_cons.1 hx with rfl | hx
        · exact ⟨r, u, rfl⟩
        · exact h2 x hx, by simp only [List.length_cons]; omega⟩
theorem Aam {q:K4} {h:Heap} {es:List (V×V)} {bs:List Nat} {c:Nat} (hq:A6 q h=some (.m es bs c)) (hk:IK es) (k:Nat) (w:V) :
    ∃ es' bs' c', (∀ κ:Heap->R, Pw (.sc .i) (.map q) (.int .i64 k) w h κ=κ (Aq q h (some (.m es' bs' c'))))∧IK es' := by
  obtain ⟨es', h1, h2, h3⟩ := Zd k w es hk
  refine ⟨es', if es'.length=bs.length then bs else bs++[c], if es'.length=bs.length then c else c+1, fun κ => ?_, h2⟩
  show PQ q h (fun es bs c' k' => GP (.sc .i) (.int .i64 k) w es fun es => U5 es bs c' fun bs c => k' es bs c) κ=_
  rw [KE, XW hq, h1]
  rw [Uo]; exact CS _ _ _ _
def Ku (p:K4) (h:Heap) (c:V) (l:List UInt8):Prop := (c = .nil .sl∧l=[]) ∨ ∃ ex, c = .sl p 0 l.length l.length ex 1∧A6 p h=some (.c (cb l) false none)
theorem Ku.frame {p:K4} {h h':Heap} {c:V} {l:List UInt8} (H:Ku p h c l) (e:A6 p h'=A6 p h):Ku p h' c l := by
  rcases H with H | ⟨ex, h1, h2⟩
  · exact .inl H
  · exact .inr ⟨ex, h1, e.trans h2⟩
theorem Ku.len {p:K4} {h:Heap} {c:V} {l:List UInt8} (H:Ku p h c l) (hl:l.length<9223372036854775808) (κ:V->R):D7 c κ=κ (.int .i64 l.length) := by
  rcases H with ⟨rfl, rfl⟩ | ⟨ex, rfl, h2⟩
  · rfl
  · exact AH hl κ
theorem Q2:∀ m:Nat, BU (List.replicate m 0)=0
  | 0 => rfl
  | m+1 => by rw [List.replicate_succ]; show (0:UInt8).toNat+256*BU (List.replicate m 0)=0; rw [Q2 m]; rfl
theorem RA (u:V) {m:Nat} (hm:m≤1000000000000) (h:Heap) (n:K4) (κ:KV):Ix 1 1 true [.int .u8 0] u (.int .i64 m) h n κ=EX 1 1 u m (cb (List.replicate m 0)) h n κ := by
  show br (Nat.ble (Nat.succ m) 9223372036854775808) (br (Nat.ble (Nat.mul 1 m) 281474976710656) (EX 1 1 u m (.b m 0) h n κ) (.fail "")) (.fail "")=_
  rw [show Nat.ble (Nat.succ m) 9223372036854775808=true from A5.2 (by omega), Aa, show Nat.ble (Nat.mul 1 m) 281474976710656=true from A5.2 (by rw [show Nat.mul 1 m=m from Nat.one_mul m]; omega), Aa]
  unfold cb
  rw [Q2, List.length_replicate]
theorem UU {p:K4} {h:Heap} {c:V} {bs:List UInt8} (H:Ku p h c bs) {m:Nat} (hm:0<m) (hb:bs.length+m≤1000000000) {n:K4} (hn:n.toN<65000) (hpn:p.toN<n.toN) :
    ∃ h' pr, (∀ κ:KV, Ix 1 1 true [.int .u8 0] c (.int .i64 m) h n κ=κ (.sl n 0 (bs++List.replicate m 0).length (bs++List.replicate m 0).length false 1) h' n.up)∧A6 n h'=some (.c (cb (bs++List.replicate m 0)) false pr)∧(pr=none∨pr=some p) ∧
      (∀ q:K4, q≠n->q≠p->A6 q h'=A6 q h) := by
  rcases H with ⟨rfl, rfl⟩ | ⟨ex, rfl, h2⟩
  · refine ⟨_, none, fun κ => ?_, A0 _ _ _, .inl rfl, fun q hq _ => A1 _ _ (Ne.symm hq)⟩
    rw [RA _ (by omega), WE hm (by omega) (by omega), List.nil_append, List.length_replicate]
  · have hl:(List.replicate m (0:UInt8)).length=m := List.length_replicate
    cases ex with
    | true =>
      refine ⟨_, none, fun κ => ?_, A0 _ _ _, .inl rfl, fun q hq _ => A1 _ _ (Ne.symm hq)⟩
      have e := MJ h2 (ex := true) (b := List.replicate m 0) (by omega) (by omega) (n := n) (by omega) κ
      rw [hl] at e
      rw [RA _ (by omega), e, if_pos rfl]
    | false =>
      refine ⟨Aq n (Aq p h (some (.c (cb bs) true none))) (some (.c (cb (bs++List.replicate m 0)) false (some p))), some p, fun κ => ?_, A0 _ _ _, .inr rfl, fun q hq h3 => (A1 _ _ (Ne.symm hq)).trans (A1 _ _ (Ne.symm h3))⟩
      have e := MJ h2 (ex := false) (b := List.replicate m 0) (by omega) (by omega) (n := n) (by omega) κ
      rw [hl] at e
      rw [RA _ (by omega), e, if_neg (by decide)]; rfl
/-- Bytes that are copied from. -/
def JD (v:V) (l:List UInt8) (h:Heap):Prop := v=Nd l∨(v = .nil .sl∧l=[]) ∨ ∃ p off cap ex L s pr, v = .sl p off l.length cap ex 1∧A6 p h=some (.c (cb L) s pr)∧off+l.length≤L.length∧(L.drop off).take l.length=l
theorem JD.len {v:V} {l:List UInt8} {h:Heap} (H:JD v l h) (hl:l.length<9223372036854775808) (κ:V->R):D7 v κ=κ (.int .i64 l.length) := by
  rcases H with rfl | ⟨rfl, rfl⟩ | ⟨p, off, cap, ex, L, s, pr, rfl, h1, h2, h3⟩
  · exact AH hl κ
  · rfl
  · exact AH hl κ
theorem JD.src {v:V} {l:List UInt8} {h:Heap} (H:JD v l h):∃ y, (∀ κ:Nat->Cs->R, JW 1 v h κ=κ l.length y)∧(0<l.length->y=cb l) := by
  rcases H with rfl | ⟨rfl, rfl⟩ | ⟨p, off, cap, ex, L, s, pr, rfl, h1, h2, h3⟩
  · exact ⟨cb l, fun κ => rfl, fun _ => rfl⟩
  · exact ⟨.l [], fun κ => rfl, fun h => by cases h⟩
  · refine ⟨cb l, fun κ => ?_, fun _ => rfl⟩
    rw [Zp h1 h2, h3]
theorem JD.frame {v:V} {l:List UInt8} {h h':Heap} (H:JD v l h) (e:∀ p:K4, (∃ off cap ex, v = .sl p off l.length cap ex 1)->A6 p h'=A6 p h):JD v l h' := by
  rcases H with H | H | ⟨p, off, cap, ex, L, s, pr, rfl, h1, h2, h3⟩
  · exact .inl H
  · exact .inr (.inl H)
  · exact .inr (.inr ⟨p, off, cap, ex, L, s, pr, rfl, (e p ⟨off, cap, ex, rfl⟩).trans h1, h2, h3⟩)
theorem Z9 {v:V} {h:Heap} (H:JD v [] h) {p:K4} {off len cap:Nat} {ex:Bool} (κ:V->Heap->R):JL 1 (.sl p off len cap ex 1) v h κ=κ (.int .i64 0) h := by
  obtain ⟨y, h1, _⟩ := H.src
  show JW 1 v h (fun m y => _)=_
  rw [h1]
  show br (Nat.beq 1 1) (A4 (@Bool.rec (fun _ => Nat) len 0 (Nat.ble 0 len)) fun k => br (Nat.beq k 0) (κ (.int .i64 0) h) (A4 (Nat.mul k 1) fun j => Dg y 0 j fun y => Hq h p off y fun h => Fy k fun v => κ v h)) (.fail "")=_
  rw [Nat.beq_refl, Aa, A2, show Nat.ble 0 len=true from A5.2 (Nat.zero_le _)]; rfl
theorem XJ {v:V} {h:Heap} (H:JD v [] h) (κ:V->Heap->R):JL 1 (.nil .sl) v h κ=κ (.int .i64 0) h := by
  obtain ⟨y, h1, _⟩ := H.src
  show JW 1 v h (fun m y => _)=_
  rw [h1]; rfl
theorem Un {v:V} {l bs:List UInt8} {h:Heap} (H:JD v l h) (h0:0<l.length) {p:K4} {off len cap:Nat} {ex:Bool} {pr:Option K4} (hp:A6 p h=some (.c (cb bs) false pr)) (hl:l.length≤len) (hl2:off+l.length≤bs.length) (hl3:l.length<9223372036854775808) (κ:V->Heap->R) :
    JL 1 (.sl p off len cap ex 1) v h κ=κ (.int .i64 l.length) (Aq p (HQ pr h) (some (.c (cb (bs.take off++(l++bs.drop (off+l.length)))) false none))) := by
  obtain ⟨y, h1, h2⟩ := H.src
  have hy := h2 h0; subst hy
  show JW 1 v h (fun m y => _)=_
  rw [h1]
  show br (Nat.beq 1 1) (A4 (@Bool.rec (fun _ => Nat) len l.length (Nat.ble l.length len)) fun k => br (Nat.beq k 0) (κ (.int .i64 0) h) (A4 (Nat.mul k 1) fun j => Dg (cb l) 0 j fun y => Hq h p off y fun h => Fy k fun v => κ v h)) (.fail "")=_
  rw [Nat.beq_refl, Aa, A2, show Nat.ble l.length len=true from A5.2 hl]
  show br (Nat.beq l.length 0) (κ (.int .i64 0) h) (A4 (Nat.mul l.length 1) fun j => Dg (cb l) 0 j fun y => Hq h p off y fun h => Fy l.length fun v => κ v h)=_
  rw [EU, decide_eq_false (by omega), AJ, A2, show Nat.mul l.length 1=l.length from Nat.mul_one _, If (by omega), List.drop_zero, List.take_length, Jp]
  unfold Gi
  rw [LZ hp, AJ, Wd hl2, IY, CS, AH hl3]
theorem Ku.same {p:K4} {h:Heap} {c:V} {l:List UInt8} (H:Ku p h c l) (κ:R):DK c c κ=κ := by
  rcases H with ⟨rfl, rfl⟩ | ⟨ex, rfl, h2⟩
  · exact Xi _ _
  · exact Y3 _ _ _ _ _ _ _
theorem QH {a b:Nat} (h:a<b) (hb:b<4611686018427387904):9223372036854775808≤Md .i64 a b∧Md .i64 a b<18446744073709551616 := by
  unfold Md
  rw [show Mk .i64=18446744073709551616 from rfl, Nat.mod_eq_of_lt (by omega)]
  omega
theorem P8 {a b:Nat} (ha:a<4611686018427387904) (hb:b<4611686018427387904) (κ:V->R):LF (.int .i64 (Md .i64 a b)) (.int .i64 0) κ=κ (.int .i64 (a - b)) := by
  rcases Nat.lt_or_ge a b with h | h
  · obtain ⟨h1, h2⟩ := QH h hb
    rw [BZ h2 (by omega), C4 h1 (by omega), show a - b=0 by omega]; rfl
  · rw [BX h (by omega), BZ (by omega) (by omega), D9 (by omega) (by omega), decide_eq_false (by omega)]; rfl
theorem Pt {a b:Nat} (ha:a<4611686018427387904) (hb:b<4611686018427387904):Ga .i64 0 (Md .i64 a b)=decide (b<a) := by
  rcases Nat.lt_or_ge a b with h | h
  · obtain ⟨h1, h2⟩ := QH h hb
    rw [C2 (by omega) h1, decide_eq_false (by omega)]
  · rw [BX h (by omega), D9 (by omega) (by omega)]
    by_cases h3:b<a
    · rw [decide_eq_true h3, decide_eq_true (by omega)]
    · rw [decide_eq_false h3, decide_eq_false (by omega)]
theorem Q5:(false == true)=false := id rfl
theorem Qh:(true == true)=true := id rfl
theorem Ud {p:K4} {o len cap a:Nat} {ex:Bool} (ha:a≤len) (hl:len≤cap) (ha2:a<9223372036854775808) (κ:V->R):FJ 1 (.sl p o len cap ex 1) (some (.int .i64 a)) none κ=κ (.sl p (o+a) (len - a) (cap - a) ex 1) := by
  show br (Nat.ble (Nat.succ a) 9223372036854775808) (br (Nat.beq 1 1) (br (Nat.ble a len) (br (Nat.ble len cap) (A4 (Nat.sub len a) fun l => A4 (Nat.sub cap a) fun c => A4 (Nat.add o (Nat.mul a 1)) fun o => κ (.sl p o l c ex 1)) (.fail "")) (.fail "")) (.fail "")) (.fail "")=_
  rw [show Nat.ble (Nat.succ a) 9223372036854775808=true from A5.2 (by omega), Aa, Nat.beq_refl, Aa, A5.2 ha, Aa, A5.2 hl, Aa, A2, A2, A2, show Nat.mul a 1=a from Nat.mul_one a]; rfl
theorem XY (κ:V->R):FJ 1 (.nil .sl) (some (.int .i64 0)) none κ=κ (.nil .sl) := id rfl
theorem W7 {p:K4} {o len cap a b:Nat} {ex:Bool} (ha:a≤b) (hl:b≤cap) (ha2:b<9223372036854775808) (κ:V->R):FJ 1 (.sl p o len cap ex 1) (some (.int .i64 a)) (some (.int .i64 b)) κ=κ (.sl p (o+a) (b - a) (cap - a) ex 1) := by
  show br (Nat.ble (Nat.succ b) 9223372036854775808) (br (Nat.ble (Nat.succ a) 9223372036854775808) (br (Nat.beq 1 1) (br (Nat.ble a b) (br (Nat.ble b cap) (A4 (Nat.sub b a) fun l => A4 (Nat.sub cap a) fun c => A4 (Nat.add o (Nat.mul a 1)) fun o => κ (.sl p o l c ex 1)) (.fail "")) (.fail "")) (.fail "")) (.fail "")) (.fail "")=_
  rw [show Nat.ble (Nat.succ b) 9223372036854775808=true from A5.2 (by omega), Aa, show Nat.ble (Nat.succ a) 9223372036854775808=true from A5.2 (by omega), Aa, Nat.beq_refl, Aa, A5.2 ha, Aa, A5.2 hl, Aa, A2, A2, A2, show Nat.mul a 1=a from Nat.mul_one a]; rfl
theorem VW (κ:V->R):FJ 1 (.nil .sl) (some (.int .i64 0)) (some (.int .i64 0)) κ=κ (.nil .sl) := id rfl
theorem ZB {l:List UInt8} {b:Nat} (hl:b≤l.length) (ha2:b<9223372036854775808) (κ:V->R):FJ 1 (Nd l) none (some (.int .i64 b)) κ=κ (Nd (l.take b)) := by
  show br (Nat.ble (Nat.succ b) 9223372036854775808) (br (Nat.beq 1 1) (br (Nat.ble 0 b) (br (Nat.ble b l.length) (A4 (Nat.sub b 0) fun k => A4 (Ev.lo (sh (BU l) 0) k) fun r => κ (.oth (.rb k r))) (.fail "")) (.fail "")) (.fail "")) (.fail "")=_
  rw [show Nat.ble (Nat.succ b) 9223372036854775808=true from A5.2 (by omega), Aa, Nat.beq_refl, Aa, show Nat.ble 0 b=true from A5.2 (Nat.zero_le _), Aa, A5.2 hl, Aa, A2, A2, OD, List.drop_zero]
  show κ (.oth (.rb b (BU (l.take b))))=κ (.oth (.rb (l.take b).length (BU (l.take b))))
  rw [List.length_take, Nat.min_eq_left hl]
theorem SA {bs l:List UInt8} {off:Nat} (h:off+l.length≤bs.length):(bs.take off++(l++bs.drop (off+l.length))).length=bs.length := by
  simp only [List.length_append, List.length_take, List.length_drop]; omega
theorem VR {pc:K4} {h:Heap} {cv v:V} {bs l:List UInt8} {off:Nat} (ho:Ku pc h cv bs) (hs:JD v l h) (hoff:off+l.length≤bs.length) (hb:bs.length<1000000000) :
    ∃ h', (∀ κ:Heap->R, FJ 1 cv (some (.int .i64 off)) none (fun z => JL 1 z v h fun _ h => κ h)=κ h')∧Ku pc h' cv (bs.take off++(l++bs.drop (off+l.length))) ∧ ∀ q, q≠pc->A6 q h'=A6 q h := by
  rcases ho with ⟨rfl, rfl⟩ | ⟨ex, rfl, h2⟩
  · obtain rfl:off=0 := by simp only [List.length_nil] at hoff; omega
    obtain rfl:l=[] := List.length_eq_zero_iff.1 (by simp only [List.length_nil] at hoff; omega)
    exact ⟨h, fun κ => by rw [XY, XJ hs], .inl ⟨rfl, rfl⟩, fun q _ => rfl⟩
  · cases l with
    | nil =>
      refine ⟨h, fun κ => by rw [Ud (by simp only [List.length_nil] at hoff; omega) (Nat.le_refl _) (by simp only [List.length_nil] at hoff; omega), Z9 hs], .inr ⟨ex, ?_, ?_⟩, fun q _ => rfl⟩
      · rw [SA hoff]
      · rw [h2, List.length_nil, Nat.add_zero, List.nil_append, List.take_append_drop]
    | cons u l =>
      refine ⟨_, fun κ => by rw [Ud (by omega) (Nat.le_refl _) (by omega), Un hs (by rw [List.length_cons]; omega) h2 (by omega) (by omega) (by omega)], .inr ⟨ex, ?_, ?_⟩, fun q hq => ?_⟩
      · rw [SA hoff]
      · show A6 pc (Aq pc h _)=_
        rw [A0, Nat.zero_add]
      · exact A1 _ _ (Ne.symm hq)
theorem W9 {a b:Nat} (h:a+b<18446744073709551616):Md .i64 (a+b) a=b := by rw [BX (by omega) h]; omega
/-- Bytes that were laid anew are written over, all that is new. -/
theorem VO {p n:K4} {h':Heap} {v:V} {bs l:List UInt8} {pr:Option K4} (hp:A6 n h'=some (.c (cb (bs++List.replicate l.length 0)) false pr)) (hpr:pr=none∨pr=some p) (hs:JD v l h') (h0:0<l.length) (hb:bs.length+l.length<1000000000) :
    ∃ h2, (∀ κ:Heap->R, JL 1 (.sl n bs.length l.length l.length false 1) v h' (fun _ h => κ h)=κ h2)∧A6 n h2=some (.c (cb (bs++l)) false none) ∧ ∀ q, q≠n->q≠p->A6 q h2=A6 q h' := by
  have hl:(bs++List.replicate l.length (0:UInt8)).length=bs.length+l.length := by rw [List.length_append, List.length_replicate]
  have e := fun κ:Heap->R => Un hs h0 (ex := false) (off := bs.length) (len := l.length) (cap := l.length) hp (Nat.le_refl _) (by omega) (by omega) fun _ h => κ h
  have e2:(bs++List.replicate l.length (0:UInt8)).take bs.length++(l++(bs++List.replicate l.length (0:UInt8)).drop (bs.length+l.length))=bs++l := by
    rw [List.take_left, List.drop_eq_nil_of_le (by omega), List.append_nil]
  rw [e2] at e
  refine ⟨_, e, A0 _ _ _, fun q h1 h2 => ?_⟩
  rw [A1 _ _ (Ne.symm h1)]
  rcases hpr with rfl | rfl
  · rfl
  · exact A1 _ _ (Ne.symm h2)
end Go.Ev

namespace Go.Ev
open Go.RowKit Go.ChangeShapes
set_option linter.unusedVariables false
/-- The blocks of the list stay. -/
def IN (ρ:Env) (w:World) (bl:List Nat):Prop := ∀ b∈bl, ∀ c e fr, w.heap[b]? = some (.cells c e fr)->ρ.gl b=some (c, e, fr)
theorem IN.sub {ρ:Env} {w:World} {bl cl:List Nat} (h:IN ρ w bl) (hs:∀ b∈cl, b∈bl):IN ρ w cl := fun b hb => h b (hs b hb)
theorem PN {P:Program} {fs:List Nat} {v:Nat->Value} {w:World} {l:List Nat}:IN (LG P fs v (MO w l)) w l := fun b hb c e fr h => T9 hb h
/-- Bytes, or nil. -/
def Pe:Option (List UInt8)->RV
  | none => .nl
  | some l => .y l.length (BU l)
theorem M7 {w:World} {a:Addr}:∀ n:Nat, (∀ i, i<n->∃ z:Int, w.cell? (a.add i)=some (.int .u8 z)∧(Lit.int .u8 z).wf=true)->∃ l:List UInt8, l.length=n ∧ ∀ j (h:j<l.length), w.cell? (a.add j)=some (.int .u8 (l[j].toNat:Int))
  | 0, _ => ⟨[], rfl, fun j hj => absurd hj (Nat.not_lt_zero _)⟩
  | n+1, h => by
    obtain ⟨l, hl, hc⟩ := M7 n (fun i hi => h i (by omega))
    obtain ⟨z, hz, hw⟩ := h n (Nat.lt_succ_self _)
    have hb:0≤z∧z<256 := by
      simp [Lit.wf, IntKind.min, IntKind.max, IntKind.signed, IntKind.bits] at hw
      omega
    refine ⟨l++[UInt8.ofNat z.toNat], by rw [List.length_append, hl]; rfl, fun j hj => ?_⟩
    by_cases hjn:j<n
    · rw [List.getElem_append_left (by omega)]
      exact hc j (by omega)
    · have hj':j<n+1 := by rw [List.length_append, hl] at hj; exact hj
      obtain rfl:j=n := by omega
      rw [List.getElem_append_right (by omega), hz]
      have e1:(UInt8.ofNat z.toNat).toNat=z.toNat := by simp; omega
      simp only [List.getElem_singleton]
      rw [e1]
      congr 2
      omega
/-- A slice of bytes. -/
theorem Xq {P:Program} {H:Type} {enc:TypeId×Value->H} {w:World} {base:Nat} {spare:Nat->Bool} {held:Bool} {fuel:Nat} {t e:TypeId} {cs:List Value} {x:DataW H×List MemPlace}
    (ht:P.underlying t=some (.slice e)) (he:P.underlying e=some (.int .u8)) (ce:P.cellsOf e=1) (h:DataW.trod enc P w base spare held fuel t cs=some x) :
    ∃ (v:Value) (o:Option (List UInt8)) (bl:List Nat), cs=[v]∧(∀ l, o=some l->l.length≤maxLen) ∧ ∀ ρ, IN ρ w bl->Ik ρ (Pe o) v := by
  rcases Go.Deep.open_slice1 ht ce h with ⟨hc, _⟩ | ⟨a, len, cap, m, n, V, D, Pl, hc, _, hl, hm, hmm, _, hx⟩
  · exact ⟨_, none, [], hc, (fun l h => by cases h), fun ρ _ => rfl⟩
  · have hlm:len≤m := by rw [hmm]; split <;> omega
    obtain ⟨l, hll, hlc⟩ := M7 (w := w) (a := a) len fun i hi => by
      obtain ⟨e1, e2⟩ := hx i (by omega)
      obtain ⟨z, ez, _, wz⟩ := DataW.trod_int he e2
      simp at ez
      exact ⟨z, by rw [e1, ez], wz⟩
    subst hll
    refine ⟨_, some l, [a.block], hc, (fun l' h => by cases h; omega), fun ρ hg => ?_⟩
    refine ⟨a, cap, rfl, hl, RS l, fun hpos => ?_⟩
    have h0 := hlc 0 hpos
    obtain ⟨b, o, c, e', fr, ea, hw, hco⟩ := Mj (show w.cell? a=_ from h0)
    refine ⟨b, o, c, e', fr, ea, hg b (by rw [ea]; simp) c e' fr hw, fun j hj => ?_⟩
    have h1 := hlc j hj
    rw [ea, Go.WideShapes.add_plain] at h1
    have h1:c[o+j]? = some (.int .u8 (l[j].toNat:Int)) := by simpa [World.cell?, hw] using h1
    rw [h1, Jf l j hj]
/-- Elements of one cell each, in memory: a slice that is told. -/
theorem Zx {w:World} {a:Addr} {len cap:Nat} (hl:len≤cap) {l:List RV} {bl:List Nat} (hll:l.length=len) (hc:∀ ρ, IN ρ w bl->∀ j r, l[j]? = some r->∃ v, w.cell? (a.add j)=some v∧Ik ρ r v) :
    ∀ ρ φ, IN ρ w (a.block::bl)->B1 ρ φ (.oth (.rx l len 1)) (.slice (some a) len cap) := by
  intro ρ φ hg
  have hg2 := hg.sub (cl := bl) fun b hb => List.mem_cons_of_mem _ hb
  simp only [B1]
  refine ⟨a, cap, rfl, hl, by rw [hll, Nat.mul_one], fun hpos => ?_⟩
  obtain ⟨v0, hv0, _⟩ := hc ρ hg2 0 (l[0]'(by omega)) (List.getElem?_eq_getElem _)
  obtain ⟨b, o, c, e', fr, ea, hw, hco⟩ := Mj (show w.cell? a=_ from hv0)
  refine ⟨b, o, c, e', fr, ea, hg b (by rw [ea]; simp) c e' fr hw, fun j r hj => ?_⟩
  obtain ⟨v, hv, hr⟩ := hc ρ hg2 j r hj
  rw [ea, Go.WideShapes.add_plain] at hv
  exact ⟨v, by simpa [World.cell?, hw] using hv, hr⟩
/-- A slice of slices of bytes. -/
theorem Wr {P:Program} {H:Type} {enc:TypeId×Value->H} {w:World} {base:Nat} {spare:Nat->Bool} {held:Bool} {fuel:Nat} {t e e2:TypeId} {cs:List Value} {x:DataW H×List MemPlace}
    (ht:P.underlying t=some (.slice e)) (he:P.underlying e=some (.slice e2)) (he2:P.underlying e2=some (.int .u8)) (ce:P.cellsOf e=1) (ce2:P.cellsOf e2=1) (h:DataW.trod enc P w base spare held fuel t cs=some x) :
    cs=[.slice none 0 0] ∨ ∃ a len cap, cs=[.slice (some a) len cap]∧len≤maxLen ∧ ∃ (l:List (Option (List UInt8))) (bl:List Nat), l.length=len∧(∀ o∈l, ∀ b, o=some b->b.length≤maxLen) ∧
      ∀ ρ φ, IN ρ w bl->B1 ρ φ (.oth (.rx (l.map Pe) len 1)) (.slice (some a) len cap) := by
  rcases Go.Deep.open_slice1 ht ce h with ⟨hc, _⟩ | ⟨a, len, cap, m, n, V, D, Pl, hc, _, hl, hm, hmm, _, hx⟩
  · exact .inl hc
  · have hlm:len≤m := by rw [hmm]; split <;> omega
    have one:∀ i, i<len->∃ (o:Option (List UInt8)) (bl:List Nat), (∀ b, o=some b->b.length≤maxLen) ∧ ∃ v, w.cell? (a.add i)=some v ∧ ∀ ρ, IN ρ w bl->Ik ρ (Pe o) v := fun i hi => by
      obtain ⟨e1, e3⟩ := hx i (by omega)
      obtain ⟨v, o, bl, h1, h2, h3⟩ := Xq he he2 ce2 e3
      simp at h1
      exact ⟨o, bl, h2, v, by rw [e1, h1], h3⟩
    have all:∀ k, k≤len->∃ (l:List (Option (List UInt8))) (bl:List Nat), l.length=k∧(∀ o∈l, ∀ b, o=some b->b.length≤maxLen) ∧ ∀ ρ, IN ρ w bl->∀ j r, (l.map Pe)[j]? = some r->∃ v, w.cell? (a.add j)=some v∧Ik ρ r v := by
      intro k
      induction k with
      | zero => exact fun _ => ⟨[], [], rfl, (fun o ho => by cases ho), fun ρ _ j r h => by simp at h⟩
      | succ k ih =>
        intro hk
        obtain ⟨l, bl, h1, h2, h3⟩ := ih (by omega)
        obtain ⟨o, cl, g1, v, g2, g3⟩ := one k (by omega)
        refine ⟨l++[o], bl++cl, by simp [h1], fun o' ho => ?_, fun ρ hg j r hj => ?_⟩
        · rcases List.mem_append.1 ho with ho | ho
          · exact h2 o' ho
          · rw [List.mem_singleton.1 ho]; exact g1
        · rw [List.map_append] at hj
          by_cases hjn:j<k
          · rw [List.getElem?_append_left (by simp; omega)] at hj
            exact h3 ρ (hg.sub fun b hb => List.mem_append_left _ hb) j r hj
          · rw [List.getElem?_append_right (by simp; omega)] at hj
            rcases Nat.eq_zero_or_pos (j - (l.map Pe).length) with h | h
            · rw [h] at hj
              simp at hj
              subst hj
              obtain rfl:j=k := by simp at h; omega
              exact ⟨v, g2, g3 ρ (hg.sub fun b hb => List.mem_append_right _ hb)⟩
            · rw [List.getElem?_eq_none (by simp at h ⊢; omega)] at hj; cases hj
    obtain ⟨l, bl, h1, h2, h3⟩ := all len (Nat.le_refl _)
    refine .inr ⟨a, len, cap, hc, by omega, l, a.block::bl, h1, h2, fun ρ φ hg => ?_⟩
    exact Zx hl (by simp [h1]) h3 ρ φ hg
end Go.Ev

namespace Go.Ev
set_option linter.unusedVariables false
noncomputable def PD (o:Eh):Bool := @Option.rec Ob (fun _ => Bool) true (fun _ => false) o
theorem GJ {o:Eh} (h:PD o=true):o=none := by cases o with
  | none => rfl
  | some _ => cases h
theorem BP {a b:Bool} (h:and a b=true):a=true∧b=true := by cases a <;> cases b <;> first | exact ⟨rfl, rfl⟩ | cases h
noncomputable def PC (p:HA):Bool := @HA.rec (fun _ => Bool) (fun A B C E F G I J L M N O P Q T U => and (PD A) (and (PD B) (and (PD C) (and (PD E) (and (PD F) (and (PD G) (and (PD I) (and (PD J) (and (PD L) (and (PD M) (and (PD N) (and (PD O) (and (PD P) (and (PD Q) (and (PD T) (PD U)))))))))))))))) p
noncomputable def JC (p:HB):Bool := @HB.rec (fun _ => Bool) (fun A B C E F G I J L M N O P Q T U => and (PC A) (and (PC B) (and (PC C) (and (PC E) (and (PC F) (and (PC G) (and (PC I) (and (PC J) (and (PC L) (and (PC M) (and (PC N) (and (PC O) (and (PC P) (and (PC Q) (and (PC T) (PC U)))))))))))))))) p
noncomputable def Q4 (p:HC):Bool := @HC.rec (fun _ => Bool) (fun A B C E F G I J L M N O P Q T U => and (JC A) (and (JC B) (and (JC C) (and (JC E) (and (JC F) (and (JC G) (and (JC I) (and (JC J) (and (JC L) (and (JC M) (and (JC N) (and (JC O) (and (JC P) (and (JC Q) (and (JC T) (JC U)))))))))))))))) p
theorem GT {p:HA} (h:PC p=true) (d:D):HA.sel d p=none := by
  cases p with | mk A B C E F G I J L M N O P Q T U =>
  unfold PC at h
  dsimp only at h
  obtain ⟨a0, h⟩ := BP h
  obtain ⟨a1, h⟩ := BP h
  obtain ⟨a2, h⟩ := BP h
  obtain ⟨a3, h⟩ := BP h
  obtain ⟨a4, h⟩ := BP h
  obtain ⟨a5, h⟩ := BP h
  obtain ⟨a6, h⟩ := BP h
  obtain ⟨a7, h⟩ := BP h
  obtain ⟨a8, h⟩ := BP h
  obtain ⟨a9, h⟩ := BP h
  obtain ⟨a10, h⟩ := BP h
  obtain ⟨a11, h⟩ := BP h
  obtain ⟨a12, h⟩ := BP h
  obtain ⟨a13, h⟩ := BP h
  obtain ⟨a14, h⟩ := BP h
  cases d
  · exact GJ a0
  · exact GJ a1
  · exact GJ a2
  · exact GJ a3
  · exact GJ a4
  · exact GJ a5
  · exact GJ a6
  · exact GJ a7
  · exact GJ a8
  · exact GJ a9
  · exact GJ a10
  · exact GJ a11
  · exact GJ a12
  · exact GJ a13
  · exact GJ a14
  · exact GJ h
theorem Eg {p:HB} (h:JC p=true) (c d:D):HA.sel d (HB.sel c p)=none := by
  cases p with | mk A B C E F G I J L M N O P Q T U =>
  unfold JC at h
  dsimp only at h
  obtain ⟨a0, h⟩ := BP h
  obtain ⟨a1, h⟩ := BP h
  obtain ⟨a2, h⟩ := BP h
  obtain ⟨a3, h⟩ := BP h
  obtain ⟨a4, h⟩ := BP h
  obtain ⟨a5, h⟩ := BP h
  obtain ⟨a6, h⟩ := BP h
  obtain ⟨a7, h⟩ := BP h
  obtain ⟨a8, h⟩ := BP h
  obtain ⟨a9, h⟩ := BP h
  obtain ⟨a10, h⟩ := BP h
  obtain ⟨a11, h⟩ := BP h
  obtain ⟨a12, h⟩ := BP h
  obtain ⟨a13, h⟩ := BP h
  obtain ⟨a14, h⟩ := BP h
  cases c
  · exact GT a0 d
  · exact GT a1 d
  · exact GT a2 d
  · exact GT a3 d
  · exact GT a4 d
  · exact GT a5 d
  · exact GT a6 d
  · exact GT a7 d
  · exact GT a8 d
  · exact GT a9 d
  · exact GT a10 d
  · exact GT a11 d
  · exact GT a12 d
  · exact GT a13 d
  · exact GT a14 d
  · exact GT h d
theorem Hd {p:HC} (h:Q4 p=true) (b c d:D):HA.sel d (HB.sel c (HC.sel b p))=none := by
  cases p with | mk A B C E F G I J L M N O P Q T U =>
  unfold Q4 at h
  dsimp only at h
  obtain ⟨a0, h⟩ := BP h
  obtain ⟨a1, h⟩ := BP h
  obtain ⟨a2, h⟩ := BP h
  obtain ⟨a3, h⟩ := BP h
  obtain ⟨a4, h⟩ := BP h
  obtain ⟨a5, h⟩ := BP h
  obtain ⟨a6, h⟩ := BP h
  obtain ⟨a7, h⟩ := BP h
  obtain ⟨a8, h⟩ := BP h
  obtain ⟨a9, h⟩ := BP h
  obtain ⟨a10, h⟩ := BP h
  obtain ⟨a11, h⟩ := BP h
  obtain ⟨a12, h⟩ := BP h
  obtain ⟨a13, h⟩ := BP h
  obtain ⟨a14, h⟩ := BP h
  cases b
  · exact Eg a0 c d
  · exact Eg a1 c d
  · exact Eg a2 c d
  · exact Eg a3 c d
  · exact Eg a4 c d
  · exact Eg a5 c d
  · exact Eg a6 c d
  · exact Eg a7 c d
  · exact Eg a8 c d
  · exact Eg a9 c d
  · exact Eg a10 c d
  · exact Eg a11 c d
  · exact Eg a12 c d
  · exact Eg a13 c d
  · exact Eg a14 c d
  · exact Eg h c d
noncomputable def W2 (f:D->Bool):Bool := and (f .d0) (and (f .d1) (and (f .d2) (and (f .d3) (and (f .d4) (and (f .d5) (and (f .d6) (and (f .d7) (and (f .d8) (and (f .d9) (and (f .d10) (and (f .d11) (and (f .d12) (and (f .d13) (and (f .d14) (f .d15)))))))))))))))
theorem Up {f:D->Bool} (h:W2 f=true) (d:D):f d=true := by
  unfold W2 at h
  obtain ⟨a0, h⟩ := BP h
  obtain ⟨a1, h⟩ := BP h
  obtain ⟨a2, h⟩ := BP h
  obtain ⟨a3, h⟩ := BP h
  obtain ⟨a4, h⟩ := BP h
  obtain ⟨a5, h⟩ := BP h
  obtain ⟨a6, h⟩ := BP h
  obtain ⟨a7, h⟩ := BP h
  obtain ⟨a8, h⟩ := BP h
  obtain ⟨a9, h⟩ := BP h
  obtain ⟨a10, h⟩ := BP h
  obtain ⟨a11, h⟩ := BP h
  obtain ⟨a12, h⟩ := BP h
  obtain ⟨a13, h⟩ := BP h
  obtain ⟨a14, h⟩ := BP h
  cases d
  · exact a0
  · exact a1
  · exact a2
  · exact a3
  · exact a4
  · exact a5
  · exact a6
  · exact a7
  · exact a8
  · exact a9
  · exact a10
  · exact a11
  · exact a12
  · exact a13
  · exact a14
  · exact h
noncomputable def WV (n:K4) (b:HB):Bool := W2 fun c => W2 fun d => @Bool.rec (fun _ => Bool) true (PD (HA.sel d (HB.sel c b))) (Nat.ble n.toN (K4.toN ⟨.d0, .d0, c, d⟩))
noncomputable def Zz (n:K4) (p:HC):Bool := @HC.rec (fun _ => Bool) (fun A B C E F G I J L M N O P Q T U => and (WV n A) (and (JC B) (and (JC C) (and (JC E) (and (JC F) (and (JC G) (and (JC I) (and (JC J) (and (JC L) (and (JC M) (and (JC N) (and (JC O) (and (JC P) (and (JC Q) (and (JC T) (JC U)))))))))))))))) p
noncomputable def WI (n:K4) (p:Heap):Bool := @Heap.rec (fun _ => Bool) (fun A B C E F G I J L M N O P Q T U => and (Zz n A) (and (Q4 B) (and (Q4 C) (and (Q4 E) (and (Q4 F) (and (Q4 G) (and (Q4 I) (and (Q4 J) (and (Q4 L) (and (Q4 M) (and (Q4 N) (and (Q4 O) (and (Q4 P) (and (Q4 Q) (and (Q4 T) (Q4 U)))))))))))))))) p
theorem Wz {n:K4} {b:HB} (h:WV n b=true) (c d:D) (hn:n.toN≤(K4.toN ⟨.d0, .d0, c, d⟩)):HA.sel d (HB.sel c b)=none := by
  have h1 := Up (Up h c) d
  rw [show Nat.ble n.toN (K4.toN ⟨.d0, .d0, c, d⟩)=true from Nat.ble_eq_true_of_le hn] at h1
  exact GJ h1
theorem XK {n:K4} {p:Heap} (h:WI n p=true):DU p n := by
  rintro ⟨a, b, c, d⟩ hq
  show HA.sel d (HB.sel c (HC.sel b (Heap.sel a p)))=none
  cases p with | mk y0 y1 y2 y3 y4 y5 y6 y7 y8 y9 ya yb yc yd ye yf =>
  unfold WI at h
  dsimp only at h
  obtain ⟨a0, h⟩ := BP h
  obtain ⟨a1, h⟩ := BP h
  obtain ⟨a2, h⟩ := BP h
  obtain ⟨a3, h⟩ := BP h
  obtain ⟨a4, h⟩ := BP h
  obtain ⟨a5, h⟩ := BP h
  obtain ⟨a6, h⟩ := BP h
  obtain ⟨a7, h⟩ := BP h
  obtain ⟨a8, h⟩ := BP h
  obtain ⟨a9, h⟩ := BP h
  obtain ⟨a10, h⟩ := BP h
  obtain ⟨a11, h⟩ := BP h
  obtain ⟨a12, h⟩ := BP h
  obtain ⟨a13, h⟩ := BP h
  obtain ⟨a14, h⟩ := BP h
  cases a
  · cases y0 with | mk x0 x1 x2 x3 x4 x5 x6 x7 x8 x9 xa xb xc xd xe xf =>
    clear a1 a2 a3 a4 a5 a6 a7 a8 a9 a10 a11 a12 a13 a14 h
    have h := a0
    unfold Zz at h
    dsimp only at h
    obtain ⟨b0, h⟩ := BP h
    obtain ⟨b1, h⟩ := BP h
    obtain ⟨b2, h⟩ := BP h
    obtain ⟨b3, h⟩ := BP h
    obtain ⟨b4, h⟩ := BP h
    obtain ⟨b5, h⟩ := BP h
    obtain ⟨b6, h⟩ := BP h
    obtain ⟨b7, h⟩ := BP h
    obtain ⟨b8, h⟩ := BP h
    obtain ⟨b9, h⟩ := BP h
    obtain ⟨b10, h⟩ := BP h
    obtain ⟨b11, h⟩ := BP h
    obtain ⟨b12, h⟩ := BP h
    obtain ⟨b13, h⟩ := BP h
    obtain ⟨b14, h⟩ := BP h
    cases b
    · exact Wz b0 c d hq
    · exact Eg b1 c d
    · exact Eg b2 c d
    · exact Eg b3 c d
    · exact Eg b4 c d
    · exact Eg b5 c d
    · exact Eg b6 c d
    · exact Eg b7 c d
    · exact Eg b8 c d
    · exact Eg b9 c d
    · exact Eg b10 c d
    · exact Eg b11 c d
    · exact Eg b12 c d
    · exact Eg b13 c d
    · exact Eg b14 c d
    · exact Eg h c d
  · exact Hd a1 b c d
  · exact Hd a2 b c d
  · exact Hd a3 b c d
  · exact Hd a4 b c d
  · exact Hd a5 b c d
  · exact Hd a6 b c d
  · exact Hd a7 b c d
  · exact Hd a8 b c d
  · exact Hd a9 b c d
  · exact Hd a10 b c d
  · exact Hd a11 b c d
  · exact Hd a12 b c d
  · exact Hd a13 b c d
  · exact Hd a14 b c d
  · exact Hd h b c d
/-- A call gave true, in a state in which nothing lies behind the next place, and that is one of the first places. -/
noncomputable def ZD (r:R):Bool :=
  @R.rec (fun _ => Bool) (fun _ _ _ _ => false) (fun v h n => and (JR v) (and (Nat.ble n.toN 250) (WI n h))) (fun _ => false) (fun _ _ _ _ => false) r
theorem XU {r:R} (h:ZD r=true):∃ h n, r = .rv (.bool true) h n∧n.toN≤250∧DU h n := by
  cases r with
  | rv v hh n =>
    obtain ⟨h1, h2⟩ := BP (show and (JR v) (and (Nat.ble n.toN 250) (WI n hh))=true from h)
    obtain ⟨h2, h3⟩ := BP h2
    exact ⟨hh, n, by rw [N5 h1], Nat.le_of_ble_eq_true h2, XK h3⟩
  | _ => cases h
end Go.Ev
