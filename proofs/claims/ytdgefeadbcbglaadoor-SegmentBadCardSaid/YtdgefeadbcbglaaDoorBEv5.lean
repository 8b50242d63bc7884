/- AN EVALUATOR OF THE MODEL OF Go, PROVED SOUND, PART 5: what it says of a call holds in every world, on every tape. Conditions: none of its own; each theorem bears its premises. -/
import Derived.Test.YtdgefeadbcbglaaDoorBEv4
import Derived.ChangeSame
import Derived.Deep.Slices
import Derived.Shelf.Strconv.Itoa1
import GoSem.ClaimGoes
noncomputable section
set_option linter.unusedSimpArgs false
set_option linter.unusedVariables false
namespace Go.Ev
set_option linter.unusedVariables false
/-- What a function is: code, or a step of the evaluator's own. -/
inductive Ent where
  | code (entry:List V->(S->R)->R) (body:Fz->S->Heap->K4->R) (res:S->Heap->K4->R)
  | prim (p:NV)
  | br (k:Nat) (entry:List V->(S->R)->R) (body:Fz->S->Heap->K4->R) (res:S->Heap->K4->R)
  | ap (f:Nat) (its:List Nat) (rd:Rd)
  | tree (p:NV)
abbrev DJ := Option Ent
/-- Sixteen functions. -/
inductive FA where
  | mk (A B C E F G I J L M N O P Q T U:DJ)
def FA.sel (d:D) (p:FA):DJ :=
  @FA.rec (fun _ => DJ) (fun A B C E F G I J L M N O P Q T U => @D.rec (fun _ => DJ) A B C E F G I J L M N O P Q T U d) p
def Adc (p:FA) (k:DJ->R):R := @FA.rec (fun _ => R) (fun A B C E F G I J L M N O P Q T U => k A) p
def Aez (p:FA) (k:DJ->R):R := @FA.rec (fun _ => R) (fun A B C E F G I J L M N O P Q T U => k B) p
def Afj (p:FA) (k:DJ->R):R := @FA.rec (fun _ => R) (fun A B C E F G I J L M N O P Q T U => k C) p
def Aec (p:FA) (k:DJ->R):R := @FA.rec (fun _ => R) (fun A B C E F G I J L M N O P Q T U => k E) p
def Acj (p:FA) (k:DJ->R):R := @FA.rec (fun _ => R) (fun A B C E F G I J L M N O P Q T U => k F) p
def Aer (p:FA) (k:DJ->R):R := @FA.rec (fun _ => R) (fun A B C E F G I J L M N O P Q T U => k G) p
def Ad7 (p:FA) (k:DJ->R):R := @FA.rec (fun _ => R) (fun A B C E F G I J L M N O P Q T U => k I) p
def Adn (p:FA) (k:DJ->R):R := @FA.rec (fun _ => R) (fun A B C E F G I J L M N O P Q T U => k J) p
def Ae1 (p:FA) (k:DJ->R):R := @FA.rec (fun _ => R) (fun A B C E F G I J L M N O P Q T U => k L) p
def Ada (p:FA) (k:DJ->R):R := @FA.rec (fun _ => R) (fun A B C E F G I J L M N O P Q T U => k M) p
def Abo (p:FA) (k:DJ->R):R := @FA.rec (fun _ => R) (fun A B C E F G I J L M N O P Q T U => k N) p
def Zm (p:FA) (k:DJ->R):R := @FA.rec (fun _ => R) (fun A B C E F G I J L M N O P Q T U => k O) p
def ZH (p:FA) (k:DJ->R):R := @FA.rec (fun _ => R) (fun A B C E F G I J L M N O P Q T U => k P) p
def Aa6 (p:FA) (k:DJ->R):R := @FA.rec (fun _ => R) (fun A B C E F G I J L M N O P Q T U => k Q) p
def Abz (p:FA) (k:DJ->R):R := @FA.rec (fun _ => R) (fun A B C E F G I J L M N O P Q T U => k T) p
def Abl (p:FA) (k:DJ->R):R := @FA.rec (fun _ => R) (fun A B C E F G I J L M N O P Q T U => k U) p
def FA.selK (d:D):FA->(DJ->R)->R :=
  @D.rec (fun _ => FA->(DJ->R)->R) Adc Aez Afj Aec Acj Aer Ad7 Adn Ae1 Ada Abo Zm ZH Aa6 Abz Abl d
theorem FA.selK_eq (d:D) (p:FA) (k:DJ->R):FA.selK d p k=k (FA.sel d p) := by
  cases d <;> cases p <;> rfl
/-- Of those sixteen. -/
inductive FB where
  | mk (A B C E F G I J L M N O P Q T U:FA)
def FB.sel (d:D) (p:FB):FA :=
  @FB.rec (fun _ => FA) (fun A B C E F G I J L M N O P Q T U => @D.rec (fun _ => FA) A B C E F G I J L M N O P Q T U d) p
def Adm (p:FB) (k:FA->R):R := @FB.rec (fun _ => R) (fun A B C E F G I J L M N O P Q T U => k A) p
def Aew (p:FB) (k:FA->R):R := @FB.rec (fun _ => R) (fun A B C E F G I J L M N O P Q T U => k B) p
def Acw (p:FB) (k:FA->R):R := @FB.rec (fun _ => R) (fun A B C E F G I J L M N O P Q T U => k C) p
def Acp (p:FB) (k:FA->R):R := @FB.rec (fun _ => R) (fun A B C E F G I J L M N O P Q T U => k E) p
def Acr (p:FB) (k:FA->R):R := @FB.rec (fun _ => R) (fun A B C E F G I J L M N O P Q T U => k F) p
def Ady (p:FB) (k:FA->R):R := @FB.rec (fun _ => R) (fun A B C E F G I J L M N O P Q T U => k G) p
def Ag9 (p:FB) (k:FA->R):R := @FB.rec (fun _ => R) (fun A B C E F G I J L M N O P Q T U => k I) p
def Acq (p:FB) (k:FA->R):R := @FB.rec (fun _ => R) (fun A B C E F G I J L M N O P Q T U => k J) p
def Afd (p:FB) (k:FA->R):R := @FB.rec (fun _ => R) (fun A B C E F G I J L M N O P Q T U => k L) p
def Afm (p:FB) (k:FA->R):R := @FB.rec (fun _ => R) (fun A B C E F G I J L M N O P Q T U => k M) p
def Aa8 (p:FB) (k:FA->R):R := @FB.rec (fun _ => R) (fun A B C E F G I J L M N O P Q T U => k N) p
def ZU (p:FB) (k:FA->R):R := @FB.rec (fun _ => R) (fun A B C E F G I J L M N O P Q T U => k O) p
def Abm (p:FB) (k:FA->R):R := @FB.rec (fun _ => R) (fun A B C E F G I J L M N O P Q T U => k P) p
def Aaw (p:FB) (k:FA->R):R := @FB.rec (fun _ => R) (fun A B C E F G I J L M N O P Q T U => k Q) p
def Aa3 (p:FB) (k:FA->R):R := @FB.rec (fun _ => R) (fun A B C E F G I J L M N O P Q T U => k T) p
def Abf (p:FB) (k:FA->R):R := @FB.rec (fun _ => R) (fun A B C E F G I J L M N O P Q T U => k U) p
def FB.selK (d:D):FB->(FA->R)->R :=
  @D.rec (fun _ => FB->(FA->R)->R) Adm Aew Acw Acp Acr Ady Ag9 Acq Afd Afm Aa8 ZU Abm Aaw Aa3 Abf d
theorem FB.selK_eq (d:D) (p:FB) (k:FA->R):FB.selK d p k=k (FB.sel d p) := by
  cases d <;> cases p <;> rfl
/-- The table of the functions. -/
inductive FC where
  | mk (A B C E F G I J L M N O P Q T U:FB)
def FC.sel (d:D) (p:FC):FB :=
  @FC.rec (fun _ => FB) (fun A B C E F G I J L M N O P Q T U => @D.rec (fun _ => FB) A B C E F G I J L M N O P Q T U d) p
def Aeh (p:FC) (k:FB->R):R := @FC.rec (fun _ => R) (fun A B C E F G I J L M N O P Q T U => k A) p
def Agh (p:FC) (k:FB->R):R := @FC.rec (fun _ => R) (fun A B C E F G I J L M N O P Q T U => k B) p
def Adv (p:FC) (k:FB->R):R := @FC.rec (fun _ => R) (fun A B C E F G I J L M N O P Q T U => k C) p
def Ag2 (p:FC) (k:FB->R):R := @FC.rec (fun _ => R) (fun A B C E F G I J L M N O P Q T U => k E) p
def Aef (p:FC) (k:FB->R):R := @FC.rec (fun _ => R) (fun A B C E F G I J L M N O P Q T U => k F) p
def Af0 (p:FC) (k:FB->R):R := @FC.rec (fun _ => R) (fun A B C E F G I J L M N O P Q T U => k G) p
def Adl (p:FC) (k:FB->R):R := @FC.rec (fun _ => R) (fun A B C E F G I J L M N O P Q T U => k I) p
def Af9 (p:FC) (k:FB->R):R := @FC.rec (fun _ => R) (fun A B C E F G I J L M N O P Q T U => k J) p
def Aee (p:FC) (k:FB->R):R := @FC.rec (fun _ => R) (fun A B C E F G I J L M N O P Q T U => k L) p
def Afq (p:FC) (k:FB->R):R := @FC.rec (fun _ => R) (fun A B C E F G I J L M N O P Q T U => k M) p
def Abr (p:FC) (k:FB->R):R := @FC.rec (fun _ => R) (fun A B C E F G I J L M N O P Q T U => k N) p
def Aaj (p:FC) (k:FB->R):R := @FC.rec (fun _ => R) (fun A B C E F G I J L M N O P Q T U => k O) p
def Abg (p:FC) (k:FB->R):R := @FC.rec (fun _ => R) (fun A B C E F G I J L M N O P Q T U => k P) p
def Aa4 (p:FC) (k:FB->R):R := @FC.rec (fun _ => R) (fun A B C E F G I J L M N O P Q T U => k Q) p
def ZE (p:FC) (k:FB->R):R := @FC.rec (fun _ => R) (fun A B C E F G I J L M N O P Q T U => k T) p
def Abe (p:FC) (k:FB->R):R := @FC.rec (fun _ => R) (fun A B C E F G I J L M N O P Q T U => k U) p
def FC.selK (d:D):FC->(FB->R)->R :=
  @D.rec (fun _ => FC->(FB->R)->R) Aeh Agh Adv Ag2 Aef Af0 Adl Af9 Aee Afq Abr Aaj Abg Aa4 ZE Abe d
theorem FC.selK_eq (d:D) (p:FC) (k:FB->R):FC.selK d p k=k (FC.sel d p) := by
  cases d <;> cases p <;> rfl
def B5 (k:K3) (T:FC):DJ := FA.sel k.c (FB.sel k.b (FC.sel k.a T))
def Wh (k:K3) (T:FC) (κ:DJ->R):R := @K3.rec (fun _ => R) (fun a b c => FC.selK a T fun x => FB.selK b x fun y => FA.selK c y κ) k
theorem S8 (k:K3) (T:FC) (κ:DJ->R):Wh k T κ=κ (B5 k T) := by
  cases k; simp only [Wh, B5, FC.selK_eq, FB.selK_eq, FA.selK_eq]
abbrev P3 (ps:List K2):List V->Regs->(Regs->R)->R :=
  @List.rec K2 (fun _ => List V->Regs->(Regs->R)->R) (fun l t κ => RP l (κ t)) (fun p _ ih l t κ => K0 l fun v l => Ow p t v fun t => ih l t κ) ps
theorem Pk:∀ (ps:List K2) (l:List V) (t:Regs) (κ:Regs->R), P3 ps l t κ=Ti l ps t κ
  | [], l, t, κ => by cases l <;> rfl
  | p::ps, l, t, κ => by
    cases l with
    | nil => rfl
    | cons v l =>
      show Ow p t v (fun t => P3 ps l t κ)=Ow p t v fun t => Ti l ps t κ
      rw [O6, O6, Pk]
def LB (r:R) (res:S->Heap->K4->R):R :=
  @R.rec (fun _ => R) (fun e t h n => @Ex.rec (fun _ => R) (res t h n) (AQ "") (res t h n) e) (C4 "") (fun w => .fail w) (fun _ _ a b => .both a b) r
def KR (r:R):R := @R.rec (fun _ => R) (Fh "") (fun v h n => .rv v h n) (fun w => .fail w) (Fh "") r
def Xh (v:V) (yes no:R):R :=
  @V.rec (fun _ => R) (fun _ => Unit) (fun _ _ => no) (fun _ => no) (fun _ _ => no) (fun _ _ _ _ _ _ => no) (fun _ _ => no) (fun _ _ => no) (fun _ => no) (fun _ => no) (fun _ _ _ => no) (fun _ _ => no)
    (fun o => @Ot.rec (fun _ => R) no (fun _ => no) (fun _ => no) yes (fun _ _ _ => no) (fun _ _ => no) no (fun _ _ => no) (fun _ _ _ _ => no) (fun _ _ _ _ => no) (fun _ _ _ => no) (fun _ _ => no) (fun _ _ => no) (fun _ _ _ => no) (fun _ => no) o) () (fun _ _ _ _ => ()) v
def apX (f:Nat) (its:List Nat) (rd:Rd) (cf:Fz) (args:List V) (h:Heap) (n:K4):R :=
  K0 args fun v l => Xh v (K0 l fun b l => K0 l fun x l => RP l (rd cf b x h n)) (Yn f its cf args h n)
def Kf (cf:Fz) (o:DJ) (args:List V) (h:Heap) (n:K4):R :=
  @Option.rec Ent (fun _ => R) (.fail "") (fun e => @Ent.rec (fun _ => R) (fun entry body res => entry args fun t => LB (body cf t h n) res) (fun p => KR (p args h n)) (fun k entry body res => KR (brK k (fun hs => entry args fun t => LB (body cf t hs n) res) args h n)) (fun f its rd => apX f its rd cf args h n) (fun p => p args h n) e) o
/-- What a call comes to. -/
def Al (T:FC) (m:Nat):Fz :=
  @Nat.rec (fun _ => Fz) (Fh "") (fun _ ih f args h n => Wh f T fun o => Kf ih o args h n) m
/-- The kept registers out of all of them. -/
abbrev Z8 (sm:SM) (t:Regs):S := @List.rec (K2×SL) (fun _ => S) Fj (fun x _ ih => S.put x.2 ih (B8 x.1 t)) sm
theorem RO {t:Regs}:∀ {sm:SM}, QD sm=true->∀ {p:K2} {s:SL}, CB p sm=some s->S.get s (Z8 sm t)=B8 p t
  | [], _, p, s, h => by cases h
  | x::l, hok, p, s, h => by
    simp only [QD, Bool.and_eq_true] at hok
    have e1:Z8 (x::l) t=S.put x.2 (Z8 l t) (B8 x.1 t) := rfl
    rw [e1]
    simp only [CB] at h
    cases hb:K2.beq x.1 p with
    | true =>
      rw [hb] at h
      have h:some x.2=some s := h
      cases h
      rw [S.get_put_same, K2.beq_iff.1 hb]
    | false =>
      rw [hb] at h
      have h:CB p l=some s := h
      have hne:x.2≠s := fun e => by
        have := List.all_eq_true.1 hok.1 _ (HH h)
        rw [←e] at this
        simp [SL.beq, O8.beq_self, O4.beq_self] at this
      rw [S.get_put_ne _ _ hne]
      exact RO hok.2 h
abbrev VN (sm:SM) (r:ARes) (t:S) (h:Heap) (κ:V->R):R :=
  @ARes.rec (fun _ => R) (fun p => Bf sm [] t (.t p) κ) (fun p m => Bf sm [] t (.t p) fun v => KB v fun q off => JV q h fun cs _ _ =>
    @Option.rec Nat (fun _ => R) (F8 cs off κ) (fun m => AW cs off m fun y => Ea y fun l => κ (.agg l)) m) r
abbrev S7 (sm:SM) (rs:List ARes) (t:S) (h:Heap):(List V->R)->R :=
  @List.rec ARes (fun _ => (List V->R)->R) (fun κ => κ []) (fun r _ ih κ => VN sm r t h fun v => ih fun vs => κ (v::vs)) rs
abbrev OW (sm:SM) (rs:List ARes) (t:S) (h:Heap) (n:K4):R :=
  S7 sm rs t h fun l => @List.rec V (fun _ => R) (.rv (.tup []) h n) (fun v vs _ => @List.rec V (fun _ => R) (.rv v h n) (fun _ _ _ => .rv (.tup l) h n) vs) l
/-- A function as it is run. -/
abbrev Aei (sm:SM) (a:AFn):Ent := @AFn.rec (fun _ => Ent) (fun ps c rs => .code (fun l κ => P3 ps l L2 fun t => κ (Z8 sm t)) (fun cf t h n => HS sm cf c r0 [] t h n) (fun t h n => OW sm rs t h n)) a
def ARes.reg (r:ARes):K2 := @ARes.rec (fun _ => K2) (fun p => p) (fun p _ => p) r
def okF (sm:SM) (a:AFn):Bool := QD sm&&(Kq sm a.code (fun _ => true) []&&a.rs.all fun r => I3 sm r.reg)
abbrev Aax (sm:SM) (o:Option AFn):DJ := @Option.rec AFn (fun _ => DJ) none (fun a => some (Aei sm a)) o
def okO (sm:SM) (o:Option AFn):Bool := @Option.rec AFn (fun _ => Bool) false (fun a => okF sm a) o
section
variable {P:Program} {ρ:Env} {B:Nat}
/-- It is that function. -/
def AR (P:Program) (f:FuncId) (e:Ent):Prop := ∃ sm:SM, Aax sm (Ll P f)=some e∧okO sm (Ll P f)=true
theorem AR.mk {f:FuncId} {e:Ent} (sm:SM) (h:Aax sm (Ll P f)=some e) (k:okO sm (Ll P f)=true):AR P f e := ⟨sm, h, k⟩
/-- It is that function, run on what it can reach. -/
def Aff (P:Program) (f:FuncId) (e:Ent):Prop := ∃ k en bo re, e = .br k en bo re∧AR P f (.code en bo re)
/-- It ranges over a function. -/
def Gm (P:Program) (ρ:Env) (f:FuncId) (e:Ent):Prop := ∃ its rd A, e = .ap f its rd∧ρ.ap f=some A∧M2 P f=some A∧TW P A=some rd ∧ ∀ g∈its, KC P g
/-- A step of the evaluator's own that may come to many ways. -/
def Us (P:Program) (ρ:Env) (B:Nat) (f:FuncId) (p:NV):Prop :=
  ∀ args h n (Φ:R->Prop), (p args h n).sat Φ->∀ φ w (xs:Array Value), Gam ρ B h n φ w->BL ρ φ args xs.toList →
    M1 P f xs w fun x w' => ∃ v h1 n1 φ', Φ (.rv v h1 n1)∧Fr h h1 φ φ' n n1 w w'∧Gam ρ B h1 n1 φ' w'∧Ap ρ φ' v x
def Mx (P:Program) (ρ:Env) (B:Nat) (f:FuncId) (e:Ent):Prop := (AR P f e∨Aff P f e)∨((∃ p, e = .prim p∧OD P ρ B f p)∨(Gm P ρ f e ∨ ∃ p, e = .tree p∧Us P ρ B f p))
def JQ (P:Program) (ρ:Env) (B:Nat) (T:FC):Prop := (∀ f e, B5 (Bk f) T=some e->Mx P ρ B f e) ∧ ∀ f A, ρ.ap f=some A->∃ e, B5 (Bk f) T=some e∧Gm P ρ f e
theorem Ny {r:R} {Φ:R->Prop} (h:(KR r).sat Φ):∃ v h1 n1, r = .rv v h1 n1∧Φ (.rv v h1 n1) := by
  cases r with
  | rv v h1 n1 => exact ⟨v, h1, n1, rfl, h⟩
  | _ => exact h.elim
theorem V7 {sm:SM} {r:ARes} {t:Regs} {t':S} (ri:RI sm [] [] t t') (hk:I3 sm r.reg=true) (hp:Heap) (κ:V->R):VN sm r t' hp κ=KX r t hp κ := by
  have kn:∀ p, I3 sm p=true->Eb sm [] p=true := fun p h => by unfold Eb; rw [h, Bool.or_true]
  cases r with
  | tmp p => show Bf sm [] t' (.t p) κ=I6 p t κ; rw [ri.tell (kn p hk), CT]
  | cel p m =>
    show Bf sm [] t' (.t p) _=I6 p t _
    rw [ri.tell (kn p hk), CT, Dj]
theorem Qe {sm:SM} {t:Regs} {t':S} (ri:RI sm [] [] t t') {hp:Heap}:∀ {rs:List ARes} {κ:List V->R}, (∀ r∈rs, I3 sm r.reg=true)->S7 sm rs t' hp κ=Ko rs t hp κ
  | [], κ, _ => rfl
  | r::rs, κ, h => by
    have e1:S7 sm (r::rs) t' hp κ=VN sm r t' hp fun v => S7 sm rs t' hp fun vs => κ (v::vs) := rfl
    have e2:Ko (r::rs) t hp κ=KX r t hp fun v => Ko rs t hp fun vs => κ (v::vs) := rfl
    rw [e1, e2, V7 ri (h r (List.mem_cons_self ..))]
    congr 1; funext v
    exact Qe ri fun r hr => h r (List.mem_cons_of_mem _ hr)
theorem Vy {sm:SM} {t:Regs} {t':S} (ri:RI sm [] [] t t') {hp:Heap} {n:K4} {rs:List ARes} (h:∀ r∈rs, I3 sm r.reg=true):OW sm rs t' hp n=QW rs t hp n := Qe ri h
/-- What is asked behind a body. -/
def Aaq (res:S->Heap->K4->R) (Φ:R->Prop):R->Prop
  | .ok .nrm t h n => (res t h n).sat Φ
  | .ok .ret t h n => (res t h n).sat Φ
  | _ => False
theorem Lx {res:S->Heap->K4->R} {Φ:R->Prop}:∀ {r:R}, (LB r res).sat Φ->r.sat (Aaq res Φ)
  | .ok e t h n, hs => by
    cases e with
    | nrm => exact hs
    | ret => exact hs
    | exit j => exact hs.elim
  | .rv _ _ _, hs => hs.elim
  | .fail _, hs => hs.elim
  | .both a b, hs => ⟨Lx (r := a) hs.1, Lx (r := b) hs.2⟩
theorem WJ {r:ARes} {t:Regs} {h:Heap} {κ:V->R} (hg:(KX r t h κ).good):∃ v, KX r t h κ=κ v := by
  cases r with
  | tmp p => exact ⟨_, CT p t κ⟩
  | cel p m =>
    have e1:KX (.cel p m) t h κ=KB (B8 p t) fun q off => Hs q h fun cs _ _ =>
        @Option.rec Nat (fun _ => R) (F8 cs off κ) (fun m => AW cs off m fun y => Ea y fun l => κ (.agg l)) m := CT p t _
    rw [e1] at hg
    obtain ⟨q, off, hv, e2⟩ := DD hg
    rw [e2] at hg
    obtain ⟨cs, sup, prev, hq, e3⟩ := Dc hg
    rw [e3] at hg
    cases m with
    | none =>
      obtain ⟨v, _, e4⟩ := HD (show R.good (F8 cs off κ) from hg)
      exact ⟨v, e1.trans (e2.trans (e3.trans e4))⟩
    | some m =>
      obtain ⟨hle, y, hyl, hya, e4⟩ := CL (show R.good (AW cs off m fun y => Ea y fun l => κ (.agg l)) from hg)
      obtain ⟨l, e5, _, _⟩ := Gy y fun l => κ (.agg l)
      exact ⟨.agg l, e1.trans (e2.trans (e3.trans (Eq.trans e4 e5)))⟩
theorem Sj:∀ {rs:List ARes} {t:Regs} {h:Heap} {κ:List V->R}, (Ko rs t h κ).good->∃ vs, Ko rs t h κ=κ vs
  | [], t, h, κ, _ => ⟨[], rfl⟩
  | r::rs, t, h, κ, hg => by
    have hg:R.good (KX r t h fun v => Ko rs t h fun vs => κ (v::vs)) := hg
    obtain ⟨v, e1⟩ := WJ hg
    rw [e1] at hg
    obtain ⟨vs, e2⟩ := Sj hg
    exact ⟨v::vs, Eq.trans e1 e2⟩
theorem WT {rs:List ARes} {t:Regs} {h:Heap} {n:K4} (hg:(QW rs t h n).good):∃ v, QW rs t h n = .rv v h n := by
  obtain ⟨vs, e⟩ := Sj (show R.good (Ko rs t h _) from hg)
  have e:QW rs t h n=_ := e
  match vs, e with
  | [], e => exact ⟨_, e⟩
  | [u], e => exact ⟨_, e⟩
  | u::u'::us, e => exact ⟨_, e⟩
theorem N2 (hρ:Bq ρ) (hm:P.follows .mixedOrders=true) {cf:CF} {cf2:Fz} (hct:IH P ρ B cf) (hR:IL P ρ B cf) (h2:∀ f, cf2 (Bk f)=cf f) {f:FuncId} {e:Ent} (he:AR P f e) {args:List V} {h:Heap} {n:K4} {Φ:R->Prop}
    (hr:(Kf cf2 (some e) args h n).sat Φ) {φ:AO} {w:World} {xs:Array Value} (g:Gam ρ B h n φ w) (hxs:BL ρ φ args xs.toList) :
    M1 P f xs w fun x w' => ∃ v h1 n1 φ', Φ (.rv v h1 n1)∧Fr h h1 φ φ' n n1 w w'∧Gam ρ B h1 n1 φ' w'∧Ap ρ φ' v x := by
  obtain ⟨sm, hd, hok⟩ := he
  cases hf:Ll P f with
  | none => rw [hf] at hd; cases hd
  | some a =>
    rw [hf] at hd hok
    obtain ⟨fn, c, ps, rs, hfn, hb, hps, hrs, hname, rfl⟩ := R6 hf
    have hd:some (Ent.code (fun l κ => P3 ps l L2 fun t => κ (Z8 sm t)) (fun cf t h n => HS sm cf (B1 P fn.ntmps c) r0 [] t h n) (fun t h n => OW sm rs t h n))=some e := hd
    cases hd
    have hok:(QD sm&&(Kq sm (B1 P fn.ntmps c) (fun _ => true) []&&rs.all fun r => I3 sm r.reg))=true := hok
    rw [Bool.and_eq_true, Bool.and_eq_true] at hok
    obtain ⟨hsm, hok⟩ := hok
    have inj:∀ {p q s}, CB p sm=some s->CB q sm=some s->p=q := fun h h' => P8 hsm h h'
    have hr:(P3 ps args L2 (fun t => LB (HS sm cf2 (B1 P fn.ntmps c) r0 [] (Z8 sm t) h n) fun t h n => OW sm rs t h n)).sat Φ := hr
    rw [Pk] at hr
    obtain ⟨hlen, t0, e2, H0⟩ := Ml (k := 0) (fun i s hi => by
      obtain ⟨hi', hi2⟩ := List.getElem?_eq_some_iff.1 hi
      simp at hi2; omega) hps (R.sat_good hr)
    rw [e2] at hr
    simp only [List.length_range] at hlen
    have hxl:xs.size=args.length := by have := AX hxs; simpa using this
    have hxN:xs.size≤fn.ntmps := by
      rcases Nat.eq_zero_or_pos xs.size with h0 | h0
      · omega
      · have := Mm hps (xs.size - 1) (List.mem_range.2 (by omega)); omega
    have hT:TR ρ fn.ntmps φ t0 { tmps := xs++Array.replicate (fn.ntmps - xs.size) undef, defers := [] } := {
      size := by simp; omega
      defers := rfl
      at_ := fun s p hs hp => by
        rw [H0 s p hp, if_pos (Nat.zero_le _), Nat.sub_zero, Q9]
        show Ap ρ φ _ ((xs++Array.replicate (fn.ntmps - xs.size) undef).getD s undef)
        rw [Array.getD_eq_getD_getElem?]
        by_cases hsx:s<xs.size
        · rw [Array.getElem?_append_left hsx]
          have hsa:s<args.length := by omega
          rw [List.getElem?_eq_getElem hsa]
          obtain ⟨x, hx, hrx⟩ := (Cl.1 hxs).2 s _ (List.getElem?_eq_getElem hsa)
          rw [Array.getElem?_toList] at hx
          rw [hx]; exact hrx
        · rw [Array.getElem?_append_right (by omega), Array.getElem?_replicate, if_pos (by omega), List.getElem?_eq_none (by omega)]
          exact Fe }
    have hx := Lx hr
    have hOK := (YW (N := fn.ntmps) (sm := sm) hρ hm hct hR h2 c).join hok.1 (RI.start inj fun p s hs => RO hsm hs) hx
    intro o a K Q hK
    have hcf':(callFunc f xs).run P w = .ok (.enter f xs) w := by
      have hname':fn.name ≠ "runtime.NumGoroutine" := by simpa using hname
      simp [callFunc, hfn, hname', hb]
    rw [hcf']
    refine calls_of_wp hfn hb (hOK φ _ w hT g _ fun e t1 h2' n2 hres φ' a' w' tf f1 g1 T1 hk => ?_)
    have fin:(OW sm rs t1 h2' n2).sat Φ->∃ X, (results fn a'.tmps).run P w' = .ok X w'∧K (a.put o.dst X) w' := fun hres => by
      rw [Vy (RI.start inj hk) fun r hr => List.all_eq_true.1 hok.2 r hr] at hres
      obtain ⟨v, hv⟩ := WT (R.sat_good hres)
      obtain ⟨_, _, Hres⟩ := Tv (ρ := ρ) (B := B) hrs hv
      rw [hv] at hres
      obtain ⟨X, hX, hrX⟩ := Hres φ' a' w' T1 g1
      exact ⟨X, hX, hK X w' ⟨v, h2', n2, φ', hres, f1, g1, hrX⟩⟩
    cases e with
    | nrm => obtain ⟨X, hX, hKX⟩ := fin hres; exact ⟨T1.defers, X, hX, hKX⟩
    | exit id => exact hres.elim
    | ret => obtain ⟨X, hX, hKX⟩ := fin hres; exact ⟨T1.defers, X, hX, hKX⟩
/-- THE CALL IS SOUND. -/
theorem TD (hρ:Bq ρ) (hm:P.follows .mixedOrders=true) {T:FC} (hT:JQ P ρ B T):∀ m, IH P ρ B (fun f => Al T m (Bk f))∧IL P ρ B (fun f => Al T m (Bk f)) := by
  intro m
  induction m with
  | zero => exact ⟨fun f args h n Φ hr => hr.elim, fun f A fn hA box x h n Φ hr => hr.elim⟩
  | succ m ih =>
    obtain ⟨hct, hR⟩ := ih
    have e1:∀ f args h n, Al T (m+1) (Bk f) args h n=Kf (Al T m) (B5 (Bk f) T) args h n := fun f args h n => S8 (Bk f) T fun o => Kf (Al T m) o args h n
    refine ⟨fun f args h n Φ hr φ w xs g hxs => ?_, fun f A fn hA box x h n Φ hr φ w tmps X l D g hrec unc hsz hbox hX => ?_⟩
    · have hr:(Al T (m+1) (Bk f) args h n).sat Φ := hr
      rw [e1] at hr
      cases ho:B5 (Bk f) T with
      | none => rw [ho] at hr; exact hr.elim
      | some e =>
        rw [ho] at hr
        rcases hT.1 f e ho with (he | ⟨k, en, bo, re, rfl, he⟩) | (⟨p, rfl, hp⟩ | (⟨its, rd, A, rfl, hA, h1, h2, h3⟩ | ⟨p, rfl, hp⟩))
        · exact N2 hρ hm hct hR (fun _ => rfl) he hr g hxs
        · obtain ⟨v, h1, n1, hr, hΦ⟩ := Ny (show (KR (brK k (fun hs => en args fun t => LB (bo (Al T m) t hs n) re) args h n)).sat Φ from hr)
          intro o a K Q hK
          exact YT hr g hxs (fun hs Φ hsat gs => N2 hρ hm hct hR (fun _ => rfl) he (h := hs) hsat gs hxs) o a K Q fun x w' ⟨φ', f1, g1, r1⟩ => hK x w' ⟨v, h1, n1, φ', hΦ, f1, g1, r1⟩
        · obtain ⟨v, h1, n1, hr, hΦ⟩ := Ny (show (KR (p args h n)).sat Φ from hr)
          intro o a K Q hK
          exact hp args h n v h1 n1 hr φ w xs g hxs o a K Q fun x w' ⟨φ', f1, g1, r1⟩ => hK x w' ⟨v, h1, n1, φ', hΦ, f1, g1, r1⟩
        · have hr:(apX f its rd (Al T m) args h n).sat Φ := hr
          unfold apX at hr
          obtain ⟨v, l, hl, q1⟩ := Hf (R.sat_good hr)
          rw [q1] at hr
          subst hl
          by_cases hv:v = .oth .no
          · subst hv
            obtain ⟨y, ys, _, hy, _⟩ := Aq.1 hxs
            simp only [Ap] at hy
          · have e2:∀ A C:R, Xh v A C=C := fun A C => by
              cases v with
              | oth o => cases o with
                | no => exact absurd rfl hv
                | _ => rfl
              | _ => rfl
            rw [e2] at hr
            exact Aap hA h1 h3 hct (fun _ => rfl) hr g hxs
        · exact hp args h n Φ hr φ w xs g hxs
    · obtain ⟨e, ho, its, rd, A', rfl, hA', h1, h2, h3⟩ := hT.2 f A hA
      rw [hA] at hA'; cases hA'
      have hr:(Al T (m+1) (Bk f) [.oth .no, .ptr box 0, x] h n).sat Φ := hr
      rw [e1, ho] at hr
      have hr:(rd (Al T m) (.ptr box 0) x h n).sat Φ := hr
      exact Abs hρ hct.ok (fun _ => rfl) h2 hr g hrec unc hsz hbox hX
theorem Uh (hρ:Bq ρ) (hm:P.follows .mixedOrders=true) {T:FC} (hT:JQ P ρ B T) (m:Nat):Eu P ρ B fun f => Al T m (Bk f) := (TD hρ hm hT m).1.ok
end
end Go.Ev

namespace Go.Ev
open Go.RowKit
set_option linter.unusedVariables false
abbrev Cc (w:Bool) (v:V) (h:Heap) (n:K4) (F:KV->R) (κ:KV):R := gd w v F κ h n
abbrev AD (v:V):R := .rv v AN ⟨.d0, .d0, .d0, .d0⟩
abbrev alY (b:K4) (j:D) (h:Heap) (F:K4->R) (κ:KV):R := b.at j fun r => Be r h fun x => Gk x (DY (F r) κ)
abbrev alX (b:K4) (j:D) (h:Heap) (F:K4->R) (κ:V->Heap->R):R := alY b j h F fun v h _ => κ v h
abbrev U1 (b:K4) (j:D) (h:Heap) (κ:R):R := b.at j fun r => Be r h fun x => Gk x κ
abbrev Wg (m:Nat) (v:V) (h:Heap) (κ:V->R):R := KB v fun q off => JV q h fun cs _ _ => AW cs off m fun y => Ea y fun l => κ (.agg l)
abbrev U:V := B4
abbrev Q0:SQ := .mk U U U U
abbrev g0 (t:S) (k:V->R):R := @S.rec (fun _ => R) (fun c0 c1 c2 c3 c4 c5 c6 c7 => @SQ.rec (fun _ => R) (fun d0 d1 d2 d3 => k d0) c0) t
abbrev w0 (t:S) (v:V) (k:S->R):R := @S.rec (fun _ => R) (fun c0 c1 c2 c3 c4 c5 c6 c7 => @SQ.rec (fun _ => R) (fun d0 d1 d2 d3 => k (.mk (.mk v d1 d2 d3) c1 c2 c3 c4 c5 c6 c7)) c0) t
abbrev g1 (t:S) (k:V->R):R := @S.rec (fun _ => R) (fun c0 c1 c2 c3 c4 c5 c6 c7 => @SQ.rec (fun _ => R) (fun d0 d1 d2 d3 => k d1) c0) t
abbrev w1 (t:S) (v:V) (k:S->R):R := @S.rec (fun _ => R) (fun c0 c1 c2 c3 c4 c5 c6 c7 => @SQ.rec (fun _ => R) (fun d0 d1 d2 d3 => k (.mk (.mk d0 v d2 d3) c1 c2 c3 c4 c5 c6 c7)) c0) t
abbrev g2 (t:S) (k:V->R):R := @S.rec (fun _ => R) (fun c0 c1 c2 c3 c4 c5 c6 c7 => @SQ.rec (fun _ => R) (fun d0 d1 d2 d3 => k d2) c0) t
abbrev w2 (t:S) (v:V) (k:S->R):R := @S.rec (fun _ => R) (fun c0 c1 c2 c3 c4 c5 c6 c7 => @SQ.rec (fun _ => R) (fun d0 d1 d2 d3 => k (.mk (.mk d0 d1 v d3) c1 c2 c3 c4 c5 c6 c7)) c0) t
abbrev g3 (t:S) (k:V->R):R := @S.rec (fun _ => R) (fun c0 c1 c2 c3 c4 c5 c6 c7 => @SQ.rec (fun _ => R) (fun d0 d1 d2 d3 => k d3) c0) t
abbrev w3 (t:S) (v:V) (k:S->R):R := @S.rec (fun _ => R) (fun c0 c1 c2 c3 c4 c5 c6 c7 => @SQ.rec (fun _ => R) (fun d0 d1 d2 d3 => k (.mk (.mk d0 d1 d2 v) c1 c2 c3 c4 c5 c6 c7)) c0) t
abbrev g4 (t:S) (k:V->R):R := @S.rec (fun _ => R) (fun c0 c1 c2 c3 c4 c5 c6 c7 => @SQ.rec (fun _ => R) (fun d0 d1 d2 d3 => k d0) c1) t
abbrev w4 (t:S) (v:V) (k:S->R):R := @S.rec (fun _ => R) (fun c0 c1 c2 c3 c4 c5 c6 c7 => @SQ.rec (fun _ => R) (fun d0 d1 d2 d3 => k (.mk c0 (.mk v d1 d2 d3) c2 c3 c4 c5 c6 c7)) c1) t
abbrev g5 (t:S) (k:V->R):R := @S.rec (fun _ => R) (fun c0 c1 c2 c3 c4 c5 c6 c7 => @SQ.rec (fun _ => R) (fun d0 d1 d2 d3 => k d1) c1) t
abbrev w5 (t:S) (v:V) (k:S->R):R := @S.rec (fun _ => R) (fun c0 c1 c2 c3 c4 c5 c6 c7 => @SQ.rec (fun _ => R) (fun d0 d1 d2 d3 => k (.mk c0 (.mk d0 v d2 d3) c2 c3 c4 c5 c6 c7)) c1) t
abbrev g6 (t:S) (k:V->R):R := @S.rec (fun _ => R) (fun c0 c1 c2 c3 c4 c5 c6 c7 => @SQ.rec (fun _ => R) (fun d0 d1 d2 d3 => k d2) c1) t
abbrev w6 (t:S) (v:V) (k:S->R):R := @S.rec (fun _ => R) (fun c0 c1 c2 c3 c4 c5 c6 c7 => @SQ.rec (fun _ => R) (fun d0 d1 d2 d3 => k (.mk c0 (.mk d0 d1 v d3) c2 c3 c4 c5 c6 c7)) c1) t
abbrev g7 (t:S) (k:V->R):R := @S.rec (fun _ => R) (fun c0 c1 c2 c3 c4 c5 c6 c7 => @SQ.rec (fun _ => R) (fun d0 d1 d2 d3 => k d3) c1) t
abbrev w7 (t:S) (v:V) (k:S->R):R := @S.rec (fun _ => R) (fun c0 c1 c2 c3 c4 c5 c6 c7 => @SQ.rec (fun _ => R) (fun d0 d1 d2 d3 => k (.mk c0 (.mk d0 d1 d2 v) c2 c3 c4 c5 c6 c7)) c1) t
abbrev g8 (t:S) (k:V->R):R := @S.rec (fun _ => R) (fun c0 c1 c2 c3 c4 c5 c6 c7 => @SQ.rec (fun _ => R) (fun d0 d1 d2 d3 => k d0) c2) t
abbrev w8 (t:S) (v:V) (k:S->R):R := @S.rec (fun _ => R) (fun c0 c1 c2 c3 c4 c5 c6 c7 => @SQ.rec (fun _ => R) (fun d0 d1 d2 d3 => k (.mk c0 c1 (.mk v d1 d2 d3) c3 c4 c5 c6 c7)) c2) t
abbrev g9 (t:S) (k:V->R):R := @S.rec (fun _ => R) (fun c0 c1 c2 c3 c4 c5 c6 c7 => @SQ.rec (fun _ => R) (fun d0 d1 d2 d3 => k d1) c2) t
abbrev w9 (t:S) (v:V) (k:S->R):R := @S.rec (fun _ => R) (fun c0 c1 c2 c3 c4 c5 c6 c7 => @SQ.rec (fun _ => R) (fun d0 d1 d2 d3 => k (.mk c0 c1 (.mk d0 v d2 d3) c3 c4 c5 c6 c7)) c2) t
abbrev Bt (t:S) (k:V->R):R := @S.rec (fun _ => R) (fun c0 c1 c2 c3 c4 c5 c6 c7 => @SQ.rec (fun _ => R) (fun d0 d1 d2 d3 => k d2) c2) t
abbrev Bn (t:S) (v:V) (k:S->R):R := @S.rec (fun _ => R) (fun c0 c1 c2 c3 c4 c5 c6 c7 => @SQ.rec (fun _ => R) (fun d0 d1 d2 d3 => k (.mk c0 c1 (.mk d0 d1 v d3) c3 c4 c5 c6 c7)) c2) t
abbrev Bp (t:S) (k:V->R):R := @S.rec (fun _ => R) (fun c0 c1 c2 c3 c4 c5 c6 c7 => @SQ.rec (fun _ => R) (fun d0 d1 d2 d3 => k d3) c2) t
abbrev Bm (t:S) (v:V) (k:S->R):R := @S.rec (fun _ => R) (fun c0 c1 c2 c3 c4 c5 c6 c7 => @SQ.rec (fun _ => R) (fun d0 d1 d2 d3 => k (.mk c0 c1 (.mk d0 d1 d2 v) c3 c4 c5 c6 c7)) c2) t
abbrev Bo (t:S) (k:V->R):R := @S.rec (fun _ => R) (fun c0 c1 c2 c3 c4 c5 c6 c7 => @SQ.rec (fun _ => R) (fun d0 d1 d2 d3 => k d0) c3) t
abbrev Br (t:S) (v:V) (k:S->R):R := @S.rec (fun _ => R) (fun c0 c1 c2 c3 c4 c5 c6 c7 => @SQ.rec (fun _ => R) (fun d0 d1 d2 d3 => k (.mk c0 c1 c2 (.mk v d1 d2 d3) c4 c5 c6 c7)) c3) t
abbrev BC (t:S) (k:V->R):R := @S.rec (fun _ => R) (fun c0 c1 c2 c3 c4 c5 c6 c7 => @SQ.rec (fun _ => R) (fun d0 d1 d2 d3 => k d1) c3) t
abbrev BG (t:S) (v:V) (k:S->R):R := @S.rec (fun _ => R) (fun c0 c1 c2 c3 c4 c5 c6 c7 => @SQ.rec (fun _ => R) (fun d0 d1 d2 d3 => k (.mk c0 c1 c2 (.mk d0 v d2 d3) c4 c5 c6 c7)) c3) t
abbrev BE (t:S) (k:V->R):R := @S.rec (fun _ => R) (fun c0 c1 c2 c3 c4 c5 c6 c7 => @SQ.rec (fun _ => R) (fun d0 d1 d2 d3 => k d2) c3) t
abbrev Bz (t:S) (v:V) (k:S->R):R := @S.rec (fun _ => R) (fun c0 c1 c2 c3 c4 c5 c6 c7 => @SQ.rec (fun _ => R) (fun d0 d1 d2 d3 => k (.mk c0 c1 c2 (.mk d0 d1 v d3) c4 c5 c6 c7)) c3) t
abbrev By (t:S) (k:V->R):R := @S.rec (fun _ => R) (fun c0 c1 c2 c3 c4 c5 c6 c7 => @SQ.rec (fun _ => R) (fun d0 d1 d2 d3 => k d3) c3) t
abbrev BB (t:S) (v:V) (k:S->R):R := @S.rec (fun _ => R) (fun c0 c1 c2 c3 c4 c5 c6 c7 => @SQ.rec (fun _ => R) (fun d0 d1 d2 d3 => k (.mk c0 c1 c2 (.mk d0 d1 d2 v) c4 c5 c6 c7)) c3) t
abbrev BF (t:S) (k:V->R):R := @S.rec (fun _ => R) (fun c0 c1 c2 c3 c4 c5 c6 c7 => @SQ.rec (fun _ => R) (fun d0 d1 d2 d3 => k d0) c4) t
abbrev BA (t:S) (v:V) (k:S->R):R := @S.rec (fun _ => R) (fun c0 c1 c2 c3 c4 c5 c6 c7 => @SQ.rec (fun _ => R) (fun d0 d1 d2 d3 => k (.mk c0 c1 c2 c3 (.mk v d1 d2 d3) c5 c6 c7)) c4) t
abbrev g17 (t:S) (k:V->R):R := @S.rec (fun _ => R) (fun c0 c1 c2 c3 c4 c5 c6 c7 => @SQ.rec (fun _ => R) (fun d0 d1 d2 d3 => k d1) c4) t
abbrev BD (t:S) (v:V) (k:S->R):R := @S.rec (fun _ => R) (fun c0 c1 c2 c3 c4 c5 c6 c7 => @SQ.rec (fun _ => R) (fun d0 d1 d2 d3 => k (.mk c0 c1 c2 c3 (.mk d0 v d2 d3) c5 c6 c7)) c4) t
abbrev Bx (t:S) (k:V->R):R := @S.rec (fun _ => R) (fun c0 c1 c2 c3 c4 c5 c6 c7 => @SQ.rec (fun _ => R) (fun d0 d1 d2 d3 => k d2) c4) t
abbrev Bw (t:S) (v:V) (k:S->R):R := @S.rec (fun _ => R) (fun c0 c1 c2 c3 c4 c5 c6 c7 => @SQ.rec (fun _ => R) (fun d0 d1 d2 d3 => k (.mk c0 c1 c2 c3 (.mk d0 d1 v d3) c5 c6 c7)) c4) t
abbrev Bv (t:S) (k:V->R):R := @S.rec (fun _ => R) (fun c0 c1 c2 c3 c4 c5 c6 c7 => @SQ.rec (fun _ => R) (fun d0 d1 d2 d3 => k d3) c4) t
abbrev Bu (t:S) (v:V) (k:S->R):R := @S.rec (fun _ => R) (fun c0 c1 c2 c3 c4 c5 c6 c7 => @SQ.rec (fun _ => R) (fun d0 d1 d2 d3 => k (.mk c0 c1 c2 c3 (.mk d0 d1 d2 v) c5 c6 c7)) c4) t
section
variable {P:Program} {ρ:Env} {B:Nat}
/-- What stands at a function's place in the table. -/
def AS (P:Program) (ρ:Env) (B:Nat) (f:FuncId) (o:DJ):Prop := ∀ e, o=some e->Mx P ρ B f e
theorem AS.no {f:FuncId}:AS P ρ B f none := fun e h => by cases h
theorem AS.fn {f:FuncId} {e:Ent} (h:AR P f e):AS P ρ B f (some e) := fun e' h' => by cases h'; exact .inl (.inl h)
theorem AS.br {f:FuncId} {k:Nat} {en:List V->(S->R)->R} {bo:Fz->S->Heap->K4->R} {re:S->Heap->K4->R} (h:AR P f (.code en bo re)):AS P ρ B f (some (.br k en bo re)) := fun e' h' => by cases h'; exact .inl (.inr ⟨k, en, bo, re, rfl, h⟩)
theorem AS.pr {f:FuncId} {p:NV} (h:OD P ρ B f p):AS P ρ B f (some (.prim p)) := fun e' h' => by cases h'; exact .inr (.inl ⟨p, rfl, h⟩)
def Pe (s:String):NV := fun _ _ _ => .fail s
theorem AS.noP {f:FuncId} (s:String):AS P ρ B f (some (.prim (Pe s))) := AS.pr fun args h n v h1 n1 hx => by cases hx
theorem AS.ap {f:FuncId} {its:List Nat} {rd:Rd} {A:ApC} (hA:ρ.ap f=some A) (h1:M2 P f=some A) (h2:TW P A=some rd) (h3:∀ g∈its, KC P g):AS P ρ B f (some (.ap f its rd)) := fun e' h' => by cases h'; exact .inr (.inr (.inl ⟨its, rd, A, rfl, hA, h1, h2, h3⟩))
theorem AS.tr {f:FuncId} {p:NV} (h:Us P ρ B f p):AS P ρ B f (some (.tree p)) := fun e' h' => by cases h'; exact .inr (.inr (.inr ⟨p, rfl, h⟩))
def IM (P:Program) (ρ:Env) (B:Nat) (base:Nat) (x:FA):Prop := ∀ d, AS P ρ B (base+d.toN) (FA.sel d x)
def NX (P:Program) (ρ:Env) (B:Nat) (base:Nat) (x:FB):Prop := ∀ d, IM P ρ B (base+16*d.toN) (FB.sel d x)
theorem G9 {base:Nat} {c0 c1 c2 c3 c4 c5 c6 c7 c8 c9 ca cb cc cd ce cf:DJ} (h0:AS P ρ B (base+0) c0) (h1:AS P ρ B (base+1) c1) (h2:AS P ρ B (base+2) c2) (h3:AS P ρ B (base+3) c3) (h4:AS P ρ B (base+4) c4) (h5:AS P ρ B (base+5) c5) (h6:AS P ρ B (base+6) c6) (h7:AS P ρ B (base+7) c7) (h8:AS P ρ B (base+8) c8) (h9:AS P ρ B (base+9) c9) (h10:AS P ρ B (base+10) ca) (h11:AS P ρ B (base+11) cb) (h12:AS P ρ B (base+12) cc) (h13:AS P ρ B (base+13) cd) (h14:AS P ρ B (base+14) ce) (h15:AS P ρ B (base+15) cf):IM P ρ B base (.mk c0 c1 c2 c3 c4 c5 c6 c7 c8 c9 ca cb cc cd ce cf) := fun d => by
  cases d
  · exact h0
  · exact h1
  · exact h2
  · exact h3
  · exact h4
  · exact h5
  · exact h6
  · exact h7
  · exact h8
  · exact h9
  · exact h10
  · exact h11
  · exact h12
  · exact h13
  · exact h14
  · exact h15
theorem Ye {base:Nat} {c0 c1 c2 c3 c4 c5 c6 c7 c8 c9 ca cb cc cd ce cf:FA} (h0:IM P ρ B (base+16*0) c0) (h1:IM P ρ B (base+16*1) c1) (h2:IM P ρ B (base+16*2) c2) (h3:IM P ρ B (base+16*3) c3) (h4:IM P ρ B (base+16*4) c4) (h5:IM P ρ B (base+16*5) c5) (h6:IM P ρ B (base+16*6) c6) (h7:IM P ρ B (base+16*7) c7) (h8:IM P ρ B (base+16*8) c8) (h9:IM P ρ B (base+16*9) c9) (h10:IM P ρ B (base+16*10) ca) (h11:IM P ρ B (base+16*11) cb) (h12:IM P ρ B (base+16*12) cc) (h13:IM P ρ B (base+16*13) cd) (h14:IM P ρ B (base+16*14) ce) (h15:IM P ρ B (base+16*15) cf):NX P ρ B base (.mk c0 c1 c2 c3 c4 c5 c6 c7 c8 c9 ca cb cc cd ce cf) := fun d => by
  cases d
  · exact h0
  · exact h1
  · exact h2
  · exact h3
  · exact h4
  · exact h5
  · exact h6
  · exact h7
  · exact h8
  · exact h9
  · exact h10
  · exact h11
  · exact h12
  · exact h13
  · exact h14
  · exact h15
def Kj:FA := .mk none none none none none none none none none none none none none none none none
def ML:FB := .mk Kj Kj Kj Kj Kj Kj Kj Kj Kj Kj Kj Kj Kj Kj Kj Kj
theorem Sr (d:D):FA.sel d Kj=none := by cases d <;> rfl
theorem Ry (d:D):FB.sel d ML=Kj := by cases d <;> rfl
theorem Ii {base:Nat}:IM P ρ B base Kj := fun d => by rw [Sr]; exact AS.no
theorem E0 {base:Nat}:NX P ρ B base ML := fun d => by rw [Ry]; exact Ii
theorem ofN_lt {x:Nat} {d:D} (h:D.ofN x=d) (hd:d ≠ .d15):x=d.toN := by
  rcases Nat.lt_or_ge x 15 with hx | hx
  · rw [←h, D.toN_ofN x (by omega)]
  · exfalso
    obtain ⟨y, rfl⟩:∃ y, x=y+15 := ⟨x - 15, by omega⟩
    exact hd h.symm
theorem YV {c0 c1 c2 c3 c4 c5 c6 c7 c8 c9 ca cb cc cd ce:FB} (h0:NX P ρ B (256*0) c0) (h1:NX P ρ B (256*1) c1) (h2:NX P ρ B (256*2) c2) (h3:NX P ρ B (256*3) c3) (h4:NX P ρ B (256*4) c4) (h5:NX P ρ B (256*5) c5) (h6:NX P ρ B (256*6) c6) (h7:NX P ρ B (256*7) c7) (h8:NX P ρ B (256*8) c8) (h9:NX P ρ B (256*9) c9) (h10:NX P ρ B (256*10) ca) (h11:NX P ρ B (256*11) cb) (h12:NX P ρ B (256*12) cc) (h13:NX P ρ B (256*13) cd) (h14:NX P ρ B (256*14) ce):∀ f e, B5 (Bk f) (.mk c0 c1 c2 c3 c4 c5 c6 c7 c8 c9 ca cb cc cd ce ML)=some e->Mx P ρ B f e := fun f e h => by
  have hc:(D.ofN (f % 16)).toN=f % 16 := D.toN_ofN _ (by omega)
  have hb:(D.ofN (f / 16 % 16)).toN=f / 16 % 16 := D.toN_ofN _ (by omega)
  have key:∀ x:FB, NX P ρ B (256*(f / 256)) x->FA.sel (D.ofN (f % 16)) (FB.sel (D.ofN (f / 16 % 16)) x)=some e->Mx P ρ B f e := fun x hx hs => by
    have := hx (D.ofN (f / 16 % 16)) (D.ofN (f % 16)) e hs
    rw [hc, hb] at this
    have e1:256*(f / 256)+16*(f / 16 % 16)+f % 16=f := by omega
    rw [e1] at this; exact this
  have h:FA.sel (D.ofN (f % 16)) (FB.sel (D.ofN (f / 16 % 16)) (FC.sel (D.ofN (f / 256)) (.mk c0 c1 c2 c3 c4 c5 c6 c7 c8 c9 ca cb cc cd ce ML)))=some e := h
  generalize hd:D.ofN (f / 256)=d at h
  cases d
  · have := ofN_lt hd (by intro h; cases h); rw [show D.toN .d0=0 from rfl] at this; exact key c0 (by rw [this]; exact h0) h
  · have := ofN_lt hd (by intro h; cases h); rw [show D.toN .d1=1 from rfl] at this; exact key c1 (by rw [this]; exact h1) h
  · have := ofN_lt hd (by intro h; cases h); rw [show D.toN .d2=2 from rfl] at this; exact key c2 (by rw [this]; exact h2) h
  · have := ofN_lt hd (by intro h; cases h); rw [show D.toN .d3=3 from rfl] at this; exact key c3 (by rw [this]; exact h3) h
  · have := ofN_lt hd (by intro h; cases h); rw [show D.toN .d4=4 from rfl] at this; exact key c4 (by rw [this]; exact h4) h
  · have := ofN_lt hd (by intro h; cases h); rw [show D.toN .d5=5 from rfl] at this; exact key c5 (by rw [this]; exact h5) h
  · have := ofN_lt hd (by intro h; cases h); rw [show D.toN .d6=6 from rfl] at this; exact key c6 (by rw [this]; exact h6) h
  · have := ofN_lt hd (by intro h; cases h); rw [show D.toN .d7=7 from rfl] at this; exact key c7 (by rw [this]; exact h7) h
  · have := ofN_lt hd (by intro h; cases h); rw [show D.toN .d8=8 from rfl] at this; exact key c8 (by rw [this]; exact h8) h
  · have := ofN_lt hd (by intro h; cases h); rw [show D.toN .d9=9 from rfl] at this; exact key c9 (by rw [this]; exact h9) h
  · have := ofN_lt hd (by intro h; cases h); rw [show D.toN .d10=10 from rfl] at this; exact key ca (by rw [this]; exact h10) h
  · have := ofN_lt hd (by intro h; cases h); rw [show D.toN .d11=11 from rfl] at this; exact key cb (by rw [this]; exact h11) h
  · have := ofN_lt hd (by intro h; cases h); rw [show D.toN .d12=12 from rfl] at this; exact key cc (by rw [this]; exact h12) h
  · have := ofN_lt hd (by intro h; cases h); rw [show D.toN .d13=13 from rfl] at this; exact key cd (by rw [this]; exact h13) h
  · have := ofN_lt hd (by intro h; cases h); rw [show D.toN .d14=14 from rfl] at this; exact key ce (by rw [this]; exact h14) h
  · have h:FA.sel (D.ofN (f % 16)) (FB.sel (D.ofN (f / 16 % 16)) ML)=some e := h
    rw [Ry, Sr] at h; cases h
/-- The environment of a program in which some functions range over functions. -/
def Lw (P:Program) (fs:List Nat):Env := { v := fun _ => .bool true, ap := fun f => @Bool.rec (fun _ => Option ApC) none (M2 P f) (fs.contains f) }
def Oe (P:Program) (g:FuncId):Bool := match P.funcs[g]? with
  | some fn => fn.body.isSome && !(fn.name == "runtime.NumGoroutine")
  | none => false
theorem QQ {g:FuncId} (h:Oe P g=true):KC P g := by
  unfold Oe at h
  split at h
  · rename_i fn hfn
    simp only [Bool.and_eq_true, Bool.not_eq_true'] at h
    obtain ⟨c, hc⟩ := Option.isSome_iff_exists.1 h.1
    exact ⟨fn, c, hfn, hc, h.2⟩
  · cases h
def Aan (P:Program) (f:FuncId):Option Rd := (M2 P f).bind (TW P)
theorem Gm.mk {fs:List Nat} {f:FuncId} {its:List Nat} {rd:Rd} (hf:fs.contains f=true) (h:Aan P f=some rd) (hb:its.all (Oe P)=true):Gm P (Lw P fs) f (.ap f its rd) := by
  unfold Aan at h
  cases hA:M2 P f with
  | none => rw [hA] at h; cases h
  | some A =>
    rw [hA] at h
    exact ⟨its, rd, A, rfl, by show @Bool.rec (fun _ => Option ApC) none (M2 P f) (fs.contains f)=_; rw [hf]; exact hA, hA, h, fun g hg => QQ (List.all_eq_true.1 hb g hg)⟩
theorem AS.apE {f:FuncId} {e:Ent} (h:Gm P ρ f e):AS P ρ B f (some e) := fun e' h' => by cases h'; exact .inr (.inr (.inl h))
theorem JQ.mk {fs:List Nat} {T:FC} (h:∀ f e, B5 (Bk f) T=some e->Mx P (Lw P fs) B f e) (ha:∀ f∈fs, ∃ e, B5 (Bk f) T=some e∧Gm P (Lw P fs) f e):JQ P (Lw P fs) B T := by
  refine ⟨h, fun f A hA => ?_⟩
  have hA:@Bool.rec (fun _ => Option ApC) none (M2 P f) (fs.contains f)=some A := hA
  cases hc:fs.contains f with
  | false => rw [hc] at hA; cases hA
  | true => exact ha f (List.contains_iff_mem.1 hc)
theorem Yy {Q:Nat->Prop}:∀ f∈([]:List Nat), Q f := fun f h => by cases h
theorem Wt {Q:Nat->Prop} {x:Nat} {l:List Nat} (h:Q x) (k:∀ f∈l, Q f):∀ f∈x::l, Q f := fun f hf => by
  rcases List.mem_cons.1 hf with rfl | hf
  · exact h
  · exact k f hf
/-- A call that is evaluated to true, from values that the arguments tell of. -/
theorem Mz (hρ:Bq ρ) (hm:P.follows .mixedOrders=true) {T:FC} (hT:∀ B, JQ P ρ B T) {m:Nat} {f:FuncId} {fn:Func} {args:List V}
    (hf:P.funcs[f]? = some fn) (hb:fn.body.isSome=true) (hn:(fn.name == "runtime.NumGoroutine")=false) (hx:UZ (Al T m (Bk f) args AN Z9)=true) {xs:Array Value} (hr:BL ρ (fun _ => none) args xs.toList) (w:World) (hgl:Z7 ρ w := by intro b c e fr h; have h:(none:Option (Array Value×TypeId×(Nat×Nat)))=some (c, e, fr) := h; cases h) :
    Calls P f xs w fun e w' => e = .returned (.bool true)∧Below w.heap.size w w' := by
  obtain ⟨h1, n1, hx⟩ := Vn hx
  obtain ⟨c, hc⟩ := Option.isSome_iff_exists.1 hb
  have := Ie (R := fun x w' => x = .bool true∧Below w.heap.size w w') hf hc (by simpa using hn) (fun o a K Q hK =>
    Uh (B := w.heap.size) hρ hm (hT _) m f args AN Z9 _ h1 n1 hx (fun _ => none) w xs (T9 w Z9 hgl) hr o a K Q fun x w' ⟨φ', f1, _, hr⟩ => hK x w' ⟨by simpa only [Ap] using hr, OR f1⟩)
  refine this.mono fun e w' he => ?_
  cases e with
  | returned v => exact ⟨by rw [he.1], he.2⟩
  | _ => exact he.elim
end
end Go.Ev

namespace Go.Ev
set_option linter.unusedVariables false
open Go.RowKit
def La:NV := fun args h n =>
  K0 args fun v l => RP l (E3 v (.fail "") fun p => Rv p h fun es bs c => DZ h n (.m es bs c) fun h n' => .rv (.map n) h n')
/-- It is maps.Clone: the function that it calls. -/
def Sz (P:Program) (f:FuncId):Option FuncId :=
  match P.funcs[f]? with
  | some fn => match fn.body with
    | some (.seq (.region _ r0 false) (.seq (.seq (.region _ r1 false) (.cond (.tmp 4) _ .skip)) (.seq (.region _ r3 false) .ret))) =>
      match r0.toList, r1.toList, r3.toList, fn.results.toList with
      | [o1], [o2, o3], [o4, o5, o6, o7, o8], [.tmp s2] => match o1.op, o2.op, o3.op, o4.op, o5.op, o6.op, o7.op, o8.op with
        | .assign (.const c1), .move (.tmp s0), .binOp .eql t3 (.tmp s3) (.const (.map none)) _, .move (.tmp s0'), .makeInterface t5 (.tmp s5), .call ct, .typeAssert (.tmp s7) _ t7 false, .assign (.tmp s8) =>
          match ct.callee, ct.args.toList, P.underlying t5 with
          | .value (.func g), [.tmp s6], some (.map _ _) =>
            if (fn.name == "runtime.NumGoroutine")=false∧fn.ntmps=9∧s2=2∧s0=0∧s0'=0∧s3=3∧s5=5∧s6=6∧s7=7∧s8=8∧t3=t5∧t7=t5∧o1.dst=some 2∧o2.dst=some 3∧o3.dst=some 4∧o4.dst=some 5∧o5.dst=some 6∧o6.dst=some 7∧o7.dst=some 8∧o8.dst=some 2 ∧
              o1.guard=none∧o2.guard=none∧o3.guard=none∧o4.guard=none∧o5.guard=none∧o6.guard=none∧o7.guard=none∧o8.guard=none then some g else none
          | _, _, _ => none
        | _, _, _, _, _, _, _, _ => none
      | _, _, _, _ => none
    | _ => none
  | none => none
section
variable {P:Program} {ρ:Env} {B:Nat}
theorem Pv (w:World) (t k e:TypeId) (p:Option Nat) (h:P.underlying t=some (.map k e)):(binOp .eql t (.map p) (.map none)).run P w = .ok (.bool p.isNone) w := by
  have key:∀ d, (Op.equalIn (d+1) t (.map p) (.map none)).run P w = .ok p.isNone w := fun d => by cases p <;> simp [Op.equalIn, run_underlying h]
  simp only [binOp]
  simp [show Op.equal t (.map p) (.map none)=Op.equalIn (9999+1) t (.map p) (.map none) from rfl, key 9999]
theorem LR (w:World) (t xT k e:TypeId) (v:Value) (h:P.underlying t=some (.map k e)):(Instr.typeAssert (.iface t v) xT t false).run P w = .ok v w := by
  simp [Instr.typeAssert, run_underlying h, go_sem, Result.andThen]
theorem Tw {w:World} {r:Nat} {es:Array MapEntry} {c:Nat} (t:TypeId) (hb:w.heap[r]? = some (.map es c)) :
    (Extern.MapsClone.clone #[.iface t (.map (some r))]).run P w = .ok (.iface t (.map (some w.heap.size))) (w.alloc (.map es c)) := by
  have e:Extern.MapsClone.clone #[.iface t (.map (some r))]=(getObj r >>= fun o => match o with
      | .map entries clock => (newObj (.map entries clock) >>= fun n => pure (.iface t (.map (some n))))
      | _ => stuck "maps.clone: a map expected") := rfl
  rw [e]
  have hg:(getObj r).run P w = .ok (.map es c) w := by simp [getObj, Sem.run, hb]
  simp [hg, Result.andThen, go_sem]
theorem VL {f g:FuncId} (hc:Sz P f=some g) (b:Bare P g Extern.MapsClone.clone):OD P ρ B f La := by
  intro args h n v h1 n1 hx φ w xs gm hr
  have hg:(La args h n).good := by rw [hx]; trivial
  unfold La at hx hg
  obtain ⟨m, l, rfl, q1⟩ := Hf hg
  rw [q1] at hx hg
  obtain ⟨rfl, q2⟩ := LK hg
  rw [q2] at hx hg
  rcases DL hg with ⟨_, q3⟩ | ⟨p, rfl, q3⟩
  · rw [q3] at hg; exact hg.elim
  rw [q3, Ft] at hx hg
  obtain ⟨es, bs, c, hp, q4⟩ := EH hg
  rw [q4, HO] at hx hg
  obtain ⟨n', hn, q5⟩ := Bh hg
  rw [q5] at hx
  cases hx
  obtain ⟨X, l0, hX, r0, hl0⟩ := Aq.1 hr
  have hl0 := Aw.1 hl0
  subst hl0
  obtain ⟨bk, s, tot, hφ, rfl⟩ := FJ r0
  obtain ⟨ents, k1, k2, k3⟩ := gm.obj p _ bk s tot hp hφ
  have hxe:xs = #[.map (some bk)] := by cases xs; simp at hX; rw [hX]
  subst hxe
  unfold Sz at hc
  split at hc
  next fn hfn =>
    split at hc
    next i0 r0 i1 r1 cthen i3 r3 hbody =>
      split at hc
      next o1 o2 o3 o4 o5 o6 o7 o8 s2 e0 e1 e3 ers =>
        split at hc
        next c1 s0 t3 s3 t3' s0' t5 s5 ct s7 t7' t7 s8 p1 p2 p3 p4 p5 p6 p7 p8 =>
          split at hc
          next g' s6 kt et hcal hargs hu =>
            split at hc
            next hc' =>
              cases hc
              obtain ⟨hname, hnt, rfl, rfl, rfl, rfl, rfl, rfl, rfl, rfl, rfl, rfl, d1, d2, d3, d4, d5, d6, d7, d8, g1, g2, g3, g4, g5, g6, g7, g8⟩ := hc'
              have hres:fn.results = #[.tmp 2] := by cases hh:fn.results with | mk l => rw [hh] at ers; simp at ers; rw [ers]
              have hcargs:ct.args = #[.tmp 6] := by cases hh:ct.args with | mk l => rw [hh] at hargs; simp at hargs; rw [hargs]
              have e1':(callFunc f #[.map (some bk)]).run P w = .ok (.enter f #[.map (some bk)]) w := by
                have hname':fn.name ≠ "runtime.NumGoroutine" := by simpa using hname
                simp [callFunc, hfn, hname', hbody]
              intro o a K Q hK
              rw [e1']
              refine (callsIn_wide (n := 0)).1 (callsIn_of_wp_marks hfn hbody trivial ?_ rfl)
              rw [hnt]
              simp only [List.size_toArray, List.length_cons, List.length_nil, Nat.reduceAdd, Nat.reduceSub, Array.replicate_succ, Array.replicate_zero, List.push_toArray, List.append_toArray, List.nil_append, List.cons_append]
              refine wpIn_seq (wpIn_region_list ?_)
              rw [e0]
              refine wpListIn_plain g1 fun K1 hK1 => BZ (x := c1) (w' := w) (by simp [execOp, p1, Act.eval]) (hK1 _ _ ?_)
              refine wpListIn_nil ?_
              refine wpIn_seq (wpIn_seq (wpIn_region_list ?_))
              rw [e1, d1]
              refine wpListIn_plain g2 fun K2 hK2 => BZ (x := .map (some bk)) (w' := w) (by simp [execOp, p2, Act.eval, Act.put]) (hK2 _ _ ?_)
              rw [d2]
              refine wpListIn_plain g3 fun K3 hK3 => BZ (x := .bool false) (w' := w) (by simp [execOp, p3, Act.eval, Act.put, eqGuard, Pv w _ _ _ _ hu]) (hK3 _ _ ?_)
              rw [d3]
              refine wpListIn_nil (wpIn_cond_false (by simp [Act.eval, Act.put]) (wpIn_skip ?_))
              refine wpIn_seq (wpIn_region_list ?_)
              rw [e3]
              refine wpListIn_plain g4 fun K4 hK4 => BZ (x := .map (some bk)) (w' := w) (by simp [execOp, p4, Act.eval, Act.put]) (hK4 _ _ ?_)
              rw [d4]
              refine wpListIn_plain g5 fun K5 hK5 => BZ (x := .iface t7 (.map (some bk))) (w' := w) (by simp [execOp, p5, Act.eval, Act.put, Instr.makeInterface, run_underlying hu]) (hK5 _ _ ?_)
              rw [d5]
              refine wpListIn_plain g6 fun K6 hK6 => BZ (x := .iface t7 (.map (some w.heap.size))) (w' := w.alloc (.map ents c)) (by
                simp only [execOp, p6, resolve, hcal, hcargs, Deferred.ofValue, Act.eval, Act.put]
                have := b.run (Tw (P := P) t7 k1)
                simp [invoke, Act.eval, this]) (hK6 _ _ ?_)
              rw [d6]
              refine wpListIn_plain g7 fun K7 hK7 => BZ (x := .map (some w.heap.size)) (w' := w.alloc (.map ents c)) (by simp [execOp, p7, Act.eval, Act.put, LR _ _ _ _ _ _ hu]) (hK7 _ _ ?_)
              rw [d7]
              refine wpListIn_plain g8 fun K8 hK8 => BZ (x := .map (some w.heap.size)) (w' := w.alloc (.map ents c)) (by simp [execOp, p8, Act.eval, Act.put]) (hK8 _ _ ?_)
              rw [d8]
              refine wpListIn_nil (wpIn_ret ?_)
              show LeavesInM Fence.wide 0 P fn _ _ [] .returning (w.alloc (.map ents c))
              unfold LeavesInM LeavesIn
              refine ⟨.map (some w.heap.size), by simp [results, hres, Act.put], ?_⟩
              refine hK _ _ ⟨EK φ n (w.heap.size, 0, 0), Fr.alloc gm.at_n (by omega) (Nat.le_refl _) (by omega) _ _ 0, gm.alloc gm.at_n (by omega) (by omega) (.m es bs c) rfl _ 0 fun φ' hle w' hw' => ⟨ents, hw', My hle k2, k3⟩, ?_⟩
              simp only [Ap]
              exact ⟨w.heap.size, 0, 0, C6 _ _ _, rfl⟩
            next => cases hc
          next => cases hc
        next => cases hc
      next => cases hc
    next => cases hc
  next => cases hc
end
end Go.Ev

namespace Go.Ev
set_option linter.unusedVariables false
theorem HA.setS_sel (d:D) (p:HA):HA.setS d p (HA.sel d p)=p := by cases d <;> cases p <;> rfl
theorem HB.setS_sel (d:D) (p:HB):HB.setS d p (HB.sel d p)=p := by cases d <;> cases p <;> rfl
theorem HC.setS_sel (d:D) (p:HC):HC.setS d p (HC.sel d p)=p := by cases d <;> cases p <;> rfl
theorem Heap.setS_sel (d:D) (p:Heap):Heap.setS d p (Heap.sel d p)=p := by cases d <;> cases p <;> rfl
theorem Qq (p:K4) (h:Heap):Ae p h (A9 p h)=h := by
  cases p
  simp only [A9, Ae, EV, Heap.setK_eq, HC.setK_eq, HB.setK_eq, HA.setK_eq, Heap.selK_eq, HC.selK_eq, HB.selK_eq, id, HA.setS_sel, HB.setS_sel, HC.setS_sel, Heap.setS_sel]
def L7 (r:R) (κ:S->Heap->K4->R):R :=
  @R.rec (fun _ => R) (fun e t h n => @Ex.rec (fun _ => R) (κ t h n) (fun id => .ok (.exit id) t h n) (.ok .ret t h n) e) (C4 "") (fun w => .fail w) (fun _ _ a b => .both a b) r
abbrev Pm := S->Heap->(Nat->S->R)->R->R
def Hv (body:S->Heap->K4->R) (ih:Nat->S->Heap->K4->R) (k:Nat) (t:S) (h:Heap) (n:K4):R :=
  @Nat.rec (fun _ => R) (.fail "") (fun k _ => L7 (body t h n) (ih k)) k
def Nk (body:S->Heap->K4->R) (J:Pm) (r:Nat):Nat->S->Heap->K4->R :=
  @Nat.rec (fun _ => Nat->S->Heap->K4->R) (fun k => DH body k)
    (fun _ ih k t h n => J t h (fun j t' => br (Nat.ble j k) (Aa (Nat.sub k j) fun k => Hv body ih k t' h n) (DH body k t h n)) (Hv body ih k t h n)) r
def J1 (body:S->Heap->K4->R) (J:Pm):S->Heap->K4->R := Nk body J 1000000 1000000000
def LV (body:S->Heap->K4->R) (J:Pm):Prop :=
  ∀ t h κ κ0, J t h κ κ0=κ0 ∨ ∃ j t', J t h κ κ0=κ j t' ∧ ∀ k n, DH body (j+k) t h n=DH body k t' h n
theorem DR (body:S->Heap->K4->R):∀ (k:Nat) (t:S) (h:Heap) (n:K4), DH body k t h n=Hv body (DH body) k t h n
  | 0, _, _, _ => rfl
  | _+1, _, _, _ => rfl
theorem X2 {body:S->Heap->K4->R} {J:Pm} (H:LV body J):∀ (r k:Nat), Nk body J r k=DH body k := by
  intro r
  induction r with
  | zero => exact fun _ => rfl
  | succ r ih =>
    intro k
    funext t h n
    have e0:Nk body J (r+1) k t h n=J t h (fun j t' => br (Nat.ble j k) (Aa (Nat.sub k j) fun k => Hv body (Nk body J r) k t' h n) (DH body k t h n)) (Hv body (Nk body J r) k t h n) := rfl
    have ih:Nk body J r=DH body := funext ih
    rw [e0, ih]
    rcases H t h (fun j t' => br (Nat.ble j k) (Aa (Nat.sub k j) fun k => Hv body (DH body) k t' h n) (DH body k t h n)) (Hv body (DH body) k t h n) with e | ⟨j, t', e, hj⟩
    · rw [e, ←DR]
    · rw [e]
      cases hb:Nat.ble j k with
      | false => rfl
      | true =>
        have hb := Nat.le_of_ble_eq_true hb
        show Aa (Nat.sub k j) (fun k => Hv body (DH body) k t' h n)=_
        rw [A7, ←DR, show Nat.sub k j=k - j from rfl, ←hj (k - j) n, show j+(k - j)=k by omega]
theorem Jt {body:S->Heap->K4->R} {J:Pm} (H:LV body J):C0 body=J1 body J := (X2 H 1000000 1000000000).symm
def CO:S->Heap->K4->R := fun t h n => g7 t fun z20 => g6 t fun z21 => Ba z20 z21 fun z22 => BM z22 (Ao 2 (g5 t fun z23 => Am z23 fun z24 => Ak 2 z24 fun z25 => Au z25 h fun z26 => g2 t fun z27 => AM z27 z20 fun z28 => F1 z28 (.int .i64 64) fun z29 => PN (.sc .i) z26 z29 (.bool true) h fun h => .ok .nrm t h n) fun t h n => g7 t fun z2a => AM z2a (.int .i64 1) fun z2b => w7 t z2b fun t => .ok .nrm t h n) <| .ok (.exit 1) t h n
def Me (v:V) (κ0:R) (κ:Nat->R):R :=
  @V.rec (fun _ => R) (fun _ => Unit) (fun k r => br (AZ k .i64) (κ r) κ0) (fun _ => κ0) (fun _ _ => κ0) (fun _ _ _ _ _ _ => κ0) (fun _ _ => κ0) (fun _ _ => κ0) (fun _ => κ0) (fun _ => κ0) (fun _ _ _ => κ0) (fun _ _ => κ0) (fun _ => κ0) () (fun _ _ _ _ => ()) v
def Wm (v:V) (κ0:R) (κ:K4->Nat->R):R :=
  @V.rec (fun _ => R) (fun _ => Unit) (fun _ _ => κ0) (fun _ => κ0) (fun p o => κ p o) (fun _ _ _ _ _ _ => κ0) (fun _ _ => κ0) (fun _ _ => κ0) (fun _ => κ0) (fun _ => κ0) (fun _ _ _ => κ0) (fun _ _ => κ0) (fun _ => κ0) () (fun _ _ _ _ => ()) v
def X8 (v:V) (κ0:R) (κ:K4->R):R :=
  @V.rec (fun _ => R) (fun _ => Unit) (fun _ _ => κ0) (fun _ => κ0) (fun _ _ => κ0) (fun _ _ _ _ _ _ => κ0) (fun _ _ => κ0) (fun _ _ => κ0) (fun _ => κ0) (fun p => κ p) (fun _ _ _ => κ0) (fun _ _ => κ0) (fun _ => κ0) () (fun _ _ _ _ => ()) v
def Iw (v:V):Bool :=
  @V.rec (fun _ => Bool) (fun _ => Unit) (fun _ _ => false) (fun b => b) (fun _ _ => false) (fun _ _ _ _ _ _ => false) (fun _ _ => false) (fun _ _ => false) (fun _ => false) (fun _ => false) (fun _ _ _ => false) (fun _ _ => false) (fun _ => false) () (fun _ _ _ _ => ()) v
def YK (m:Nat):List V->R->(V->R)->R :=
  @Nat.rec (fun _ => List V->R->(V->R)->R) (fun xs κ0 k => @List.rec V (fun _ => R) κ0 (fun x _ _ => k x) xs)
    (fun _ ih xs κ0 k => @List.rec V (fun _ => R) κ0 (fun _ ys _ => ih ys κ0 k) xs) m
def Sm (o:Ch) (i:Nat) (κ0:R) (κ:V->R):R :=
  @Option.rec Ob (fun _ => R) κ0 (fun o => @Ob.rec (fun _ => R) (fun cs _ _ => @Cs.rec (fun _ => R) (fun xs => YK i xs κ0 κ) (fun _ _ => κ0) cs) (fun _ _ _ => κ0) (fun _ _ _ _ => κ0) κ0 (fun _ _ => κ0) o) o
def Sl (o:Ch) (κ0:R) (κ:List (V×V)->List Nat->R):R :=
  @Option.rec Ob (fun _ => R) κ0 (fun o => @Ob.rec (fun _ => R) (fun _ _ _ => κ0) (fun es bs _ => κ es bs) (fun _ _ _ _ => κ0) κ0 (fun _ _ => κ0) o) o
/-- Is the key there, and true? -/
def OY (k:Nat) (es:List (V×V)):Bool :=
  @List.rec (V×V) (fun _ => Bool) false (fun e _ ih => @Prod.rec V V (fun _ => Bool) (fun a b => @V.rec (fun _ => Bool) (fun _ => Unit) (fun kd r => br (AZ kd .i64) (br (Nat.beq k r) (Iw b) ih) false) (fun _ => false) (fun _ _ => false) (fun _ _ _ _ _ _ => false) (fun _ _ => false) (fun _ _ => false) (fun _ => false) (fun _ => false) (fun _ _ _ => false) (fun _ _ => false) (fun _ => false) () (fun _ _ _ _ => ()) a) e) es
def NO:Pm := fun t h κ κ0 => g7 t fun i => g6 t fun m => g2 t fun a => g5 t fun x =>
  Me i κ0 fun i0 => Me m κ0 fun m0 => Me a κ0 fun a0 => Wm x κ0 fun p off => Be p h fun o => Sm o (Nat.add off 2) κ0 fun u => X8 u κ0 fun q => Be q h fun o => Sl o κ0 fun es bs =>
    br (Nat.ble m0 4611686018427387904) (br (Nat.ble a0 4611686018427387904) (br (Nat.ble i0 m0) (br (GK es bs) (Aa (Nat.div (Nat.add a0 i0) 64) fun k => br (OY k es)
      (Aa (Nat.sub m0 i0) fun j1 => Aa (Nat.sub (Nat.mul 64 (Nat.succ k)) (Nat.add a0 i0)) fun j2 => br (Nat.ble j1 j2) (Aa (Nat.add i0 j1) fun i => w7 t (.int .i64 i) fun t => κ j1 t) (Aa (Nat.add i0 j2) fun i => w7 t (.int .i64 i) fun t => κ j2 t))
      κ0) κ0) κ0) κ0) κ0
theorem Vx (v:V) (κ0:R) (κ:Nat->R):Me v κ0 κ=κ0 ∨ ∃ r, v = .int .i64 r∧Me v κ0 κ=κ r := by
  cases v with
  | int k r =>
    show br (AZ k .i64) (κ r) κ0=κ0 ∨ ∃ r', V.int k r = .int .i64 r'∧br (AZ k .i64) (κ r) κ0=κ r'
    cases hb:AZ k .i64 with
    | false => exact .inl rfl
    | true => exact .inr ⟨r, by rw [AA.1 hb], rfl⟩
  | _ => exact .inl rfl
theorem Ve (v:V) (κ0:R) (κ:K4->Nat->R):Wm v κ0 κ=κ0 ∨ ∃ p o, v = .ptr p o∧Wm v κ0 κ=κ p o := by
  cases v with
  | ptr p o => exact .inr ⟨p, o, rfl, rfl⟩
  | _ => exact .inl rfl
theorem UB (v:V) (κ0:R) (κ:K4->R):X8 v κ0 κ=κ0 ∨ ∃ p, v = .map p∧X8 v κ0 κ=κ p := by
  cases v with
  | map p => exact .inr ⟨p, rfl, rfl⟩
  | _ => exact .inl rfl
theorem PC:∀ (m:Nat) (xs:List V) (κ0:R) (κ:V->R), YK m xs κ0 κ=κ0 ∨ ∃ v, xs[m]? = some v∧YK m xs κ0 κ=κ v
  | 0, [], _, _ => .inl rfl
  | 0, x::_, _, _ => .inr ⟨x, rfl, rfl⟩
  | m+1, [], _, _ => .inl rfl
  | m+1, x::xs, κ0, κ => PC m xs κ0 κ
theorem NA:∀ {m:Nat} {xs:List V} {v:V} {κ:V->R}, xs[m]? = some v->DN m xs κ=κ v
  | 0, [], _, _, h => by cases h
  | 0, x::_, _, _, h => by cases h; rfl
  | m+1, [], _, _, h => by cases h
  | m+1, x::xs, v, κ, h => NA (m := m) (xs := xs) h
theorem SC (o:Ch) (i:Nat) (κ0:R) (κ:V->R):Sm o i κ0 κ=κ0 ∨ ∃ xs sup prev v, o=some (.c (.l xs) sup prev)∧xs[i]? = some v∧Sm o i κ0 κ=κ v := by
  cases o with
  | none => exact .inl rfl
  | some o => cases o with
    | c cs sup prev => cases cs with
      | l xs =>
        rcases PC i xs κ0 κ with e | ⟨v, h, e⟩
        · exact .inl e
        · exact .inr ⟨xs, sup, prev, v, rfl, h, e⟩
      | b _ _ => exact .inl rfl
    | _ => exact .inl rfl
theorem Ts (o:Ch) (κ0:R) (κ:List (V×V)->List Nat->R):Sl o κ0 κ=κ0 ∨ ∃ es bs c, o=some (.m es bs c)∧Sl o κ0 κ=κ es bs := by
  cases o with
  | none => exact .inl rfl
  | some o => cases o with
    | m es bs c => exact .inr ⟨es, bs, c, rfl, rfl⟩
    | _ => exact .inl rfl
theorem KW {v:V} (h:Iw v=true):v = .bool true := by
  cases v with
  | bool b => rw [show b=true from h]
  | _ => cases h
theorem Ri {k:Nat}:∀ {es:List (V×V)} {κ:List (V×V)->R}, OY k es=true->EP (.sc .i) (.int .i64 k) (.bool true) es κ=κ es
  | [], κ, h => by cases h
  | (a, b)::es, κ, h => by
    cases a with
    | int kd r =>
      have h:br (AZ kd .i64) (br (Nat.beq k r) (Iw b) (OY k es)) false=true := h
      cases hk:AZ kd .i64 with
      | false => rw [hk] at h; cases h
      | true =>
        have hkd := AA.1 hk
        subst hkd
        have hx:br (Nat.beq k r) (Iw b) (OY k es)=true := h
        have e0:EP (.sc .i) (.int .i64 k) (.bool true) ((.int .i64 r, b)::es) κ=BW (Nat.beq k r) fun q => br q (κ ((.int .i64 k, .bool true)::es)) (EP (.sc .i) (.int .i64 k) (.bool true) es fun l => κ ((.int .i64 r, b)::l)) := rfl
        rw [e0, B3]
        cases hb:Nat.beq k r with
        | true =>
          rw [hb] at hx
          rw [KW (show Iw b=true from hx), Nat.eq_of_beq_eq_true hb]; rfl
        | false =>
          rw [hb] at hx
          exact Ri (κ := fun l => κ ((.int .i64 r, b)::l)) (show OY k es=true from hx)
    | _ => cases h
theorem Q6 {a b:Nat} {κ:V->R} (h:a<b) (hb:b≤4611686018427387904):Ba (.int .i64 a) (.int .i64 b) κ=κ (.bool true) := by
  have e0:Ba (.int .i64 a) (.int .i64 b) κ=BW (br (Nat.ble 9223372036854775808 a) (br (Nat.ble 9223372036854775808 b) (Nat.ble (Nat.succ a) b) true) (br (Nat.ble 9223372036854775808 b) false (Nat.ble (Nat.succ a) b))) fun r => κ (.bool r) := rfl
  have h1:Nat.ble 9223372036854775808 a=false := Bool.eq_false_iff.2 fun h => by have := Nat.le_of_ble_eq_true h; omega
  have h2:Nat.ble 9223372036854775808 b=false := Bool.eq_false_iff.2 fun h => by have := Nat.le_of_ble_eq_true h; omega
  have h3:Nat.ble (Nat.succ a) b=true := Nat.ble_eq_true_of_le h
  rw [e0, B3, h1, h2, h3]; rfl
theorem Js {a b:Nat} {κ:V->R} (h:a+b<18446744073709551616):AM (.int .i64 a) (.int .i64 b) κ=κ (.int .i64 (a+b)) := by
  have e0:AM (.int .i64 a) (.int .i64 b) κ=Aa (Nat.mod (Nat.add a b) 18446744073709551616) fun r => κ (.int .i64 r) := rfl
  rw [e0, A7, show Nat.mod (Nat.add a b) 18446744073709551616=a+b from Nat.mod_eq_of_lt h]
theorem Ue {a:Nat} {κ:V->R} (h:a<9223372036854775808):F1 (.int .i64 a) (.int .i64 64) κ=κ (.int .i64 (a / 64)) := by
  have e0:F1 (.int .i64 a) (.int .i64 64) κ=br (Nat.ble (Nat.succ a) 9223372036854775808) (Aa (Nat.div a 64) fun r => κ (.int .i64 r)) (.fail "") := rfl
  rw [e0, show Nat.ble (Nat.succ a) 9223372036854775808=true from Nat.ble_eq_true_of_le h]
  show Aa (Nat.div a 64) (fun r => κ (V.int .i64 r))=κ (V.int .i64 (a / 64))
  rw [A7]; rfl
theorem Fg {id:Nat} {t:S} {h:Heap} {n:K4} {κ:S->Heap->K4->R}:Ao id (.ok .nrm t h n) κ=κ t h n := rfl
theorem ZB {p:K4} {off:Nat} {h:Heap} {xs:List V} {sup:Bool} {prev:Option K4} {v:V} {κ:V->R} (hp:A9 p h=some (.c (.l xs) sup prev)) (hv:xs[off]? = some v):Au (.ptr p off) h κ=κ v := by
  show JV p h (fun cs _ _ => F8 cs off κ)=_
  rw [Dj]
  have e:(Hs p h fun cs _ _ => F8 cs off κ)=@Option.rec Ob (fun _ => R) (.fail "") (fun o => @Ob.rec (fun _ => R) (fun cs _ _ => F8 cs off κ) (C4 "") (Fh "") (.fail "") (Ax "") o) (A9 p h) := Cg _ _ _
  rw [e, hp]
  exact NA hv
theorem Ab3 {q:K4} {h:Heap} {es:List (V×V)} {bs:List Nat} {c k:Nat} {κ:Heap->R} (hq:A9 q h=some (.m es bs c)) (hs:GK es bs=true) (hh:OY k es=true):PN (.sc .i) (.map q) (.int .i64 k) (.bool true) h κ=κ h := by
  show Qb q h (fun es bs c k' => EP (.sc .i) (.int .i64 k) (.bool true) es fun es => TL es bs c fun bs c => k' es bs c) κ=κ h
  rw [J7]
  have e:∀ F, MK q h F=@Option.rec Ob (fun _ => R) (.fail "") (fun o => @Ob.rec (fun _ => R) (C4 "") F (Fh "") (.fail "") (Ax "") o) (A9 q h) := fun F => Cg _ _ _
  rw [e, hq]
  show EP (.sc .i) (.int .i64 k) (.bool true) es (fun es' => TL es' bs c fun bs c => EV q h (some (.m es' bs c)) κ)=κ h
  rw [Ri hh]
  unfold TL
  rw [hs]
  show EV q h (some (.m es bs c)) κ=κ h
  rw [AT, ←hq, Qq]
theorem PM {d0 d1 d3 d4:V} {c2 c3 c4 c5 c6 c7:SQ} {h:Heap} {n p q:K4} {off i0 m0 a0 c:Nat} {xs:List V} {sup:Bool} {prev:Option K4} {es:List (V×V)} {bs:List Nat}
    (hp:A9 p h=some (.c (.l xs) sup prev)) (hv:xs[off+2]? = some (.map q)) (hq:A9 q h=some (.m es bs c)) (hs:GK es bs=true) (hm:m0≤4611686018427387904) (ha:a0≤4611686018427387904) (hi:i0<m0) (hh:OY ((a0+i0) / 64) es=true) :
    CO (.mk (.mk d0 d1 (.int .i64 a0) d3) (.mk d4 (.ptr p off) (.int .i64 m0) (.int .i64 i0)) c2 c3 c4 c5 c6 c7) h n = .ok .nrm (.mk (.mk d0 d1 (.int .i64 a0) d3) (.mk d4 (.ptr p off) (.int .i64 m0) (.int .i64 (i0+1))) c2 c3 c4 c5 c6 c7) h n := by
  have e1:∀ κ:V->R, Am (.ptr p off) κ=κ (.ptr p off) := fun κ => rfl
  have e2:∀ κ:V->R, Ak 2 (.ptr p off) κ=κ (.ptr p (off+2)) := fun κ => by
    show Aa (Nat.add off 2) (fun o => κ (.ptr p o))=_
    rw [A7]
  unfold CO
  show Ba (.int .i64 i0) (.int .i64 m0) _=_
  rw [Q6 hi hm]
  show Ao 2 (Am (.ptr p off) _) _=_
  rw [e1, e2, ZB hp hv]
  show Ao 2 (AM (.int .i64 a0) (.int .i64 i0) _) _=_
  rw [Js (by omega), Ue (by omega), Ab3 hq hs hh, Fg]
  show AM (.int .i64 i0) (.int .i64 1) _=_
  rw [Js (by omega)]
theorem J6 {d0 d1 d3 d4:V} {c2 c3 c4 c5 c6 c7:SQ} {h:Heap} {n p q:K4} {off m0 a0 c k:Nat} {xs:List V} {sup:Bool} {prev:Option K4} {es:List (V×V)} {bs:List Nat}
    (hp:A9 p h=some (.c (.l xs) sup prev)) (hv:xs[off+2]? = some (.map q)) (hq:A9 q h=some (.m es bs c)) (hs:GK es bs=true) (hm:m0≤4611686018427387904) (ha:a0≤4611686018427387904) (hh:OY k es=true) :
    ∀ (j i0:Nat), i0+j≤m0->(∀ r, r<j->(a0+(i0+r)) / 64=k)->∀ K, DH CO (j+K) (.mk (.mk d0 d1 (.int .i64 a0) d3) (.mk d4 (.ptr p off) (.int .i64 m0) (.int .i64 i0)) c2 c3 c4 c5 c6 c7) h n
      = DH CO K (.mk (.mk d0 d1 (.int .i64 a0) d3) (.mk d4 (.ptr p off) (.int .i64 m0) (.int .i64 (i0+j))) c2 c3 c4 c5 c6 c7) h n
  | 0, i0, _, _, K => by rw [Nat.zero_add]; rfl
  | j+1, i0, hj, hr, K => by
    have h0 := hr 0 (by omega)
    rw [show j+1+K=(j+K)+1 by omega, DR]
    show L7 (CO _ h n) (DH CO (j+K))=_
    rw [PM hp hv hq hs hm ha (by omega) (by rw [show a0+i0=a0+(i0+0) by omega, h0]; exact hh)]
    show DH CO (j+K) _ h n=_
    rw [J6 hp hv hq hs hm ha hh j (i0+1) (by omega) (fun r hr' => by have := hr (r+1) (by omega); rw [←this]; congr 2; omega) K, show i0+1+j=i0+(j+1) by omega]
section
variable {G:R->Prop}
theorem Fp {v:V} {κ0:R} {κ:Nat->R} (g0:G κ0) (g1:∀ r, v = .int .i64 r->G (κ r)):G (Me v κ0 κ) := by
  rcases Vx v κ0 κ with e | ⟨r, h, e⟩ <;> rw [e]
  · exact g0
  · exact g1 r h
theorem Uc {v:V} {κ0:R} {κ:K4->Nat->R} (g0:G κ0) (g1:∀ p o, v = .ptr p o->G (κ p o)):G (Wm v κ0 κ) := by
  rcases Ve v κ0 κ with e | ⟨p, o, h, e⟩ <;> rw [e]
  · exact g0
  · exact g1 p o h
theorem U5 {v:V} {κ0:R} {κ:K4->R} (g0:G κ0) (g1:∀ p, v = .map p->G (κ p)):G (X8 v κ0 κ) := by
  rcases UB v κ0 κ with e | ⟨p, h, e⟩ <;> rw [e]
  · exact g0
  · exact g1 p h
theorem SS {o:Ch} {i:Nat} {κ0:R} {κ:V->R} (g0:G κ0) (g1:∀ xs sup prev v, o=some (.c (.l xs) sup prev)->xs[i]? = some v->G (κ v)):G (Sm o i κ0 κ) := by
  rcases SC o i κ0 κ with e | ⟨xs, sup, prev, v, h, h', e⟩ <;> rw [e]
  · exact g0
  · exact g1 xs sup prev v h h'
theorem TF {o:Ch} {κ0:R} {κ:List (V×V)->List Nat->R} (g0:G κ0) (g1:∀ es bs c, o=some (.m es bs c)->G (κ es bs)):G (Sl o κ0 κ) := by
  rcases Ts o κ0 κ with e | ⟨es, bs, c, h, e⟩ <;> rw [e]
  · exact g0
  · exact g1 es bs c h
theorem Ds {b:Bool} {x y:R} (g0:G y) (g1:b=true->G x):G (br b x y) := by
  cases b with
  | false => exact g0
  | true => exact g1 rfl
theorem HI {p:K4} {h:Heap} {κ:Ch->R} (g:G (κ (A9 p h))):G (Be p h κ) := by rw [Bi]; exact g
theorem Ix {m:Nat} {κ:Nat->R} (g:G (κ m)):G (Aa m κ) := by rw [A7]; exact g
end
theorem Qp:LV CO NO := by
  intro t h κ κ0
  cases t with
  | mk c0 c1 c2 c3 c4 c5 c6 c7 =>
    cases c0 with
    | mk d0 d1 a d3 =>
      cases c1 with
      | mk d4 x m i =>
        obtain ⟨T, hT⟩:∃ T:S, T = .mk (.mk d0 d1 a d3) (.mk d4 x m i) c2 c3 c4 c5 c6 c7 := ⟨_, rfl⟩
        obtain ⟨G, hG⟩:∃ G:R->Prop, ∀ r, G r ↔ (r=κ0 ∨ ∃ j t', r=κ j t' ∧ ∀ k n, DH CO (j+k) T h n=DH CO k t' h n) := ⟨_, fun r => Iff.rfl⟩
        have g0:G κ0 := (hG _).2 (.inl rfl)
        rw [←hT]
        refine (hG _).1 ?_
        rw [hT]
        refine Fp (G := G) g0 fun i0 hi => Fp (G := G) g0 fun m0 hm => Fp (G := G) g0 fun a0 ha => Uc (G := G) g0 fun p off hx => HI (G := G) (SS (G := G) g0 fun xs sup prev u hp hv => U5 (G := G) g0 fun q hu => ?_)
        subst hi hm ha hx hu
        refine HI (G := G) (TF (G := G) g0 fun es bs c hq => Ds (G := G) g0 fun b1 => Ds (G := G) g0 fun b2 => Ds (G := G) g0 fun b3 => Ds (G := G) g0 fun b4 => Ix (G := G) (Ds (G := G) g0 fun b5 => Ix (G := G) (Ix (G := G) ?_)))
        have b1 := Nat.le_of_ble_eq_true b1
        have b2 := Nat.le_of_ble_eq_true b2
        have b3 := Nat.le_of_ble_eq_true b3
        have e1:Nat.sub m0 i0=m0 - i0 := rfl
        have e2:Nat.sub (Nat.mul 64 (Nat.succ (Nat.div (Nat.add a0 i0) 64))) (Nat.add a0 i0)=64*((a0+i0) / 64+1) - (a0+i0) := rfl
        have e3:Nat.div (Nat.add a0 i0) 64=(a0+i0) / 64 := rfl
        rw [e1, e2]
        rw [e3] at b5
        have key:∀ j, j≤m0 - i0->j≤64*((a0+i0) / 64+1) - (a0+i0)->∀ K n, DH CO (j+K) (.mk (.mk d0 d1 (.int .i64 a0) d3) (.mk d4 (.ptr p off) (.int .i64 m0) (.int .i64 i0)) c2 c3 c4 c5 c6 c7) h n
            = DH CO K (.mk (.mk d0 d1 (.int .i64 a0) d3) (.mk d4 (.ptr p off) (.int .i64 m0) (.int .i64 (i0+j))) c2 c3 c4 c5 c6 c7) h n := fun j hj1 hj2 K n =>
          J6 hp hv hq b4 b1 b2 b5 j i0 (by omega) (fun r hr => by omega) K
        cases hb:Nat.ble (m0 - i0) (64*((a0+i0) / 64+1) - (a0+i0)) with
        | true =>
          rw [show ∀ x y:R, br true x y=x from fun _ _ => rfl, A7]
          refine (hG _).2 (.inr ⟨m0 - i0, _, rfl, fun K n => ?_⟩)
          rw [hT]
          exact key _ (Nat.le_refl _) (Nat.le_of_ble_eq_true hb) K n
        | false =>
          rw [show ∀ x y:R, br false x y=y from fun _ _ => rfl, A7]
          refine (hG _).2 (.inr ⟨64*((a0+i0) / 64+1) - (a0+i0), _, rfl, fun K n => ?_⟩)
          rw [hT]
          refine key _ ?_ (Nat.le_refl _) K n
          rcases Nat.lt_or_ge (64*((a0+i0) / 64+1) - (a0+i0)) (m0 - i0) with h' | h'
          · omega
          · rw [Nat.ble_eq_true_of_le h'] at hb; cases hb
theorem P4:C0 CO=J1 CO NO := Jt Qp
def Jh:S->Heap->K4->R := fun t h n => g7 t fun ze => Ba ze (.int .i64 8) fun zf => BM zf (Ao 3 (g3 t fun zg => F3 zg (.int .u64 1) fun zh => I2 zg (.int .u32 1) fun zi => JK zi fun zj => I2 (.int .u32 2197175160) zj fun zk => I9 zh zk fun zl => w3 t zl fun t => .ok .nrm t h n) fun t h n => g7 t fun zm => AM zm (.int .i64 1) fun zn => w7 t zn fun t => .ok .nrm t h n) <| .ok (.exit 2) t h n
def Ab9 (v:V) (κ0:R) (κ:Nat->R):R :=
  @V.rec (fun _ => R) (fun _ => Unit) (fun k r => br (AZ k .u32) (κ r) κ0) (fun _ => κ0) (fun _ _ => κ0) (fun _ _ _ _ _ _ => κ0) (fun _ _ => κ0) (fun _ _ => κ0) (fun _ => κ0) (fun _ => κ0) (fun _ _ _ => κ0) (fun _ _ => κ0) (fun _ => κ0) () (fun _ _ _ _ => ()) v
def IT (x:Nat):Nat := Nat.xor (Nat.shiftRight x 1) (Nat.land 2197175160 (Nat.mod (Nat.add 0 (Nat.sub 4294967296 (Nat.land x 1))) 4294967296))
def GB (j:Nat):Nat->Nat := @Nat.rec (fun _ => Nat->Nat) (fun x => x) (fun _ ih x => ih (IT x)) j
theorem TV {G:R->Prop} {v:V} {κ0:R} {κ:Nat->R} (g0:G κ0) (g1:∀ r, v = .int .u32 r->G (κ r)):G (Ab9 v κ0 κ) := by
  cases v with
  | int k r =>
    show G (br (AZ k .u32) (κ r) κ0)
    cases hb:AZ k .u32 with
    | false => exact g0
    | true => exact g1 r (by rw [AA.1 hb])
  | _ => exact g0
theorem RZ {x:Nat} (h:x<4294967296):IT x<4294967296 := by
  have h1:x >>> 1<2 ^ 32 := by rw [Nat.shiftRight_eq_div_pow]; omega
  have h2:2197175160 &&& ((0+(4294967296 - (x &&& 1))) % 4294967296)<2 ^ 32 := Nat.lt_of_le_of_lt Nat.and_le_left (by decide)
  exact Nat.xor_lt_two_pow h1 h2
theorem ST {d0 d1 d2 d4 d5 d6:V} {c2 c3 c4 c5 c6 c7:SQ} {h:Heap} {n:K4} {i x:Nat} (hi:i<8) (hx:x<4294967296) :
    Jh (.mk (.mk d0 d1 d2 (.int .u32 x)) (.mk d4 d5 d6 (.int .i64 i)) c2 c3 c4 c5 c6 c7) h n = .ok .nrm (.mk (.mk d0 d1 d2 (.int .u32 (IT x))) (.mk d4 d5 d6 (.int .i64 (i+1))) c2 c3 c4 c5 c6 c7) h n := by
  have e1:∀ κ:V->R, F3 (.int .u32 x) (.int .u64 1) κ=κ (.int .u32 (Nat.shiftRight x 1)) := fun κ => by
    have e0:F3 (.int .u32 x) (.int .u64 1) κ=br (Nat.ble (Nat.succ x) 4294967296) (Aa (Nat.shiftRight x 1) fun r => κ (.int .u32 r)) (.fail "") := rfl
    rw [e0, show Nat.ble (Nat.succ x) 4294967296=true from Nat.ble_eq_true_of_le hx]
    show Aa (Nat.shiftRight x 1) (fun r => κ (V.int .u32 r))=_
    rw [A7]
  have e2:∀ (a b:Nat) (κ:V->R), I2 (.int .u32 a) (.int .u32 b) κ=κ (.int .u32 (Nat.land a b)) := fun a b κ => by
    have e0:I2 (.int .u32 a) (.int .u32 b) κ=Aa (Nat.land a b) fun r => κ (.int .u32 r) := rfl
    rw [e0, A7]
  have e3:∀ (a b:Nat) (κ:V->R), I9 (.int .u32 a) (.int .u32 b) κ=κ (.int .u32 (Nat.xor a b)) := fun a b κ => by
    have e0:I9 (.int .u32 a) (.int .u32 b) κ=Aa (Nat.xor a b) fun r => κ (.int .u32 r) := rfl
    rw [e0, A7]
  have e4:∀ (a:Nat) (κ:V->R), JK (.int .u32 a) κ=κ (.int .u32 (Nat.mod (Nat.add 0 (Nat.sub 4294967296 a)) 4294967296)) := fun a κ => by
    have e0:JK (.int .u32 a) κ=Aa (Nat.mod (Nat.add 0 (Nat.sub 4294967296 a)) 4294967296) fun r => κ (.int .u32 r) := rfl
    rw [e0, A7]
  unfold Jh
  show Ba (.int .i64 i) (.int .i64 8) _=_
  rw [Q6 hi (by omega)]
  show Ao 3 (F3 (.int .u32 x) (.int .u64 1) _) _=_
  rw [e1, e2, e4, e2, e3, Fg]
  show AM (.int .i64 i) (.int .i64 1) _=_
  rw [Js (by omega)]; rfl
theorem KJ {d0 d1 d2 d4 d5 d6:V} {c2 c3 c4 c5 c6 c7:SQ} {h:Heap} {n:K4} :
    ∀ (j i x:Nat), i+j≤8->x<4294967296->∀ K, DH Jh (j+K) (.mk (.mk d0 d1 d2 (.int .u32 x)) (.mk d4 d5 d6 (.int .i64 i)) c2 c3 c4 c5 c6 c7) h n
      = DH Jh K (.mk (.mk d0 d1 d2 (.int .u32 (GB j x))) (.mk d4 d5 d6 (.int .i64 (i+j))) c2 c3 c4 c5 c6 c7) h n
  | 0, i, x, _, _, K => by rw [Nat.zero_add]; rfl
  | j+1, i, x, hj, hx, K => by
    rw [show j+1+K=(j+K)+1 by omega, DR]
    show L7 (Jh _ h n) (DH Jh (j+K))=_
    rw [ST (by omega) hx]
    show DH Jh (j+K) _ h n=_
    rw [KJ j (i+1) (IT x) (by omega) (RZ hx) K, show i+1+j=i+(j+1) by omega]; rfl
end Go.Ev

namespace Go.Ev
set_option linter.unusedVariables false
theorem Ku (x:Nat):IT x=(x >>> 1) ^^^ (if x % 2=1 then 2197175160 else 0) := by
  show (x >>> 1) ^^^ (2197175160 &&& ((0+(4294967296 - (x &&& 1))) % 4294967296))=_
  rw [Nat.and_one_is_mod]
  rcases Nat.mod_two_eq_zero_or_one x with h | h <;> rw [h] <;> rfl
theorem VQ (a b:Nat):IT (a ^^^ b)=IT a ^^^ IT b := by
  rw [Ku, Ku, Ku, Nat.shiftRight_xor_distrib]
  have h:(a ^^^ b) % 2=(a+b) % 2 := by
    have e := Nat.xor_mod_two_pow (a := a) (b := b) (n := 1)
    rw [Nat.pow_one] at e
    rw [e]
    rcases Nat.mod_two_eq_zero_or_one a with ha | ha <;> rcases Nat.mod_two_eq_zero_or_one b with hb | hb <;> rw [ha, hb, Nat.add_mod, ha, hb] <;> rfl
  rcases Nat.mod_two_eq_zero_or_one a with ha | ha <;> rcases Nat.mod_two_eq_zero_or_one b with hb | hb
  · have:(a ^^^ b) % 2=0 := by omega
    simp [ha, hb, this]
  · have:(a ^^^ b) % 2=1 := by omega
    simp [ha, hb, this, Nat.xor_assoc]
  · have:(a ^^^ b) % 2=1 := by omega
    simp only [ha, hb, this, if_true, if_false, Nat.xor_zero, reduceIte, Nat.zero_ne_one]
    simp only [Nat.xor_assoc, Nat.xor_comm (b >>> 1)]
  · have:(a ^^^ b) % 2=0 := by omega
    simp only [ha, hb, this, reduceIte, Nat.xor_zero, Nat.zero_ne_one]
    generalize a >>> 1=p
    generalize b >>> 1=q
    apply Nat.eq_of_testBit_eq
    intro i
    simp only [Nat.testBit_xor]
    cases p.testBit i <;> cases q.testBit i <;> cases (2197175160:Nat).testBit i <;> rfl
theorem Pw:∀ (j a b:Nat), GB j (a ^^^ b)=GB j a ^^^ GB j b
  | 0, _, _ => rfl
  | j+1, a, b => by
    show GB j (IT (a ^^^ b))=GB j (IT a) ^^^ GB j (IT b)
    rw [VQ, Pw]
theorem Tm (m:Nat):IT (2*m)=m := by
  rw [Ku, Nat.mul_mod_right, Nat.shiftRight_eq_div_pow]; simp
theorem OT:∀ (j q:Nat), GB j (2 ^ j*q)=q
  | 0, q => by show 2 ^ 0*q=q; omega
  | j+1, q => by
    show GB j (IT (2 ^ (j+1)*q))=q
    rw [show 2 ^ (j+1)*q=2*(2 ^ j*q) by rw [Nat.pow_succ, Nat.mul_comm (2 ^ j) 2, Nat.mul_assoc], Tm, OT]
theorem Tg (y:Nat):y=(2 ^ 8*(y / 2 ^ 8)) ^^^ (y % 2 ^ 8) := by
  apply Nat.eq_of_testBit_eq
  intro i
  rw [Nat.testBit_xor, Nat.testBit_two_pow_mul, Nat.testBit_mod_two_pow, Nat.testBit_div_two_pow]
  by_cases h:8≤i
  · have h2:¬ i<8 := by omega
    simp [h, h2, show i - 8+8=i by omega]
  · have h2:i<8 := by omega
    simp [h, h2]
theorem Ks:∀ (j:Nat) {x:Nat}, x<4294967296->GB j x<4294967296
  | 0, _, h => h
  | j+1, x, h => by show GB j (IT x)<_; exact Ks j (RZ h)
def NR:Nat := 739192992287711479272199505450802174180944935565270117958735211195864883404034321072575759094604862722103638970562105654534965976895685875045062592379112792078985738769595739548904202597956689934399229134939183684703714920378025961387270778473281346239181994539903784708069763525514523240966634758967547723819948093640238732618841930738396489733218495472825776362786651876001733504161834172818020394346043168775838788836904094212573134772649703407841545716218812283123984658267516726659948613643534969466376019494666614718815429190684246327365394372519258139400530706807260825564948901732507176286259752944669944548605679086391305931301222988237278526118373278492307487107474296386730408839343753629123128283572704772544098648517013212824233746728729854273945055038163572363387039908578405517982904131040319505009390255243990278860523606265815895619710957563380635837315129012976704357344131429050367435482781212454439427280336740616644805562249867251859340971513883299426874200217165290071196282711253218164865174241416073419876796213293517950780480733835793334181716730049909888366296838117288969681076010175182486226749959458237712061794030512295298309798453151350168298336411933176330063767835252143862258384197256040876755067274410026075604127347481305827849130625987059819492849891529288490451730106428376839488665315100810248841715739596040091270955624355315201462555945279029196416991040143682248153287045556144390819759753283690710943841433520922330785319143598322120010359670046292912296136999474302691355293324886616216537430761212949134977443278613456733727644009057088654822989287437792990360527449046917776586498554113667460252688333953726837853077886002223252717428049737186417130969568838070377296274375688487884511950345697105344492065413654582468965021167618282726469469929715764674333614324035309623813703284835732759643444816186743644084768553800456975483023122915759126937036001171360984116527371042249105866775992680472790331893395027602898497596949565462107432141452181910127216554936352241472142685417685618824675396402282974391037184848625305334079832924861339728594832024687877422901193159812755254516361032103358958860399075665489958680801135040793967932263797765198140728704255468134266160630916650637156666977854355604551105352627939572551570066195951258251545213658746024110892771407706843609824354401912642345941057507434795836161327506684973593222243082074173577446865175872619707633030268690896528048779238513612740446475572226293760
abbrev Jo (y:Nat):Nat := Nat.xor (Nat.shiftRight y 8) (Nat.land (Nat.shiftRight NR (Nat.mul 32 (Nat.land y 255))) 4294967295)
theorem Wi:T7 (fun b => Nat.beq (GB 8 b) (Nat.land (Nat.shiftRight NR (Nat.mul 32 b)) 4294967295)) 256=true := by kernel_rfl
theorem J3 (y:Nat):Jo y=GB 8 y := by
  have h255:Nat.land y 255=y % 2 ^ 8 := Nat.and_two_pow_sub_one_eq_mod y 8
  have hb:y % 2 ^ 8<256 := Nat.mod_lt _ (by decide)
  have key:GB 8 (y % 2 ^ 8)=Nat.land (Nat.shiftRight NR (Nat.mul 32 (y % 2 ^ 8))) 4294967295 := Nat.eq_of_beq_eq_true (Kv Wi _ hb)
  have e:GB 8 y=GB 8 (2 ^ 8*(y / 2 ^ 8)) ^^^ GB 8 (y % 2 ^ 8) := by rw [←Pw, ←Tg]
  rw [e, OT, key]
  show Nat.xor (Nat.shiftRight y 8) (Nat.land (Nat.shiftRight NR (Nat.mul 32 (Nat.land y 255))) 4294967295)=_
  rw [h255]
  show (y >>> 8) ^^^ _=_
  rw [Nat.shiftRight_eq_div_pow]
theorem Abh {a b:Nat} {κ:V->R} (h:b≤a) (ha:a≤4611686018427387904):Ba (.int .i64 a) (.int .i64 b) κ=κ (.bool false) := by
  have e0:Ba (.int .i64 a) (.int .i64 b) κ=BW (br (Nat.ble 9223372036854775808 a) (br (Nat.ble 9223372036854775808 b) (Nat.ble (Nat.succ a) b) true) (br (Nat.ble 9223372036854775808 b) false (Nat.ble (Nat.succ a) b))) fun r => κ (.bool r) := rfl
  have h1:Nat.ble 9223372036854775808 a=false := Bool.eq_false_iff.2 fun h => by have := Nat.le_of_ble_eq_true h; omega
  have h2:Nat.ble 9223372036854775808 b=false := Bool.eq_false_iff.2 fun h => by have := Nat.le_of_ble_eq_true h; omega
  have h3:Nat.ble (Nat.succ a) b=false := Bool.eq_false_iff.2 fun h => by have := Nat.le_of_ble_eq_true h; omega
  rw [e0, B3, h1, h2, h3]; rfl
theorem UN {p:K4} {off len cap esz i:Nat} {ex:Bool} {κ:V->R} (h:i<len) (hi:i<9223372036854775808):AY esz (.sl p off len cap ex esz) (.int .i64 i) κ=κ (.ptr p (off+i*esz)) := by
  have e0:AY esz (.sl p off len cap ex esz) (.int .i64 i) κ=br (Nat.ble (Nat.succ i) 9223372036854775808) (br (Nat.beq esz esz) (br (Nat.ble (Nat.succ i) len) (Aa (Nat.add off (Nat.mul i esz)) fun o => κ (.ptr p o)) (.fail "")) (.fail "")) (.fail "") := rfl
  rw [e0, show Nat.ble (Nat.succ i) 9223372036854775808=true from Nat.ble_eq_true_of_le hi, show Nat.ble (Nat.succ i) len=true from Nat.ble_eq_true_of_le h, show Nat.beq esz esz=true from Nat.beq_refl _]
  show Aa (Nat.add off (Nat.mul i esz)) (fun o => κ (.ptr p o))=_
  rw [A7]; rfl
theorem U0 {p:K4} {off m c:Nat} {h:Heap} {sup:Bool} {prev:Option K4} {κ:V->R} (hp:A9 p h=some (.c (.b m c) sup prev)) (hv:off<m):Au (.ptr p off) h κ=κ (.int .u8 (lo (sh c off) 1)) := by
  show JV p h (fun cs _ _ => F8 cs off κ)=_
  rw [Dj]
  have e:(Hs p h fun cs _ _ => F8 cs off κ)=@Option.rec Ob (fun _ => R) (.fail "") (fun o => @Ob.rec (fun _ => R) (fun cs _ _ => F8 cs off κ) (C4 "") (Fh "") (.fail "") (Ax "") o) (A9 p h) := Cg _ _ _
  rw [e, hp]
  show br (Nat.ble (Nat.succ off) m) (Aa (lo (sh c off) 1) fun r => κ (.int .u8 r)) (.fail "")=_
  rw [show Nat.ble (Nat.succ off) m=true from Nat.ble_eq_true_of_le hv]
  show Aa (lo (sh c off) 1) (fun r => κ (V.int .u8 r))=_
  rw [A7]
theorem JM (c:Nat):lo c 1<256 := by rw [Dx]; exact Nat.mod_lt _ (by decide)
theorem Oz (c a:Nat):sh (sh c a) 1=sh c (a+1) := by
  rw [Ed, Ed, Ed, Nat.div_div_eq_div_mul, ←Nat.pow_add]
def slE (v:V) (κ0:R) (κ:K4->Nat->Nat->Nat->R):R :=
  @V.rec (fun _ => R) (fun _ => Unit) (fun _ _ => κ0) (fun _ => κ0) (fun _ _ => κ0) (fun p off len _ _ esz => κ p off len esz) (fun _ _ => κ0) (fun _ _ => κ0) (fun _ => κ0) (fun _ => κ0) (fun _ _ _ => κ0) (fun _ _ => κ0) (fun _ => κ0) () (fun _ _ _ _ => ()) v
theorem RE {G:R->Prop} {v:V} {κ0:R} {κ:K4->Nat->Nat->Nat->R} (g0:G κ0) (g1:∀ p off len cap ex esz, v = .sl p off len cap ex esz->G (κ p off len esz)):G (slE v κ0 κ) := by
  cases v with
  | sl p off len cap ex esz => exact g1 p off len cap ex esz rfl
  | _ => exact g0
def Z1 (o:Ch) (κ0:R) (κ:Nat->Nat->R):R :=
  @Option.rec Ob (fun _ => R) κ0 (fun o => @Ob.rec (fun _ => R) (fun cs _ _ => @Cs.rec (fun _ => R) (fun _ => κ0) κ cs) (fun _ _ _ => κ0) (fun _ _ _ _ => κ0) κ0 (fun _ _ => κ0) o) o
theorem PU {G:R->Prop} {o:Ch} {κ0:R} {κ:Nat->Nat->R} (g0:G κ0) (g1:∀ n c sup prev, o=some (.c (.b n c) sup prev)->G (κ n c)):G (Z1 o κ0 κ) := by
  cases o with
  | none => exact g0
  | some o => cases o with
    | c cs sup prev => cases cs with
      | l xs => exact g0
      | b n c => exact g1 n c sup prev rfl
    | _ => exact g0
def Abc (v:V) (κ0:R) (κ:Nat->R):R :=
  @V.rec (fun _ => R) (fun _ => Unit) (fun k r => br (AZ k .u64) (κ r) κ0) (fun _ => κ0) (fun _ _ => κ0) (fun _ _ _ _ _ _ => κ0) (fun _ _ => κ0) (fun _ _ => κ0) (fun _ => κ0) (fun _ => κ0) (fun _ _ _ => κ0) (fun _ _ => κ0) (fun _ => κ0) () (fun _ _ _ _ => ()) v
theorem UJ {G:R->Prop} {v:V} {κ0:R} {κ:Nat->R} (g0:G κ0) (g1:∀ r, v = .int .u64 r->G (κ r)):G (Abc v κ0 κ) := by
  cases v with
  | int k r =>
    show G (br (AZ k .u64) (κ r) κ0)
    cases hb:AZ k .u64 with
    | false => exact g0
    | true => exact g1 r (by rw [AA.1 hb])
  | _ => exact g0
def Dd:S->Heap->K4->R := fun t h n => g6 t fun z5 => g5 t fun z6 => Ba z5 z6 fun z7 => BM z7 (Ao 1 (g4 t fun z8 => AY 1 z8 z5 fun z9 => Au z9 h fun za => g3 t fun zb => B2 .u32 za fun zc => I9 zb zc fun zd => Ao 2 (w3 t zd fun t => w7 t (.int .i64 0) fun t => C0 Jh t h n) fun t h n => .ok .nrm t h n) fun t h n => g6 t fun zo => AM zo (.int .i64 1) fun zp => w6 t zp fun t => .ok .nrm t h n) <| .ok (.exit 0) t h n
def I1 (j:Nat):Nat->Nat->Nat := @Nat.rec (fun _ => Nat->Nat->Nat) (fun _ x => x) (fun _ ih d x => ih (sh d 1) (Jo (Nat.xor x (lo d 1)))) j
def Yo (j:Nat):Nat->Nat->(Nat->R)->R := @Nat.rec (fun _ => Nat->Nat->(Nat->R)->R) (fun _ x κ => κ x) (fun _ ih d x κ => Aa (Nat.xor x (lo d 1)) fun y => Aa (Jo y) fun x => Aa (sh d 1) fun d => ih d x κ) j
theorem Sa:∀ (j d x:Nat) (κ:Nat->R), Yo j d x κ=κ (I1 j d x)
  | 0, _, _, _ => rfl
  | j+1, d, x, κ => by
    show Aa (Nat.xor x (lo d 1)) (fun y => Aa (Jo y) fun x => Aa (sh d 1) fun d => Yo j d x κ)=κ (I1 j (sh d 1) (Jo (Nat.xor x (lo d 1))))
    rw [A7, A7, A7, Sa]
theorem XS (d j:Nat):lo (lo d (j+1)) 1=lo d 1 := by
  rw [Dx, Dx, Dx, Nat.pow_succ, Nat.mod_mul_left_mod]
theorem XR (d j:Nat):sh (lo d (j+1)) 1=lo (sh d 1) j := by
  rw [Dx, Dx, Ed, Ed, Nat.pow_succ, Nat.pow_one, Nat.mul_comm, Nat.mod_mul_right_div_self]
theorem NY:∀ (j d x:Nat), I1 j (lo d j) x=I1 j d x
  | 0, _, _ => rfl
  | j+1, d, x => by
    show I1 j (sh (lo d (j+1)) 1) (Jo (Nat.xor x (lo (lo d (j+1)) 1)))=I1 j (sh d 1) (Jo (Nat.xor x (lo d 1)))
    rw [XS, XR, NY]
def S0:Pm := fun t h κ κ0 => g6 t fun i => g5 t fun m => g4 t fun s => g3 t fun x => Me i κ0 fun i0 => Me m κ0 fun m0 => slE s κ0 fun p off len esz => Ab9 x κ0 fun x0 => Be p h fun o => Z1 o κ0 fun nb c =>
  br (Nat.ble (Nat.succ i0) m0) (br (Nat.ble m0 len) (br (Nat.ble (Nat.add off len) nb) (br (Nat.beq esz 1) (br (Nat.ble (Nat.succ x0) 4294967296) (br (Nat.ble m0 4611686018427387904)
    (Aa (Nat.sub m0 i0) fun j => Aa (lo (sh c (Nat.add off i0)) j) fun d => Yo j d x0 fun x => w3 t (.int .u32 x) fun t => w6 t (.int .i64 m0) fun t => w7 t (.int .i64 8) fun t => κ j t) κ0) κ0) κ0) κ0) κ0) κ0
theorem Vr (body:S->Heap->K4->R) (k:Nat) (t:S) (h:Heap) (n:K4):DH body (k+1) t h n=L7 (body t h n) (DH body k) := DR body (k+1) t h n
theorem JZ {id:Nat} {t:S} {h:Heap} {n:K4} {κ:S->Heap->K4->R}:Ao id (.ok (.exit id) t h n) κ=κ t h n := by
  show br (Nat.beq id id) (κ t h n) (.ok (.exit id) t h n)=κ t h n
  rw [Nat.beq_refl]; rfl
theorem Ns {d0 d1 d2 d4 d5 d6:V} {c2 c3 c4 c5 c6 c7:SQ} {h:Heap} {n:K4} {x:Nat} (hx:x<4294967296) :
    C0 Jh (.mk (.mk d0 d1 d2 (.int .u32 x)) (.mk d4 d5 d6 (.int .i64 0)) c2 c3 c4 c5 c6 c7) h n = .ok (.exit 2) (.mk (.mk d0 d1 d2 (.int .u32 (GB 8 x))) (.mk d4 d5 d6 (.int .i64 8)) c2 c3 c4 c5 c6 c7) h n := by
  show DH Jh 1000000000 _ _ _=_
  rw [show (1000000000:Nat)=8+(999999991+1) from rfl, KJ 8 0 x (by omega) hx, Vr]
  have e:Jh (.mk (.mk d0 d1 d2 (.int .u32 (GB 8 x))) (.mk d4 d5 d6 (.int .i64 (0+8))) c2 c3 c4 c5 c6 c7) h n = .ok (.exit 2) (.mk (.mk d0 d1 d2 (.int .u32 (GB 8 x))) (.mk d4 d5 d6 (.int .i64 (0+8))) c2 c3 c4 c5 c6 c7) h n := by
    unfold Jh
    show Ba (.int .i64 (0+8)) (.int .i64 8) _=_
    rw [Abh (by omega) (by omega)]; rfl
  rw [e]; rfl
theorem Qj {k:IntKind} {r:Nat} {κ:V->R} (h:r<256) (hk:256≤Mk k):B2 k (.int .u8 r) κ=κ (.int k r) := by
  have e0:B2 k (.int .u8 r) κ=br (Nat.ble (Nat.succ r) 256) (Aa (Nat.mod r (Mk k)) fun r => κ (.int k r)) (br (Nat.ble (Mk k) 256) (Aa (Nat.mod r (Mk k)) fun r => κ (.int k r)) (Aa (Nat.sub (Mk k) (Nat.sub 256 r)) fun r => κ (.int k r))) := rfl
  rw [e0, show Nat.ble (Nat.succ r) 256=true from Nat.ble_eq_true_of_le h]
  show Aa (Nat.mod r (Mk k)) (fun r => κ (V.int k r))=_
  rw [A7, show Nat.mod r (Mk k)=r from Nat.mod_eq_of_lt (by omega)]
theorem KZ {d0 d1 d2 d7:V} {c2 c3 c4 c5 c6 c7:SQ} {h:Heap} {n p:K4} {off len cap m i x nb c:Nat} {ex sup:Bool} {prev:Option K4}
    (hp:A9 p h=some (.c (.b nb c) sup prev)) (hi:i<m) (hm:m≤len) (hl:off+len≤nb) (hb:m≤4611686018427387904) (hx:x<4294967296) :
    Dd (.mk (.mk d0 d1 d2 (.int .u32 x)) (.mk (.sl p off len cap ex 1) (.int .i64 m) (.int .i64 i) d7) c2 c3 c4 c5 c6 c7) h n
      = .ok .nrm (.mk (.mk d0 d1 d2 (.int .u32 (Jo (Nat.xor x (lo (sh c (off+i)) 1))))) (.mk (.sl p off len cap ex 1) (.int .i64 m) (.int .i64 (i+1)) (.int .i64 8)) c2 c3 c4 c5 c6 c7) h n := by
  unfold Dd
  show Ba (.int .i64 i) (.int .i64 m) _=_
  rw [Q6 hi hb]
  show Ao 1 (AY 1 (.sl p off len cap ex 1) (.int .i64 i) _) _=_
  rw [UN (by omega) (by omega), U0 hp (by omega)]
  show Ao 1 (B2 .u32 (.int .u8 (lo (sh c (off+i*1)) 1)) _) _=_
  rw [Qj (JM _) (by decide), Nat.mul_one]
  have e3:∀ (a b:Nat) (κ:V->R), I9 (.int .u32 a) (.int .u32 b) κ=κ (.int .u32 (Nat.xor a b)) := fun a b κ => by
    have e0:I9 (.int .u32 a) (.int .u32 b) κ=Aa (Nat.xor a b) fun r => κ (.int .u32 r) := rfl
    rw [e0, A7]
  rw [e3]
  have hx2:Nat.xor x (lo (sh c (off+i)) 1)<4294967296 := Nat.xor_lt_two_pow (n := 32) hx (Nat.lt_trans (JM _) (by decide))
  rw [J3]
  generalize Nat.xor x (lo (sh c (off+i)) 1)=y at hx2
  show Ao 1 (Ao 2 (C0 Jh (.mk (.mk d0 d1 d2 (.int .u32 y)) (.mk (.sl p off len cap ex 1) (.int .i64 m) (.int .i64 i) (.int .i64 0)) c2 c3 c4 c5 c6 c7) h n) _) _=_
  rw [Ns hx2, JZ, Fg]
  show AM (.int .i64 i) (.int .i64 1) _=_
  rw [Js (by omega)]
theorem Hr {d0 d1 d2:V} {c2 c3 c4 c5 c6 c7:SQ} {h:Heap} {n p:K4} {off len cap m nb c:Nat} {ex sup:Bool} {prev:Option K4}
    (hp:A9 p h=some (.c (.b nb c) sup prev)) (hm:m≤len) (hl:off+len≤nb) (hb:m≤4611686018427387904) :
    ∀ (j i x:Nat) (d7:V), i+(j+1)≤m->x<4294967296->∀ K, DH Dd (j+1+K) (.mk (.mk d0 d1 d2 (.int .u32 x)) (.mk (.sl p off len cap ex 1) (.int .i64 m) (.int .i64 i) d7) c2 c3 c4 c5 c6 c7) h n
      = DH Dd K (.mk (.mk d0 d1 d2 (.int .u32 (I1 (j+1) (sh c (off+i)) x))) (.mk (.sl p off len cap ex 1) (.int .i64 m) (.int .i64 (i+(j+1))) (.int .i64 8)) c2 c3 c4 c5 c6 c7) h n
  | 0, i, x, d7, hj, hx, K => by
    rw [show 0+1+K=K+1 by omega, DR]
    show L7 (Dd _ h n) (DH Dd K)=_
    rw [KZ hp (by omega) hm hl hb hx]; rfl
  | j+1, i, x, d7, hj, hx, K => by
    rw [show j+1+1+K=(j+1+K)+1 by omega, DR]
    show L7 (Dd _ h n) (DH Dd (j+1+K))=_
    rw [KZ hp (by omega) hm hl hb hx]
    show DH Dd (j+1+K) _ h n=_
    rw [Hr hp hm hl hb j (i+1) _ _ (by omega) (by rw [J3]; exact Ks 8 (Nat.xor_lt_two_pow (n := 32) hx (Nat.lt_trans (JM _) (by decide)))) K]
    have e:I1 (j+1+1) (sh c (off+i)) x=I1 (j+1) (sh (sh c (off+i)) 1) (Jo (Nat.xor x (lo (sh c (off+i)) 1))) := rfl
    rw [e, Oz, show off+(i+1)=off+i+1 by omega, show i+1+(j+1)=i+(j+1+1) by omega]
theorem T0:LV Dd S0 := by
  intro t h κ κ0
  cases t with
  | mk c0 c1 c2 c3 c4 c5 c6 c7 =>
    cases c0 with
    | mk d0 d1 d2 x =>
      cases c1 with
      | mk s m i d7 =>
        obtain ⟨T, hT⟩:∃ T:S, T = .mk (.mk d0 d1 d2 x) (.mk s m i d7) c2 c3 c4 c5 c6 c7 := ⟨_, rfl⟩
        obtain ⟨G, hG⟩:∃ G:R->Prop, ∀ r, G r ↔ (r=κ0 ∨ ∃ j t', r=κ j t' ∧ ∀ k n, DH Dd (j+k) T h n=DH Dd k t' h n) := ⟨_, fun r => Iff.rfl⟩
        have g0:G κ0 := (hG _).2 (.inl rfl)
        rw [←hT]
        refine (hG _).1 ?_
        rw [hT]
        refine Fp (G := G) g0 fun i0 hi => Fp (G := G) g0 fun m0 hm => RE (G := G) g0 fun p off len cap ex esz hs => TV (G := G) g0 fun x0 hx => HI (G := G) (PU (G := G) g0 fun nb c sup prev hp => ?_)
        subst hi hm hs hx
        refine Ds (G := G) g0 fun b1 => Ds (G := G) g0 fun b2 => Ds (G := G) g0 fun b3 => Ds (G := G) g0 fun b4 => Ds (G := G) g0 fun b5 => Ds (G := G) g0 fun b6 => ?_
        have b1 := Nat.le_of_ble_eq_true b1
        have b2 := Nat.le_of_ble_eq_true b2
        have b3:off+len≤nb := Nat.le_of_ble_eq_true b3
        have b4 := Nat.eq_of_beq_eq_true b4
        have b5 := Nat.le_of_ble_eq_true b5
        have b6 := Nat.le_of_ble_eq_true b6
        subst b4
        obtain ⟨j, hj⟩:∃ j, Nat.sub m0 i0=j+1 := ⟨m0 - i0 - 1, by show m0 - i0=_; omega⟩
        have hj':m0 - i0=j+1 := hj
        rw [hj, A7, A7, Sa, NY]
        refine (hG _).2 (.inr ⟨j+1, _, rfl, fun K n => ?_⟩)
        rw [hT, Hr hp b2 b3 b6 j i0 x0 d7 (by omega) b5 K, show i0+(j+1)=m0 by omega]; rfl
theorem Kp:C0 Dd=J1 Dd S0 := Jt T0
def FZ:S->Heap->K4->R := fun t h n => g5 t fun z3 => g4 t fun z4 => Ba z3 z4 fun z5 => BM z5 (Ao 1 (g3 t fun z6 => AY 1 z6 z3 fun z7 => Au z7 h fun z8 => g2 t fun z9 => PQ z9 (.int .u64 8) fun za => B2 .u64 z8 fun zb => V2 za zb fun zc => w2 t zc fun t => .ok .nrm t h n) fun t h n => g5 t fun zd => AM zd (.int .i64 1) fun ze => w5 t ze fun t => .ok .nrm t h n) <| .ok (.exit 0) t h n
abbrev Ic (x b:Nat):Nat := Nat.lor (Nat.mod (Nat.shiftLeft x 8) 18446744073709551616) b
def G0 (j:Nat):Nat->Nat->Nat := @Nat.rec (fun _ => Nat->Nat->Nat) (fun _ x => x) (fun _ ih d x => ih (sh d 1) (Ic x (lo d 1))) j
def Vh (j:Nat):Nat->Nat->(Nat->R)->R := @Nat.rec (fun _ => Nat->Nat->(Nat->R)->R) (fun _ x κ => κ x) (fun _ ih d x κ => Aa (Ic x (lo d 1)) fun x => Aa (sh d 1) fun d => ih d x κ) j
theorem Pa:∀ (j d x:Nat) (κ:Nat->R), Vh j d x κ=κ (G0 j d x)
  | 0, _, _, _ => rfl
  | j+1, d, x, κ => by
    show Aa (Ic x (lo d 1)) (fun x => Aa (sh d 1) fun d => Vh j d x κ)=κ (G0 j (sh d 1) (Ic x (lo d 1)))
    rw [A7, A7, Pa]
theorem LW:∀ (j d x:Nat), G0 j (lo d j) x=G0 j d x
  | 0, _, _ => rfl
  | j+1, d, x => by
    show G0 j (sh (lo d (j+1)) 1) (Ic x (lo (lo d (j+1)) 1))=G0 j (sh d 1) (Ic x (lo d 1))
    rw [XS, XR, LW]
def Um:Pm := fun t h κ κ0 => g5 t fun i => g4 t fun m => g3 t fun s => g2 t fun x => Me i κ0 fun i0 => Me m κ0 fun m0 => slE s κ0 fun p off len esz => Abc x κ0 fun x0 => Be p h fun o => Z1 o κ0 fun nb c =>
  br (Nat.ble (Nat.succ i0) m0) (br (Nat.ble m0 len) (br (Nat.ble (Nat.add off len) nb) (br (Nat.beq esz 1) (br (Nat.ble m0 4611686018427387904)
    (Aa (Nat.sub m0 i0) fun j => Aa (lo (sh c (Nat.add off i0)) j) fun d => Vh j d x0 fun x => w2 t (.int .u64 x) fun t => w5 t (.int .i64 m0) fun t => κ j t) κ0) κ0) κ0) κ0) κ0
theorem QK {d0 d1 d6 d7:V} {c2 c3 c4 c5 c6 c7:SQ} {h:Heap} {n p:K4} {off len cap m i x nb c:Nat} {ex sup:Bool} {prev:Option K4}
    (hp:A9 p h=some (.c (.b nb c) sup prev)) (hi:i<m) (hm:m≤len) (hl:off+len≤nb) (hb:m≤4611686018427387904) :
    FZ (.mk (.mk d0 d1 (.int .u64 x) (.sl p off len cap ex 1)) (.mk (.int .i64 m) (.int .i64 i) d6 d7) c2 c3 c4 c5 c6 c7) h n
      = .ok .nrm (.mk (.mk d0 d1 (.int .u64 (Ic x (lo (sh c (off+i)) 1))) (.sl p off len cap ex 1)) (.mk (.int .i64 m) (.int .i64 (i+1)) d6 d7) c2 c3 c4 c5 c6 c7) h n := by
  unfold FZ
  show Ba (.int .i64 i) (.int .i64 m) _=_
  rw [Q6 hi hb]
  show Ao 1 (AY 1 (.sl p off len cap ex 1) (.int .i64 i) _) _=_
  rw [UN (by omega) (by omega), U0 hp (by omega), Nat.mul_one]
  have e1:∀ (κ:V->R), PQ (.int .u64 x) (.int .u64 8) κ=κ (.int .u64 (Nat.mod (Nat.shiftLeft x 8) 18446744073709551616)) := fun κ => by
    have e0:PQ (.int .u64 x) (.int .u64 8) κ=Aa (Nat.mod (Nat.shiftLeft x 8) 18446744073709551616) fun r => κ (.int .u64 r) := rfl
    rw [e0, A7]
  have e2:∀ (a b:Nat) (κ:V->R), V2 (.int .u64 a) (.int .u64 b) κ=κ (.int .u64 (Nat.lor a b)) := fun a b κ => by
    have e0:V2 (.int .u64 a) (.int .u64 b) κ=Aa (Nat.lor a b) fun r => κ (.int .u64 r) := rfl
    rw [e0, A7]
  show Ao 1 (PQ (.int .u64 x) (.int .u64 8) _) _=_
  rw [e1, Qj (JM _) (by decide), e2, Fg]
  show AM (.int .i64 i) (.int .i64 1) _=_
  rw [Js (by omega)]
theorem Hj {d0 d1 d6 d7:V} {c2 c3 c4 c5 c6 c7:SQ} {h:Heap} {n p:K4} {off len cap m nb c:Nat} {ex sup:Bool} {prev:Option K4}
    (hp:A9 p h=some (.c (.b nb c) sup prev)) (hm:m≤len) (hl:off+len≤nb) (hb:m≤4611686018427387904) :
    ∀ (j i x:Nat), i+j≤m->∀ K, DH FZ (j+K) (.mk (.mk d0 d1 (.int .u64 x) (.sl p off len cap ex 1)) (.mk (.int .i64 m) (.int .i64 i) d6 d7) c2 c3 c4 c5 c6 c7) h n
      = DH FZ K (.mk (.mk d0 d1 (.int .u64 (G0 j (sh c (off+i)) x)) (.sl p off len cap ex 1)) (.mk (.int .i64 m) (.int .i64 (i+j)) d6 d7) c2 c3 c4 c5 c6 c7) h n
  | 0, i, x, hj, K => by rw [Nat.zero_add]; rfl
  | j+1, i, x, hj, K => by
    rw [show j+1+K=(j+K)+1 by omega, DR]
    show L7 (FZ _ h n) (DH FZ (j+K))=_
    rw [QK hp (by omega) hm hl hb]
    show DH FZ (j+K) _ h n=_
    rw [Hj hp hm hl hb j (i+1) _ (by omega) K]
    have e:G0 (j+1) (sh c (off+i)) x=G0 j (sh (sh c (off+i)) 1) (Ic x (lo (sh c (off+i)) 1)) := rfl
    rw [e, Oz, show off+(i+1)=off+i+1 by omega, show i+1+j=i+(j+1) by omega]
theorem TE:LV FZ Um := by
  intro t h κ κ0
  cases t with
  | mk c0 c1 c2 c3 c4 c5 c6 c7 =>
    cases c0 with
    | mk d0 d1 x s =>
      cases c1 with
      | mk m i d6 d7 =>
        obtain ⟨T, hT⟩:∃ T:S, T = .mk (.mk d0 d1 x s) (.mk m i d6 d7) c2 c3 c4 c5 c6 c7 := ⟨_, rfl⟩
        obtain ⟨G, hG⟩:∃ G:R->Prop, ∀ r, G r ↔ (r=κ0 ∨ ∃ j t', r=κ j t' ∧ ∀ k n, DH FZ (j+k) T h n=DH FZ k t' h n) := ⟨_, fun r => Iff.rfl⟩
        have g0:G κ0 := (hG _).2 (.inl rfl)
        rw [←hT]
        refine (hG _).1 ?_
        rw [hT]
        refine Fp (G := G) g0 fun i0 hi => Fp (G := G) g0 fun m0 hm => RE (G := G) g0 fun p off len cap ex esz hs => UJ (G := G) g0 fun x0 hx => HI (G := G) (PU (G := G) g0 fun nb c sup prev hp => ?_)
        subst hi hm hs hx
        refine Ds (G := G) g0 fun b1 => Ds (G := G) g0 fun b2 => Ds (G := G) g0 fun b3 => Ds (G := G) g0 fun b4 => Ds (G := G) g0 fun b6 => ?_
        have b1 := Nat.le_of_ble_eq_true b1
        have b2 := Nat.le_of_ble_eq_true b2
        have b3:off+len≤nb := Nat.le_of_ble_eq_true b3
        have b4 := Nat.eq_of_beq_eq_true b4
        have b6 := Nat.le_of_ble_eq_true b6
        subst b4
        rw [A7, A7, Pa, LW]
        refine (hG _).2 (.inr ⟨Nat.sub m0 i0, _, rfl, fun K n => ?_⟩)
        rw [hT, Hj hp b2 b3 b6 (Nat.sub m0 i0) i0 x0 (by show i0+(m0 - i0)≤m0; omega) K, show i0+Nat.sub m0 i0=m0 by show i0+(m0 - i0)=m0; omega]; rfl
theorem Rm:C0 FZ=J1 FZ Um := Jt TE
end Go.Ev

namespace Go.Ev
set_option linter.unusedVariables false
theorem Mg {P:Program} {f:FuncId} {fn:Func} {c:Code} {xs:Array Value} {w:World} {R:Value->World->Prop} (hf:P.funcs[f]? = some fn) (hb:fn.body=some c) (hn:(fn.name == "runtime.NumGoroutine")=false)
    (h:Calls P f xs w fun e w' => ∃ v, e = .returned v∧R v w'):M1 P f xs w R := by
  intro o a K Q hK
  have hn':fn.name ≠ "runtime.NumGoroutine" := by simpa using hn
  have e:(callFunc f xs).run P w = .ok (.enter f xs) w := by simp [callFunc, hf, hn', hb]
  rw [e]
  show Calls P f xs w _
  refine h.mono fun e w' ⟨v, he, hv⟩ => ?_
  subst he
  exact hK v w' hv
section
variable {P:Program} {ρ:Env} {B:Nat}
end
abbrev iI (n:Nat):V := .int .i64 n
abbrev iW (n:Nat):V := .int .u32 n
abbrev iB (n:Nat):V := .int .u8 n
abbrev iL (n:Nat):V := .int .u64 n
abbrev nR (t:S) (h:Heap) (n:K4):R := .ok .nrm t h n
abbrev rT (t:S) (h:Heap) (n:K4):R := .ok .ret t h n
def o8 (i:Nat):O8 := @Nat.rec (fun _ => O8) .d0 (fun i _ => @Nat.rec (fun _ => O8) .d1 (fun i _ => @Nat.rec (fun _ => O8) .d2 (fun i _ => @Nat.rec (fun _ => O8) .d3 (fun i _ => @Nat.rec (fun _ => O8) .d4 (fun i _ => @Nat.rec (fun _ => O8) .d5 (fun i _ => @Nat.rec (fun _ => O8) .d6 (fun _ _ => .d7) i) i) i) i) i) i) i
def o4 (i:Nat):O4 := @Nat.rec (fun _ => O4) .d0 (fun i _ => @Nat.rec (fun _ => O4) .d1 (fun i _ => @Nat.rec (fun _ => O4) .d2 (fun _ _ => .d3) i) i) i
def mS (l:List Nat):SM := @List.rec Nat (fun _ => Nat->SM) (fun _ => []) (fun p _ ih i => (⟨D.ofN (Nat.div p 16), D.ofN (Nat.mod p 16)⟩, ⟨o8 (Nat.div i 4), o4 (Nat.mod i 4)⟩)::ih (Nat.succ i)) l 0
theorem Yx {α:Type} {p:α->Bool} {l:List α} (k:Nat) (h1:((l.take k).all fun x => !p x)=true) (h2:((l.drop k).all fun x => !p x)=true):(l.all fun x => !p x)=true := by
  rw [←List.take_append_drop k l, List.all_append, h1, h2]; rfl
theorem X4 {P:Program} (h:(P.funcs.toList.all fun fn => !fn.goes)=true) (func:String):P.goesAt .entering func=false := by
  have key:∀ g:Nat, (P.funcs[g]?).any Func.goes=false := fun g => by
    cases hx:P.funcs[g]? with
    | none => rfl
    | some fn =>
      have hm:fn∈P.funcs.toList := by
        rw [←Array.getElem?_toList] at hx
        exact List.mem_of_getElem? hx
      have := List.all_eq_true.1 h fn hm
      simpa using this
  have hp:P.funcs.any Func.goes=false := by
    rw [←Array.any_toList, Bool.eq_false_iff]
    intro hc
    obtain ⟨fn, hm, hg⟩ := List.any_eq_true.1 hc
    have := List.all_eq_true.1 h fn hm
    rw [hg] at this; cases this
  have hgo:∀ f, P.goes f=false := fun f => by
    unfold Program.goes
    rw [hp, Bool.and_false, Bool.or_false, Bool.eq_false_iff]
    intro hc
    simp only [key] at hc
    simp at hc
  unfold Program.goesAt Program.goesFrom
  cases P.funcNamed func with
  | none => rfl
  | some f => simp [hgo f]
end Go.Ev

namespace Go.Ev
set_option linter.unusedVariables false
abbrev L8 := Nat->Option (Array Value×TypeId×(Nat×Nat))
/-- The environment of a program whose blocks gl stay as they are. -/
def Li (P:Program) (fs:List Nat) (gl:L8):Env := { Lw P fs with gl := gl }
theorem ZW {P:Program} {fs:List Nat} {gl:L8}:Bq (Li P fs gl) := fun _ => rfl
section
variable {P:Program} {ρ:Env} {B:Nat}
theorem Gm.gl {fs:List Nat} {gl:L8} {f:FuncId} {e:Ent} (h:Gm P (Lw P fs) f e):Gm P (Li P fs gl) f e := h
theorem JQ.mkG {fs:List Nat} {gl:L8} {T:FC} (h:∀ f e, B5 (Bk f) T=some e->Mx P (Li P fs gl) B f e) (ha:∀ f∈fs, ∃ e, B5 (Bk f) T=some e∧Gm P (Li P fs gl) f e):JQ P (Li P fs gl) B T := by
  refine ⟨h, fun f A hA => ?_⟩
  have hA:@Bool.rec (fun _ => Option ApC) none (M2 P f) (fs.contains f)=some A := hA
  cases hc:fs.contains f with
  | false => rw [hc] at hA; cases hA
  | true => exact ha f (List.contains_iff_mem.1 hc)
/-- A table that stays. -/
def Qt (P:Program) (gl:L8) (name:String) (k:IntKind) (zs:List Int):Prop := ∃ g e fr, P.globalNamed name=some g∧gl g=some ((zs.map fun z => Value.int k z).toArray, e, fr)
theorem Qt.is {gl:L8} {name:String} {k:IntKind} {zs:List Int} {h:Heap} {n:K4} {φ:AO} {w:World} (t:Qt P gl name k zs) (hgl:ρ.gl=gl) (g:Gam ρ B h n φ w):Lib.TabIs P w name k zs := by
  obtain ⟨b, e, fr, h1, h2⟩ := t
  obtain ⟨_, h3⟩ := g.glob b _ e fr (by rw [hgl]; exact h2)
  unfold Lib.TabIs World.var?
  rw [h1, Option.bind_some, h3]
/-- The blocks of a world that a list names. -/
def NW (w:World) (l:List Nat):L8 := fun b => if b∈l then (match w.heap[b]? with | some (.cells c e fr) => some (c, e, fr) | _ => none) else none
theorem RJ {P:Program} {fs:List Nat} {w:World} {l:List Nat}:Z7 (Li P fs (NW w l)) w := fun b c e fr h => by
  have h:NW w l b=some (c, e, fr) := h
  unfold NW at h
  split at h
  · split at h
    · rename_i c' e' fr' hw
      cases h
      refine ⟨?_, hw⟩
      rcases Nat.lt_or_ge b w.heap.size with hb | hb
      · exact hb
      · rw [Array.getElem?_eq_none hb] at hw; cases hw
    · cases h
  · cases h
theorem Qt.of {w:World} {l:List Nat} {g:Nat} {name:String} {k:IntKind} {zs:List Int} (hg:P.globalNamed name=some g) (hl:g∈l) (h:Lib.TabIs P w name k zs):Qt P (NW w l) name k zs := by
  unfold Lib.TabIs World.var? at h
  rw [hg, Option.bind_some] at h
  split at h
  · rename_i c e fr hw
    cases h
    refine ⟨g, e, fr, hg, ?_⟩
    unfold NW
    rw [if_pos hl, hw]
  · cases h
def Jw (m:Nat):Nat->Nat := @Nat.rec (fun _ => Nat->Nat) (fun _ => 1) (fun _ ih u => br (Nat.ble (Nat.succ u) 10) 1 (Nat.succ (ih (Nat.div u 10)))) m
theorem R4:∀ (m u:Nat), u<10 ^ (m+1)->Jw m u=Lib.nDigits u
  | 0, u, h => by rw [Lib.nDigits_small (by simpa using h)]; rfl
  | m+1, u, h => by
    have e:Jw (m+1) u=br (Nat.ble (Nat.succ u) 10) 1 (Nat.succ (Jw m (u / 10))) := rfl
    rw [e]
    by_cases hu:u<10
    · rw [Ab.2 (by omega), Ac, Lib.nDigits_small hu]
    · rw [AH (by omega), Ai, Lib.nDigits_big hu, R4 m (u / 10) (by rw [Nat.pow_succ] at h; omega)]
theorem QA {u:Nat} (h:u<18446744073709551616):Lib.nDigits u≤20 := by
  rw [←R4 19 u (by omega)]
  have:∀ (m u:Nat), Jw m u≤m+1 := by
    intro m
    induction m with
    | zero => intro u; exact Nat.le_refl _
    | succ m ih =>
      intro u
      have e:Jw (m+1) u=br (Nat.ble (Nat.succ u) 10) 1 (Nat.succ (Jw m (u / 10))) := rfl
      rw [e]
      cases Nat.ble (Nat.succ u) 10 with
      | true => show 1≤_; omega
      | false => have := ih (u / 10); show Nat.succ _≤_; omega
  exact this 19 u
/-- internal/strconv.numDigits. -/
def ID:NV := fun args h n =>
  K0 args fun x l => RP l (Hh x fun k r => br (AZ k .u64) (br (Nat.ble 1 r) (Aa (Jw 19 r) fun i => .rv (.int .i64 i) h n) (.fail "")) (.fail ""))
def Q3 (P:Program) (f:FuncId):Prop := ∀ (u:Nat), 1≤u->u<18446744073709551616->∀ w:World, Lib.TabIs P w "internal/strconv.uint64pow10" .u64 Lib.pow10Tab->Calls P f #[.int .u64 u] w fun e w' => e = .returned (.int .i64 (Lib.nDigits u))∧w'=w
theorem Ty {f:FuncId} {fn:Func} {gl:L8} (hf:P.funcs[f]? = some fn) (hb:fn.body.isSome=true) (hn:(fn.name == "runtime.NumGoroutine")=false) (hS:Q3 P f) (hgl:ρ.gl=gl) (ht:Qt P gl "internal/strconv.uint64pow10" .u64 Lib.pow10Tab):OD P ρ B f ID := by
  intro args h n v h1 n1 hx φ w xs g hr
  have hg:(ID args h n).good := by rw [hx]; trivial
  unfold ID at hx hg
  obtain ⟨x, l, rfl, q1⟩ := Hf hg
  rw [q1] at hx hg
  obtain ⟨rfl, q2⟩ := LK hg
  rw [q2] at hx
  obtain ⟨k, r, rfl, hx⟩ := Yt hx
  obtain ⟨hk, hx⟩ := Xv hx
  obtain rfl := AA.1 hk
  obtain ⟨h1', hx⟩ := Xv hx
  have h1' := Ab.1 h1'
  rw [A7] at hx
  cases hx
  obtain ⟨X, ys, hX, r0, hr⟩ := Aq.1 hr
  obtain rfl := Aw.1 hr
  obtain ⟨hlt, rfl⟩ := Cm r0
  have hlt:r<18446744073709551616 := hlt
  have hxs:xs = #[.int .u64 (dec .u64 r)] := by cases xs; simp at hX; rw [hX]
  subst hxs
  rw [show dec .u64 r=(r:Int) from Aj (by simp only [Hk]; exact hlt)]
  obtain ⟨c, hc⟩ := Option.isSome_iff_exists.1 hb
  refine Mg hf hc hn ((hS r h1' hlt w (ht.is hgl g)).mono fun e w' ⟨he, hw⟩ => ⟨_, he, ?_⟩)
  subst hw
  refine ⟨φ, Fr.refl h φ n _, g, ?_⟩
  rw [R4 19 r (by omega)]
  have := QA hlt
  simp only [Ap]
  generalize Lib.nDigits r=d at this
  exact ⟨by simp only [Mk]; omega, congrArg (Value.int .i64) (Aj (k := .i64) (by simp only [Hk]; omega)).symm⟩
end
theorem JU {P:Program} {w:World}:∀ {l:List (String×DataW Unit)} {ps:List MemPlace}, DataW.LaidVars P w l ps->∀ {name:String} {d:DataW Unit}, (name, d)∈l →
    ∃ g t cs fuel p, P.globalNamed name=some g∧(P.globals[g]?).map (·.type)=some t∧w.var? P name=some cs∧DataW.trod (fun _ => ()) P w 0 (fun _ => true) false fuel t cs.toList=some (d, p)
  | [], _, _, _, _, hm => by cases hm
  | (n, d)::r, ps, h, name, d', hm => by
    obtain ⟨g, t, cs, fuel, p, q, h1, h2, h3, h4, h5, _⟩ := h
    rcases List.mem_cons.1 hm with e | e
    · cases e; exact ⟨g, t, cs, fuel, p, h1, h2, h3, h4⟩
    · exact JU h5 e
theorem NP {P:Program} {W:World} {name:String} {k:IntKind} {zs:List Int} {l:List (String×DataW Unit)} {g:Nat} {t e:TypeId} {n:Nat}
    (hg:P.globalNamed name=some g) (hty:(P.globals[g]?).map (·.type)=some t) (ht:P.underlying t=some (.array n e)) (he:P.underlying e=some (.int k)) (hce:P.cellsOf e=1) (hct:P.cellsOf t=n)
    (hm:(name, Lib.tabData k zs)∈l) (h:laidMet P l W):Lib.TabIs P W name k zs := by
  obtain ⟨ps, hv, _⟩ := h
  obtain ⟨g', t', cs, fuel, p, hg', ht', hvar, hd⟩ := JU hv hm
  obtain rfl := Option.some.inj (hg.symm.trans hg')
  obtain rfl := Option.some.inj (hty.symm.trans ht')
  unfold Lib.TabIs
  rw [hvar, ←Lib.cells_of_tab ht he hce hct hd]
end Go.Ev

namespace Go.Ev
set_option linter.unusedVariables false
open Go.RowKit
section
variable {P:Program} {ρ:Env} {B:Nat}
/-- What stands below stays; new blocks are nothing to it. -/
theorem Gam.below {h:Heap} {n:K4} {φ:AO} {w w':World} (g:Gam ρ B h n φ w) (b:Below w.heap.size w w'):Gam ρ B h n φ w'∧Fr h h φ φ n n w w' := by
  obtain ⟨b1, b2, b3, b4, b5⟩ := b
  refine ⟨⟨Nat.le_trans g.base b4, g.dom, fun p b s t hp => ⟨(g.blk p b s t hp).1, Nat.lt_of_lt_of_le (g.blk p b s t hp).2 b4⟩, fun p o b s t ho hp => Ck (b5 b (g.blk p b s t hp).2) (g.obj p o b s t ho hp), g.sep, g.sup,
    fun b c e fr hb => ⟨(g.glob b c e fr hb).1, by rw [b5 b (Nat.lt_of_lt_of_le (g.glob b c e fr hb).1 g.base)]; exact (g.glob b c e fr hb).2⟩⟩,
    ⟨AO.le_refl φ, fun _ _ h => .inl h, Nat.le_refl _, b1, b2, b3, b4, fun b hb _ => b5 b hb, fun _ _ _ _ h => .inl h, fun _ _ h => h⟩⟩
end
end Go.Ev

namespace Go.Ev
set_option linter.unusedVariables false
section
variable {P:Program} {ρ:Env} {B:Nat}
theorem TB {w:World} {l:List Nat} {b:Nat} {c:Array Value} {e:TypeId} {fr:Nat×Nat} (hb:b∈l) (h:w.heap[b]? = some (.cells c e fr)):NW w l b=some (c, e, fr) := by
  unfold NW
  rw [if_pos hb, h]
/-- A cell of a world. -/
theorem QO {w:World} {a:Addr} {v:Value} (h:w.cell? a=some v):∃ b o c e fr, a=⟨b, o, none⟩∧w.heap[b]? = some (.cells c e fr)∧c[o]? = some v := by
  obtain ⟨b, o, sp⟩ := a
  unfold World.cell? at h
  split at h
  · rename_i c e fr hw
    split at h
    · cases h
    · rename_i hs
      cases sp with
      | none => exact ⟨b, o, c, e, fr, rfl, hw, h⟩
      | some x => exact absurd rfl hs
  · cases h
end
section
variable {ρ:Env} {φ:AO} {b o len cap lo hi hi' i:Nat} {c:Array Value} {e:TypeId} {fr:Nat×Nat}
end
end Go.Ev

namespace Go.Ev
set_option linter.unusedVariables false
theorem S3 (k:IntKind) (a b:Nat) (κ:V->R):AM (.int k a) (.int k b) κ=κ (.int k ((a+b) % Mk k)) := by
  show kM k k (fun M => Aa (Nat.mod (Nat.add a b) M) fun r => κ (.int k r))=_
  rw [Q5, AA.2 rfl, Ac, A7]; rfl
/-- A difference. -/
def Io (k:IntKind) (a b:Nat):Nat := (a+(Mk k - b)) % Mk k
theorem XV (k:IntKind) (a b:Nat) (κ:V->R):B9 (.int k a) (.int k b) κ=κ (.int k (Io k a b)) := by
  show kM k k (fun M => Aa (Nat.mod (Nat.add a (Nat.sub M b)) M) fun r => κ (.int k r))=_
  rw [Q5, AA.2 rfl, Ac, A7]; rfl
theorem U3 (k:IntKind) (a b:Nat) (κ:V->R):EG (.int k a) (.int k b) κ=κ (.int k ((a*b) % Mk k)) := by
  show kM k k (fun M => Aa (Nat.mod (Nat.mul a b) M) fun r => κ (.int k r))=_
  rw [Q5, AA.2 rfl, Ac, A7]; rfl
theorem Cb (a b:Nat):Nat.beq a b=decide (a=b) := by
  rw [Bool.eq_iff_iff, decide_eq_true_iff]
  exact ⟨Nat.eq_of_beq_eq_true, fun h => by rw [h]; exact Nat.beq_refl b⟩
theorem Xp (k:IntKind) (a b:Nat) (κ:V->R):BH (.int k a) (.int k b) κ=κ (.bool (decide (a=b))) := by
  show kM k k (fun _ => BW (Nat.beq a b) fun r => κ (.bool r))=_
  rw [Q5, AA.2 rfl, Ac, B3, Cb]
theorem Xk (k:IntKind) (a b:Nat) (κ:V->R):Cw (.int k a) (.int k b) κ=κ (.bool (decide (¬ a=b))) := by
  show kM k k (fun _ => br (Nat.beq a b) (κ (.bool false)) (κ (.bool true)))=_
  rw [Q5, AA.2 rfl, Ac, Cb]
  by_cases h:a=b
  · rw [decide_eq_true h, decide_eq_false (fun g => g h)]; rfl
  · rw [decide_eq_false h, decide_eq_true h]; rfl
/-- Signed numbers that are not negative, and unsigned ones, by their residues. -/
theorem Om {k:IntKind} {a b:Nat} (ha:a<Hk k) (hb:b<Hk k):DO k a b=decide (a<b) := by
  unfold DO
  rw [AH ha, AH hb, Ai, Ai, CS]
  exact decide_eq_decide.2 Nat.succ_le_iff
theorem Xt (k:IntKind) (a b:Nat) (κ:V->R):Ba (.int k a) (.int k b) κ=κ (.bool (DO k a b)) := by
  show kH k k (fun H => BW (WA H a b) fun r => κ (.bool r))=_
  rw [Rr, AA.2 rfl, Ac, B3]; rfl
theorem Y5 (k:IntKind) (a b:Nat) (κ:V->R):DT (.int k a) (.int k b) κ=κ (.bool (DO k b a)) := by
  show kH k k (fun H => BW (WA H b a) fun r => κ (.bool r))=_
  rw [Rr, AA.2 rfl, Ac, B3]; rfl
theorem XJ (k:IntKind) (a b:Nat) (κ:V->R):Dp (.int k a) (.int k b) κ=κ (.bool (!DO k b a)) := by
  show kH k k (fun H => br (WA H b a) (κ (.bool false)) (κ (.bool true)))=_
  rw [Rr, AA.2 rfl, Ac, Vp]; cases DO k b a <;> rfl
theorem Xw (k:IntKind) (a b:Nat) (κ:V->R):Cv (.int k a) (.int k b) κ=κ (.bool (!DO k a b)) := by
  show kH k k (fun H => br (WA H a b) (κ (.bool false)) (κ (.bool true)))=_
  rw [Rr, AA.2 rfl, Ac, Vp]; cases DO k a b <;> rfl
theorem S5 {k:IntKind} {a b:Nat} (ha:a<Hk k) (hb:b<Hk k) (h0:0<b) (κ:V->R):F1 (.int k a) (.int k b) κ=κ (.int k (a / b)) := by
  show br (AZ k k) (br (Nat.ble (Nat.succ a) (Hk k)) (br (Nat.ble (Nat.succ b) (Hk k)) (br (Nat.ble 1 b) (Aa (Nat.div a b) fun r => κ (.int k r)) _) _) _) _=_
  rw [AA.2 rfl, Ac, Ab.2 ha, Ac, Ab.2 hb, Ac, Ab.2 h0, Ac, A7]; rfl
theorem PY {k:IntKind} {a b:Nat} (ha:a<Hk k) (hb:b<Hk k) (h0:0<b) (κ:V->R):FQ (.int k a) (.int k b) κ=κ (.int k (a % b)) := by
  show br (Nat.ble (Nat.succ a) (Hk k)) (br (AZ k k) (br (Nat.ble (Nat.succ a) (Hk k)) (br (Nat.ble (Nat.succ b) (Hk k)) (br (Nat.ble 1 b) (Aa (Nat.mod a b) fun r => κ (.int k r)) (.fail "")) (.fail "")) (.fail "")) (.fail "")) (N3 k a k b κ)=_
  rw [show Nat.ble (Nat.succ a) (Hk k)=true from Ab.2 ha, Ac, AA.2 rfl, Ac, Ac, show Nat.ble (Nat.succ b) (Hk k)=true from Ab.2 hb, Ac, show Nat.ble 1 b=true from Ab.2 h0, Ac, A7]; rfl
theorem Xz (k:IntKind) (a b:Nat) (κ:V->R):I2 (.int k a) (.int k b) κ=κ (.int k (a &&& b)) := by
  show br (AZ k k) (Aa (Nat.land a b) fun r => κ (.int k r)) _=_
  rw [AA.2 rfl, Ac, A7]; rfl
theorem ZI (k:IntKind) (a b:Nat) (κ:V->R):V2 (.int k a) (.int k b) κ=κ (.int k (a ||| b)) := by
  show br (AZ k k) (Aa (Nat.lor a b) fun r => κ (.int k r)) _=_
  rw [AA.2 rfl, Ac, A7]; rfl
theorem Y2 (k:IntKind) (a b:Nat) (κ:V->R):I9 (.int k a) (.int k b) κ=κ (.int k (a ^^^ b)) := by
  show br (AZ k k) (Aa (Nat.xor a b) fun r => κ (.int k r)) _=_
  rw [AA.2 rfl, Ac, A7]; rfl
/-- A number turned into one of another kind: not negative. -/
theorem H3 {k j:IntKind} {a:Nat} (h:a<Hk j) (κ:V->R):B2 k (.int j a) κ=κ (.int k (a % Mk k)) := by
  show br (Nat.ble (Nat.succ a) (Hk j)) (Aa (Nat.mod a (Mk k)) fun r => κ (.int k r)) _=_
  rw [Ab.2 h, Ac, A7]; rfl
theorem Zr (b:Bool) (x y:R):BM (.bool b) x y=bif b then x else y := by cases b <;> rfl
theorem V9 (b:Bool) (x y:V) (κ:V->R):AI (.bool b) x y κ=bif b then κ x else κ y := by cases b <;> rfl
theorem XA (b:Bool) (κ:V->R):EN (.bool b) κ=κ (.bool (!b)) := by cases b <;> rfl
theorem Y9 (w b:Bool) (h:Heap) (n:K4) (F:KV->R) (κ:KV):Cc w (.bool b) h n F κ=bif b == w then F κ else κ B4 h n := by cases w <;> cases b <;> rfl
theorem Xm (w b:Bool) (F:(V->R)->R) (κ:V->R):Km w (.bool b) F κ=bif b == w then F κ else κ B4 := by cases w <;> cases b <;> rfl
theorem XQ (v:V) (h:Heap) (n:K4) (κ:V->R):AE (.rv v h n) κ=κ v := id rfl
theorem Y6 (v:V) (h:Heap) (n:K4) (κ:KV):DY (.rv v h n) κ=κ v h n := id rfl
theorem Ux (v:V) (h:Heap) (n:K4) (κ:KV):Ag (.rv v h n) κ=κ v h n := id rfl
theorem S9 (t:S) (h:Heap) (n:K4) (κ:S->Heap->K4->R):C9 (.ok .nrm t h n) κ=κ t h n := id rfl
theorem Ro (i:Nat) (t:S) (h:Heap) (n:K4) (κ:S->Heap->K4->R):C9 (.ok (.exit i) t h n) κ = .ok (.exit i) t h n := id rfl
theorem Rj (t:S) (h:Heap) (n:K4) (κ:S->Heap->K4->R):C9 (.ok .ret t h n) κ = .ok .ret t h n := id rfl
theorem PH (i:Nat) (t:S) (h:Heap) (n:K4) (κ:S->Heap->K4->R):Ao i (.ok .nrm t h n) κ=κ t h n := id rfl
theorem OL (i:Nat) (t:S) (h:Heap) (n:K4) (κ:S->Heap->K4->R):Ao i (.ok .ret t h n) κ = .ok .ret t h n := id rfl
theorem PR (i j:Nat) (t:S) (h:Heap) (n:K4) (κ:S->Heap->K4->R):Ao i (.ok (.exit j) t h n) κ=bif decide (j=i) then κ t h n else .ok (.exit j) t h n := by
  show br (Nat.beq j i) (κ t h n) (.ok (.exit j) t h n)=_
  rw [Cb]; cases decide (j=i) <;> rfl
theorem S1 (b:Bool) (x y:R) (κ:S->Heap->K4->R):C9 (bif b then x else y) κ=bif b then C9 x κ else C9 y κ := by cases b <;> rfl
theorem OO (i:Nat) (b:Bool) (x y:R) (κ:S->Heap->K4->R):Ao i (bif b then x else y) κ=bif b then Ao i x κ else Ao i y κ := by cases b <;> rfl
theorem VC (b:Bool) (x y:R) (κ:V->R):AE (bif b then x else y) κ=bif b then AE x κ else AE y κ := by cases b <;> rfl
theorem Ur (b:Bool) (x y:R) (κ:KV):DY (bif b then x else y) κ=bif b then DY x κ else DY y κ := by cases b <;> rfl
/-- What a cell of an object is. -/
def S2 (o:Ch) (off:Nat) (κ:V->R):R := @Option.rec Ob (fun _ => R) (.fail "") (fun o => @Ob.rec (fun _ => R) (fun cs _ _ => F8 cs off κ) (C4 "") (Fh "") (.fail "") (Ax "") o) o
theorem Ym (p:K4) (off:Nat) (h:Heap) (κ:V->R):Au (.ptr p off) h κ=S2 (A9 p h) off κ := by
  show JV p h (fun cs _ _ => F8 cs off κ)=_
  rw [Dj]; unfold Hs S2; rw [Cg]
theorem UT (xs:List V) (s:Bool) (pr:Option K4) (off:Nat) (κ:V->R):S2 (some (.c (.l xs) s pr)) off κ=DN off xs κ := id rfl
theorem Vb (x:V) (xs:List V) (κ:V->R):DN 0 (x::xs) κ=κ x := id rfl
theorem TS (m:Nat) (x:V) (xs:List V) (κ:V->R):DN (m+1) (x::xs) κ=DN m xs κ := id rfl
theorem XM (off o:Nat) (p:K4) (κ:V->R):Ak off (.ptr p o) κ=κ (.ptr p (o+off)) := by
  show Aa (Nat.add o off) (fun o => κ (.ptr p o))=_
  rw [A7]; rfl
theorem Sw (p:K4) (o:Nat) (κ:V->R):Am (.ptr p o) κ=κ (.ptr p o) := id rfl
end Go.Ev

namespace Go.Ev
set_option linter.unusedVariables false
theorem D.nx_all (d:D):(d.toN=15 ∧ ∀ (k:D->R) (c:R), d.nx k c=c) ∨ ∃ e:D, e.toN=d.toN+1 ∧ ∀ (k:D->R) (c:R), d.nx k c=k e := by
  cases d
  case d0 => exact .inr ⟨.d1, rfl, fun _ _ => rfl⟩
  case d1 => exact .inr ⟨.d2, rfl, fun _ _ => rfl⟩
  case d2 => exact .inr ⟨.d3, rfl, fun _ _ => rfl⟩
  case d3 => exact .inr ⟨.d4, rfl, fun _ _ => rfl⟩
  case d4 => exact .inr ⟨.d5, rfl, fun _ _ => rfl⟩
  case d5 => exact .inr ⟨.d6, rfl, fun _ _ => rfl⟩
  case d6 => exact .inr ⟨.d7, rfl, fun _ _ => rfl⟩
  case d7 => exact .inr ⟨.d8, rfl, fun _ _ => rfl⟩
  case d8 => exact .inr ⟨.d9, rfl, fun _ _ => rfl⟩
  case d9 => exact .inr ⟨.d10, rfl, fun _ _ => rfl⟩
  case d10 => exact .inr ⟨.d11, rfl, fun _ _ => rfl⟩
  case d11 => exact .inr ⟨.d12, rfl, fun _ _ => rfl⟩
  case d12 => exact .inr ⟨.d13, rfl, fun _ _ => rfl⟩
  case d13 => exact .inr ⟨.d14, rfl, fun _ _ => rfl⟩
  case d14 => exact .inr ⟨.d15, rfl, fun _ _ => rfl⟩
  case d15 => exact .inl ⟨rfl, fun _ _ => rfl⟩
theorem K4.nx_all (p:K4) (h:p.toN<65535):∃ q:K4, q.toN=p.toN+1 ∧ ∀ k:K4->R, p.nx k=k q := by
  obtain ⟨a, b, c, d⟩ := p
  simp only [K4.toN] at h
  have hd0:D.d0.toN=0 := id rfl
  have ha := a.toN_lt; have hb := b.toN_lt; have hc := c.toN_lt; have hd := d.toN_lt
  rcases d.nx_all with ⟨d1, d2⟩ | ⟨e, d1, d2⟩
  · rcases c.nx_all with ⟨c1, c2⟩ | ⟨e, c1, c2⟩
    · rcases b.nx_all with ⟨b1, b2⟩ | ⟨e, b1, b2⟩
      · rcases a.nx_all with ⟨a1, a2⟩ | ⟨e, a1, a2⟩
        · omega
        · exact ⟨⟨e, .d0, .d0, .d0⟩, by simp only [K4.toN, hd0]; omega, fun k => by show d.nx _ (c.nx _ (b.nx _ (a.nx _ _)))=_; rw [d2, c2, b2, a2]⟩
      · exact ⟨⟨a, e, .d0, .d0⟩, by simp only [K4.toN, hd0]; omega, fun k => by show d.nx _ (c.nx _ (b.nx _ _))=_; rw [d2, c2, b2]⟩
    · exact ⟨⟨a, b, e, .d0⟩, by simp only [K4.toN, hd0]; omega, fun k => by show d.nx _ (c.nx _ _)=_; rw [d2, c2]⟩
  · exact ⟨⟨a, b, c, e⟩, by simp only [K4.toN]; omega, fun k => by show d.nx _ _=_; rw [d2]⟩
/-- The next place, where there is one. -/
def K4.up (p:K4):K4 := if h:p.toN<65535 then Classical.choose (p.nx_all h) else p
theorem K4.up_toN {p:K4} (h:p.toN<65535):p.up.toN=p.toN+1 := by
  unfold K4.up; rw [dif_pos h]; exact (Classical.choose_spec (p.nx_all h)).1
theorem K4.nx_up {p:K4} (h:p.toN<65535) (k:K4->R):p.nx k=k p.up := by
  unfold K4.up; rw [dif_pos h]; exact (Classical.choose_spec (p.nx_all h)).2 k
theorem K4.ne_of_lt {p q:K4} (h:p.toN<q.toN):p≠q := fun e => by subst e; omega
theorem Du {n:K4} (hn:n.toN<65535) (h:Heap) (o:Ob) (κ:Heap->K4->R):DZ h n o κ=κ (Ae n h (some o)) n.up := by
  rw [HO]
  have e:D9 h n o κ=n.nx fun n' => κ (Ae n h (some o)) n' := AT _ _ _ _
  rw [e, K4.nx_up hn]
theorem RL {n:K4} (hn:n.toN<65535) (h:Heap) (κ:KV):Hz h n κ=κ (.map n) (Ae n h (some (.m [] [] 0))) n.up := Du hn _ _ _
theorem VE {n:K4} (hn:n.toN<65535) (l:List V) (h:Heap) (κ:KV):Fl (.agg l) h n κ=κ (.ptr n 0) (Ae n h (some (.c (.l l) false none))) n.up := Du hn _ _ _
theorem Xo {n:K4} (hn:n.toN<65535) (cs:Cs) (h:Heap) (κ:KV):Dz cs h n κ=κ (.ptr n 0) (Ae n h (some (.c cs false none))) n.up := Du hn _ _ _
theorem Qx {n:K4} (hn:n.toN<65535) (len esz:Nat) (l:List V) (h:Heap) (κ:KV):Cp false len esz l h n κ=κ (.sl n 0 len len true esz) (Ae n h (some (.c (.l l) false none))) n.up := Du hn _ _ _
theorem Vz {n:K4} (hn:n.toN<65535) (esz:Nat) (h:Heap) (κ:KV):Cp true 0 esz [] h n κ=κ (.sl n 0 0 0 true esz) (Ae n h (some (.c (.b 0 0) false none))) n.up := Du hn _ _ _
theorem IW:∀ {m:Nat} {xs:List V} {k:List V->R}, m≤xs.length->D7 m xs k=k (xs.take m)
  | 0, xs, k, _ => rfl
  | m+1, [], k, h => by simp at h
  | m+1, x::xs, k, h => by
    have := IW (m := m) (xs := xs) (k := fun zs => k (x::zs)) (by simpa using h)
    exact this
theorem J9:∀ {m:Nat} {xs:List V} {k:List V->R}, m≤xs.length->DA m xs k=k (xs.drop m)
  | 0, xs, k, _ => rfl
  | m+1, [], k, h => by simp at h
  | m+1, x::xs, k, h => J9 (m := m) (xs := xs) (k := k) (by simpa using h)
theorem RK:∀ {m:Nat} {xs:List V} {k:V->R} {v:V}, xs[m]? = some v->DN m xs k=k v
  | 0, [], k, v, h => by simp at h
  | 0, x::xs, k, v, h => by simp at h; subst h; rfl
  | m+1, [], k, v, h => by simp at h
  | m+1, x::xs, k, v, h => RK (m := m) (xs := xs) (k := k) (by simpa using h)
theorem ET {p:K4} {h:Heap} {cs:Cs} {s:Bool} {pr:Option K4} (hp:A9 p h=some (.c cs s pr)) (κ:Cs->Bool->Option K4->R):Hs p h κ=κ cs s pr := by
  unfold Hs; rw [Cg, hp]
theorem Z4 {p:K4} {h:Heap} {es:List (V×V)} {bs:List Nat} {c:Nat} (hp:A9 p h=some (.m es bs c)) (κ:List (V×V)->List Nat->Nat->R):MK p h κ=κ es bs c := by
  unfold MK; rw [Cg, hp]
theorem RS:∀ {off:Nat} {xs:List V} {v:V} {κ:List V->R}, off<xs.length->C1 off xs v κ=κ (xs.set off v)
  | 0, [], v, κ, h => by simp at h
  | 0, x::xs, v, κ, h => rfl
  | off+1, [], v, κ, h => by simp at h
  | off+1, x::xs, v, κ, h => RS (off := off) (xs := xs) (v := v) (κ := fun zs => κ (x::zs)) (by simpa using h)
/-- One cell of a struct. -/
theorem Aau {p:K4} {h:Heap} {xs:List V} {off:Nat} (hp:A9 p h=some (.c (.l xs) false none)) (ho:off<xs.length) (v:V) (κ:Heap->R):Ji h p off v κ=κ (Ae p h (some (.c (.l (xs.set off v)) false none))) := by
  rw [Ji, Ju, ET hp]
  show C1 off xs v (fun zs => Ia none h fun h => EV p h (some (.c (.l zs) false none)) κ)=_
  rw [RS ho]
  exact AT _ _ _ _
theorem HA.setS_setS (d:D) (p:HA) (x y:Ch):HA.setS d (HA.setS d p x) y=HA.setS d p y := by cases d <;> cases p <;> rfl
theorem HB.setS_setS (d:D) (p:HB) (x y:HA):HB.setS d (HB.setS d p x) y=HB.setS d p y := by cases d <;> cases p <;> rfl
theorem HC.setS_setS (d:D) (p:HC) (x y:HB):HC.setS d (HC.setS d p x) y=HC.setS d p y := by cases d <;> cases p <;> rfl
theorem Heap.setS_setS (d:D) (p:Heap) (x y:HC):Heap.setS d (Heap.setS d p x) y=Heap.setS d p y := by cases d <;> cases p <;> rfl
theorem Ge (p:K4) (h:Heap) (x y:Ch):Ae p (Ae p h x) y=Ae p h y := by
  cases p
  simp only [Ae, EV, Heap.setK_eq, HC.setK_eq, HB.setK_eq, HA.setK_eq, Heap.selK_eq, HC.selK_eq, HB.selK_eq, id, Heap.sel_setS_same, HC.sel_setS_same, HB.sel_setS_same, Heap.setS_setS, HC.setS_setS, HB.setS_setS, HA.setS_setS]
/-- A store of one cell to a struct. -/
def TM (o:Ch) (h:Heap) (p:K4) (off:Nat) (v:V) (κ:Heap->R):R :=
  match o with
  | some (.c (.l xs) false none) => bif Nat.ble (off+1) xs.length then κ (Ae p h (some (.c (.l (xs.set off v)) false none))) else Ji h p off v κ
  | _ => Ji h p off v κ
theorem Iu (h:Heap) (p:K4) (off:Nat) (v:V) (κ:Heap->R):Ji h p off v κ=TM (A9 p h) h p off v κ := by
  unfold TM
  split
  · rename_i xs hp
    cases hb:Nat.ble (off+1) xs.length with
    | true => exact Aau hp (Ab.1 hb) v κ
    | false => rfl
  · rfl
theorem XD (xs:List V) (h:Heap) (p:K4) (off:Nat) (v:V) (κ:Heap->R):TM (some (.c (.l xs) false none)) h p off v κ=bif Nat.ble (off+1) xs.length then κ (Ae p h (some (.c (.l (xs.set off v)) false none))) else Ji h p off v κ := id rfl
theorem UM (p:K4) (off:Nat) (h:Heap) (k:IntKind) (r:Nat) (κ:Heap->R):Bb (.ptr p off) (.int k r) h κ=TM (A9 p h) h p off (.int k r) κ := Iu _ _ _ _ _
theorem S6 (p:K4) (off:Nat) (h:Heap) (b:Bool) (κ:Heap->R):Bb (.ptr p off) (.bool b) h κ=TM (A9 p h) h p off (.bool b) κ := Iu _ _ _ _ _
theorem UI (p:K4) (off:Nat) (h:Heap) (q:K4) (r:Nat) (κ:Heap->R):Bb (.ptr p off) (.ptr q r) h κ=TM (A9 p h) h p off (.ptr q r) κ := Iu _ _ _ _ _
theorem Uv (p:K4) (off:Nat) (h:Heap) (q:K4) (κ:Heap->R):Bb (.ptr p off) (.map q) h κ=TM (A9 p h) h p off (.map q) κ := Iu _ _ _ _ _
theorem UD (p:K4) (off:Nat) (h:Heap) (w:Nl) (κ:Heap->R):Bb (.ptr p off) (.nil w) h κ=TM (A9 p h) h p off (.nil w) κ := Iu _ _ _ _ _
theorem XW (p:K4) (off:Nat) (h:Heap) (q:K4) (a b c:Nat) (e:Bool) (z:Nat) (κ:Heap->R):Bb (.ptr p off) (.sl q a b c e z) h κ=TM (A9 p h) h p off (.sl q a b c e z) κ := Iu _ _ _ _ _
theorem OE (p:K4) (off:Nat) (h:Heap) (n c:Nat) (κ:Heap->R):Bb (.ptr p off) (.str n c) h κ=TM (A9 p h) h p off (.str n c) κ := Iu _ _ _ _ _
theorem Vs (neg:Bool) (p:K4) (o:Nat) (κ:V->R):EL neg (.rf .ptr) (.ptr p o) (.nil .ptr) κ=κ (.bool neg) := by cases neg <;> rfl
theorem VS (neg:Bool) (w:Nl) (κ:V->R):EL neg (.rf w) (.nil w) (.nil w) κ=κ (.bool (!neg)) := by cases neg <;> cases w <;> rfl
theorem NU (neg:Bool) (p:K4) (a b c:Nat) (e:Bool) (z:Nat) (κ:V->R):EL neg (.rf .sl) (.sl p a b c e z) (.nil .sl) κ=κ (.bool neg) := by cases neg <;> rfl
theorem UY (neg:Bool) (n c:Nat) (κ:V->R):EL neg (.rf .sl) (.oth (.rb n c)) (.nil .sl) κ=κ (.bool neg) := by cases neg <;> rfl
theorem Sg {a b:Nat} (ha:a<18446744073709551616) (hb:b<18446744073709551616):(AV (Hk .i64) (Mk .i64) a+1≤AV (Hk .i64) (Mk .i64) b ↔ DO .i64 a b=true)∧(DO .i64 a b=false->AV (Hk .i64) (Mk .i64) b≤AV (Hk .i64) (Mk .i64) a) := by
  have h1:∀ x:Nat, x<18446744073709551616->(Nat.ble (Hk .i64) x=true∧9223372036854775808≤x∧AV (Hk .i64) (Mk .i64) x=x - 9223372036854775808)∨(Nat.ble (Hk .i64) x=false∧x<9223372036854775808∧AV (Hk .i64) (Mk .i64) x=x+9223372036854775808) := fun x hx => by
    unfold AV
    rcases Nat.lt_or_ge x 9223372036854775808 with h | h
    · exact .inr ⟨AH h, h, by rw [AH (show x<Hk .i64 from h), Ai]; rfl⟩
    · exact .inl ⟨Ab.2 h, h, by rw [Ab.2 (show Hk .i64≤x from h), Ac]; rfl⟩
  have e:DO .i64 a b=br (Nat.ble (Hk .i64) a) (br (Nat.ble (Hk .i64) b) (Nat.ble (Nat.succ a) b) true) (br (Nat.ble (Hk .i64) b) false (Nat.ble (Nat.succ a) b)) := id rfl
  rw [e]
  have h2 := h1 a ha; have h3 := h1 b hb
  clear h1 e
  generalize AV (Hk .i64) (Mk .i64) a=ka at *
  generalize AV (Hk .i64) (Mk .i64) b=kb at *
  rcases h2 with ⟨a1, a2, a3⟩ | ⟨a1, a2, a3⟩ <;> rcases h3 with ⟨b1, b2, b3⟩ | ⟨b1, b2, b3⟩ <;> rw [a1, b1] <;> simp only [Ac, Ai, CS, decide_eq_true_eq, decide_eq_false_iff_not, Bool.true_eq_false, Bool.false_eq_true, iff_false, iff_true, Nat.succ_eq_add_one, false_implies, and_true, true_implies] <;> omega
theorem Sd {a b:Nat} (ha:a<18446744073709551616) (hb:b<18446744073709551616) (κ:V->R):Mu (.int .i64 a) (.int .i64 b) κ=κ (.int .i64 (bif DO .i64 a b then b else a)) := by
  have on:∀ x, CP (Hk .i64) x x=true := fun x => by
    unfold CP
    rcases Nat.lt_or_ge x (Hk .i64) with h | h
    · rw [Ab.2 h, Ac]
    · rw [Ab.2 h]; cases Nat.ble (Nat.succ x) (Hk .i64) <;> rfl
  show br (AZ .i64 .i64) (br (CP (Hk .i64) a a) (br (CP (Hk .i64) b b) (W9 (AV (Hk .i64) (Mk .i64) a) (AV (Hk .i64) (Mk .i64) a) (AV (Hk .i64) (Mk .i64) b) (AV (Hk .i64) (Mk .i64) b) (κ (.int .i64 b)) (κ (.int .i64 a))) (.fail "")) (.fail "")) (.fail "")=_
  rw [AA.2 rfl, Ac, on, Ac, on, Ac]
  unfold W9
  obtain ⟨k1, k2⟩ := Sg ha hb
  cases hl:DO .i64 a b with
  | true => rw [Ab.2 (k1.2 hl), Ac]; rfl
  | false =>
    have:¬ (AV (Hk .i64) (Mk .i64) a+1≤AV (Hk .i64) (Mk .i64) b) := fun h => by rw [k1.1 h] at hl; cases hl
    rw [AH (by show _<_; omega), Ai, Ab.2 (k2 hl), Ac]; rfl
theorem XK {a b:Nat} (ha:a<18446744073709551616) (hb:b<18446744073709551616) (κ:V->R):Qc (.int .i64 a) (.int .i64 b) κ=κ (.int .i64 (bif DO .i64 b a then b else a)) := by
  have on:∀ x, CP (Hk .i64) x x=true := fun x => by
    unfold CP
    rcases Nat.lt_or_ge x (Hk .i64) with h | h
    · rw [Ab.2 h, Ac]
    · rw [Ab.2 h]; cases Nat.ble (Nat.succ x) (Hk .i64) <;> rfl
  show br (AZ .i64 .i64) (br (CP (Hk .i64) a a) (br (CP (Hk .i64) b b) (W9 (AV (Hk .i64) (Mk .i64) b) (AV (Hk .i64) (Mk .i64) b) (AV (Hk .i64) (Mk .i64) a) (AV (Hk .i64) (Mk .i64) a) (κ (.int .i64 b)) (κ (.int .i64 a))) (.fail "")) (.fail "")) (.fail "")=_
  rw [AA.2 rfl, Ac, on, Ac, on, Ac]
  unfold W9
  obtain ⟨k1, k2⟩ := Sg hb ha
  cases hl:DO .i64 b a with
  | true => rw [Ab.2 (k1.2 hl), Ac]; rfl
  | false =>
    have:¬ (AV (Hk .i64) (Mk .i64) b+1≤AV (Hk .i64) (Mk .i64) a) := fun h => by rw [k1.1 h] at hl; cases hl
    rw [AH (by show _<_; omega), Ai, Ab.2 (k2 hl), Ac]; rfl
theorem Wo {a b:Nat} (ha:a<9223372036854775808) (hb:b<9223372036854775808):DO .i64 a b=decide (a<b) := Om ha hb
theorem Uw {a b:Nat} (ha:9223372036854775808≤a) (hb:b<9223372036854775808):DO .i64 a b=true := by
  unfold DO; rw [Ab.2 (show Hk .i64≤a from ha), AH (show b<Hk .i64 from hb)]; rfl
theorem Vu {a b:Nat} (ha:a<9223372036854775808) (hb:9223372036854775808≤b):DO .i64 a b=false := by
  unfold DO; rw [Ab.2 (show Hk .i64≤b from hb), AH (show a<Hk .i64 from ha)]; rfl
theorem XU {a b:Nat} (ha:9223372036854775808≤a) (hb:9223372036854775808≤b):DO .i64 a b=decide (a<b) := by
  unfold DO; rw [Ab.2 (show Hk .i64≤a from ha), Ab.2 (show Hk .i64≤b from hb), Ac, Ac, CS]; exact decide_eq_decide.2 Nat.succ_le_iff
theorem ltu {k:IntKind} {a b:Nat} (hk:Hk k=Mk k) (ha:a<Mk k) (hb:b<Mk k):DO k a b=decide (a<b) := Om (by rw [hk]; exact ha) (by rw [hk]; exact hb)
theorem Q8 {a b:Nat} (ha:a<18446744073709551616) (hb:b<18446744073709551616):DO .u64 a b=decide (a<b) := ltu rfl ha hb
theorem KQ {a b:Nat} (h:b≤a) (ha:a<18446744073709551616):Io .i64 a b=a - b := by
  unfold Io
  show (a+(18446744073709551616 - b)) % 18446744073709551616=_
  omega
theorem Se:Io .i64 0 1=18446744073709551615 := by decide
theorem Sq:Io .i64 18446744073709551615 1=18446744073709551614 := by decide
end Go.Ev

namespace Go.Ev
set_option linter.unusedVariables false
/-- A text, bytes in memory, bytes of memory that stays. -/
def sb (l:List UInt8):V := .str l.length (Ar l)
def cb (l:List UInt8):Cs := .b l.length (Ar l)
def Lr (l:List UInt8):V := .oth (.rb l.length (Ar l))
theorem Er (l:List UInt8) (i m:Nat):lo (sh (Ar l) i) m=Ar ((l.drop i).take m) := by
  rw [Dx, Ed, IG, J5]
theorem Ud (l:List UInt8):lo (Ar l) l.length=Ar l := by
  rw [Dx, J5, List.take_length]
theorem Kw (a b:List UInt8):Ar a+up (Ar b) a.length=Ar (a++b) := by
  rw [RC, Hp]
theorem Ep {l:List UInt8} {i m:Nat} (h:i+m≤l.length):((l.drop i).take m).length=m := by
  rw [List.length_take, List.length_drop]; omega
theorem Gx {l:List UInt8} {i m:Nat} (h:i+m≤l.length) (κ:Cs->R):AW (cb l) i m κ=κ (cb ((l.drop i).take m)) := by
  show br (Nat.ble (Nat.add i m) l.length) (Aa (lo (sh (Ar l) i) m) fun r => κ (.b m r)) _=_
  rw [show Nat.ble (Nat.add i m) l.length=true from Ab.2 h, Ac, A7, Er]
  unfold cb; rw [Ep h]
theorem Ws (a b:List UInt8) (κ:Cs->R):OS (cb a) (cb b) κ=κ (cb (a++b)) := by
  show Aa (Nat.add a.length b.length) (fun l => Aa (Nat.add (lo (Ar a) a.length) (up (Ar b) a.length)) fun r => κ (.b l r))=_
  rw [A7, A7, Ud]
  show κ (.b (a.length+b.length) (Ar a+up (Ar b) a.length))=_
  rw [Kw]; unfold cb; rw [List.length_append]
theorem Wj {a b:List UInt8} {i:Nat} (h:i+b.length≤a.length) (κ:Cs->R):Mh (cb a) i (cb b) κ=κ (cb (a.take i++(b++a.drop (i+b.length)))) := by
  show br (Nat.ble (Nat.add i b.length) a.length) (Aa (Nat.add (lo (Ar a) i) (up (Nat.add (lo (Ar b) b.length) (up (sh (Ar a) (Nat.add i b.length)) b.length)) i)) fun r => κ (.b a.length r)) _=_
  rw [show Nat.ble (Nat.add i b.length) a.length=true from Ab.2 h, Ac, A7, Ud]
  have e1:sh (Ar a) (Nat.add i b.length)=Ar (a.drop (i+b.length)) := by rw [Ed, IG]; rfl
  have e2:Nat.add (Ar b) (up (sh (Ar a) (Nat.add i b.length)) b.length)=Ar (b++a.drop (i+b.length)) := by rw [e1]; exact Kw _ _
  have e3:lo (Ar a) i=Ar (a.take i) := by rw [Dx, J5]
  have e4:i=(a.take i).length := by rw [List.length_take]; omega
  rw [e2, e3]
  have e5:Nat.add (Ar (a.take i)) (up (Ar (b++a.drop (i+b.length))) i)=Ar (a.take i++(b++a.drop (i+b.length))) := by
    have := Kw (a.take i) (b++a.drop (i+b.length))
    rw [←e4] at this; exact this
  rw [e5]
  unfold cb
  have e6:(a.take i++(b++a.drop (i+b.length))).length=a.length := by simp only [List.length_append, List.length_take, List.length_drop]; omega
  rw [e6]
theorem V4 (l:List UInt8) (h:l.length<9223372036854775808) (κ:V->R):GY (sb l) κ=κ (.int .i64 l.length) := by
  show br (Nat.ble (Nat.succ l.length) 9223372036854775808) (κ (.int .i64 l.length)) _=_
  rw [Ab.2 h, Ac]
theorem VA {a b:List UInt8} (h:a.length+b.length≤1000000000) (κ:V->R):AM (sb a) (sb b) κ=κ (sb (a++b)) := by
  have e0:AM (sb a) (sb b) κ=Ki .add (sb a) (sb b) κ := Kx .add _ _ _
  rw [e0]
  show Aa (Nat.add a.length b.length) (fun l => br (Nat.ble l 1000000000) (Aa (Nat.add (Ar a) (up (Ar b) a.length)) fun r => κ (.str l r)) _)=_
  rw [A7, show Nat.ble (Nat.add a.length b.length) 1000000000=true from Ab.2 h, Ac, A7]
  show κ (.str (a.length+b.length) (Ar a+up (Ar b) a.length))=_
  rw [Kw]; unfold sb; rw [List.length_append]
theorem Yh {p:K4} {h:Heap} {l:List UInt8} {s:Bool} {pr:Option K4} {off len cap:Nat} {ex:Bool} (hp:A9 p h=some (.c (cb l) s pr)) (hl:off+len≤l.length) (κ:V->R):GW (.sl p off len cap ex 1) h κ=κ (sb ((l.drop off).take len)) := by
  show br (Nat.beq 1 1) (JV p h fun cs _ _ => AW cs off len fun y => @Cs.rec (fun _ => R) (fun l => Cu l (fun m c => κ (.str m c)) (.fail "")) (fun m c => κ (.str m c)) y) (.fail "")=_
  rw [Nat.beq_refl, Ac, Dj, ET hp, Gx hl]; rfl
theorem Ac6 (l:List UInt8) (h:Heap) (κ:Nat->Cs->R):H8 1 (sb l) h κ=κ l.length (cb l) := id rfl
theorem Zl {p:K4} {h:Heap} {l:List UInt8} {s:Bool} {pr:Option K4} {off len cap:Nat} {ex:Bool} (hp:A9 p h=some (.c (cb l) s pr)) (hl:off+len≤l.length) (κ:Nat->Cs->R):H8 1 (.sl p off len cap ex 1) h κ=κ len (cb ((l.drop off).take len)) := by
  show br (Nat.beq 1 1) (Hs p h fun cs _ _ => Aa (Nat.mul len 1) fun m => AW cs off m fun y => κ len y) (.fail "")=_
  rw [Nat.beq_refl, Ac, ET hp, A7, show Nat.mul len 1=len from Nat.mul_one len, Gx hl]
theorem Od {m:Nat} (hm:0<m) (hm2:m≤1000000000000) {n:K4} (hn:n.toN<65535) (y:Cs) (h:Heap) (κ:KV):BR 1 1 (.nil .sl) m y h n κ=κ (.sl n 0 m m false 1) (Ae n h (some (.c y false none))) n.up := by
  show br (Nat.beq m 0) (κ (.nil .sl) h n) (br (Nat.ble (Nat.mul (Nat.add (Nat.mul 4 m) 4096) 1) 281474976710656) (DZ h n (.c y false none) fun h' n' => κ (.sl n 0 m m false 1) h' n') (.fail ""))=_
  rw [Cb, decide_eq_false (by omega), Ai, show Nat.ble (Nat.mul (Nat.add (Nat.mul 4 m) 4096) 1) 281474976710656=true from Ab.2 (by show (4*m+4096)*1≤_; omega), Ac, Du hn]
theorem Lj {x:V} (hx:x = .nil .sl ∨ ∃ p off len cap ex, x = .sl p off len cap ex 1) (y:Cs) (h:Heap) (n:K4) (κ:KV):BR 1 1 x 0 y h n κ=κ x h n := by
  rcases hx with rfl | ⟨p, off, len, cap, ex, rfl⟩ <;> rfl
/-- Bytes of one's own, full: they grow, and lie anew. -/
theorem Fu {p:K4} {h:Heap} {a b:List UInt8} {pr:Option K4} (hp:A9 p h=some (.c (cb a) false pr)) {ex:Bool} (hb:0<b.length) (hm2:a.length+b.length≤1000000000000) {n:K4} (hn:n.toN<65535) (κ:KV) :
    BR 1 1 (.sl p 0 a.length a.length ex 1) b.length (cb b) h n κ=if ex then κ (.sl n 0 (a++b).length (a++b).length false 1) (Ae n h (some (.c (cb (a++b)) false none))) n.up
      else κ (.sl n 0 (a++b).length (a++b).length false 1) (Ae n (Ae p (Ee pr h) (some (.c (cb a) true none))) (some (.c (cb (a++b)) false (some p)))) n.up := by
  show br (Nat.beq 1 1) (br (Nat.beq b.length 0) (κ (.sl p 0 a.length a.length ex 1) h n) (Aa (Nat.add a.length b.length) fun need => br (Nat.ble need a.length) (Aa (Nat.add 0 (Nat.mul a.length 1)) fun j => E5 h p j (cb b) fun h' => κ (.sl p 0 need a.length ex 1) h' n)
    (br (Nat.ble (Nat.mul (Nat.add (Nat.mul 4 need) 4096) 1) 281474976710656)
      (JV p h fun cs sup prev => Aa (Nat.mul a.length 1) fun l => AW cs 0 l fun x => OS x (cb b) fun z =>
        br ex (DZ h n (.c z false none) fun h' n' => κ (.sl n 0 need need false 1) h' n')
          (br sup (.fail "") (Aa (Nat.add 0 l) fun j => AW cs 0 j fun old => Ia prev h fun h => EV p h (some (.c old true none)) fun h =>
            DZ h n (.c z false (some p)) fun h' n' => κ (.sl n 0 need need false 1) h' n'))) (.fail "")))) (.fail "")=_
  have e1:∀ l:List UInt8, (l.drop 0).take l.length=l := fun l => by rw [List.drop_zero, List.take_length]
  have e3:Nat.ble (Nat.mul (Nat.add (Nat.mul 4 (Nat.add a.length b.length)) 4096) 1) 281474976710656=true := Ab.2 (by show (4*(a.length+b.length)+4096)*1≤_; omega)
  have e4:Nat.ble (Nat.add a.length b.length) a.length=false := AH (by show a.length<a.length+b.length; omega)
  rw [Nat.beq_refl, Ac, Cb, decide_eq_false (by omega), Ai, A7, e4, Ai, e3, Ac, Dj, ET hp, A7, show Nat.mul a.length 1=a.length from Nat.mul_one _, Gx (by omega), e1, Ws]
  have e2:Nat.add a.length b.length=(a++b).length := by rw [List.length_append]; rfl
  rw [e2]
  cases ex with
  | true => rw [Ac, Du hn]; rfl
  | false =>
    rw [Ai, Ai, A7, show Nat.add 0 a.length=a.length from Nat.zero_add _, Gx (by omega), e1, EM, AT, Du hn]; rfl
end Go.Ev

namespace Go.Ev
set_option linter.unusedVariables false
theorem Xq (c:Fz) (en:List V->(S->R)->R) (bo:Fz->S->Heap->K4->R) (re:S->Heap->K4->R) (args:List V) (h:Heap) (n:K4):Kf c (some (.code en bo re)) args h n=en args fun t => LB (bo c t h n) re := id rfl
theorem Aa7 (v:V) (l:List V) (k:V->List V->R):K0 (v::l) k=k v l := id rfl
theorem Abd (k:R):RP [] k=k := id rfl
theorem Uj (t:S) (h:Heap) (n:K4) (res:S->Heap->K4->R):LB (.ok .ret t h n) res=res t h n := id rfl
theorem V6 (t:S) (h:Heap) (n:K4) (res:S->Heap->K4->R):LB (.ok .nrm t h n) res=res t h n := id rfl
theorem Ug (b:Bool) (x y:R) (res:S->Heap->K4->R):LB (bif b then x else y) res=bif b then LB x res else LB y res := by cases b <;> rfl
theorem ZX (t:S) (h:Heap) (n:K4):rT t h n = .ok .ret t h n := id rfl
theorem Ab2 (t:S) (h:Heap) (n:K4):nR t h n = .ok .nrm t h n := id rfl
theorem Ab5 (r:Nat):iI r = .int .i64 r := id rfl
theorem Aa0 (v:V) (κ:V->R):AE (AD v) κ=κ v := id rfl
end Go.Ev

namespace Go.Ev
set_option linter.unusedVariables false
def Wk (o:Ch) (κ:List (V×V)->List Nat->Nat->R):R :=
  @Option.rec Ob (fun _ => R) (.fail "") (fun o => @Ob.rec (fun _ => R) (C4 "") κ (Fh "") (.fail "") (Ax "") o) o
theorem Uy (es:List (V×V)) (bs:List Nat) (c:Nat) (κ:List (V×V)->List Nat->Nat->R):Wk (some (.m es bs c)) κ=κ es bs c := id rfl
theorem JP (p:K4) (h:Heap) (κ:List (V×V)->List Nat->Nat->R):MK p h κ=Wk (A9 p h) κ := by unfold MK; rw [Cg]; rfl
theorem Aaa (p:K4) (a c:Nat) (w:V) (h:Heap) (κ:Heap->R):PN (.sc .s) (.map p) (.str a c) w h κ=Wk (A9 p h) fun es bs k => EP (.sc .s) (.str a c) w es fun es' => TL es' bs k fun bs' k' => κ (Ae p h (some (.m es' bs' k'))) := by
  show Qb p h (fun es bs c' k => EP (.sc .s) (.str a c) w es fun es => TL es bs c' fun bs c => k es bs c) κ=_
  rw [J7, JP]
  simp only [AT]
theorem Ab0 (z:V) (p:K4) (a c:Nat) (h:Heap) (κ:V->R):KN (.sc .s) z false (.map p) (.str a c) h κ=Wk (A9 p h) fun es _ _ => F0 (.sc .s) (.str a c) es κ (κ z) := by
  show Rv p h (fun es _ _ => F0 (.sc .s) (.str a c) es (fun r => κ r) (κ z))=_
  rw [Ft, JP]
theorem XP (p:K4) (a c:Nat) (h:Heap) (κ:Heap->R):Pz (.sc .s) (.map p) (.str a c) h κ=Wk (A9 p h) fun es bs k => HW (.sc .s) (.str a c) es fun es2 => HV (.sc .s) (.str a c) es bs fun bs' => κ (Ae p h (some (.m es2 bs' k))) := by
  show Qb p h (fun es bs c' k => HW (.sc .s) (.str a c) es fun es2 => HV (.sc .s) (.str a c) es bs fun bs => k es2 bs c') κ=_
  rw [J7, JP]
  simp only [AT]
theorem Z3 (es:List (V×V)) (κ:Nat->R):UP es κ=κ es.length := by
  induction es generalizing κ with
  | nil => rfl
  | cons e es ih => exact (ih fun n => Aa (Nat.succ n) κ).trans (A7 _ _)
theorem Co {m:Nat} (h:m<9223372036854775808) (κ:V->R):DM m κ=κ (.int .i64 m) := by
  show br (Nat.ble (Nat.succ m) 9223372036854775808) (κ (.int .i64 m)) (.fail "")=_
  rw [show Nat.ble (Nat.succ m) 9223372036854775808=true from Ab.2 h, Ac]
theorem XX (p:K4) (h:Heap) (κ:V->R):Ss (.map p) h κ=Wk (A9 p h) fun es _ _ => DM es.length κ := by
  show Rv p h (fun es _ _ => UP es fun m => DM m κ)=_
  rw [Ft, JP]
  simp only [Z3]
theorem NI (k:V) (κf:V->R) (κn:R):F0 (.sc .s) k [] κf κn=κn := id rfl
theorem MH (a c m d:Nat) (w:V) (es:List (V×V)) (κf:V->R) (κn:R):F0 (.sc .s) (.str a c) ((.str m d, w)::es) κf κn=bif Db a c m d then κf w else F0 (.sc .s) (.str a c) es κf κn := by
  show BW (Db a c m d) (fun r => br r (κf w) (F0 (.sc .s) (.str a c) es κf κn))=_
  rw [B3]; cases Db a c m d <;> rfl
theorem OQ (k v:V) (κ:List (V×V)->R):EP (.sc .s) k v [] κ=κ [(k, v)] := id rfl
theorem OI (a c m d:Nat) (v w:V) (es:List (V×V)) (κ:List (V×V)->R):EP (.sc .s) (.str a c) v ((.str m d, w)::es) κ=bif Db a c m d then κ ((.str a c, v)::es) else EP (.sc .s) (.str a c) v es fun l => κ ((.str m d, w)::l) := by
  show BW (Db a c m d) (fun r => br r (κ ((.str a c, v)::es)) (EP (.sc .s) (.str a c) v es fun l => κ ((.str m d, w)::l)))=_
  rw [B3]; cases Db a c m d <;> rfl
theorem OJ (k:V) (κ:List (V×V)->R):HW (.sc .s) k [] κ=κ [] := id rfl
theorem OK (a c m d:Nat) (w:V) (es:List (V×V)) (κ:List (V×V)->R):HW (.sc .s) (.str a c) ((.str m d, w)::es) κ=bif Db a c m d then κ es else HW (.sc .s) (.str a c) es fun l => κ ((.str m d, w)::l) := by
  show BW (Db a c m d) (fun r => br r (κ es) (HW (.sc .s) (.str a c) es fun l => κ ((.str m d, w)::l)))=_
  rw [B3]; cases Db a c m d <;> rfl
theorem Pr (k:V) (bs:List Nat) (κ:List Nat->R):HV (.sc .s) k [] bs κ=κ bs := id rfl
theorem PK (a c m d b:Nat) (w:V) (es:List (V×V)) (bs:List Nat) (κ:List Nat->R):HV (.sc .s) (.str a c) ((.str m d, w)::es) (b::bs) κ=bif Db a c m d then κ bs else HV (.sc .s) (.str a c) es bs fun l => κ (b::l) := by
  show BW (Db a c m d) (fun r => br r (κ bs) (HV (.sc .s) (.str a c) es bs fun l => κ (b::l)))=_
  rw [B3]; cases Db a c m d <;> rfl
theorem PZ (a c m d:Nat):Db a c m d=(decide (a=m)&&decide (c=d)) := by unfold Db; rw [Cb, Cb]
theorem Pb:∀ (es:List (V×V)) (bs:List Nat), GK es bs=decide (es.length=bs.length)
  | [], [] => rfl
  | [], _::_ => rfl
  | _::_, [] => rfl
  | e::es, b::bs => by
    have := Pb es bs
    show GK es bs=_
    rw [this]; simp
theorem WU (bs:List Nat) (c:Nat) (κ:List Nat->R):RU bs c κ=κ (bs++[c]) := by
  induction bs generalizing κ with
  | nil => rfl
  | cons b bs ih => exact ih fun l => κ (b::l)
theorem Xx (es:List (V×V)) (bs:List Nat) (c:Nat) (κ:List Nat->Nat->R):TL es bs c κ=bif decide (es.length=bs.length) then κ bs c else κ (bs++[c]) (c+1) := by
  unfold TL
  rw [Pb]
  cases decide (es.length=bs.length) with
  | true => rfl
  | false =>
    rw [Ai, WU, A7]; rfl
theorem TN (x v:V) (xs:List V) (κ:List V->R):C1 0 (x::xs) v κ=κ (v::xs) := id rfl
theorem TU (m:Nat) (x v:V) (xs:List V) (κ:List V->R):C1 (m+1) (x::xs) v κ=C1 m xs v fun zs => κ (x::zs) := id rfl
theorem TX (o:Nat) (k:IntKind) (r:Nat) (z:List V) (κ:List V->R):AF o (.int k r) z κ=C1 o z (.int k r) κ := id rfl
theorem RM (o:Nat) (b:Bool) (z:List V) (κ:List V->R):AF o (.bool b) z κ=C1 o z (.bool b) κ := id rfl
theorem W3 (o:Nat) (p:K4) (r:Nat) (z:List V) (κ:List V->R):AF o (.ptr p r) z κ=C1 o z (.ptr p r) κ := id rfl
theorem V8 (o:Nat) (p:K4) (z:List V) (κ:List V->R):AF o (.map p) z κ=C1 o z (.map p) κ := id rfl
theorem V0 (o:Nat) (a c:Nat) (z:List V) (κ:List V->R):AF o (.str a c) z κ=C1 o z (.str a c) κ := id rfl
theorem TQ (o:Nat) (w:Nl) (z:List V) (κ:List V->R):AF o (.nil w) z κ=C1 o z (.nil w) κ := id rfl
theorem Xu (o:Nat) (q:K4) (a b c:Nat) (e:Bool) (x:Nat) (z:List V) (κ:List V->R):AF o (.sl q a b c e x) z κ=C1 o z (.sl q a b c e x) κ := id rfl
def Jy (o:Ch) (m off:Nat) (κ:V->R):R := @Option.rec Ob (fun _ => R) (.fail "") (fun o => @Ob.rec (fun _ => R) (fun cs _ _ => AW cs off m fun y => Ea y fun l => κ (.agg l)) (C4 "") (Fh "") (.fail "") (Ax "") o) o
theorem W8 (m:Nat) (p:K4) (off:Nat) (h:Heap) (κ:V->R):CK m (.ptr p off) h κ=Jy (A9 p h) m off κ := by
  show JV p h (fun cs _ _ => AW cs off m fun y => Ea y fun l => κ (.agg l))=_
  rw [Dj]; unfold Hs Jy; rw [Cg]
theorem YZ {xs:List V} {m off:Nat} (h:off+m≤xs.length) (s:Bool) (pr:Option K4) (κ:V->R):Jy (some (.c (.l xs) s pr)) m off κ=κ (.agg ((xs.drop off).take m)) := by
  show DA off xs (fun ys => D7 m ys fun zs => κ (.agg zs))=_
  rw [J9 (by omega), IW (by rw [List.length_drop]; omega)]
theorem K4.nx16_all (p:K4) (h:p.toN<65520):∃ q:K4, q.toN=(p.toN / 16+1)*16∧q.d = .d0 ∧ ∀ k:K4->R, p.nx16 k=k q := by
  obtain ⟨a, b, c, d⟩ := p
  simp only [K4.toN] at h
  have hd0:D.d0.toN=0 := rfl
  have ha := a.toN_lt; have hb := b.toN_lt; have hc := c.toN_lt; have hd := d.toN_lt
  rcases c.nx_all with ⟨c1, c2⟩ | ⟨e, c1, c2⟩
  · rcases b.nx_all with ⟨b1, b2⟩ | ⟨e, b1, b2⟩
    · rcases a.nx_all with ⟨a1, a2⟩ | ⟨e, a1, a2⟩
      · omega
      · exact ⟨⟨e, .d0, .d0, .d0⟩, by simp only [K4.toN, hd0]; omega, rfl, fun k => by show c.nx _ (b.nx _ (a.nx _ _))=_; rw [c2, b2, a2]⟩
    · exact ⟨⟨a, e, .d0, .d0⟩, by simp only [K4.toN, hd0]; omega, rfl, fun k => by show c.nx _ (b.nx _ _)=_; rw [c2, b2]⟩
  · exact ⟨⟨a, b, e, .d0⟩, by simp only [K4.toN, hd0]; omega, rfl, fun k => by show c.nx _ _=_; rw [c2]⟩
open Classical in
def K4.up16 (p:K4):K4 := if h:p.toN<65520 then Classical.choose (p.nx16_all h) else p
theorem K4.up16_toN {p:K4} (h:p.toN<65520):p.up16.toN=(p.toN / 16+1)*16 := by
  unfold K4.up16; rw [dif_pos h]; exact (Classical.choose_spec (p.nx16_all h)).1
theorem K4.nx16_up {p:K4} (h:p.toN<65520) (k:K4->R):p.nx16 k=k p.up16 := by
  unfold K4.up16; rw [dif_pos h]; exact (Classical.choose_spec (p.nx16_all h)).2.2 k
def K4.pl (p:K4) (j:D):K4 := ⟨p.a, p.b, p.c, j⟩
theorem K4.pl_toN {p:K4} (h:p.toN<65520) (j:D):(p.up16.pl j).toN=(p.toN / 16+1)*16+j.toN := by
  have h1 := K4.up16_toN h
  have h2:p.up16.d = .d0 := by unfold K4.up16; rw [dif_pos h]; exact (Classical.choose_spec (p.nx16_all h)).2.1
  rw [←h1]
  unfold K4.pl
  simp only [K4.toN, h2]
  show _=_+(D.d0.toN)+_
  rw [show D.d0.toN=0 from rfl, Nat.add_zero]
theorem W5 {n:K4} (h:n.toN<65000) (κ:K4->K4->R):Mo n κ=κ n.up16 n.up16.up16 := by
  show n.nx16 (fun b => b.nx16 fun n => κ b n)=_
  have := K4.up16_toN (p := n) (by omega)
  rw [K4.nx16_up (by omega), K4.nx16_up (by omega)]
/-- What is asked of a place that is to be free. -/
def frO (o:Ch) (κ:R):R := Gk o κ
theorem P6 (κ:R):frO none κ=κ := id rfl
theorem Ze (b:K4) (j:D) (h:Heap) (κ:R):U1 b j h κ=frO (A9 (b.pl j) h) κ := by
  show b.at j (fun r => Be r h fun x => Gk x κ)=_
  rw [K4.at_eq, Bi]; rfl
theorem ZO (b:K4) (j:D) (h:Heap) (F:K4->R) (κ:V->Heap->R):alX b j h F κ=frO (A9 (b.pl j) h) (DY (F (b.pl j)) fun v h _ => κ v h) := by
  show b.at j (fun r => Be r h fun x => Gk x (DY (F r) fun v h _ => κ v h))=_
  rw [K4.at_eq, Bi]; rfl
theorem As {p q:K4} (h:q.toN<p.toN) (hp:Heap) (o:Option Ob):A9 q (Ae p hp o)=A9 q hp := A8 _ _ fun e => by subst e; omega
theorem AG {p q:K4} (h:p.toN<q.toN) (hp:Heap) (o:Option Ob):A9 q (Ae p hp o)=A9 q hp := A8 _ _ fun e => by subst e; omega
theorem Rp (v:V) (h:Heap) (n:K4) (κ:KV):Dr (.rv v h n) κ=κ v h n := id rfl
theorem Xg (p:K4) {h:Heap} {n:K4} (hn:n.toN<65535) (κ:KV):UW (.map p) h n κ=Wk (A9 p h) fun _ _ c => κ (.ptr n 0) (Ae n h (some (.it p c [] c))) n.up := by
  show Rv p h (fun _ _ c => DZ h n (.it p c [] c) fun h' n' => κ (.ptr n 0) h' n')=_
  rw [Ft, JP]
  simp only [Du hn]
def itO (o:Ch) (κ0:R) (κ:K4->Nat->List Nat->Nat->R):R := @Option.rec Ob (fun _ => R) (.fail "") (fun o => @Ob.rec (fun _ => R) (C4 "") (C4 "") κ κ0 (Ax "") o) o
theorem VH (p:K4) (a:Nat) (l:List Nat) (c:Nat) (κ0:R) (κ:K4->Nat->List Nat->Nat->R):itO (some (.it p a l c)) κ0 κ=κ p a l c := id rfl
theorem XO (q:K4) (h:Heap) (κ0:R) (κ:K4->Nat->List Nat->Nat->R):WX q h κ0 κ=itO (A9 q h) κ0 κ := Bi _ _ _
theorem XY (q:K4) (h:Heap) (n:K4) (κ:KV):VK (.ptr q 0) h n κ=itO (A9 q h) (κ (.tup [.bool false]) h n) fun p since seen c => Wk (A9 p h) fun es bs clk => br (If since bs) (br (Nat.ble since c)
    (GE seen (Q7 q p since seen clk h n κ) es bs (κ (.tup [.bool false]) h n)) (.fail "")) (.fail "") := by
  show br (Nat.beq 0 0) (WX q h (κ (.tup [.bool false]) h n) fun p since seen c => Rv p h fun es bs clk => br (If since bs) (br (Nat.ble since c) (GE seen (Q7 q p since seen clk h n κ) es bs (κ (.tup [.bool false]) h n)) (.fail "")) (.fail "")) (.fail "")=_
  rw [Nat.beq_refl, Ac, XO, Ft]
  simp only [JP]
theorem LH (seen:List Nat) (leaf:V×V->Nat->R) (bs:List Nat) (none:R):GE seen leaf [] bs none=none := id rfl
theorem Kd (seen:List Nat) (leaf:V×V->Nat->R) (e:V×V) (es:List (V×V)) (b:Nat) (bs:List Nat) (none:R):GE seen leaf (e::es) (b::bs) none=br (Gl b seen) (GE seen leaf es bs none) (Ga seen leaf es bs (leaf e b)) := id rfl
theorem KY (seen:List Nat) (leaf:V×V->Nat->R) (bs:List Nat) (acc:R):Ga seen leaf [] bs acc=acc := id rfl
theorem P9 (b:Nat):Gl b []=false := id rfl
theorem MY (b x:Nat) (l:List Nat):Gl b (x::l)=(decide (x=b) || Gl b l) := by
  show br (Nat.beq x b) true (Gl b l)=_
  rw [Cb]; cases decide (x=b) <;> rfl
theorem Mt (s:Nat):If s []=true := id rfl
theorem LA (s b:Nat) (bs:List Nat):If s (b::bs)=(decide (b<s)&&If s bs) := by
  show br (Nat.ble (Nat.succ b) s) (If s bs) false=_
  rw [CS]
  cases h:decide (Nat.succ b≤s) with
  | true => rw [decide_eq_true (show b<s from of_decide_eq_true h)]; rfl
  | false => rw [decide_eq_false (show ¬ b<s from of_decide_eq_false h)]; rfl
theorem Rw (q p:K4) (since:Nat) (seen:List Nat) (clk:Nat) (h:Heap) (n:K4) (κ:KV) (k x:V) (b:Nat):Q7 q p since seen clk h n κ (k, x) b=κ (.tup [.bool true, k, x]) (Ae q h (some (.it p since (b::seen) clk))) n := by
  show BN q h (some (.it p since (b::seen) clk)) (fun h' => κ (.tup [.bool true, k, x]) h' n)=_
  rw [BP, AT]
theorem Wf (b:Bool) (x y:R):br b x y=bif b then x else y := by cases b <;> rfl
theorem VT (q:K4) (h:Heap) (n:K4) (κ:KV):Pn (.ptr q 0) h n κ=itO (A9 q h) (.fail "") fun p since seen c => Wk (A9 p h) fun es bs clk => bif decide (clk=c) then (@List.rec Nat (fun _ => R) (.fail "") (fun s _ _ => Gr s es bs fun k x => κ (.tup [k, x]) h n) seen) else .fail "" := by
  show br (Nat.beq 0 0) (WX q h (.fail "") fun p since seen c => Rv p h fun es bs clk => br (Nat.beq clk c) (@List.rec Nat (fun _ => R) (.fail "") (fun s _ _ => Gr s es bs fun k x => κ (.tup [k, x]) h n) seen) (.fail "")) (.fail "")=_
  rw [Nat.beq_refl, Ac, XO, Ft]
  simp only [JP, Cb, Wf]
theorem L6 (s:Nat) (k x:V) (es:List (V×V)) (b:Nat) (bs:List Nat) (κ:V->V->R):Gr s ((k, x)::es) (b::bs) κ=bif decide (b=s) then κ k x else Gr s es bs κ := by
  show br (Nat.beq b s) (κ k x) (Gr s es bs κ)=_
  rw [Cb, Wf]
theorem Ua (x:V) (l:List V) (κ:V->R):B6 0 (.tup (x::l)) κ=κ x := id rfl
theorem VJ (x y:V) (l:List V) (κ:V->R):B6 1 (.tup (x::y::l)) κ=κ y := id rfl
theorem VD (x y z:V) (l:List V) (κ:V->R):B6 2 (.tup (x::y::z::l)) κ=κ z := id rfl
theorem Afw (c:Fz) (f:Nat) (its:List Nat) (rd:Rd) (s:V) (h:Heap) (n:K4) (hits:∀ g κ, g∈its->Ib g its κ=κ) (g:Nat) (caps:List V) (hs:s = .fn g caps) (hg:g∈its) (hn:n.toN<65000) :
    Kf c (some (.ap f its rd)) [.nil .sl, s] h n=Dr (c (Bk g) (.oth (.yl n.up)::caps) (Ae n.up (Ae n h (some (.c (.l [.nil .sl]) false none))) (some (.lp f n))) n.up.up) fun _ h m => Be n.up h fun o => WY o (JV n h fun cs _ _ => F8 cs 0 fun sv => BN n h none fun h => BN n.up h none fun h => .rv sv h m) := by
  subst hs
  have h1 := K4.up_toN (p := n) (by omega)
  show Ib g its (BN n h (some (.c (.l [.nil .sl]) false none)) fun h => n.nx fun n1 => BN n1 h (some (.lp f n)) fun h => n1.nx fun n2 =>
      Dr (c (Bk g) (.oth (.yl n1)::caps) h n2) fun _ h m =>
        Be n1 h fun o => WY o (JV n h fun cs _ _ => F8 cs 0 fun sv => BN n h none fun h => BN n1 h none fun h => .rv sv h m))=_
  rw [hits g _ hg, BP, AT, K4.nx_up (by omega), BP, AT, K4.nx_up (by omega)]
def lpO (o:Ch) (κ:Nat->K4->R):R := @Option.rec Ob (fun _ => R) (.fail "") (fun o => @Ob.rec (fun _ => R) (C4 "") (C4 "") (Fh "") (.fail "") (fun f box => κ f box) o) o
theorem W6 (f:Nat) (b:K4) (κ:Nat->K4->R):lpO (some (.lp f b)) κ=κ f b := id rfl
theorem Y3 (c:Fz) (p:K4) (x:V) (h:Heap) (n:K4) (κ:KV):VF c (.oth (.yl p)) [x] h n κ=lpO (A9 p h) fun f box => Dr (c (Bk f) [.oth .no, .ptr box 0, x] (Ae p h none) n) fun v h n => κ v (Ae p h (some (.lp f box))) n := by
  show Be p h (fun o => @Option.rec Ob (fun _ => R) (.fail "") (fun o => @Ob.rec (fun _ => R) (C4 "") (C4 "") (Fh "") (.fail "")
    (fun f box => BN p h none fun h => Dr (c (Bk f) [.oth .no, .ptr box 0, x] h n) fun v h n => BN p h (some (.lp f box)) fun h => κ v h n) o) o)=_
  rw [Bi]
  unfold lpO
  simp only [BP, AT]
theorem Yk (c:Fz) (f:Nat) (its:List Nat) (rd:Rd) (b x:V) (h:Heap) (n:K4):Kf c (some (.ap f its rd)) [.oth .no, b, x] h n=rd c b x h n := id rfl
def Tl (o:Ch) (off m:Nat) (κ:Cs->R):R := @Option.rec Ob (fun _ => R) (.fail "") (fun o => @Ob.rec (fun _ => R) (fun cs _ _ => AW cs off m κ) (C4 "") (Fh "") (.fail "") (Ax "") o) o
theorem Xy (z eb:Nat) (u:V) (p:K4) (off len cap:Nat) (ex:Bool) (h:Heap) (n:K4) (κ:KV):C3 z eb u (.sl p off len cap ex z) h n κ=Tl (A9 p h) off (len*z) fun y => BR z eb u len y h n κ := by
  show br (Nat.beq z z) (Hs p h fun cs _ _ => Aa (Nat.mul len z) fun m => AW cs off m fun y => BR z eb u len y h n κ) (.fail "")=_
  rw [Nat.beq_refl, Ac]
  unfold Hs Tl
  rw [Cg]
  simp only [A7]; rfl
theorem Ou {z eb m:Nat} (hm:0<m) (hs:(4*m+4096)*eb≤281474976710656) {n:K4} (hn:n.toN<65535) (y:Cs) (h:Heap) (κ:KV):BR z eb (.nil .sl) m y h n κ=κ (.sl n 0 m m false z) (Ae n h (some (.c y false none))) n.up := by
  show br (Nat.beq m 0) (κ (.nil .sl) h n) (br (Nat.ble (Nat.mul (Nat.add (Nat.mul 4 m) 4096) eb) 281474976710656) (DZ h n (.c y false none) fun h' n' => κ (.sl n 0 m m false z) h' n') (.fail ""))=_
  rw [Cb, decide_eq_false (by omega), Ai, show Nat.ble (Nat.mul (Nat.add (Nat.mul 4 m) 4096) eb) 281474976710656=true from Ab.2 hs, Ac, Du hn]
theorem Xf (z:Nat) {p:K4} {off len cap:Nat} {ex:Bool} {k:IntKind} {a:Nat} (ha:a<Hk k) (hl:a<len) (κ:V->R):AY z (.sl p off len cap ex z) (.int k a) κ=κ (.ptr p (off+a*z)) := by
  show br (Nat.ble (Nat.succ a) (Hk k)) (br (Nat.beq z z) (br (Nat.ble (Nat.succ a) len) (Aa (Nat.add off (Nat.mul a z)) fun o => κ (.ptr p o)) (.fail "")) (.fail "")) (.fail "")=_
  rw [show Nat.ble (Nat.succ a) (Hk k)=true from Ab.2 ha, Ac, Nat.beq_refl, Ac, show Nat.ble (Nat.succ a) len=true from Ab.2 hl, Ac, A7]; rfl
theorem XE {z:Nat} {p:K4} {off len cap:Nat} {ex:Bool} {a:Nat} (ha:a<9223372036854775808) (hl:a<len) (κ:V->R):AY z (.sl p off len cap ex z) (.int .i64 a) κ=κ (.ptr p (off+a*z)) := Xf z (k := .i64) ha hl κ
theorem R1 {n:K4} (hn:n.toN<65535) (p:K4) (h:Heap) (κ:KV):Fl (.map p) h n κ=κ (.ptr n 0) (Ae n h (some (.c (.l [.map p]) false none))) n.up := Du hn _ _ _
theorem ZT:Hk .i64=9223372036854775808 := rfl
theorem XC {p:K4} {off len cap:Nat} {ex:Bool} {z:Nat} (h:len<9223372036854775808) (κ:V->R):AJ (.sl p off len cap ex z) κ=κ (.int .i64 len) := Co h κ
theorem Vj (κ:V->R):AJ (.nil .sl) κ=κ (.int .i64 0) := id rfl
theorem Ut {n c:Nat} (h:n<9223372036854775808) (κ:V->R):AJ (.oth (.rb n c)) κ=κ (.int .i64 n) := Co h κ
theorem Ok {l:List RV} {m z:Nat} (h:m<9223372036854775808) (κ:V->R):AJ (.oth (.rx l m z)) κ=κ (.int .i64 m) := Co h κ
/-- Nothing stands where nothing was M0. -/
def Ay (h:Heap) (n:K4):Prop := ∀ q:K4, n.toN≤q.toN->A9 q h=none
theorem UH (a b c:V) (s:Bool) (pr:Option K4) (κ:V->R):Jy (some (.c (.l [a, b, c]) s pr)) 3 0 κ=κ (.agg [a, b, c]) := id rfl
theorem V1 (a b c:V) (s:Bool) (pr:Option K4) (κ:Cs->R):Tl (some (.c (.l [a, b, c]) s pr)) 0 3 κ=κ (.l [a, b, c]) := id rfl
theorem Ra (a:V) (s:Bool) (pr:Option K4) (κ:Cs->R):Tl (some (.c (.l [a]) s pr)) 0 1 κ=κ (.l [a]) := id rfl
theorem RQ (a b c x y z:V) (κ:List V->R):Dg 0 3 (.agg [a, b, c]) [x, y, z] κ=κ [a, b, c] := id rfl
theorem Lh (body:S->Heap->K4->R) (t:S) (h:Heap) (n:K4):C0 body t h n=L7 (body t h n) fun t h n => L7 (body t h n) (DH body 999999998) := id rfl
theorem CH (body:S->Heap->K4->R) (t:S) (h:Heap) (n:K4):C0 body t h n=L7 (body t h n) (DH body 999999999) := id rfl
theorem Dh (body:S->Heap->K4->R) (m:Nat) (t:S) (h:Heap) (n:K4):DH body (m+1) t h n=L7 (body t h n) (DH body m) := id rfl
theorem Gq (t:S) (h:Heap) (n:K4) (κ:S->Heap->K4->R):L7 (.ok .nrm t h n) κ=κ t h n := id rfl
theorem Y4 (i:Nat) (t:S) (h:Heap) (n:K4) (κ:S->Heap->K4->R):L7 (.ok (.exit i) t h n) κ = .ok (.exit i) t h n := id rfl
theorem Uz (t:S) (h:Heap) (n:K4) (κ:S->Heap->K4->R):L7 (.ok .ret t h n) κ = .ok .ret t h n := id rfl
theorem XF (b:Bool) (x y:R) (κ:S->Heap->K4->R):L7 (bif b then x else y) κ=bif b then L7 x κ else L7 y κ := by cases b <;> rfl
theorem Rz (p:K4) (h:Heap) (i:Nat) (κ:V->R):JV p h (fun cs _ _ => F8 cs i κ)=S2 (A9 p h) i κ := Ym p i h κ
theorem Pc (p:K4) (h:Heap) (κ:R):Be p h (fun o => WY o κ)=WY (A9 p h) κ := Bi _ _ _
theorem VI (f:Nat) (b:K4) (κ:R):WY (some (.lp f b)) κ=κ := id rfl
theorem Rx (p:K4) (h:Heap) (o:Ch) (κ:Heap->R):BN p h o κ=κ (Ae p h o) := by rw [BP, AT]
/-- All that a text is told by. -/
theorem qa:type_of% (And.intro (And.intro (And.intro (And.intro (And.intro (And.intro (And.intro @Xq @Aa7) (And.intro @Abd (And.intro @Uj @V6))) (And.intro (And.intro @Ug (And.intro @ZX @Ab2)) (And.intro @Ab5 (And.intro @Aa0 @S3)))) (And.intro (And.intro (And.intro @XV (And.intro @U3 @Xp)) (And.intro @Xk (And.intro @Xt @Y5))) (And.intro (And.intro @XJ (And.intro @Xw @Sd)) (And.intro @XK (And.intro @Zr @V9))))) (And.intro (And.intro (And.intro (And.intro @XA (And.intro @Y9 @Xm)) (And.intro @XQ (And.intro @Y6 @Ux))) (And.intro (And.intro @S9 (And.intro @Ro @Rj)) (And.intro @PH (And.intro @OL @PR)))) (And.intro (And.intro (And.intro @S1 (And.intro @OO @VC)) (And.intro @Ur (And.intro @Ym @UT))) (And.intro (And.intro @Vb (And.intro @TS @XM)) (And.intro @Sw (And.intro @UM @S6)))))) (And.intro (And.intro (And.intro (And.intro (And.intro @UI (And.intro @Uv @UD)) (And.intro @XW (And.intro @OE @XD))) (And.intro (And.intro @Vs (And.intro @VS @NU)) (And.intro @UY (And.intro @A6 @Ge)))) (And.intro (And.intro (And.intro @CS (And.intro @Wo @Uw)) (And.intro @Vu (And.intro @XU @Q8))) (And.intro (And.intro @KQ (And.intro @Se @Sq)) (And.intro @Aaa (And.intro @Uy @Ab0))))) (And.intro (And.intro (And.intro (And.intro @XP (And.intro @XX @Co)) (And.intro @NI (And.intro @MH @OQ))) (And.intro (And.intro @OI (And.intro @OJ @OK)) (And.intro @Pr (And.intro @PK @PZ)))) (And.intro (And.intro (And.intro @Xx (And.intro @TN @TU)) (And.intro @TX (And.intro @RM @W3))) (And.intro (And.intro @V8 (And.intro @V0 @TQ)) (And.intro @Xu (And.intro @W8 @W5))))))) (And.intro (And.intro (And.intro (And.intro (And.intro (And.intro @Ze @ZO) (And.intro @P6 (And.intro @As @AG))) (And.intro (And.intro @Rp (And.intro @Xg @XY)) (And.intro @VH (And.intro @LH @Kd)))) (And.intro (And.intro (And.intro @KY (And.intro @P9 @MY)) (And.intro @Mt (And.intro @LA @Rw))) (And.intro (And.intro @Wf (And.intro @VT @L6)) (And.intro @Ua (And.intro @VJ @VD))))) (And.intro (And.intro (And.intro (And.intro @W6 (And.intro @Y3 @Yk)) (And.intro @Du (And.intro @RL @VE))) (And.intro (And.intro @Xo (And.intro @Qx @Vz)) (And.intro @H3 (And.intro @S5 @PY)))) (And.intro (And.intro (And.intro @Xz (And.intro @ZI @Y2)) (And.intro @Xy (And.intro @Ou @XE))) (And.intro (And.intro @R1 (And.intro @ZT @XC)) (And.intro @Vj (And.intro @Ut @Ok)))))) (And.intro (And.intro (And.intro (And.intro (And.intro @UH (And.intro @V1 @Ra)) (And.intro @RQ (And.intro @Gq @Y4))) (And.intro (And.intro @Uz (And.intro @XF @Rz)) (And.intro @Pc (And.intro @VI @Rx)))) (And.intro (And.intro (And.intro @cond_true.{1} (And.intro @cond_false.{1} @List.set_cons_zero.{0})) (And.intro @List.set_cons_succ.{0} (And.intro @List.length_cons.{0} @List.length_nil.{0}))) (And.intro (And.intro @decide_true (And.intro @decide_false @Nat.zero_add)) (And.intro @beq_self_eq_true.{0} (And.intro @Bool.not_true @Bool.not_false))))) (And.intro (And.intro (And.intro (And.intro @bne_self_eq_false.{0} (And.intro @Nat.mod_eq_of_lt @decide_eq_true)) (And.intro @decide_eq_false (And.intro @List.nil_append.{0} @List.cons_append.{0}))) (And.intro (And.intro @List.take_zero.{0} (And.intro @List.drop_zero.{0} @List.drop_succ_cons.{0})) (And.intro @List.take_succ_cons.{0} (And.intro @List.drop_nil.{0} @List.append_nil.{0})))) (And.intro (And.intro (And.intro @Bool.and_true (And.intro @Bool.true_and @Bool.and_false)) (And.intro @Bool.false_and (And.intro @Bool.or_true @Bool.true_or))) (And.intro (And.intro @Bool.or_false (And.intro @Bool.false_or @Nat.one_mul)) (And.intro @Nat.mul_one (And.intro @not_true_eq_false @not_false_eq_true)))))))) := And.intro (And.intro (And.intro (And.intro (And.intro (And.intro (And.intro @Xq @Aa7) (And.intro @Abd (And.intro @Uj @V6))) (And.intro (And.intro @Ug (And.intro @ZX @Ab2)) (And.intro @Ab5 (And.intro @Aa0 @S3)))) (And.intro (And.intro (And.intro @XV (And.intro @U3 @Xp)) (And.intro @Xk (And.intro @Xt @Y5))) (And.intro (And.intro @XJ (And.intro @Xw @Sd)) (And.intro @XK (And.intro @Zr @V9))))) (And.intro (And.intro (And.intro (And.intro @XA (And.intro @Y9 @Xm)) (And.intro @XQ (And.intro @Y6 @Ux))) (And.intro (And.intro @S9 (And.intro @Ro @Rj)) (And.intro @PH (And.intro @OL @PR)))) (And.intro (And.intro (And.intro @S1 (And.intro @OO @VC)) (And.intro @Ur (And.intro @Ym @UT))) (And.intro (And.intro @Vb (And.intro @TS @XM)) (And.intro @Sw (And.intro @UM @S6)))))) (And.intro (And.intro (And.intro (And.intro (And.intro @UI (And.intro @Uv @UD)) (And.intro @XW (And.intro @OE @XD))) (And.intro (And.intro @Vs (And.intro @VS @NU)) (And.intro @UY (And.intro @A6 @Ge)))) (And.intro (And.intro (And.intro @CS (And.intro @Wo @Uw)) (And.intro @Vu (And.intro @XU @Q8))) (And.intro (And.intro @KQ (And.intro @Se @Sq)) (And.intro @Aaa (And.intro @Uy @Ab0))))) (And.intro (And.intro (And.intro (And.intro @XP (And.intro @XX @Co)) (And.intro @NI (And.intro @MH @OQ))) (And.intro (And.intro @OI (And.intro @OJ @OK)) (And.intro @Pr (And.intro @PK @PZ)))) (And.intro (And.intro (And.intro @Xx (And.intro @TN @TU)) (And.intro @TX (And.intro @RM @W3))) (And.intro (And.intro @V8 (And.intro @V0 @TQ)) (And.intro @Xu (And.intro @W8 @W5))))))) (And.intro (And.intro (And.intro (And.intro (And.intro (And.intro @Ze @ZO) (And.intro @P6 (And.intro @As @AG))) (And.intro (And.intro @Rp (And.intro @Xg @XY)) (And.intro @VH (And.intro @LH @Kd)))) (And.intro (And.intro (And.intro @KY (And.intro @P9 @MY)) (And.intro @Mt (And.intro @LA @Rw))) (And.intro (And.intro @Wf (And.intro @VT @L6)) (And.intro @Ua (And.intro @VJ @VD))))) (And.intro (And.intro (And.intro (And.intro @W6 (And.intro @Y3 @Yk)) (And.intro @Du (And.intro @RL @VE))) (And.intro (And.intro @Xo (And.intro @Qx @Vz)) (And.intro @H3 (And.intro @S5 @PY)))) (And.intro (And.intro (And.intro @Xz (And.intro @ZI @Y2)) (And.intro @Xy (And.intro @Ou @XE))) (And.intro (And.intro @R1 (And.intro @ZT @XC)) (And.intro @Vj (And.intro @Ut @Ok)))))) (And.intro (And.intro (And.intro (And.intro (And.intro @UH (And.intro @V1 @Ra)) (And.intro @RQ (And.intro @Gq @Y4))) (And.intro (And.intro @Uz (And.intro @XF @Rz)) (And.intro @Pc (And.intro @VI @Rx)))) (And.intro (And.intro (And.intro @cond_true.{1} (And.intro @cond_false.{1} @List.set_cons_zero.{0})) (And.intro @List.set_cons_succ.{0} (And.intro @List.length_cons.{0} @List.length_nil.{0}))) (And.intro (And.intro @decide_true (And.intro @decide_false @Nat.zero_add)) (And.intro @beq_self_eq_true.{0} (And.intro @Bool.not_true @Bool.not_false))))) (And.intro (And.intro (And.intro (And.intro @bne_self_eq_false.{0} (And.intro @Nat.mod_eq_of_lt @decide_eq_true)) (And.intro @decide_eq_false (And.intro @List.nil_append.{0} @List.cons_append.{0}))) (And.intro (And.intro @List.take_zero.{0} (And.intro @List.drop_zero.{0} @List.drop_succ_cons.{0})) (And.intro @List.take_succ_cons.{0} (And.intro @List.drop_nil.{0} @List.append_nil.{0})))) (And.intro (And.intro (And.intro @Bool.and_true (And.intro @Bool.true_and @Bool.and_false)) (And.intro @Bool.false_and (And.intro @Bool.or_true @Bool.true_or))) (And.intro (And.intro @Bool.or_false (And.intro @Bool.false_or @Nat.one_mul)) (And.intro @Nat.mul_one (And.intro @not_true_eq_false @not_false_eq_true)))))))
end Go.Ev

namespace Go.Ev
set_option linter.unusedVariables false
theorem K4.beq_self (p:K4):p.beq p=true := K4.beq_iff.2 rfl
theorem QN (k:IntKind) (r:Nat) (κ:R):Bl (.int k r) (.int k r) κ=κ := by
  show br (AZ k k) (br (Nat.beq r r) κ _) _=_
  rw [AA.2 rfl, Nat.beq_refl]; rfl
theorem Yp (w:Nl) (κ:R):Bl (.nil w) (.nil w) κ=κ := by cases w <;> rfl
theorem YH (p:K4) (a b c:Nat) (e:Bool) (z:Nat) (κ:R):Bl (.sl p a b c e z) (.sl p a b c e z) κ=κ := by
  show br (K4.beq p p) (br (and (Nat.beq a a) (and (Nat.beq b b) (and (Nat.beq c c) (and (Bool.rec (Bool.rec true false e) e e) (Nat.beq z z))))) κ _) _=_
  rw [K4.beq_self]; simp only [Nat.beq_refl]; cases e <;> rfl
def IK (es:List (V×V)):Prop := ∀ e∈es, ∃ r w, e=(.int .i64 r, w)
theorem IK.nil:IK [] := fun e h => by cases h
theorem Aat (k:Nat) (w:V):∀ es:List (V×V), IK es->∃ es', (∀ κ:List (V×V)->R, EP (.sc .i) (.int .i64 k) w es κ=κ es')∧IK es'∧es'.length≤es.length+1
  | [], _ => ⟨[(.int .i64 k, w)], fun κ => rfl, fun e he => by rcases List.mem_singleton.1 he with rfl; exact ⟨k, w, rfl⟩, by simp⟩
  | e::es, h => by
    obtain ⟨r, u, rfl⟩ := h e List.mem_cons_self
    have hes:IK es := fun x hx => h x (List.mem_cons_of_mem _ hx)
    obtain ⟨es', h1, h2, h3⟩ := Aat k w es hes
    cases hb:Nat.beq k r with
    | true => exact ⟨(.int .i64 k, w)::es, fun κ => by
        show BW (Nat.beq k r) (fun q => br q (κ ((.int .i64 k, w)::es)) (EP (.sc .i) (.int .i64 k) w es fun l => κ ((.int .i64 r, u)::l)))=_
        rw [B3, hb]; rfl, fun x hx => by
        rcases List.mem_cons.1 hx with rfl | hx
        · exact ⟨k, w, rfl⟩
        · exact hes x hx, by simp⟩
    | false => exact ⟨(.int .i64 r, u)::es', fun κ => by
        show BW (Nat.beq k r) (fun q => br q (κ ((.int .i64 k, w)::es)) (EP (.sc .i) (.int .i64 k) w es fun l => κ ((.int .i64 r, u)::l)))=_
        rw [B3, hb]; exact h1 _, fun x hx => by
        rcases List.mem_cons.1 hx with rfl | hx
        · exact ⟨r, u, rfl⟩
        · exact h2 x hx, by simp only [List.length_cons]; omega⟩
theorem Ae5 {q:K4} {h:Heap} {es:List (V×V)} {bs:List Nat} {c:Nat} (hq:A9 q h=some (.m es bs c)) (hk:IK es) (k:Nat) (w:V) :
    ∃ es' bs' c', (∀ κ:Heap->R, PN (.sc .i) (.map q) (.int .i64 k) w h κ=κ (Ae q h (some (.m es' bs' c'))))∧IK es' := by
  obtain ⟨es', h1, h2, h3⟩ := Aat k w es hk
  refine ⟨es', if es'.length=bs.length then bs else bs++[c], if es'.length=bs.length then c else c+1, fun κ => ?_, h2⟩
  show Qb q h (fun es bs c' k' => EP (.sc .i) (.int .i64 k) w es fun es => TL es bs c' fun bs c => k' es bs c) κ=_
  rw [J7, Z4 hq, h1]
  rw [UG]; exact AT _ _ _ _
def OU (p:K4) (h:Heap) (c:V) (l:List UInt8):Prop := (c = .nil .sl∧l=[]) ∨ ∃ ex, c = .sl p 0 l.length l.length ex 1∧A9 p h=some (.c (cb l) false none)
theorem OU.frame {p:K4} {h h':Heap} {c:V} {l:List UInt8} (H:OU p h c l) (e:A9 p h'=A9 p h):OU p h' c l := by
  rcases H with H | ⟨ex, h1, h2⟩
  · exact .inl H
  · exact .inr ⟨ex, h1, e.trans h2⟩
theorem OU.len {p:K4} {h:Heap} {c:V} {l:List UInt8} (H:OU p h c l) (hl:l.length<9223372036854775808) (κ:V->R):AJ c κ=κ (.int .i64 l.length) := by
  rcases H with ⟨rfl, rfl⟩ | ⟨ex, rfl, h2⟩
  · rfl
  · exact Co hl κ
theorem Qf:∀ m:Nat, Ar (List.replicate m 0)=0
  | 0 => rfl
  | m+1 => by rw [List.replicate_succ]; show (0:UInt8).toNat+256*Ar (List.replicate m 0)=0; rw [Qf m]; rfl
theorem R8 (u:V) {m:Nat} (hm:m≤1000000000000) (h:Heap) (n:K4) (κ:KV):Ik 1 1 true [.int .u8 0] u (.int .i64 m) h n κ=BR 1 1 u m (cb (List.replicate m 0)) h n κ := by
  show br (Nat.ble (Nat.succ m) 9223372036854775808) (br (Nat.ble (Nat.mul 1 m) 281474976710656) (BR 1 1 u m (.b m 0) h n κ) (.fail "")) (.fail "")=_
  rw [show Nat.ble (Nat.succ m) 9223372036854775808=true from Ab.2 (by omega), Ac, show Nat.ble (Nat.mul 1 m) 281474976710656=true from Ab.2 (by rw [show Nat.mul 1 m=m from Nat.one_mul m]; omega), Ac]
  unfold cb
  rw [Qf, List.length_replicate]
theorem Ui {p:K4} {h:Heap} {c:V} {bs:List UInt8} (H:OU p h c bs) {m:Nat} (hm:0<m) (hb:bs.length+m≤1000000000) {n:K4} (hn:n.toN<65000) (hpn:p.toN<n.toN) :
    ∃ h' pr, (∀ κ:KV, Ik 1 1 true [.int .u8 0] c (.int .i64 m) h n κ=κ (.sl n 0 (bs++List.replicate m 0).length (bs++List.replicate m 0).length false 1) h' n.up)∧A9 n h'=some (.c (cb (bs++List.replicate m 0)) false pr)∧(pr=none∨pr=some p) ∧
      (∀ q:K4, q≠n->q≠p->A9 q h'=A9 q h) := by
  rcases H with ⟨rfl, rfl⟩ | ⟨ex, rfl, h2⟩
  · refine ⟨_, none, fun κ => ?_, A6 _ _ _, .inl rfl, fun q hq _ => A8 _ _ (Ne.symm hq)⟩
    rw [R8 _ (by omega), Od hm (by omega) (by omega), List.nil_append, List.length_replicate]
  · have hl:(List.replicate m (0:UInt8)).length=m := List.length_replicate
    cases ex with
    | true =>
      refine ⟨_, none, fun κ => ?_, A6 _ _ _, .inl rfl, fun q hq _ => A8 _ _ (Ne.symm hq)⟩
      have e := Fu h2 (ex := true) (b := List.replicate m 0) (by omega) (by omega) (n := n) (by omega) κ
      rw [hl] at e
      rw [R8 _ (by omega), e, if_pos rfl]
    | false =>
      refine ⟨Ae n (Ae p h (some (.c (cb bs) true none))) (some (.c (cb (bs++List.replicate m 0)) false (some p))), some p, fun κ => ?_, A6 _ _ _, .inr rfl, fun q hq h3 => (A8 _ _ (Ne.symm hq)).trans (A8 _ _ (Ne.symm h3))⟩
      have e := Fu h2 (ex := false) (b := List.replicate m 0) (by omega) (by omega) (n := n) (by omega) κ
      rw [hl] at e
      rw [R8 _ (by omega), e, if_neg (by decide)]; rfl
/-- Bytes that are copied from. -/
def FD (v:V) (l:List UInt8) (h:Heap):Prop := v=Lr l∨(v = .nil .sl∧l=[]) ∨ ∃ p off cap ex L s pr, v = .sl p off l.length cap ex 1∧A9 p h=some (.c (cb L) s pr)∧off+l.length≤L.length∧(L.drop off).take l.length=l
theorem FD.len {v:V} {l:List UInt8} {h:Heap} (H:FD v l h) (hl:l.length<9223372036854775808) (κ:V->R):AJ v κ=κ (.int .i64 l.length) := by
  rcases H with rfl | ⟨rfl, rfl⟩ | ⟨p, off, cap, ex, L, s, pr, rfl, h1, h2, h3⟩
  · exact Co hl κ
  · rfl
  · exact Co hl κ
theorem FD.src {v:V} {l:List UInt8} {h:Heap} (H:FD v l h):∃ y, (∀ κ:Nat->Cs->R, H8 1 v h κ=κ l.length y)∧(0<l.length->y=cb l) := by
  rcases H with rfl | ⟨rfl, rfl⟩ | ⟨p, off, cap, ex, L, s, pr, rfl, h1, h2, h3⟩
  · exact ⟨cb l, fun κ => rfl, fun _ => rfl⟩
  · exact ⟨.l [], fun κ => rfl, fun h => by cases h⟩
  · refine ⟨cb l, fun κ => ?_, fun _ => rfl⟩
    rw [Zl h1 h2, h3]
theorem FD.frame {v:V} {l:List UInt8} {h h':Heap} (H:FD v l h) (e:∀ p:K4, (∃ off cap ex, v = .sl p off l.length cap ex 1)->A9 p h'=A9 p h):FD v l h' := by
  rcases H with H | H | ⟨p, off, cap, ex, L, s, pr, rfl, h1, h2, h3⟩
  · exact .inl H
  · exact .inr (.inl H)
  · exact .inr (.inr ⟨p, off, cap, ex, L, s, pr, rfl, (e p ⟨off, cap, ex, rfl⟩).trans h1, h2, h3⟩)
theorem Yl {v:V} {l bs:List UInt8} {h:Heap} (H:FD v l h) (h0:0<l.length) {p:K4} {off len cap:Nat} {ex:Bool} {pr:Option K4} (hp:A9 p h=some (.c (cb bs) false pr)) (hl:l.length≤len) (hl2:off+l.length≤bs.length) (hl3:l.length<9223372036854775808) (κ:V->Heap->R) :
    Pu 1 (.sl p off len cap ex 1) v h κ=κ (.int .i64 l.length) (Ae p (Ee pr h) (some (.c (cb (bs.take off++(l++bs.drop (off+l.length)))) false none))) := by
  obtain ⟨y, h1, h2⟩ := H.src
  have hy := h2 h0; subst hy
  show H8 1 v h (fun m y => _)=_
  rw [h1]
  show br (Nat.beq 1 1) (Aa (@Bool.rec (fun _ => Nat) len l.length (Nat.ble l.length len)) fun k => br (Nat.beq k 0) (κ (.int .i64 0) h) (Aa (Nat.mul k 1) fun j => AW (cb l) 0 j fun y => E5 h p off y fun h => DM k fun v => κ v h)) (.fail "")=_
  rw [Nat.beq_refl, Ac, A7, show Nat.ble l.length len=true from Ab.2 hl]
  show br (Nat.beq l.length 0) (κ (.int .i64 0) h) (Aa (Nat.mul l.length 1) fun j => AW (cb l) 0 j fun y => E5 h p off y fun h => DM l.length fun v => κ v h)=_
  rw [Cb, decide_eq_false (by omega), Ai, A7, show Nat.mul l.length 1=l.length from Nat.mul_one _, Gx (by omega), List.drop_zero, List.take_length, Gh]
  unfold E1
  rw [ET hp, Ai, Wj hl2, EM, AT, Co hl3]
theorem OU.same {p:K4} {h:Heap} {c:V} {l:List UInt8} (H:OU p h c l) (κ:R):Bl c c κ=κ := by
  rcases H with ⟨rfl, rfl⟩ | ⟨ex, rfl, h2⟩
  · exact Yp _ _
  · exact YH _ _ _ _ _ _ _
theorem PA {a b:Nat} (h:a<b) (hb:b<4611686018427387904):9223372036854775808≤Io .i64 a b∧Io .i64 a b<18446744073709551616 := by
  unfold Io
  rw [show Mk .i64=18446744073709551616 from rfl, Nat.mod_eq_of_lt (by omega)]
  omega
theorem Vq {a b:Nat} (ha:a<4611686018427387904) (hb:b<4611686018427387904) (κ:V->R):Mu (.int .i64 (Io .i64 a b)) (.int .i64 0) κ=κ (.int .i64 (a - b)) := by
  rcases Nat.lt_or_ge a b with h | h
  · obtain ⟨h1, h2⟩ := PA h hb
    rw [Sd h2 (by omega), Uw h1 (by omega), show a - b=0 by omega]; rfl
  · rw [KQ h (by omega), Sd (by omega) (by omega), Wo (by omega) (by omega), decide_eq_false (by omega)]; rfl
theorem Vl {a b:Nat} (ha:a<4611686018427387904) (hb:b<4611686018427387904):DO .i64 0 (Io .i64 a b)=decide (b<a) := by
  rcases Nat.lt_or_ge a b with h | h
  · obtain ⟨h1, h2⟩ := PA h hb
    rw [Vu (by omega) h1, decide_eq_false (by omega)]
  · rw [KQ h (by omega), Wo (by omega) (by omega)]
    by_cases h3:b<a
    · rw [decide_eq_true h3, decide_eq_true (by omega)]
    · rw [decide_eq_false h3, decide_eq_false (by omega)]
theorem Ct:(false == true)=false := id rfl
theorem Cq:(true == true)=true := id rfl
theorem Xi {p:K4} {o len cap a:Nat} {ex:Bool} (ha:a≤len) (hl:len≤cap) (ha2:a<9223372036854775808) (κ:V->R):DQ 1 (.sl p o len cap ex 1) (some (.int .i64 a)) none κ=κ (.sl p (o+a) (len - a) (cap - a) ex 1) := by
  show br (Nat.ble (Nat.succ a) 9223372036854775808) (br (Nat.beq 1 1) (br (Nat.ble a len) (br (Nat.ble len cap) (Aa (Nat.sub len a) fun l => Aa (Nat.sub cap a) fun c => Aa (Nat.add o (Nat.mul a 1)) fun o => κ (.sl p o l c ex 1)) (.fail "")) (.fail "")) (.fail "")) (.fail "")=_
  rw [show Nat.ble (Nat.succ a) 9223372036854775808=true from Ab.2 (by omega), Ac, Nat.beq_refl, Ac, Ab.2 ha, Ac, Ab.2 hl, Ac, A7, A7, A7, show Nat.mul a 1=a from Nat.mul_one a]; rfl
theorem Sn {p:K4} {o len cap a b:Nat} {ex:Bool} (ha:a≤b) (hl:b≤cap) (ha2:b<9223372036854775808) (κ:V->R):DQ 1 (.sl p o len cap ex 1) (some (.int .i64 a)) (some (.int .i64 b)) κ=κ (.sl p (o+a) (b - a) (cap - a) ex 1) := by
  show br (Nat.ble (Nat.succ b) 9223372036854775808) (br (Nat.ble (Nat.succ a) 9223372036854775808) (br (Nat.beq 1 1) (br (Nat.ble a b) (br (Nat.ble b cap) (Aa (Nat.sub b a) fun l => Aa (Nat.sub cap a) fun c => Aa (Nat.add o (Nat.mul a 1)) fun o => κ (.sl p o l c ex 1)) (.fail "")) (.fail "")) (.fail "")) (.fail "")) (.fail "")=_
  rw [show Nat.ble (Nat.succ b) 9223372036854775808=true from Ab.2 (by omega), Ac, show Nat.ble (Nat.succ a) 9223372036854775808=true from Ab.2 (by omega), Ac, Nat.beq_refl, Ac, Ab.2 ha, Ac, Ab.2 hl, Ac, A7, A7, A7, show Nat.mul a 1=a from Nat.mul_one a]; rfl
theorem WB (κ:V->R):DQ 1 (.nil .sl) (some (.int .i64 0)) (some (.int .i64 0)) κ=κ (.nil .sl) := id rfl
theorem Ac0 {p:K4} {o len cap b:Nat} {ex:Bool} (hl:b≤cap) (ha2:b<9223372036854775808) (κ:V->R):DQ 1 (.sl p o len cap ex 1) none (some (.int .i64 b)) κ=κ (.sl p o b cap ex 1) := by
  show br (Nat.ble (Nat.succ b) 9223372036854775808) (br (Nat.beq 1 1) (br (Nat.ble 0 b) (br (Nat.ble b cap) (Aa (Nat.sub b 0) fun l => Aa (Nat.sub cap 0) fun c => Aa (Nat.add o (Nat.mul 0 1)) fun o => κ (.sl p o l c ex 1)) (.fail "")) (.fail "")) (.fail "")) (.fail "")=_
  rw [show Nat.ble (Nat.succ b) 9223372036854775808=true from Ab.2 (by omega), Ac, Nat.beq_refl, Ac, show Nat.ble 0 b=true from Ab.2 (Nat.zero_le _), Ac, Ab.2 hl, Ac, A7, A7, A7, show Nat.mul 0 1=0 from rfl]; rfl
theorem Wx {a b:Nat} (h:a+b<18446744073709551616):Io .i64 (a+b) a=b := by rw [KQ (by omega) h]; omega
/-- Bytes that were laid anew are written over, all that is new. -/
theorem X3 {p n:K4} {h':Heap} {v:V} {bs l:List UInt8} {pr:Option K4} (hp:A9 n h'=some (.c (cb (bs++List.replicate l.length 0)) false pr)) (hpr:pr=none∨pr=some p) (hs:FD v l h') (h0:0<l.length) (hb:bs.length+l.length<1000000000) :
    ∃ h2, (∀ κ:Heap->R, Pu 1 (.sl n bs.length l.length l.length false 1) v h' (fun _ h => κ h)=κ h2)∧A9 n h2=some (.c (cb (bs++l)) false none) ∧ ∀ q, q≠n->q≠p->A9 q h2=A9 q h' := by
  have hl:(bs++List.replicate l.length (0:UInt8)).length=bs.length+l.length := by rw [List.length_append, List.length_replicate]
  have e := fun κ:Heap->R => Yl hs h0 (ex := false) (off := bs.length) (len := l.length) (cap := l.length) hp (Nat.le_refl _) (by omega) (by omega) fun _ h => κ h
  have e2:(bs++List.replicate l.length (0:UInt8)).take bs.length++(l++(bs++List.replicate l.length (0:UInt8)).drop (bs.length+l.length))=bs++l := by
    rw [List.take_left, List.drop_eq_nil_of_le (by omega), List.append_nil]
  rw [e2] at e
  refine ⟨_, e, A6 _ _ _, fun q h1 h2 => ?_⟩
  rw [A8 _ _ (Ne.symm h1)]
  rcases hpr with rfl | rfl
  · rfl
  · exact A8 _ _ (Ne.symm h2)
end Go.Ev

namespace Go.Ev
set_option linter.unusedVariables false
theorem X9 {v b:Nat} (hv:v<18446744073709551616) (hb:b≤64) (κ:V->R):F3 (.int .u64 v) (.int .i64 b) κ=κ (.int .u64 (v >>> b)) := by
  show br (Nat.ble (Nat.succ b) 9223372036854775808) (br (Nat.ble (Nat.succ v) 18446744073709551616) (br (Nat.ble b 64) (Aa (Nat.shiftRight v b) fun r => κ (.int .u64 r)) (κ (.int .u64 0))) (.fail "")) (.fail "")=_
  rw [show Nat.ble (Nat.succ b) 9223372036854775808=true from Ab.2 (by omega), Ac, show Nat.ble (Nat.succ v) 18446744073709551616=true from Ab.2 (by omega), Ac, Ab.2 hb, Ac, A7]; rfl
theorem Ql {v:Nat} (hv:v<18446744073709551616) (κ:V->R):B2 .u8 (.int .u64 v) κ=κ (.int .u8 (v % 256)) := H3 (k := .u8) (j := .u64) hv κ
theorem Ya {r:Nat} (hr:r<256) {n:K4} (hn:n.toN<65535) (h:Heap) (κ:KV):Cp true 1 1 [.int .u8 r] h n κ=κ (.sl n 0 1 1 true 1) (Ae n h (some (.c (cb [UInt8.ofNat r]) false none))) n.up := by
  show br (Nat.ble r 255) (Aa (Nat.succ 0) fun m => Aa (Nat.add r (Nat.mul 256 0)) fun c => DZ h n (.c (.b m c) false none) fun h' n' => κ (.sl n 0 1 1 true 1) h' n') (.fail "")=_
  rw [show Nat.ble r 255=true from Ab.2 (by omega), Ac, A7, A7, Du hn]
  have e:(UInt8.ofNat r).toNat=r := by show r % 256=r; omega
  show κ _ (Ae n h (some (.c (.b 1 r) false none))) n.up=κ _ (Ae n h (some (.c (.b 1 ((UInt8.ofNat r).toNat+256*0)) false none))) n.up
  rw [e]; rfl
/-- Bytes that may still know what they grew from. -/
def Fx (lo:Nat) (n:K4) (h:Heap) (c:V) (l:List UInt8):Prop := (c = .nil .sl∧l=[]) ∨ ∃ p ex pr, c = .sl p 0 l.length l.length ex 1∧A9 p h=some (.c (cb l) false pr)∧lo≤p.toN∧p.toN<n.toN∧(pr=none ∨ ∃ q, pr=some q∧lo≤q.toN∧q.toN<n.toN)
theorem Fx.frame {lo:Nat} {n n':K4} {h h':Heap} {c:V} {l:List UInt8} (H:Fx lo n h c l) (hn:n.toN≤n'.toN) (e:∀ q:K4, lo≤q.toN->q.toN<n.toN->A9 q h'=A9 q h):Fx lo n' h' c l := by
  rcases H with H | ⟨p, ex, pr, h1, h2, h3, h4, h5⟩
  · exact .inl H
  · refine .inr ⟨p, ex, pr, h1, (e p h3 h4).trans h2, h3, by omega, ?_⟩
    rcases h5 with h5 | ⟨q, h5, h6, h7⟩
    · exact .inl h5
    · exact .inr ⟨q, h5, h6, by omega⟩
theorem Fx.nil {lo:Nat} {n:K4} {h:Heap}:Fx lo n h (.nil .sl) [] := .inl ⟨rfl, rfl⟩
theorem Fx.len {lo:Nat} {n:K4} {h:Heap} {c:V} {l:List UInt8} (H:Fx lo n h c l) (hl:l.length<9223372036854775808) (κ:V->R):AJ c κ=κ (.int .i64 l.length) := by
  rcases H with ⟨rfl, rfl⟩ | ⟨p, ex, pr, rfl, _⟩
  · rfl
  · exact Co hl κ
theorem Fx.src {lo:Nat} {n:K4} {h:Heap} {c:V} {l:List UInt8} (H:Fx lo n h c l):FD c l h := by
  rcases H with ⟨rfl, rfl⟩ | ⟨p, ex, pr, rfl, h2, _⟩
  · exact .inr (.inl ⟨rfl, rfl⟩)
  · exact .inr (.inr ⟨p, 0, l.length, ex, l, false, pr, rfl, h2, by omega, by rw [List.drop_zero, List.take_length]⟩)
theorem grow {lo:Nat} {n:K4} {h:Heap} {c:V} {l b:List UInt8} (H:Fx lo n h c l) (hlo:lo≤n.toN) (hb:l.length+b.length≤1000000000) (hn:n.toN<65000) {y:Cs} (hy:0<b.length->y=cb b) :
    ∃ c' h' n', (∀ κ:KV, BR 1 1 c b.length y h n κ=κ c' h' n')∧Fx lo n' h' c' (l++b)∧n.toN≤n'.toN∧n'.toN≤n.toN+1∧(∀ q:K4, q.toN<lo->A9 q h'=A9 q h)∧(Ay h n->Ay h' n') := by
  have u1 := K4.up_toN (p := n) (by omega)
  rcases Nat.eq_zero_or_pos b.length with h0 | h0
  · obtain rfl := List.length_eq_zero_iff.1 h0
    refine ⟨c, h, n, fun κ => Lj ?_ _ _ _ _, by rw [List.append_nil]; exact H, by omega, by omega, fun q _ => rfl, fun h => h⟩
    rcases H with ⟨rfl, _⟩ | ⟨p, ex, pr, rfl, _⟩
    · exact .inl rfl
    · exact .inr ⟨p, _, _, _, ex, rfl⟩
  · obtain rfl := hy h0
    rcases H with ⟨rfl, rfl⟩ | ⟨p, ex, pr, rfl, h2, h3, h4, h5⟩
    · refine ⟨_, _, _, fun κ => Od h0 (by omega) (by omega) _ _ _, ?_, by omega, by omega, fun q hq => As (by omega) _ _, fun hf q hq => (AG (by omega) _ _).trans (hf q (by omega))⟩
      exact .inr ⟨n, false, none, rfl, A6 _ _ _, hlo, by omega, .inl rfl⟩
    · cases ex with
      | true =>
        refine ⟨_, _, _, fun κ => (Fu h2 h0 (by omega) (by omega) κ).trans (if_pos rfl), ?_, by omega, by omega, fun q hq => As (by omega) _ _, fun hf q hq => (AG (by omega) _ _).trans (hf q (by omega))⟩
        exact .inr ⟨n, false, none, rfl, A6 _ _ _, hlo, by omega, .inl rfl⟩
      | false =>
        refine ⟨_, _, _, fun κ => (Fu h2 h0 (by omega) (by omega) κ).trans (if_neg (by decide)), ?_, by omega, by omega, fun q hq => ?_, fun hf q hq => ?_⟩
        · exact .inr ⟨n, false, some p, rfl, A6 _ _ _, hlo, by omega, .inr ⟨p, rfl, h3, by omega⟩⟩
        · rw [As (by omega), As (by omega)]
          rcases h5 with rfl | ⟨r, rfl, h6, h7⟩
          · rfl
          · exact A8 _ _ (K4.ne_of_lt (by omega)).symm
        · rw [AG (by omega), AG (by omega)]
          rcases h5 with rfl | ⟨r, rfl, h6, h7⟩
          · exact hf q (by omega)
          · exact (A8 _ _ (K4.ne_of_lt (by omega))).trans (hf q (by omega))
/-- .. by what is copied from. -/
theorem LG {lo:Nat} {n:K4} {h:Heap} {c v:V} {l b:List UInt8} (H:Fx lo n h c l) (hs:FD v b h) (hlo:lo≤n.toN) (hb:l.length+b.length≤1000000000) (hn:n.toN<65000) :
    ∃ c' h' n', (∀ κ:KV, C3 1 1 c v h n κ=κ c' h' n')∧Fx lo n' h' c' (l++b)∧n.toN≤n'.toN∧n'.toN≤n.toN+1∧(∀ q:K4, q.toN<lo->A9 q h'=A9 q h)∧(Ay h n->Ay h' n') := by
  obtain ⟨y, h1, h2⟩ := hs.src
  obtain ⟨c', h', n', e, r⟩ := grow H hlo hb hn h2
  refine ⟨c', h', n', fun κ => ?_, r⟩
  show H8 1 v h (fun m y => BR 1 1 c m y h n κ)=_
  rw [h1, e]
end Go.Ev

namespace Go.Ev
set_option linter.unusedVariables false
theorem CI:(true == false)=false := id rfl
theorem CC:(false == false)=true := id rfl
theorem BO (g:Bool) (h:Heap) (n:K4) (F:KV->R) (κ:KV):Cc g B4 h n F κ=κ B4 h n := id rfl
theorem BI (g:Bool) (F:(V->R)->R) (κ:V->R):Km g B4 F κ=κ B4 := id rfl
theorem Gp {xs:List V} {off m:Nat} (h:off+m≤xs.length) (κ:Cs->R):AW (.l xs) off m κ=κ (.l ((xs.drop off).take m)) := by
  show DA off xs (fun ys => D7 m ys fun zs => κ (.l zs))=_
  rw [J9 (by omega), IW (by rw [List.length_drop]; omega)]
theorem U9 (a b:List V) (κ:Cs->R):OS (.l a) (.l b) κ=κ (.l (a++b)) := by
  show EQ a b (fun zs => κ (.l zs))=_
  rw [DG]
theorem YM {a b:List V} {i:Nat} (h:i+b.length≤a.length) (κ:Cs->R):Mh (.l a) i (.l b) κ=κ (.l (a.take i++(b++a.drop (i+b.length)))) := by
  show D7 i a (fun x => GL b fun m => Aa (Nat.add i m) fun j => DA j a fun y => EQ b y fun t => EQ x t fun zs => κ (.l zs))=_
  rw [IW (by omega), D5, A7, J9 (by show i+b.length≤_; exact h), DG, DG]; rfl
theorem Afu {p:K4} {h:Heap} {a b:List V} {pr:Option K4} {off:Nat} (hp:A9 p h=some (.c (.l a) false pr)) (hl:off+b.length≤a.length) (κ:Heap->R):E5 h p off (.l b) κ=κ (Ae p (Ee pr h) (some (.c (.l (a.take off++(b++a.drop (off+b.length)))) false none))) := by
  rw [Gh]; unfold E1
  rw [ET hp, Ai, YM hl, EM, AT]
theorem YN {m:Nat} {p:K4} {h:Heap} {a b:List V} {pr:Option K4} {off:Nat} (hp:A9 p h=some (.c (.l a) false pr)) (hm:b.length=m) (hl:off+b.length≤a.length) (κ:Heap->R):CX m (.ptr p off) (.agg b) h κ=κ (Ae p (Ee pr h) (some (.c (.l (a.take off++(b++a.drop (off+b.length)))) false none))) := by
  show GL b (fun k => br (Nat.beq k m) (E5 h p off (.l b) κ) (.fail ""))=_
  rw [D5, hm, Nat.beq_refl, Ac, Afu hp hl, hm]
/-- A slice that is read: its cells. -/
def LS (h:Heap) (n:K4) (av:List K4) (z:Nat) (v:V) (l:List V) (k:Nat):Prop := (v = .nil .sl∧l=[]∧k=0) ∨ ∃ p off cap ex a s pr, v = .sl p off k cap ex z∧A9 p h=some (.c (.l a) s pr)∧off+k*z≤a.length∧(a.drop off).take (k*z)=l∧p.toN<n.toN ∧ ∀ q∈av, p≠q
theorem LS.len {h:Heap} {n:K4} {av:List K4} {z:Nat} {v:V} {l:List V} {k:Nat} (H:LS h n av z v l k) (hk:k<9223372036854775808) (κ:V->R):AJ v κ=κ (.int .i64 k) := by
  rcases H with ⟨rfl, _, rfl⟩ | ⟨p, off, cap, ex, a, s, pr, rfl, _⟩
  · rfl
  · exact Co hk κ
theorem LS.frame {h h':Heap} {n n':K4} {av av':List K4} {z:Nat} {v:V} {l:List V} {k:Nat} (H:LS h n av z v l k) (hn:n.toN≤n'.toN) (e:∀ p:K4, p.toN<n.toN->(∀ q∈av, p≠q)->A9 p h'=A9 p h ∧ ∀ q∈av', p≠q):LS h' n' av' z v l k := by
  rcases H with H | ⟨p, off, cap, ex, a, s, pr, rfl, h1, h2, h3, h4, h5⟩
  · exact .inl H
  · exact .inr ⟨p, off, cap, ex, a, s, pr, rfl, ((e p h4 h5).1).trans h1, h2, h3, by omega, (e p h4 h5).2⟩
theorem LS.more {h h':Heap} {n n':K4} {av:List K4} {z:Nat} {v:V} {l:List V} {k:Nat} (H:LS h n av z v l k) (hn:n.toN≤n'.toN) (e:∀ p:K4, p.toN<n.toN->A9 p h'=A9 p h):LS h' n' av z v l k := H.frame hn fun p hp hq => ⟨e p hp, hq⟩
theorem LS.src {h:Heap} {n:K4} {av:List K4} {z:Nat} {v:V} {l:List V} {k:Nat} (H:LS h n av z v l k) (κ:Nat->Cs->R):H8 z v h κ=κ k (.l l) := by
  rcases H with ⟨rfl, rfl, rfl⟩ | ⟨p, off, cap, ex, a, s, pr, rfl, h1, h2, rfl, _⟩
  · rfl
  · show br (Nat.beq z z) (Hs p h fun cs _ _ => Aa (Nat.mul k z) fun m => AW cs off m fun y => κ k y) (.fail "")=_
    rw [Nat.beq_refl, Ac, ET h1, A7, show Nat.mul k z=k*z from rfl, Gp h2]
/-- An element's place, and its cells. -/
theorem LS.ix {h:Heap} {n:K4} {av:List K4} {z:Nat} {v:V} {l:List V} {k i:Nat} (H:LS h n av z v l k) (hi:i<k) (h2:i<9223372036854775808) :
    ∃ p o, (∀ κ:V->R, AY z v (.int .i64 i) κ=κ (.ptr p o))∧(∀ (κ:V->R), Jy (A9 p h) z o κ=κ (.agg ((l.drop (i*z)).take z)))∧(∀ (j:Nat) (x:V) (κ:V->R), l[i*z+j]? = some x->S2 (A9 p h) (o+j) κ=κ x) := by
  rcases H with ⟨rfl, rfl, rfl⟩ | ⟨p, off, cap, ex, a, s, pr, rfl, h1, h3, rfl, _⟩
  · cases hi
  · have hm:i*z+z≤k*z := by rw [←Nat.succ_mul]; exact Nat.mul_le_mul_right z hi
    refine ⟨p, off+i*z, fun κ => Xf z (k := .i64) h2 hi κ, fun κ => ?_, fun j x κ hx => ?_⟩
    · rw [h1, YZ (by omega)]
      congr 2
      rw [List.drop_take, List.take_take, List.drop_drop, Nat.min_eq_left (by omega)]
    · rw [h1, UT]
      rw [List.getElem?_take] at hx
      split at hx
      · rw [List.getElem?_drop, ←Nat.add_assoc] at hx
        exact RK hx
      · cases hx
theorem LS.at1 {h:Heap} {n:K4} {av:List K4} {v:V} {l:List V} {k i:Nat} (H:LS h n av 1 v l k) (hi:i<k) (h2:i<9223372036854775808) {x:V} (hx:l[i]? = some x) :
    ∃ p o, (∀ κ:V->R, AY 1 v (.int .i64 i) κ=κ (.ptr p o)) ∧ ∀ κ:V->R, S2 (A9 p h) o κ=κ x := by
  obtain ⟨p, o, e1, _, e3⟩ := H.ix hi h2
  exact ⟨p, o, e1, fun κ => e3 0 x κ (by rw [Nat.mul_one]; exact hx)⟩
/-- A slice of one's own. -/
def FE (lo:Nat) (n:K4) (h:Heap) (z:Nat) (v:V) (l:List V) (k:Nat):Prop := (v = .nil .sl∧l=[]∧k=0) ∨ ∃ p ex pr, v = .sl p 0 k k ex z∧A9 p h=some (.c (.l l) false pr)∧l.length=k*z∧lo≤p.toN∧p.toN<n.toN∧(pr=none ∨ ∃ q, pr=some q∧lo≤q.toN∧q.toN<n.toN)
theorem FE.frame {lo:Nat} {n n':K4} {h h':Heap} {z:Nat} {v:V} {l:List V} {k:Nat} (H:FE lo n h z v l k) (hn:n.toN≤n'.toN) (e:∀ q:K4, lo≤q.toN->q.toN<n.toN->A9 q h'=A9 q h):FE lo n' h' z v l k := by
  rcases H with H | ⟨p, ex, pr, h1, h2, h3, h4, h5, h6⟩
  · exact .inl H
  · refine .inr ⟨p, ex, pr, h1, (e p h4 h5).trans h2, h3, h4, by omega, ?_⟩
    rcases h6 with h6 | ⟨q, h6, h7, h8⟩
    · exact .inl h6
    · exact .inr ⟨q, h6, h7, by omega⟩
theorem FE.ls {lo:Nat} {n:K4} {h:Heap} {z:Nat} {v:V} {l:List V} {k:Nat} (H:FE lo n h z v l k) (av:List K4) (hav:∀ q∈av, q.toN<lo∨n.toN≤q.toN):LS h n av z v l k := by
  rcases H with H | ⟨p, ex, pr, h1, h2, h3, h4, h5, h6⟩
  · exact .inl H
  · refine .inr ⟨p, 0, k, ex, l, false, pr, h1, h2, by omega, by rw [List.drop_zero, ←h3, List.take_length], h5, fun q hq e => ?_⟩
    have := hav q hq
    rw [←e] at this
    omega
theorem Xn {lo:Nat} {n:K4} {h:Heap} {z eb:Nat} {v:V} {l b:List V} {k m:Nat} (H:FE lo n h z v l k) (hlo:lo≤n.toN) (hb:b.length=m*z) (hm:0<m) (hs:(4*(k+m)+4096)*eb≤281474976710656) (hn:n.toN<65000) :
    ∃ h' pr', (∀ κ:KV, BR z eb v m (.l b) h n κ=κ (.sl n 0 (k+m) (k+m) false z) h' n.up)∧A9 n h'=some (.c (.l (l++b)) false pr')∧FE lo n.up h' z (.sl n 0 (k+m) (k+m) false z) (l++b) (k+m)∧(∀ q:K4, q.toN<lo->A9 q h'=A9 q h)∧(Ay h n->Ay h' n.up) := by
  have u1 := K4.up_toN (p := n) (by omega)
  rcases H with ⟨rfl, rfl, rfl⟩ | ⟨p, ex, pr, rfl, h2, h3, h4, h5, h6⟩
  · refine ⟨_, none, fun κ => ?_, A6 _ _ _, .inr ⟨n, false, none, rfl, A6 _ _ _, by rw [List.nil_append, hb, Nat.zero_add], hlo, by omega, .inl rfl⟩, fun q hq => As (by omega) _ _, fun hf q hq => (AG (by omega) _ _).trans (hf q (by omega))⟩
    rw [Ou hm (by rw [Nat.zero_add] at hs; exact hs) (by omega)]; simp only [List.nil_append, Nat.zero_add]
  · have e4:Nat.ble (Nat.add k m) k=false := AH (by show k<k+m; omega)
    have e0:∀ κ:KV, BR z eb (.sl p 0 k k ex z) m (.l b) h n κ=br ex (κ (.sl n 0 (k+m) (k+m) false z) (Ae n h (some (.c (.l (l++b)) false none))) n.up) (κ (.sl n 0 (k+m) (k+m) false z) (Ae n (Ae p (Ee pr h) (some (.c (.l l) true none))) (some (.c (.l (l++b)) false (some p)))) n.up) := fun κ => by
      show br (Nat.beq z z) (br (Nat.beq m 0) (κ (.sl p 0 k k ex z) h n) (Aa (Nat.add k m) fun need => br (Nat.ble need k) (Aa (Nat.add 0 (Nat.mul k z)) fun j => E5 h p j (.l b) fun h' => κ (.sl p 0 need k ex z) h' n)
        (br (Nat.ble (Nat.mul (Nat.add (Nat.mul 4 need) 4096) eb) 281474976710656)
          (JV p h fun cs sup prev => Aa (Nat.mul k z) fun l => AW cs 0 l fun x => OS x (.l b) fun y =>
            br ex (DZ h n (.c y false none) fun h' n' => κ (.sl n 0 need need false z) h' n')
              (br sup (.fail "") (Aa (Nat.add 0 l) fun j => AW cs 0 j fun old => Ia prev h fun h => EV p h (some (.c old true none)) fun h =>
                DZ h n (.c y false (some p)) fun h' n' => κ (.sl n 0 need need false z) h' n'))) (.fail "")))) (.fail "")=_
      have e1:(l.drop 0).take (k*z)=l := by rw [List.drop_zero, ←h3, List.take_length]
      rw [Nat.beq_refl, Ac, Cb, decide_eq_false (by omega), Ai, A7, e4, Ai, show Nat.ble (Nat.mul (Nat.add (Nat.mul 4 (Nat.add k m)) 4096) eb) 281474976710656=true from Ab.2 hs, Ac, Dj, ET h2, A7, show Nat.mul k z=k*z from rfl, Gp (by omega), e1, U9, Ai, A7, show Nat.add 0 (k*z)=k*z from Nat.zero_add _, Gp (by omega), e1, EM, AT, Du (by omega), Du (by omega)]
      rfl
    have hll:(l++b).length=(k+m)*z := by rw [List.length_append, h3, hb, Nat.add_mul]
    cases ex with
    | true =>
      exact ⟨_, none, fun κ => (e0 κ).trans (Ac _ _), A6 _ _ _, .inr ⟨n, false, none, rfl, A6 _ _ _, hll, hlo, by omega, .inl rfl⟩, fun q hq => As (by omega) _ _, fun hf q hq => (AG (by omega) _ _).trans (hf q (by omega))⟩
    | false =>
      refine ⟨_, some p, fun κ => (e0 κ).trans (Ai _ _), A6 _ _ _, .inr ⟨n, false, some p, rfl, A6 _ _ _, hll, hlo, by omega, .inr ⟨p, rfl, h4, by omega⟩⟩, fun q hq => ?_, fun hf q hq => ?_⟩
      · rw [As (by omega), As (by omega)]
        rcases h6 with rfl | ⟨r, rfl, h7, h8⟩
        · rfl
        · exact A8 _ _ (K4.ne_of_lt (by omega)).symm
      · rw [AG (by omega), AG (by omega)]
        rcases h6 with rfl | ⟨r, rfl, h7, h8⟩
        · exact hf q (by omega)
        · exact (A8 _ _ (K4.ne_of_lt (by omega))).trans (hf q (by omega))
/-- Bytes that may still know what they grew from; where their places may be. -/
def Qz (P:K4->Prop) (n:K4) (h:Heap) (c:V) (l:List UInt8):Prop := (c = .nil .sl∧l=[]) ∨ ∃ p ex pr, c = .sl p 0 l.length l.length ex 1∧A9 p h=some (.c (cb l) false pr)∧P p∧p.toN<n.toN∧(pr=none ∨ ∃ q, pr=some q∧P q∧q.toN<n.toN)
theorem Qz.frame {P P':K4->Prop} {n n':K4} {h h':Heap} {c:V} {l:List UInt8} (H:Qz P n h c l) (hn:n.toN≤n'.toN) (hP:∀ q:K4, q.toN<n.toN->P q->P' q) (e:∀ q:K4, q.toN<n.toN->P q->A9 q h'=A9 q h):Qz P' n' h' c l := by
  rcases H with H | ⟨p, ex, pr, h1, h2, h3, h4, h5⟩
  · exact .inl H
  · refine .inr ⟨p, ex, pr, h1, (e p h4 h3).trans h2, hP p h4 h3, by omega, ?_⟩
    rcases h5 with h5 | ⟨q, h5, h6, h7⟩
    · exact .inl h5
    · exact .inr ⟨q, h5, hP q h7 h6, by omega⟩
theorem Qz.len {P:K4->Prop} {n:K4} {h:Heap} {c:V} {l:List UInt8} (H:Qz P n h c l) (hl:l.length<9223372036854775808) (κ:V->R):AJ c κ=κ (.int .i64 l.length) := by
  rcases H with ⟨rfl, rfl⟩ | ⟨p, ex, pr, rfl, _⟩
  · rfl
  · exact Co hl κ
theorem Qz.src {P:K4->Prop} {n:K4} {h:Heap} {c:V} {l:List UInt8} (H:Qz P n h c l):FD c l h := by
  rcases H with ⟨rfl, rfl⟩ | ⟨p, ex, pr, rfl, h2, _⟩
  · exact .inr (.inl ⟨rfl, rfl⟩)
  · exact .inr (.inr ⟨p, 0, l.length, ex, l, false, pr, rfl, h2, by omega, by rw [List.drop_zero, List.take_length]⟩)
/-- Six cells written over six. -/
theorem PX (p:K4) (h:Heap) (a0 a1 a2 a3 a4 a5 b0 b1 b2 b3 b4 b5:V) (κ:Heap->R):CX 6 (.ptr p 0) (.agg [b0, b1, b2, b3, b4, b5]) (Ae p h (some (.c (.l [a0, a1, a2, a3, a4, a5]) false none))) κ=κ (Ae p h (some (.c (.l [b0, b1, b2, b3, b4, b5]) false none))) := by
  rw [YN (m := 6) (b := [b0, b1, b2, b3, b4, b5]) (A6 _ _ _) rfl (by simp)]
  show κ (Ae p (Ae p h _) _)=_
  rw [Ge]; rfl
theorem EW (a b c d e f:V) (s:Bool) (pr:Option K4) (κ:V->R):Jy (some (.c (.l [a, b, c, d, e, f]) s pr)) 6 0 κ=κ (.agg [a, b, c, d, e, f]) := id rfl
/-- A slice that is read, out of the way of what grows. -/
def LSQ (P:K4->Prop) (h:Heap) (n:K4) (z:Nat) (v:V) (l:List V) (k:Nat):Prop := (v = .nil .sl∧l=[]∧k=0) ∨ ∃ p off cap ex a s pr, v = .sl p off k cap ex z∧A9 p h=some (.c (.l a) s pr)∧off+k*z≤a.length∧(a.drop off).take (k*z)=l∧p.toN<n.toN ∧ ¬ P p
theorem LSQ.ls {P:K4->Prop} {h:Heap} {n:K4} {z:Nat} {v:V} {l:List V} {k:Nat} (H:LSQ P h n z v l k):LS h n [] z v l k := by
  rcases H with H | ⟨p, off, cap, ex, a, s, pr, h1, h2, h3, h4, h5, _⟩
  · exact .inl H
  · exact .inr ⟨p, off, cap, ex, a, s, pr, h1, h2, h3, h4, h5, fun q hq => by cases hq⟩
theorem LSQ.frame {P P':K4->Prop} {h h':Heap} {n n':K4} {z:Nat} {v:V} {l:List V} {k:Nat} (H:LSQ P h n z v l k) (hn:n.toN≤n'.toN) (e:∀ q:K4, q.toN<n.toN->¬ P q->A9 q h'=A9 q h ∧ ¬ P' q):LSQ P' h' n' z v l k := by
  rcases H with H | ⟨p, off, cap, ex, a, s, pr, h1, h2, h3, h4, h5, h6⟩
  · exact .inl H
  · exact .inr ⟨p, off, cap, ex, a, s, pr, h1, ((e p h5 h6).1).trans h2, h3, h4, by omega, (e p h5 h6).2⟩
theorem SF {z eb k m:Nat} {p n:K4} {h:Heap} {ex:Bool} {l b:List V} {pr:Option K4} (h2:A9 p h=some (.c (.l l) false pr)) (h3:l.length=k*z) (hm:0<m) (hs:(4*(k+m)+4096)*eb≤281474976710656) (hn:n.toN<65000) (κ:KV) :
    BR z eb (.sl p 0 k k ex z) m (.l b) h n κ=br ex (κ (.sl n 0 (k+m) (k+m) false z) (Ae n h (some (.c (.l (l++b)) false none))) n.up) (κ (.sl n 0 (k+m) (k+m) false z) (Ae n (Ae p (Ee pr h) (some (.c (.l l) true none))) (some (.c (.l (l++b)) false (some p)))) n.up) := by
  show br (Nat.beq z z) (br (Nat.beq m 0) (κ (.sl p 0 k k ex z) h n) (Aa (Nat.add k m) fun need => br (Nat.ble need k) (Aa (Nat.add 0 (Nat.mul k z)) fun j => E5 h p j (.l b) fun h' => κ (.sl p 0 need k ex z) h' n)
    (br (Nat.ble (Nat.mul (Nat.add (Nat.mul 4 need) 4096) eb) 281474976710656)
      (JV p h fun cs sup prev => Aa (Nat.mul k z) fun l => AW cs 0 l fun x => OS x (.l b) fun y =>
        br ex (DZ h n (.c y false none) fun h' n' => κ (.sl n 0 need need false z) h' n')
          (br sup (.fail "") (Aa (Nat.add 0 l) fun j => AW cs 0 j fun old => Ia prev h fun h => EV p h (some (.c old true none)) fun h =>
            DZ h n (.c y false (some p)) fun h' n' => κ (.sl n 0 need need false z) h' n'))) (.fail "")))) (.fail "")=_
  have e4:Nat.ble (Nat.add k m) k=false := AH (by show k<k+m; omega)
  have e1:(l.drop 0).take (k*z)=l := by rw [List.drop_zero, ←h3, List.take_length]
  rw [Nat.beq_refl, Ac, Cb, decide_eq_false (by omega), Ai, A7, e4, Ai, show Nat.ble (Nat.mul (Nat.add (Nat.mul 4 (Nat.add k m)) 4096) eb) 281474976710656=true from Ab.2 hs, Ac, Dj, ET h2, A7, show Nat.mul k z=k*z from rfl, Gp (by omega), e1, U9, Ai, A7, show Nat.add 0 (k*z)=k*z from Nat.zero_add _, Gp (by omega), e1, EM, AT, Du (by omega), Du (by omega)]
  rfl
end Go.Ev

namespace Go.Ev
open Go.RowKit Go.ChangeShapes
set_option linter.unusedVariables false
/-- The blocks of the list stay. -/
def LJ (ρ:Env) (w:World) (bl:List Nat):Prop := ∀ b∈bl, ∀ c e fr, w.heap[b]? = some (.cells c e fr)->ρ.gl b=some (c, e, fr)
theorem LJ.sub {ρ:Env} {w:World} {bl cl:List Nat} (h:LJ ρ w bl) (hs:∀ b∈cl, b∈bl):LJ ρ w cl := fun b hb => h b (hs b hb)
end Go.Ev

namespace Go.Ev
set_option linter.unusedVariables false
def OF (o:Ch):Bool := @Option.rec Ob (fun _ => Bool) true (fun _ => false) o
theorem ED {o:Ch} (h:OF o=true):o=none := by cases o with
  | none => rfl
  | some _ => cases h
theorem AU {a b:Bool} (h:and a b=true):a=true∧b=true := by cases a <;> cases b <;> first | exact ⟨rfl, rfl⟩ | cases h
def OG (p:HA):Bool := @HA.rec (fun _ => Bool) (fun A B C E F G I J L M N O P Q T U => and (OF A) (and (OF B) (and (OF C) (and (OF E) (and (OF F) (and (OF G) (and (OF I) (and (OF J) (and (OF L) (and (OF M) (and (OF N) (and (OF O) (and (OF P) (and (OF Q) (and (OF T) (OF U)))))))))))))))) p
def OH (p:HB):Bool := @HB.rec (fun _ => Bool) (fun A B C E F G I J L M N O P Q T U => and (OG A) (and (OG B) (and (OG C) (and (OG E) (and (OG F) (and (OG G) (and (OG I) (and (OG J) (and (OG L) (and (OG M) (and (OG N) (and (OG O) (and (OG P) (and (OG Q) (and (OG T) (OG U)))))))))))))))) p
def PJ (p:HC):Bool := @HC.rec (fun _ => Bool) (fun A B C E F G I J L M N O P Q T U => and (OH A) (and (OH B) (and (OH C) (and (OH E) (and (OH F) (and (OH G) (and (OH I) (and (OH J) (and (OH L) (and (OH M) (and (OH N) (and (OH O) (and (OH P) (and (OH Q) (and (OH T) (OH U)))))))))))))))) p
theorem F2 {p:HA} (h:OG p=true) (d:D):HA.sel d p=none := by
  cases p with | mk A B C E F G I J L M N O P Q T U =>
  unfold OG at h
  dsimp only at h
  obtain ⟨a0, h⟩ := AU h
  obtain ⟨a1, h⟩ := AU h
  obtain ⟨a2, h⟩ := AU h
  obtain ⟨a3, h⟩ := AU h
  obtain ⟨a4, h⟩ := AU h
  obtain ⟨a5, h⟩ := AU h
  obtain ⟨a6, h⟩ := AU h
  obtain ⟨a7, h⟩ := AU h
  obtain ⟨a8, h⟩ := AU h
  obtain ⟨a9, h⟩ := AU h
  obtain ⟨a10, h⟩ := AU h
  obtain ⟨a11, h⟩ := AU h
  obtain ⟨a12, h⟩ := AU h
  obtain ⟨a13, h⟩ := AU h
  obtain ⟨a14, h⟩ := AU h
  cases d
  · exact ED a0
  · exact ED a1
  · exact ED a2
  · exact ED a3
  · exact ED a4
  · exact ED a5
  · exact ED a6
  · exact ED a7
  · exact ED a8
  · exact ED a9
  · exact ED a10
  · exact ED a11
  · exact ED a12
  · exact ED a13
  · exact ED a14
  · exact ED h
theorem EY {p:HB} (h:OH p=true) (c d:D):HA.sel d (HB.sel c p)=none := by
  cases p with | mk A B C E F G I J L M N O P Q T U =>
  unfold OH at h
  dsimp only at h
  obtain ⟨a0, h⟩ := AU h
  obtain ⟨a1, h⟩ := AU h
  obtain ⟨a2, h⟩ := AU h
  obtain ⟨a3, h⟩ := AU h
  obtain ⟨a4, h⟩ := AU h
  obtain ⟨a5, h⟩ := AU h
  obtain ⟨a6, h⟩ := AU h
  obtain ⟨a7, h⟩ := AU h
  obtain ⟨a8, h⟩ := AU h
  obtain ⟨a9, h⟩ := AU h
  obtain ⟨a10, h⟩ := AU h
  obtain ⟨a11, h⟩ := AU h
  obtain ⟨a12, h⟩ := AU h
  obtain ⟨a13, h⟩ := AU h
  obtain ⟨a14, h⟩ := AU h
  cases c
  · exact F2 a0 d
  · exact F2 a1 d
  · exact F2 a2 d
  · exact F2 a3 d
  · exact F2 a4 d
  · exact F2 a5 d
  · exact F2 a6 d
  · exact F2 a7 d
  · exact F2 a8 d
  · exact F2 a9 d
  · exact F2 a10 d
  · exact F2 a11 d
  · exact F2 a12 d
  · exact F2 a13 d
  · exact F2 a14 d
  · exact F2 h d
theorem Aac {p:HC} (h:PJ p=true) (b c d:D):HA.sel d (HB.sel c (HC.sel b p))=none := by
  cases p with | mk A B C E F G I J L M N O P Q T U =>
  unfold PJ at h
  dsimp only at h
  obtain ⟨a0, h⟩ := AU h
  obtain ⟨a1, h⟩ := AU h
  obtain ⟨a2, h⟩ := AU h
  obtain ⟨a3, h⟩ := AU h
  obtain ⟨a4, h⟩ := AU h
  obtain ⟨a5, h⟩ := AU h
  obtain ⟨a6, h⟩ := AU h
  obtain ⟨a7, h⟩ := AU h
  obtain ⟨a8, h⟩ := AU h
  obtain ⟨a9, h⟩ := AU h
  obtain ⟨a10, h⟩ := AU h
  obtain ⟨a11, h⟩ := AU h
  obtain ⟨a12, h⟩ := AU h
  obtain ⟨a13, h⟩ := AU h
  obtain ⟨a14, h⟩ := AU h
  cases b
  · exact EY a0 c d
  · exact EY a1 c d
  · exact EY a2 c d
  · exact EY a3 c d
  · exact EY a4 c d
  · exact EY a5 c d
  · exact EY a6 c d
  · exact EY a7 c d
  · exact EY a8 c d
  · exact EY a9 c d
  · exact EY a10 c d
  · exact EY a11 c d
  · exact EY a12 c d
  · exact EY a13 c d
  · exact EY a14 c d
  · exact EY h c d
def SJ (f:D->Bool):Bool := and (f .d0) (and (f .d1) (and (f .d2) (and (f .d3) (and (f .d4) (and (f .d5) (and (f .d6) (and (f .d7) (and (f .d8) (and (f .d9) (and (f .d10) (and (f .d11) (and (f .d12) (and (f .d13) (and (f .d14) (f .d15)))))))))))))))
theorem Ol {f:D->Bool} (h:SJ f=true) (d:D):f d=true := by
  unfold SJ at h
  obtain ⟨a0, h⟩ := AU h
  obtain ⟨a1, h⟩ := AU h
  obtain ⟨a2, h⟩ := AU h
  obtain ⟨a3, h⟩ := AU h
  obtain ⟨a4, h⟩ := AU h
  obtain ⟨a5, h⟩ := AU h
  obtain ⟨a6, h⟩ := AU h
  obtain ⟨a7, h⟩ := AU h
  obtain ⟨a8, h⟩ := AU h
  obtain ⟨a9, h⟩ := AU h
  obtain ⟨a10, h⟩ := AU h
  obtain ⟨a11, h⟩ := AU h
  obtain ⟨a12, h⟩ := AU h
  obtain ⟨a13, h⟩ := AU h
  obtain ⟨a14, h⟩ := AU h
  cases d
  · exact a0
  · exact a1
  · exact a2
  · exact a3
  · exact a4
  · exact a5
  · exact a6
  · exact a7
  · exact a8
  · exact a9
  · exact a10
  · exact a11
  · exact a12
  · exact a13
  · exact a14
  · exact h
end Go.Ev

namespace Go.Ev
set_option linter.unusedVariables false
def Xj (n:K4) (p:HC):Bool := SJ fun b => SJ fun c => SJ fun d => @Bool.rec (fun _ => Bool) true (OF (HA.sel d (HB.sel c (HC.sel b p)))) (Nat.ble n.toN (K4.toN ⟨.d0, b, c, d⟩))
theorem Wd {n:K4} {p:HC} (h:Xj n p=true) (b c d:D) (hn:n.toN≤(K4.toN ⟨.d0, b, c, d⟩)):HA.sel d (HB.sel c (HC.sel b p))=none := by
  have h1 := Ol (Ol (Ol h b) c) d
  rw [show Nat.ble n.toN (K4.toN ⟨.d0, b, c, d⟩)=true from Nat.ble_eq_true_of_le hn] at h1
  exact ED h1
def TY (n:K4) (p:Heap):Bool := and (Xj n (Heap.sel .d0 p)) (SJ fun a => @D.rec (fun _ => Bool) true (PJ (Heap.sel .d1 p)) (PJ (Heap.sel .d2 p)) (PJ (Heap.sel .d3 p)) (PJ (Heap.sel .d4 p)) (PJ (Heap.sel .d5 p)) (PJ (Heap.sel .d6 p)) (PJ (Heap.sel .d7 p)) (PJ (Heap.sel .d8 p)) (PJ (Heap.sel .d9 p)) (PJ (Heap.sel .d10 p)) (PJ (Heap.sel .d11 p)) (PJ (Heap.sel .d12 p)) (PJ (Heap.sel .d13 p)) (PJ (Heap.sel .d14 p)) (PJ (Heap.sel .d15 p)) a)
theorem Wp {n:K4} {p:Heap} (h:TY n p=true):Ay p n := by
  obtain ⟨h1, h2⟩ := AU h
  rintro ⟨a, b, c, d⟩ hq
  show HA.sel d (HB.sel c (HC.sel b (Heap.sel a p)))=none
  have h3 := Ol h2 a
  cases a
  · exact Wd h1 b c d hq
  all_goals exact Aac h3 b c d
def Y1 (r:R):Bool :=
  @R.rec (fun _ => Bool) (fun _ _ _ _ => false) (fun v h n => and (Iw v) (and (Nat.ble n.toN 4000) (TY n h))) (fun _ => false) (fun _ _ _ _ => false) r
theorem WD {r:R} (h:Y1 r=true):∃ h n, r = .rv (.bool true) h n∧n.toN≤4000∧Ay h n := by
  cases r with
  | rv v hh n =>
    obtain ⟨h1, h2⟩ := AU (show and (Iw v) (and (Nat.ble n.toN 4000) (TY n hh))=true from h)
    obtain ⟨h2, h3⟩ := AU h2
    exact ⟨hh, n, by rw [KW h1], Nat.le_of_ble_eq_true h2, Wp h3⟩
  | _ => cases h
end Go.Ev

namespace Go.Ev
set_option linter.unusedVariables false
theorem G7 {a b:Nat} (ha:a<4294967296) (hb:b<4294967296) (h0:0<b) (κ:V->R):FQ (.int .u32 a) (.int .u32 b) κ=κ (.int .u32 (a % b)) := PY (k := .u32) ha hb h0 κ
theorem FW {a b:Nat} (ha:a<4294967296) (hb:b<4294967296) (h0:0<b) (κ:V->R):F1 (.int .u32 a) (.int .u32 b) κ=κ (.int .u32 (a / b)) := S5 (k := .u32) ha hb h0 κ
theorem FM {a b:Nat} (ha:a<18446744073709551616) (hb:b<18446744073709551616) (h0:0<b) (κ:V->R):FQ (.int .u64 a) (.int .u64 b) κ=κ (.int .u64 (a % b)) := PY (k := .u64) ha hb h0 κ
theorem FL {a b:Nat} (ha:a<18446744073709551616) (hb:b<18446744073709551616) (h0:0<b) (κ:V->R):F1 (.int .u64 a) (.int .u64 b) κ=κ (.int .u64 (a / b)) := S5 (k := .u64) ha hb h0 κ
theorem FV {a b:Nat} (h:a*b<4294967296) (κ:V->R):EG (.int .u32 a) (.int .u32 b) κ=κ (.int .u32 (a*b)) := by
  rw [U3, show (a*b) % Mk .u32=a*b from Nat.mod_eq_of_lt h]
theorem FP {a b:Nat} (h:a+b<4294967296) (κ:V->R):AM (.int .u32 a) (.int .u32 b) κ=κ (.int .u32 (a+b)) := by
  rw [S3, show (a+b) % Mk .u32=a+b from Nat.mod_eq_of_lt h]
theorem Hq {a b:Nat} (h:a+b<256) (κ:V->R):AM (.int .u8 a) (.int .u8 b) κ=κ (.int .u8 (a+b)) := by
  rw [S3, show (a+b) % Mk .u8=a+b from Nat.mod_eq_of_lt h]
theorem E7 {a:Nat} (h:a<4294967296) (κ:V->R):B2 .u32 (.int .u64 a) κ=κ (.int .u32 a) := by
  rw [H3 (k := .u32) (j := .u64) (Nat.lt_trans h (by decide)), show a % Mk .u32=a from Nat.mod_eq_of_lt h]
theorem FI {a:Nat} (h:a<256) (κ:V->R):B2 .u8 (.int .u32 a) κ=κ (.int .u8 a) := by
  rw [H3 (k := .u8) (j := .u32) (Nat.lt_trans h (by decide)), show a % Mk .u8=a from Nat.mod_eq_of_lt h]
/-- The library's texts of two digits, and of one. -/
def YP:Nat := 9938655150514779720929161263213647789093395803754561035662628441001274968862597953692946393464194303251501229616933063375291039650253924995779037586872666250072396106842829501851083234932712366962979930255066872747696324303968523733872590022915936937156789320557469720923390131174387415513794469201054844961267015441141542819553679203788501627738430154234325528792480477051962324423099068299719245009424585859096469223093538032153047611602695245052081125123941502624659711709950000
def SDA:Nat := 237927390410950444456928663707796224754864904193074819559483181009558347043374296609072
theorem smB:T7 (fun i => Nat.beq (lo (sh YP (i*2)) 1) (48+i / 10)&&Nat.beq (lo (sh YP (i*2+1)) 1) (48+i % 10)) 100=true := by kernel_rfl
theorem sdB:T7 (fun i => Nat.beq (lo (sh SDA i) 1) (48+i)) 10=true := by kernel_rfl
theorem XG {i:Nat} (h:i<100):lo (sh YP (i*2)) 1=48+i / 10∧lo (sh YP (i*2+1)) 1=48+i % 10 := by
  have e := Kv smB i h
  rw [Bool.and_eq_true] at e
  exact ⟨Nat.eq_of_beq_eq_true e.1, Nat.eq_of_beq_eq_true e.2⟩
theorem ZM {i:Nat} (h:i<10):lo (sh SDA i) 1=48+i := Nat.eq_of_beq_eq_true (Kv sdB i h)
theorem JJ {i:Nat} (h:i<100) (κ:V->R):Cn (.str 200 9938655150514779720929161263213647789093395803754561035662628441001274968862597953692946393464194303251501229616933063375291039650253924995779037586872666250072396106842829501851083234932712366962979930255066872747696324303968523733872590022915936937156789320557469720923390131174387415513794469201054844961267015441141542819553679203788501627738430154234325528792480477051962324423099068299719245009424585859096469223093538032153047611602695245052081125123941502624659711709950000) (.int .u32 (i*2)) κ=κ (.int .u8 (48+i / 10)) := by
  show br (Nat.ble (Nat.succ (i*2)) 4294967296) (br (Nat.ble (Nat.succ (i*2)) 200) (Aa (Ev.lo (sh YP (i*2)) 1) fun r => κ (.int .u8 r)) (.fail "")) _=_
  rw [show Nat.ble (Nat.succ (i*2)) 4294967296=true from Ab.2 (by omega), Ac, show Nat.ble (Nat.succ (i*2)) 200=true from Ab.2 (by omega), Ac, A7, (XG h).1]
theorem JX {i:Nat} (h:i<100) (κ:V->R):Cn (.str 200 9938655150514779720929161263213647789093395803754561035662628441001274968862597953692946393464194303251501229616933063375291039650253924995779037586872666250072396106842829501851083234932712366962979930255066872747696324303968523733872590022915936937156789320557469720923390131174387415513794469201054844961267015441141542819553679203788501627738430154234325528792480477051962324423099068299719245009424585859096469223093538032153047611602695245052081125123941502624659711709950000) (.int .u32 (i*2+1)) κ=κ (.int .u8 (48+i % 10)) := by
  show br (Nat.ble (Nat.succ (i*2+1)) 4294967296) (br (Nat.ble (Nat.succ (i*2+1)) 200) (Aa (Ev.lo (sh YP (i*2+1)) 1) fun r => κ (.int .u8 r)) (.fail "")) _=_
  rw [show Nat.ble (Nat.succ (i*2+1)) 4294967296=true from Ab.2 (by omega), Ac, show Nat.ble (Nat.succ (i*2+1)) 200=true from Ab.2 (by omega), Ac, A7, (XG h).2]
/-- Bytes of an array, as cells. -/
def uc (l:List UInt8):List V := l.map fun b => .int .u8 b.toNat
theorem QE (l:List UInt8):(uc l).length=l.length := List.length_map _
theorem Ph:∀ (l:List UInt8) (κ:Nat->Nat->R) (e:R), Cu (uc l) κ e=κ l.length (Ar l)
  | [], κ, e => rfl
  | b::l, κ, e => by
    show JT (.int .u8 b.toNat) (fun r => Cu (uc l) (fun n c => Aa (Nat.succ n) fun n => Aa (Nat.add r (Nat.mul 256 c)) fun c => κ n c) e) e=_
    have e1:∀ (F:Nat->R), JT (.int .u8 b.toNat) F e=F b.toNat := fun F => by
      show br (Nat.ble b.toNat 255) (F b.toNat) e=_
      rw [show Nat.ble b.toNat 255=true from Ab.2 (by have := b.toNat_lt; omega), Ac]
    rw [e1, Ph l, A7, A7]
    rfl
end Go.Ev

namespace Go.Ev
set_option linter.unusedVariables false
/-- Bytes whose places satisfy A. -/
def ES (A:K4->Prop) (n:K4) (h:Heap) (c:V) (l:List UInt8):Prop := (c = .nil .sl∧l=[]) ∨ ∃ p ex pr, c = .sl p 0 l.length l.length ex 1∧A9 p h=some (.c (cb l) false pr)∧A p∧p.toN<n.toN∧(pr=none ∨ ∃ q, pr=some q∧A q∧q.toN<n.toN)
theorem Fx.toA {lo:Nat} {A:K4->Prop} {n:K4} {h:Heap} {c:V} {l:List UInt8} (H:Fx lo n h c l) (hA:∀ q:K4, lo≤q.toN->q.toN<n.toN->A q):ES A n h c l := by
  rcases H with H | ⟨p, ex, pr, h1, h2, h3, h4, h5⟩
  · exact .inl H
  · refine .inr ⟨p, ex, pr, h1, h2, hA p h3 h4, h4, ?_⟩
    rcases h5 with h5 | ⟨q, h5, h6, h7⟩
    · exact .inl h5
    · exact .inr ⟨q, h5, hA q h6 h7, h7⟩
theorem ES.toP {lo:Nat} {A:K4->Prop} {n:K4} {h:Heap} {c:V} {l:List UInt8} (H:ES A n h c l) (hA:∀ q:K4, A q->lo≤q.toN):Fx lo n h c l := by
  rcases H with H | ⟨p, ex, pr, h1, h2, h3, h4, h5⟩
  · exact .inl H
  · refine .inr ⟨p, ex, pr, h1, h2, hA p h3, h4, ?_⟩
    rcases h5 with h5 | ⟨q, h5, h6, h7⟩
    · exact .inl h5
    · exact .inr ⟨q, h5, hA q h6, h7⟩
theorem ES.frame {A:K4->Prop} {n n':K4} {h h':Heap} {c:V} {l:List UInt8} (H:ES A n h c l) (hn:n.toN≤n'.toN) (e:∀ q:K4, A q->q.toN<n.toN->A9 q h'=A9 q h):ES A n' h' c l := by
  rcases H with H | ⟨p, ex, pr, h1, h2, h3, h4, h5⟩
  · exact .inl H
  · refine .inr ⟨p, ex, pr, h1, (e p h3 h4).trans h2, h3, by omega, ?_⟩
    rcases h5 with h5 | ⟨q, h5, h6, h7⟩
    · exact .inl h5
    · exact .inr ⟨q, h5, h6, by omega⟩
theorem ES.src {A:K4->Prop} {n:K4} {h:Heap} {c:V} {l:List UInt8} (H:ES A n h c l):FD c l h := by
  rcases H with ⟨rfl, rfl⟩ | ⟨p, ex, pr, rfl, h2, _⟩
  · exact .inr (.inl ⟨rfl, rfl⟩)
  · exact .inr (.inr ⟨p, 0, l.length, ex, l, false, pr, rfl, h2, by omega, by rw [List.drop_zero, List.take_length]⟩)
theorem Y7 {A:K4->Prop} {n:K4} {h:Heap} {c v:V} {l b:List UInt8} {y:Cs} (H:ES A n h c l) (hA:∀ q:K4, n.toN≤q.toN->A q) (hs:∀ κ:Nat->Cs->R, H8 1 v h κ=κ b.length y) (hy:0<b.length->y=cb b) (hb:l.length+b.length≤1000000000) (hn:n.toN<65000) :
    ∃ c' h' n', (∀ κ:KV, C3 1 1 c v h n κ=κ c' h' n')∧ES A n' h' c' (l++b)∧n.toN≤n'.toN∧n'.toN≤n.toN+1∧(∀ q:K4, ¬ A q->A9 q h'=A9 q h)∧(Ay h n->Ay h' n') := by
  have u1 := K4.up_toN (p := n) (by omega)
  have e0:∀ κ:KV, C3 1 1 c v h n κ=BR 1 1 c b.length y h n κ := fun κ => by
    show H8 1 v h (fun m y => BR 1 1 c m y h n κ)=_
    rw [hs]
  have hAn:A n := hA n (Nat.le_refl _)
  have hne:∀ q:K4, ¬ A q->q≠n := fun q hq e => hq (e ▸ hAn)
  rcases Nat.eq_zero_or_pos b.length with h0 | h0
  · obtain rfl := List.length_eq_zero_iff.1 h0
    refine ⟨c, h, n, fun κ => (e0 κ).trans (Lj ?_ _ _ _ _), by rw [List.append_nil]; exact H, by omega, by omega, fun q _ => rfl, fun h => h⟩
    rcases H with ⟨rfl, _⟩ | ⟨p, ex, pr, rfl, _⟩
    · exact .inl rfl
    · exact .inr ⟨p, _, _, _, ex, rfl⟩
  · obtain rfl := hy h0
    rcases H with ⟨rfl, rfl⟩ | ⟨p, ex, pr, rfl, h2, h3, h4, h5⟩
    · refine ⟨_, _, _, fun κ => (e0 κ).trans (Od h0 (by omega) (by omega) _ _ _), ?_, by omega, by omega, fun q hq => A8 _ _ (hne q hq).symm, fun hf q hq => (AG (by omega) _ _).trans (hf q (by omega))⟩
      exact .inr ⟨n, false, none, rfl, A6 _ _ _, hAn, by omega, .inl rfl⟩
    · cases ex with
      | true =>
        refine ⟨_, _, _, fun κ => (e0 κ).trans ((Fu h2 h0 (by omega) (by omega) κ).trans (if_pos rfl)), ?_, by omega, by omega, fun q hq => A8 _ _ (hne q hq).symm, fun hf q hq => (AG (by omega) _ _).trans (hf q (by omega))⟩
        exact .inr ⟨n, false, none, rfl, A6 _ _ _, hAn, by omega, .inl rfl⟩
      | false =>
        refine ⟨_, _, _, fun κ => (e0 κ).trans ((Fu h2 h0 (by omega) (by omega) κ).trans (if_neg (by decide))), ?_, by omega, by omega, fun q hq => ?_, fun hf q hq => ?_⟩
        · exact .inr ⟨n, false, some p, rfl, A6 _ _ _, hAn, by omega, .inr ⟨p, rfl, h3, by omega⟩⟩
        · rw [A8 _ _ (hne q hq).symm, A8 _ _ (show p≠q from fun e => hq (e ▸ h3))]
          rcases h5 with rfl | ⟨r, rfl, h6, h7⟩
          · rfl
          · exact A8 _ _ (show r≠q from fun e => hq (e ▸ h6))
        · rw [AG (by omega), AG (by omega)]
          rcases h5 with rfl | ⟨r, rfl, h6, h7⟩
          · exact hf q (by omega)
          · exact (A8 _ _ (K4.ne_of_lt (by omega))).trans (hf q (by omega))
theorem Kr {A:K4->Prop} {n:K4} {h:Heap} {c v:V} {l b:List UInt8} (H:ES A n h c l) (hA:∀ q:K4, n.toN≤q.toN->A q) (hs:FD v b h) (hb:l.length+b.length≤1000000000) (hn:n.toN<65000) :
    ∃ c' h' n', (∀ κ:KV, C3 1 1 c v h n κ=κ c' h' n')∧ES A n' h' c' (l++b)∧n.toN≤n'.toN∧n'.toN≤n.toN+1∧(∀ q:K4, ¬ A q->A9 q h'=A9 q h)∧(Ay h n->Ay h' n') := by
  obtain ⟨y, h1, h2⟩ := hs.src
  exact Y7 H hA h1 h2 hb hn
theorem WQ {A:K4->Prop} {n:K4} {h:Heap} {c:V} {l b:List UInt8} (H:ES A n h c l) (hA:∀ q:K4, n.toN≤q.toN->A q) (hb:l.length+b.length≤1000000000) (hn:n.toN<65000) :
    ∃ c' h' n', (∀ κ:KV, C3 1 1 c (sb b) h n κ=κ c' h' n')∧ES A n' h' c' (l++b)∧n.toN≤n'.toN∧n'.toN≤n.toN+1∧(∀ q:K4, ¬ A q->A9 q h'=A9 q h)∧(Ay h n->Ay h' n') :=
  Y7 H hA (fun κ => Ac6 b h κ) (fun _ => rfl) hb hn
theorem Abq {a b:Nat} (ha:a<256) (hb:b<256) {n:K4} (hn:n.toN<65535) (h:Heap) (κ:KV):Cp true 2 1 [.int .u8 a, .int .u8 b] h n κ=κ (.sl n 0 2 2 true 1) (Ae n h (some (.c (cb [UInt8.ofNat a, UInt8.ofNat b]) false none))) n.up := by
  show br (Nat.ble a 255) (br (Nat.ble b 255) (Aa (Nat.succ 0) fun m => Aa (Nat.add b (Nat.mul 256 0)) fun c => Aa (Nat.succ m) fun m => Aa (Nat.add a (Nat.mul 256 c)) fun c => DZ h n (.c (.b m c) false none) fun h' n' => κ (.sl n 0 2 2 true 1) h' n') (.fail "")) (.fail "")=_
  rw [show Nat.ble a 255=true from Ab.2 (by omega), Ac, show Nat.ble b 255=true from Ab.2 (by omega), Ac, A7, A7, A7, A7, Du hn]
  have e:(UInt8.ofNat a).toNat=a := by show a % 256=a; omega
  have e':(UInt8.ofNat b).toNat=b := by show b % 256=b; omega
  show κ _ (Ae n h (some (.c (.b 2 (a+256*(b+256*0))) false none))) n.up=κ _ (Ae n h (some (.c (.b 2 ((UInt8.ofNat a).toNat+256*((UInt8.ofNat b).toNat+256*0))) false none))) n.up
  rw [e, e']
theorem YE {p:K4} {h:Heap} {cs:Cs} {s:Bool} {pr:Option K4} {o l c z:Nat} {ex:Bool} (hp:A9 p h=some (.c cs s pr)) (κ:V->R):JC (.sl p o l c ex z) h κ=κ (.sl p o l c ex z) := by
  show JV p h (fun _ _ _ => κ (.sl p o l c ex z))=_
  rw [Dj, ET hp]
theorem Zt (l:List UInt8) (h:Heap) {n:K4} (hn:n.toN<65535) (κ:KV):Nd (sb l) h n κ=κ (.sl n 0 l.length l.length false 1) (Ae n h (some (.c (cb l) false none))) n.up := by
  show DZ h n (.c (.b l.length (Ar l)) false none) (fun h' n' => κ (.sl n 0 l.length l.length false 1) h' n')=_
  rw [Du hn]; rfl
end Go.Ev

namespace Go.Ev
set_option linter.unusedVariables false
theorem ES.mono {A A':K4->Prop} {n n':K4} {h h':Heap} {c:V} {l:List UInt8} (H:ES A n h c l) (hn:n.toN≤n'.toN) (hP:∀ q:K4, q.toN<n.toN->A q->A' q) (e:∀ q:K4, q.toN<n.toN->A q->A9 q h'=A9 q h):ES A' n' h' c l := by
  rcases H with H | ⟨p, ex, pr, h1, h2, h3, h4, h5⟩
  · exact .inl H
  · refine .inr ⟨p, ex, pr, h1, (e p h4 h3).trans h2, hP p h4 h3, by omega, ?_⟩
    rcases h5 with h5 | ⟨q, h5, h6, h7⟩
    · exact .inl h5
    · exact .inr ⟨q, h5, hP q h7 h6, by omega⟩
theorem ES.len {A:K4->Prop} {n:K4} {h:Heap} {c:V} {l:List UInt8} (H:ES A n h c l) (hl:l.length<9223372036854775808) (κ:V->R):AJ c κ=κ (.int .i64 l.length) := by
  rcases H with ⟨rfl, rfl⟩ | ⟨p, ex, pr, rfl, _⟩
  · rfl
  · exact Co hl κ
/-- A slice of cells whose places satisfy A. -/
def I8 (A:K4->Prop) (n:K4) (h:Heap) (z:Nat) (v:V) (l:List V) (k:Nat):Prop := (v = .nil .sl∧l=[]∧k=0) ∨ ∃ p ex pr, v = .sl p 0 k k ex z∧A9 p h=some (.c (.l l) false pr)∧l.length=k*z∧A p∧p.toN<n.toN∧(pr=none ∨ ∃ q, pr=some q∧A q∧q.toN<n.toN)
theorem I8.mono {A A':K4->Prop} {n n':K4} {h h':Heap} {z:Nat} {v:V} {l:List V} {k:Nat} (H:I8 A n h z v l k) (hn:n.toN≤n'.toN) (hP:∀ q:K4, q.toN<n.toN->A q->A' q) (e:∀ q:K4, q.toN<n.toN->A q->A9 q h'=A9 q h):I8 A' n' h' z v l k := by
  rcases H with H | ⟨p, ex, pr, h1, h2, h3, h4, h5, h6⟩
  · exact .inl H
  · refine .inr ⟨p, ex, pr, h1, (e p h5 h4).trans h2, h3, hP p h5 h4, by omega, ?_⟩
    rcases h6 with h6 | ⟨q, h6, h7, h8⟩
    · exact .inl h6
    · exact .inr ⟨q, h6, hP q h8 h7, by omega⟩
theorem I8.len {A:K4->Prop} {n:K4} {h:Heap} {z:Nat} {v:V} {l:List V} {k:Nat} (H:I8 A n h z v l k) (hl:k<9223372036854775808) (κ:V->R):AJ v κ=κ (.int .i64 k) := by
  rcases H with ⟨rfl, rfl, rfl⟩ | ⟨p, ex, pr, rfl, _⟩
  · rfl
  · exact Co hl κ
theorem I8.ls {A:K4->Prop} {n:K4} {h:Heap} {z:Nat} {v:V} {l:List V} {k:Nat} (H:I8 A n h z v l k) (av:List K4) (hav:∀ q∈av, ¬ A q):LS h n av z v l k := by
  rcases H with H | ⟨p, ex, pr, h1, h2, h3, h4, h5, h6⟩
  · exact .inl H
  · exact .inr ⟨p, 0, k, ex, l, false, pr, h1, h2, by omega, by rw [List.drop_zero, ←h3, List.take_length], h5, fun q hq e => hav q hq (e ▸ h4)⟩
theorem YC {A:K4->Prop} {n:K4} {h:Heap} {z eb:Nat} {v:V} {l b:List V} {k m:Nat} (H:I8 A n h z v l k) (hA:∀ q:K4, n.toN≤q.toN->A q) (hb:b.length=m*z) (hm:0<m) (hs:(4*(k+m)+4096)*eb≤281474976710656) (hn:n.toN<65000) :
    ∃ h', (∀ κ:KV, BR z eb v m (.l b) h n κ=κ (.sl n 0 (k+m) (k+m) false z) h' n.up)∧I8 A n.up h' z (.sl n 0 (k+m) (k+m) false z) (l++b) (k+m)∧(∀ q:K4, ¬ A q->A9 q h'=A9 q h)∧(Ay h n->Ay h' n.up) := by
  have u1 := K4.up_toN (p := n) (by omega)
  have hAn:A n := hA n (Nat.le_refl _)
  have hne:∀ q:K4, ¬ A q->q≠n := fun q hq e => hq (e ▸ hAn)
  rcases H with ⟨rfl, rfl, rfl⟩ | ⟨p, ex, pr, rfl, h2, h3, h4, h5, h6⟩
  · refine ⟨_, fun κ => ?_, .inr ⟨n, false, none, rfl, A6 _ _ _, by rw [List.nil_append, hb, Nat.zero_add], hAn, by omega, .inl rfl⟩, fun q hq => A8 _ _ (hne q hq).symm, fun hf q hq => (AG (by omega) _ _).trans (hf q (by omega))⟩
    rw [Ou hm (by rw [Nat.zero_add] at hs; exact hs) (by omega)]; simp only [List.nil_append, Nat.zero_add]
  · have e0 := fun κ => SF (eb := eb) (ex := ex) (b := b) (m := m) h2 h3 hm hs hn κ
    have hll:(l++b).length=(k+m)*z := by rw [List.length_append, h3, hb, Nat.add_mul]
    cases ex with
    | true =>
      exact ⟨_, fun κ => (e0 κ).trans (Ac _ _), .inr ⟨n, false, none, rfl, A6 _ _ _, hll, hAn, by omega, .inl rfl⟩, fun q hq => A8 _ _ (hne q hq).symm, fun hf q hq => (AG (by omega) _ _).trans (hf q (by omega))⟩
    | false =>
      refine ⟨_, fun κ => (e0 κ).trans (Ai _ _), .inr ⟨n, false, some p, rfl, A6 _ _ _, hll, hAn, by omega, .inr ⟨p, rfl, h4, by omega⟩⟩, fun q hq => ?_, fun hf q hq => ?_⟩
      · rw [A8 _ _ (hne q hq).symm, A8 _ _ (show p≠q from fun e => hq (e ▸ h4))]
        rcases h6 with rfl | ⟨r, rfl, h7, h8⟩
        · rfl
        · exact A8 _ _ (show r≠q from fun e => hq (e ▸ h7))
      · rw [AG (by omega), AG (by omega)]
        rcases h6 with rfl | ⟨r, rfl, h7, h8⟩
        · exact hf q (by omega)
        · exact (A8 _ _ (K4.ne_of_lt (by omega))).trans (hf q (by omega))
end Go.Ev
