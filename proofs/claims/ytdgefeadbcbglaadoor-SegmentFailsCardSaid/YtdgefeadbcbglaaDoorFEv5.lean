/- AN EVALUATOR OF THE MODEL OF Go, PROVED SOUND, PART 5: what it says of a call holds in every world, on every tape. Conditions: none of its own; each theorem bears its premises. -/
import Derived.Test.YtdgefeadbcbglaaDoorFEv4
import Derived.ChangeSame
import Derived.Deep.Slices
import Derived.Shelf.Strconv.Itoa1
import GoSem.ClaimGoes
noncomputable section
set_option linter.unusedSimpArgs false
set_option linter.unusedVariables false
namespace Go.Ev
set_option linter.unusedVariables false
/-- What a function is: code, or a step of the evaluator's own. -/
inductive Ent where
  | code (entry:List V->(S->R)->R) (body:FX->S->Heap->K4->R) (res:S->Heap->K4->R)
  | prim (p:Ou)
  | br (k:Nat) (entry:List V->(S->R)->R) (body:FX->S->Heap->K4->R) (res:S->Heap->K4->R)
  | ap (f:Nat) (its:List Nat) (rd:Rd)
  | tree (p:Ou)
abbrev DC := Option Ent
/-- Sixteen functions. -/
inductive FA where
  | mk (A B C E F G I J L M N O P Q T U:DC)
def FA.sel (d:D) (p:FA):DC :=
  @FA.rec (fun _ => DC) (fun A B C E F G I J L M N O P Q T U => @D.rec (fun _ => DC) A B C E F G I J L M N O P Q T U d) p
def Afn (p:FA) (k:DC->R):R := @FA.rec (fun _ => R) (fun A B C E F G I J L M N O P Q T U => k A) p
def Agm (p:FA) (k:DC->R):R := @FA.rec (fun _ => R) (fun A B C E F G I J L M N O P Q T U => k B) p
def Aby (p:FA) (k:DC->R):R := @FA.rec (fun _ => R) (fun A B C E F G I J L M N O P Q T U => k C) p
def Ad8 (p:FA) (k:DC->R):R := @FA.rec (fun _ => R) (fun A B C E F G I J L M N O P Q T U => k E) p
def Adq (p:FA) (k:DC->R):R := @FA.rec (fun _ => R) (fun A B C E F G I J L M N O P Q T U => k F) p
def Agh (p:FA) (k:DC->R):R := @FA.rec (fun _ => R) (fun A B C E F G I J L M N O P Q T U => k G) p
def Ac2 (p:FA) (k:DC->R):R := @FA.rec (fun _ => R) (fun A B C E F G I J L M N O P Q T U => k I) p
def Af3 (p:FA) (k:DC->R):R := @FA.rec (fun _ => R) (fun A B C E F G I J L M N O P Q T U => k J) p
def Afg (p:FA) (k:DC->R):R := @FA.rec (fun _ => R) (fun A B C E F G I J L M N O P Q T U => k L) p
def Aen (p:FA) (k:DC->R):R := @FA.rec (fun _ => R) (fun A B C E F G I J L M N O P Q T U => k M) p
def Zq (p:FA) (k:DC->R):R := @FA.rec (fun _ => R) (fun A B C E F G I J L M N O P Q T U => k N) p
def Abk (p:FA) (k:DC->R):R := @FA.rec (fun _ => R) (fun A B C E F G I J L M N O P Q T U => k O) p
def Abc (p:FA) (k:DC->R):R := @FA.rec (fun _ => R) (fun A B C E F G I J L M N O P Q T U => k P) p
def Zo (p:FA) (k:DC->R):R := @FA.rec (fun _ => R) (fun A B C E F G I J L M N O P Q T U => k Q) p
def ZF (p:FA) (k:DC->R):R := @FA.rec (fun _ => R) (fun A B C E F G I J L M N O P Q T U => k T) p
def Ab8 (p:FA) (k:DC->R):R := @FA.rec (fun _ => R) (fun A B C E F G I J L M N O P Q T U => k U) p
def FA.selK (d:D):FA->(DC->R)->R :=
  @D.rec (fun _ => FA->(DC->R)->R) Afn Agm Aby Ad8 Adq Agh Ac2 Af3 Afg Aen Zq Abk Abc Zo ZF Ab8 d
theorem FA.selK_eq (d:D) (p:FA) (k:DC->R):FA.selK d p k=k (FA.sel d p) := by
  cases d <;> cases p <;> rfl
/-- Of those sixteen. -/
inductive FB where
  | mk (A B C E F G I J L M N O P Q T U:FA)
def FB.sel (d:D) (p:FB):FA :=
  @FB.rec (fun _ => FA) (fun A B C E F G I J L M N O P Q T U => @D.rec (fun _ => FA) A B C E F G I J L M N O P Q T U d) p
def Adn (p:FB) (k:FA->R):R := @FB.rec (fun _ => R) (fun A B C E F G I J L M N O P Q T U => k A) p
def Agn (p:FB) (k:FA->R):R := @FB.rec (fun _ => R) (fun A B C E F G I J L M N O P Q T U => k B) p
def Aec (p:FB) (k:FA->R):R := @FB.rec (fun _ => R) (fun A B C E F G I J L M N O P Q T U => k C) p
def Aey (p:FB) (k:FA->R):R := @FB.rec (fun _ => R) (fun A B C E F G I J L M N O P Q T U => k E) p
def Afv (p:FB) (k:FA->R):R := @FB.rec (fun _ => R) (fun A B C E F G I J L M N O P Q T U => k F) p
def Adu (p:FB) (k:FA->R):R := @FB.rec (fun _ => R) (fun A B C E F G I J L M N O P Q T U => k G) p
def Ag1 (p:FB) (k:FA->R):R := @FB.rec (fun _ => R) (fun A B C E F G I J L M N O P Q T U => k I) p
def Afy (p:FB) (k:FA->R):R := @FB.rec (fun _ => R) (fun A B C E F G I J L M N O P Q T U => k J) p
def Adi (p:FB) (k:FA->R):R := @FB.rec (fun _ => R) (fun A B C E F G I J L M N O P Q T U => k L) p
def Afl (p:FB) (k:FA->R):R := @FB.rec (fun _ => R) (fun A B C E F G I J L M N O P Q T U => k M) p
def ZG (p:FB) (k:FA->R):R := @FB.rec (fun _ => R) (fun A B C E F G I J L M N O P Q T U => k N) p
def Zt (p:FB) (k:FA->R):R := @FB.rec (fun _ => R) (fun A B C E F G I J L M N O P Q T U => k O) p
def Aaq (p:FB) (k:FA->R):R := @FB.rec (fun _ => R) (fun A B C E F G I J L M N O P Q T U => k P) p
def Aam (p:FB) (k:FA->R):R := @FB.rec (fun _ => R) (fun A B C E F G I J L M N O P Q T U => k Q) p
def Aad (p:FB) (k:FA->R):R := @FB.rec (fun _ => R) (fun A B C E F G I J L M N O P Q T U => k T) p
def Ab3 (p:FB) (k:FA->R):R := @FB.rec (fun _ => R) (fun A B C E F G I J L M N O P Q T U => k U) p
def FB.selK (d:D):FB->(FA->R)->R :=
  @D.rec (fun _ => FB->(FA->R)->R) Adn Agn Aec Aey Afv Adu Ag1 Afy Adi Afl ZG Zt Aaq Aam Aad Ab3 d
theorem FB.selK_eq (d:D) (p:FB) (k:FA->R):FB.selK d p k=k (FB.sel d p) := by
  cases d <;> cases p <;> rfl
/-- The table of the functions. -/
inductive FC where
  | mk (A B C E F G I J L M N O P Q T U:FB)
def FC.sel (d:D) (p:FC):FB :=
  @FC.rec (fun _ => FB) (fun A B C E F G I J L M N O P Q T U => @D.rec (fun _ => FB) A B C E F G I J L M N O P Q T U d) p
def Acw (p:FC) (k:FB->R):R := @FC.rec (fun _ => R) (fun A B C E F G I J L M N O P Q T U => k A) p
def Acb (p:FC) (k:FB->R):R := @FC.rec (fun _ => R) (fun A B C E F G I J L M N O P Q T U => k B) p
def Aee (p:FC) (k:FB->R):R := @FC.rec (fun _ => R) (fun A B C E F G I J L M N O P Q T U => k C) p
def Ady (p:FC) (k:FB->R):R := @FC.rec (fun _ => R) (fun A B C E F G I J L M N O P Q T U => k E) p
def Ada (p:FC) (k:FB->R):R := @FC.rec (fun _ => R) (fun A B C E F G I J L M N O P Q T U => k F) p
def Abw (p:FC) (k:FB->R):R := @FC.rec (fun _ => R) (fun A B C E F G I J L M N O P Q T U => k G) p
def Agd (p:FC) (k:FB->R):R := @FC.rec (fun _ => R) (fun A B C E F G I J L M N O P Q T U => k I) p
def Agj (p:FC) (k:FB->R):R := @FC.rec (fun _ => R) (fun A B C E F G I J L M N O P Q T U => k J) p
def Af0 (p:FC) (k:FB->R):R := @FC.rec (fun _ => R) (fun A B C E F G I J L M N O P Q T U => k L) p
def Abx (p:FC) (k:FB->R):R := @FC.rec (fun _ => R) (fun A B C E F G I J L M N O P Q T U => k M) p
def Aa2 (p:FC) (k:FB->R):R := @FC.rec (fun _ => R) (fun A B C E F G I J L M N O P Q T U => k N) p
def Aab (p:FC) (k:FB->R):R := @FC.rec (fun _ => R) (fun A B C E F G I J L M N O P Q T U => k O) p
def Abq (p:FC) (k:FB->R):R := @FC.rec (fun _ => R) (fun A B C E F G I J L M N O P Q T U => k P) p
def Zb (p:FC) (k:FB->R):R := @FC.rec (fun _ => R) (fun A B C E F G I J L M N O P Q T U => k Q) p
def Aac (p:FC) (k:FB->R):R := @FC.rec (fun _ => R) (fun A B C E F G I J L M N O P Q T U => k T) p
def Zv (p:FC) (k:FB->R):R := @FC.rec (fun _ => R) (fun A B C E F G I J L M N O P Q T U => k U) p
def FC.selK (d:D):FC->(FB->R)->R :=
  @D.rec (fun _ => FC->(FB->R)->R) Acw Acb Aee Ady Ada Abw Agd Agj Af0 Abx Aa2 Aab Abq Zb Aac Zv d
theorem FC.selK_eq (d:D) (p:FC) (k:FB->R):FC.selK d p k=k (FC.sel d p) := by
  cases d <;> cases p <;> rfl
def B7 (k:K3) (T:FC):DC := FA.sel k.c (FB.sel k.b (FC.sel k.a T))
def WT (k:K3) (T:FC) (κ:DC->R):R := @K3.rec (fun _ => R) (fun a b c => FC.selK a T fun x => FB.selK b x fun y => FA.selK c y κ) k
theorem Sn (k:K3) (T:FC) (κ:DC->R):WT k T κ=κ (B7 k T) := by
  cases k; simp only [WT, B7, FC.selK_eq, FB.selK_eq, FA.selK_eq]
abbrev OR (ps:List K2):List V->Regs->(Regs->R)->R :=
  @List.rec K2 (fun _ => List V->Regs->(Regs->R)->R) (fun l t κ => S4 l (κ t)) (fun p _ ih l t κ => Kf l fun v l => Ol p t v fun t => ih l t κ) ps
theorem OJ:∀ (ps:List K2) (l:List V) (t:Regs) (κ:Regs->R), OR ps l t κ=SN l ps t κ
  | [], l, t, κ => by cases l <;> rfl
  | p::ps, l, t, κ => by
    cases l with
    | nil => rfl
    | cons v l =>
      show Ol p t v (fun t => OR ps l t κ)=Ol p t v fun t => SN l ps t κ
      rw [NQ, NQ, OJ]
def L5 (r:R) (res:S->Heap->K4->R):R :=
  @R.rec (fun _ => R) (fun e t h n => @Ex.rec (fun _ => R) (res t h n) (AO "") (res t h n) e) (C1 "") (fun w => .fail w) (fun _ _ a b => .both a b) r
def L9 (r:R):R := @R.rec (fun _ => R) (Fq "") (fun v h n => .rv v h n) (fun w => .fail w) (Fq "") r
def XG (v:V) (yes no:R):R :=
  @V.rec (fun _ => R) (fun _ => Unit) (fun _ _ => no) (fun _ => no) (fun _ _ => no) (fun _ _ _ _ _ _ => no) (fun _ _ => no) (fun _ _ => no) (fun _ => no) (fun _ => no) (fun _ _ _ => no) (fun _ _ => no)
    (fun o => @Ot.rec (fun _ => R) no (fun _ => no) (fun _ => no) yes (fun _ _ _ => no) (fun _ _ => no) no (fun _ _ => no) (fun _ _ _ _ => no) (fun _ _ _ _ => no) (fun _ _ _ => no) (fun _ _ => no) (fun _ _ => no) (fun _ _ _ => no) (fun _ => no) o) () (fun _ _ _ _ => ()) v
def apX (f:Nat) (its:List Nat) (rd:Rd) (cf:FX) (args:List V) (h:Heap) (n:K4):R :=
  Kf args fun v l => XG v (Kf l fun b l => Kf l fun x l => S4 l (rd cf b x h n)) (YL f its cf args h n)
def M1 (cf:FX) (o:DC) (args:List V) (h:Heap) (n:K4):R :=
  @Option.rec Ent (fun _ => R) (.fail "") (fun e => @Ent.rec (fun _ => R) (fun entry body res => entry args fun t => L5 (body cf t h n) res) (fun p => L9 (p args h n)) (fun k entry body res => L9 (brK k (fun hs => entry args fun t => L5 (body cf t hs n) res) args h n)) (fun f its rd => apX f its rd cf args h n) (fun p => p args h n) e) o
/-- What a call comes to. -/
def Ak (T:FC) (m:Nat):FX :=
  @Nat.rec (fun _ => FX) (Fq "") (fun _ ih f args h n => WT f T fun o => M1 ih o args h n) m
/-- The kept registers out of all of them. -/
abbrev Z3 (sm:SM) (t:Regs):S := @List.rec (K2×SL) (fun _ => S) Fw (fun x _ ih => S.put x.2 ih (B5 x.1 t)) sm
theorem Rk {t:Regs}:∀ {sm:SM}, QX sm=true->∀ {p:K2} {s:SL}, Cv p sm=some s->S.get s (Z3 sm t)=B5 p t
  | [], _, p, s, h => by cases h
  | x::l, hok, p, s, h => by
    simp only [QX, Bool.and_eq_true] at hok
    have e1:Z3 (x::l) t=S.put x.2 (Z3 l t) (B5 x.1 t) := rfl
    rw [e1]
    simp only [Cv] at h
    cases hb:K2.beq x.1 p with
    | true =>
      rw [hb] at h
      have h:some x.2=some s := h
      cases h
      rw [S.get_put_same, K2.beq_iff.1 hb]
    | false =>
      rw [hb] at h
      have h:Cv p l=some s := h
      have hne:x.2≠s := fun e => by
        have := List.all_eq_true.1 hok.1 _ (Hy h)
        rw [←e] at this
        simp [SL.beq, O8.beq_self, O4.beq_self] at this
      rw [S.get_put_ne _ _ hne]
      exact Rk hok.2 h
abbrev VM (sm:SM) (r:ARes) (t:S) (h:Heap) (κ:V->R):R :=
  @ARes.rec (fun _ => R) (fun p => Bd sm [] t (.t p) κ) (fun p m => Bd sm [] t (.t p) fun v => Kz v fun q off => Kl q h fun cs _ _ =>
    @Option.rec Nat (fun _ => R) (F6 cs off κ) (fun m => AY cs off m fun y => E6 y fun l => κ (.agg l)) m) r
abbrev RK (sm:SM) (rs:List ARes) (t:S) (h:Heap):(List V->R)->R :=
  @List.rec ARes (fun _ => (List V->R)->R) (fun κ => κ []) (fun r _ ih κ => VM sm r t h fun v => ih fun vs => κ (v::vs)) rs
abbrev Py (sm:SM) (rs:List ARes) (t:S) (h:Heap) (n:K4):R :=
  RK sm rs t h fun l => @List.rec V (fun _ => R) (.rv (.tup []) h n) (fun v vs _ => @List.rec V (fun _ => R) (.rv v h n) (fun _ _ _ => .rv (.tup l) h n) vs) l
/-- A function as it is run. -/
abbrev Af4 (sm:SM) (a:AFn):Ent := @AFn.rec (fun _ => Ent) (fun ps c rs => .code (fun l κ => OR ps l Ln fun t => κ (Z3 sm t)) (fun cf t h n => HS sm cf c r0 [] t h n) (fun t h n => Py sm rs t h n)) a
def ARes.reg (r:ARes):K2 := @ARes.rec (fun _ => K2) (fun p => p) (fun p _ => p) r
def okF (sm:SM) (a:AFn):Bool := QX sm&&(KB sm a.code (fun _ => true) []&&a.rs.all fun r => I9 sm r.reg)
abbrev Abg (sm:SM) (o:Option AFn):DC := @Option.rec AFn (fun _ => DC) none (fun a => some (Af4 sm a)) o
def okO (sm:SM) (o:Option AFn):Bool := @Option.rec AFn (fun _ => Bool) false (fun a => okF sm a) o
section
variable {P:Program} {ρ:Env} {B:Nat}
/-- It is that function. -/
def AR (P:Program) (f:FuncId) (e:Ent):Prop := ∃ sm:SM, Abg sm (Ll P f)=some e∧okO sm (Ll P f)=true
theorem AR.mk {f:FuncId} {e:Ent} (sm:SM) (h:Abg sm (Ll P f)=some e) (k:okO sm (Ll P f)=true):AR P f e := ⟨sm, h, k⟩
/-- It is that function, run on what it can reach. -/
def Ad2 (P:Program) (f:FuncId) (e:Ent):Prop := ∃ k en bo re, e = .br k en bo re∧AR P f (.code en bo re)
/-- It ranges over a function. -/
def Gf (P:Program) (ρ:Env) (f:FuncId) (e:Ent):Prop := ∃ its rd A, e = .ap f its rd∧ρ.ap f=some A∧M0 P f=some A∧V1 P A=some rd ∧ ∀ g∈its, KC P g
/-- A step of the evaluator's own that may come to many ways. -/
def Us (P:Program) (ρ:Env) (B:Nat) (f:FuncId) (p:Ou):Prop :=
  ∀ args h n (Φ:R->Prop), (p args h n).sat Φ->∀ φ w (xs:Array Value), Gam ρ B h n φ w->Bn ρ φ args xs.toList →
    M4 P f xs w fun x w' => ∃ v h1 n1 φ', Φ (.rv v h1 n1)∧Fr h h1 φ φ' n n1 w w'∧Gam ρ B h1 n1 φ' w'∧Al ρ φ' v x
def N8 (P:Program) (ρ:Env) (B:Nat) (f:FuncId) (e:Ent):Prop := (AR P f e∨Ad2 P f e)∨((∃ p, e = .prim p∧Oc P ρ B f p)∨(Gf P ρ f e ∨ ∃ p, e = .tree p∧Us P ρ B f p))
def JK (P:Program) (ρ:Env) (B:Nat) (T:FC):Prop := (∀ f e, B7 (Bj f) T=some e->N8 P ρ B f e) ∧ ∀ f A, ρ.ap f=some A->∃ e, B7 (Bj f) T=some e∧Gf P ρ f e
theorem MX {r:R} {Φ:R->Prop} (h:(L9 r).sat Φ):∃ v h1 n1, r = .rv v h1 n1∧Φ (.rv v h1 n1) := by
  cases r with
  | rv v h1 n1 => exact ⟨v, h1, n1, rfl, h⟩
  | _ => exact h.elim
theorem VK {sm:SM} {r:ARes} {t:Regs} {t':S} (ri:RI sm [] [] t t') (hk:I9 sm r.reg=true) (hp:Heap) (κ:V->R):VM sm r t' hp κ=Ld r t hp κ := by
  have kn:∀ p, I9 sm p=true->E4 sm [] p=true := fun p h => by unfold E4; rw [h, Bool.or_true]
  cases r with
  | tmp p => show Bd sm [] t' (.t p) κ=I8 p t κ; rw [ri.tell (kn p hk), CM]
  | cel p m =>
    show Bd sm [] t' (.t p) _=I8 p t _
    rw [ri.tell (kn p hk), CM, Dk]
theorem OV {sm:SM} {t:Regs} {t':S} (ri:RI sm [] [] t t') {hp:Heap}:∀ {rs:List ARes} {κ:List V->R}, (∀ r∈rs, I9 sm r.reg=true)->RK sm rs t' hp κ=Kj rs t hp κ
  | [], κ, _ => rfl
  | r::rs, κ, h => by
    have e1:RK sm (r::rs) t' hp κ=VM sm r t' hp fun v => RK sm rs t' hp fun vs => κ (v::vs) := rfl
    have e2:Kj (r::rs) t hp κ=Ld r t hp fun v => Kj rs t hp fun vs => κ (v::vs) := rfl
    rw [e1, e2, VK ri (h r (List.mem_cons_self ..))]
    congr 1; funext v
    exact OV ri fun r hr => h r (List.mem_cons_of_mem _ hr)
theorem U1 {sm:SM} {t:Regs} {t':S} (ri:RI sm [] [] t t') {hp:Heap} {n:K4} {rs:List ARes} (h:∀ r∈rs, I9 sm r.reg=true):Py sm rs t' hp n=QP rs t hp n := OV ri h
/-- What is asked behind a body. -/
def Aa4 (res:S->Heap->K4->R) (Φ:R->Prop):R->Prop
  | .ok .nrm t h n => (res t h n).sat Φ
  | .ok .ret t h n => (res t h n).sat Φ
  | _ => False
theorem LF {res:S->Heap->K4->R} {Φ:R->Prop}:∀ {r:R}, (L5 r res).sat Φ->r.sat (Aa4 res Φ)
  | .ok e t h n, hs => by
    cases e with
    | nrm => exact hs
    | ret => exact hs
    | exit j => exact hs.elim
  | .rv _ _ _, hs => hs.elim
  | .fail _, hs => hs.elim
  | .both a b, hs => ⟨LF (r := a) hs.1, LF (r := b) hs.2⟩
theorem Wk {r:ARes} {t:Regs} {h:Heap} {κ:V->R} (hg:(Ld r t h κ).good):∃ v, Ld r t h κ=κ v := by
  cases r with
  | tmp p => exact ⟨_, CM p t κ⟩
  | cel p m =>
    have e1:Ld (.cel p m) t h κ=Kz (B5 p t) fun q off => Hh q h fun cs _ _ =>
        @Option.rec Nat (fun _ => R) (F6 cs off κ) (fun m => AY cs off m fun y => E6 y fun l => κ (.agg l)) m := CM p t _
    rw [e1] at hg
    obtain ⟨q, off, hv, e2⟩ := Du hg
    rw [e2] at hg
    obtain ⟨cs, sup, prev, hq, e3⟩ := Dd hg
    rw [e3] at hg
    cases m with
    | none =>
      obtain ⟨v, _, e4⟩ := HI (show R.good (F6 cs off κ) from hg)
      exact ⟨v, e1.trans (e2.trans (e3.trans e4))⟩
    | some m =>
      obtain ⟨hle, y, hyl, hya, e4⟩ := CD (show R.good (AY cs off m fun y => E6 y fun l => κ (.agg l)) from hg)
      obtain ⟨l, e5, _, _⟩ := Gp y fun l => κ (.agg l)
      exact ⟨.agg l, e1.trans (e2.trans (e3.trans (Eq.trans e4 e5)))⟩
theorem S5:∀ {rs:List ARes} {t:Regs} {h:Heap} {κ:List V->R}, (Kj rs t h κ).good->∃ vs, Kj rs t h κ=κ vs
  | [], t, h, κ, _ => ⟨[], rfl⟩
  | r::rs, t, h, κ, hg => by
    have hg:R.good (Ld r t h fun v => Kj rs t h fun vs => κ (v::vs)) := hg
    obtain ⟨v, e1⟩ := Wk hg
    rw [e1] at hg
    obtain ⟨vs, e2⟩ := S5 hg
    exact ⟨v::vs, Eq.trans e1 e2⟩
theorem WI {rs:List ARes} {t:Regs} {h:Heap} {n:K4} (hg:(QP rs t h n).good):∃ v, QP rs t h n = .rv v h n := by
  obtain ⟨vs, e⟩ := S5 (show R.good (Kj rs t h _) from hg)
  have e:QP rs t h n=_ := e
  match vs, e with
  | [], e => exact ⟨_, e⟩
  | [u], e => exact ⟨_, e⟩
  | u::u'::us, e => exact ⟨_, e⟩
theorem N2 (hρ:Bm ρ) (hm:P.follows .mixedOrders=true) {cf:CF} {cf2:FX} (hct:Je P ρ B cf) (hR:J9 P ρ B cf) (h2:∀ f, cf2 (Bj f)=cf f) {f:FuncId} {e:Ent} (he:AR P f e) {args:List V} {h:Heap} {n:K4} {Φ:R->Prop}
    (hr:(M1 cf2 (some e) args h n).sat Φ) {φ:AN} {w:World} {xs:Array Value} (g:Gam ρ B h n φ w) (hxs:Bn ρ φ args xs.toList) :
    M4 P f xs w fun x w' => ∃ v h1 n1 φ', Φ (.rv v h1 n1)∧Fr h h1 φ φ' n n1 w w'∧Gam ρ B h1 n1 φ' w'∧Al ρ φ' v x := by
  obtain ⟨sm, hd, hok⟩ := he
  cases hf:Ll P f with
  | none => rw [hf] at hd; cases hd
  | some a =>
    rw [hf] at hd hok
    obtain ⟨fn, c, ps, rs, hfn, hb, hps, hrs, hname, rfl⟩ := Qr hf
    have hd:some (Ent.code (fun l κ => OR ps l Ln fun t => κ (Z3 sm t)) (fun cf t h n => HS sm cf (AZ P fn.ntmps c) r0 [] t h n) (fun t h n => Py sm rs t h n))=some e := hd
    cases hd
    have hok:(QX sm&&(KB sm (AZ P fn.ntmps c) (fun _ => true) []&&rs.all fun r => I9 sm r.reg))=true := hok
    rw [Bool.and_eq_true, Bool.and_eq_true] at hok
    obtain ⟨hsm, hok⟩ := hok
    have inj:∀ {p q s}, Cv p sm=some s->Cv q sm=some s->p=q := fun h h' => Q3 hsm h h'
    have hr:(OR ps args Ln (fun t => L5 (HS sm cf2 (AZ P fn.ntmps c) r0 [] (Z3 sm t) h n) fun t h n => Py sm rs t h n)).sat Φ := hr
    rw [OJ] at hr
    obtain ⟨hlen, t0, e2, H0⟩ := MO (k := 0) (fun i s hi => by
      obtain ⟨hi', hi2⟩ := List.getElem?_eq_some_iff.1 hi
      simp at hi2; omega) hps (R.sat_good hr)
    rw [e2] at hr
    simp only [List.length_range] at hlen
    have hxl:xs.size=args.length := by have := AU hxs; simpa using this
    have hxN:xs.size≤fn.ntmps := by
      rcases Nat.eq_zero_or_pos xs.size with h0 | h0
      · omega
      · have := MU hps (xs.size - 1) (List.mem_range.2 (by omega)); omega
    have hT:TR ρ fn.ntmps φ t0 { tmps := xs++Array.replicate (fn.ntmps - xs.size) undef, defers := [] } := {
      size := by simp; omega
      defers := rfl
      at_ := fun s p hs hp => by
        rw [H0 s p hp, if_pos (Nat.zero_le _), Nat.sub_zero, P7]
        show Al ρ φ _ ((xs++Array.replicate (fn.ntmps - xs.size) undef).getD s undef)
        rw [Array.getD_eq_getD_getElem?]
        by_cases hsx:s<xs.size
        · rw [Array.getElem?_append_left hsx]
          have hsa:s<args.length := by omega
          rw [List.getElem?_eq_getElem hsa]
          obtain ⟨x, hx, hrx⟩ := (Ck.1 hxs).2 s _ (List.getElem?_eq_getElem hsa)
          rw [Array.getElem?_toList] at hx
          rw [hx]; exact hrx
        · rw [Array.getElem?_append_right (by omega), Array.getElem?_replicate, if_pos (by omega), List.getElem?_eq_none (by omega)]
          exact Fc }
    have hx := LF hr
    have hOK := (YE (N := fn.ntmps) (sm := sm) hρ hm hct hR h2 c).join hok.1 (RI.start inj fun p s hs => Rk hsm hs) hx
    intro o a K Q hK
    have hcf':(callFunc f xs).run P w = .ok (.enter f xs) w := by
      have hname':fn.name ≠ "runtime.NumGoroutine" := by simpa using hname
      simp [callFunc, hfn, hname', hb]
    rw [hcf']
    refine calls_of_wp hfn hb (hOK φ _ w hT g _ fun e t1 h2' n2 hres φ' a' w' tf f1 g1 T1 hk => ?_)
    have fin:(Py sm rs t1 h2' n2).sat Φ->∃ X, (results fn a'.tmps).run P w' = .ok X w'∧K (a.put o.dst X) w' := fun hres => by
      rw [U1 (RI.start inj hk) fun r hr => List.all_eq_true.1 hok.2 r hr] at hres
      obtain ⟨v, hv⟩ := WI (R.sat_good hres)
      obtain ⟨_, _, Hres⟩ := TA (ρ := ρ) (B := B) hrs hv
      rw [hv] at hres
      obtain ⟨X, hX, hrX⟩ := Hres φ' a' w' T1 g1
      exact ⟨X, hX, hK X w' ⟨v, h2', n2, φ', hres, f1, g1, hrX⟩⟩
    cases e with
    | nrm => obtain ⟨X, hX, hKX⟩ := fin hres; exact ⟨T1.defers, X, hX, hKX⟩
    | exit id => exact hres.elim
    | ret => obtain ⟨X, hX, hKX⟩ := fin hres; exact ⟨T1.defers, X, hX, hKX⟩
/-- THE CALL IS SOUND. -/
theorem Tm (hρ:Bm ρ) (hm:P.follows .mixedOrders=true) {T:FC} (hT:JK P ρ B T):∀ m, Je P ρ B (fun f => Ak T m (Bj f))∧J9 P ρ B (fun f => Ak T m (Bj f)) := by
  intro m
  induction m with
  | zero => exact ⟨fun f args h n Φ hr => hr.elim, fun f A fn hA box x h n Φ hr => hr.elim⟩
  | succ m ih =>
    obtain ⟨hct, hR⟩ := ih
    have e1:∀ f args h n, Ak T (m+1) (Bj f) args h n=M1 (Ak T m) (B7 (Bj f) T) args h n := fun f args h n => Sn (Bj f) T fun o => M1 (Ak T m) o args h n
    refine ⟨fun f args h n Φ hr φ w xs g hxs => ?_, fun f A fn hA box x h n Φ hr φ w tmps X l D g hrec unc hsz hbox hX => ?_⟩
    · have hr:(Ak T (m+1) (Bj f) args h n).sat Φ := hr
      rw [e1] at hr
      cases ho:B7 (Bj f) T with
      | none => rw [ho] at hr; exact hr.elim
      | some e =>
        rw [ho] at hr
        rcases hT.1 f e ho with (he | ⟨k, en, bo, re, rfl, he⟩) | (⟨p, rfl, hp⟩ | (⟨its, rd, A, rfl, hA, h1, h2, h3⟩ | ⟨p, rfl, hp⟩))
        · exact N2 hρ hm hct hR (fun _ => rfl) he hr g hxs
        · obtain ⟨v, h1, n1, hr, hΦ⟩ := MX (show (L9 (brK k (fun hs => en args fun t => L5 (bo (Ak T m) t hs n) re) args h n)).sat Φ from hr)
          intro o a K Q hK
          exact YC hr g hxs (fun hs Φ hsat gs => N2 hρ hm hct hR (fun _ => rfl) he (h := hs) hsat gs hxs) o a K Q fun x w' ⟨φ', f1, g1, r1⟩ => hK x w' ⟨v, h1, n1, φ', hΦ, f1, g1, r1⟩
        · obtain ⟨v, h1, n1, hr, hΦ⟩ := MX (show (L9 (p args h n)).sat Φ from hr)
          intro o a K Q hK
          exact hp args h n v h1 n1 hr φ w xs g hxs o a K Q fun x w' ⟨φ', f1, g1, r1⟩ => hK x w' ⟨v, h1, n1, φ', hΦ, f1, g1, r1⟩
        · have hr:(apX f its rd (Ak T m) args h n).sat Φ := hr
          unfold apX at hr
          obtain ⟨v, l, hl, q1⟩ := Hc (R.sat_good hr)
          rw [q1] at hr
          subst hl
          by_cases hv:v = .oth .no
          · subst hv
            obtain ⟨y, ys, _, hy, _⟩ := Ap.1 hxs
            simp only [Al] at hy
          · have e2:∀ A C:R, XG v A C=C := fun A C => by
              cases v with
              | oth o => cases o with
                | no => exact absurd rfl hv
                | _ => rfl
              | _ => rfl
            rw [e2] at hr
            exact Zj hA h1 h3 hct (fun _ => rfl) hr g hxs
        · exact hp args h n Φ hr φ w xs g hxs
    · obtain ⟨e, ho, its, rd, A', rfl, hA', h1, h2, h3⟩ := hT.2 f A hA
      rw [hA] at hA'; cases hA'
      have hr:(Ak T (m+1) (Bj f) [.oth .no, .ptr box 0, x] h n).sat Φ := hr
      rw [e1, ho] at hr
      have hr:(rd (Ak T m) (.ptr box 0) x h n).sat Φ := hr
      exact ZJ hρ hct.ok (fun _ => rfl) h2 hr g hrec unc hsz hbox hX
theorem UV (hρ:Bm ρ) (hm:P.follows .mixedOrders=true) {T:FC} (hT:JK P ρ B T) (m:Nat):En P ρ B fun f => Ak T m (Bj f) := (Tm hρ hm hT m).1.ok
end
end Go.Ev

namespace Go.Ev
open Go.RowKit
set_option linter.unusedVariables false
abbrev BU (w:Bool) (v:V) (h:Heap) (n:K4) (F:KV->R) (κ:KV):R := gd w v F κ h n
abbrev AD (v:V):R := .rv v AE ⟨.d0, .d0, .d0, .d0⟩
abbrev alY (b:K4) (j:D) (h:Heap) (F:K4->R) (κ:KV):R := b.at j fun r => B8 r h fun x => Gu x (DY (F r) κ)
abbrev alX (b:K4) (j:D) (h:Heap) (F:K4->R) (κ:V->Heap->R):R := alY b j h F fun v h _ => κ v h
abbrev US (b:K4) (j:D) (h:Heap) (κ:R):R := b.at j fun r => B8 r h fun x => Gu x κ
abbrev Yr (m:Nat) (v:V) (h:Heap) (κ:V->R):R := Kz v fun q off => Kl q h fun cs _ _ => AY cs off m fun y => E6 y fun l => κ (.agg l)
abbrev U:V := Bb
abbrev Q0:SQ := .mk U U U U
abbrev g0 (t:S) (k:V->R):R := @S.rec (fun _ => R) (fun c0 c1 c2 c3 c4 c5 c6 c7 => @SQ.rec (fun _ => R) (fun d0 d1 d2 d3 => k d0) c0) t
abbrev w0 (t:S) (v:V) (k:S->R):R := @S.rec (fun _ => R) (fun c0 c1 c2 c3 c4 c5 c6 c7 => @SQ.rec (fun _ => R) (fun d0 d1 d2 d3 => k (.mk (.mk v d1 d2 d3) c1 c2 c3 c4 c5 c6 c7)) c0) t
abbrev g1 (t:S) (k:V->R):R := @S.rec (fun _ => R) (fun c0 c1 c2 c3 c4 c5 c6 c7 => @SQ.rec (fun _ => R) (fun d0 d1 d2 d3 => k d1) c0) t
abbrev w1 (t:S) (v:V) (k:S->R):R := @S.rec (fun _ => R) (fun c0 c1 c2 c3 c4 c5 c6 c7 => @SQ.rec (fun _ => R) (fun d0 d1 d2 d3 => k (.mk (.mk d0 v d2 d3) c1 c2 c3 c4 c5 c6 c7)) c0) t
abbrev g2 (t:S) (k:V->R):R := @S.rec (fun _ => R) (fun c0 c1 c2 c3 c4 c5 c6 c7 => @SQ.rec (fun _ => R) (fun d0 d1 d2 d3 => k d2) c0) t
abbrev w2 (t:S) (v:V) (k:S->R):R := @S.rec (fun _ => R) (fun c0 c1 c2 c3 c4 c5 c6 c7 => @SQ.rec (fun _ => R) (fun d0 d1 d2 d3 => k (.mk (.mk d0 d1 v d3) c1 c2 c3 c4 c5 c6 c7)) c0) t
abbrev g3 (t:S) (k:V->R):R := @S.rec (fun _ => R) (fun c0 c1 c2 c3 c4 c5 c6 c7 => @SQ.rec (fun _ => R) (fun d0 d1 d2 d3 => k d3) c0) t
abbrev w3 (t:S) (v:V) (k:S->R):R := @S.rec (fun _ => R) (fun c0 c1 c2 c3 c4 c5 c6 c7 => @SQ.rec (fun _ => R) (fun d0 d1 d2 d3 => k (.mk (.mk d0 d1 d2 v) c1 c2 c3 c4 c5 c6 c7)) c0) t
abbrev g4 (t:S) (k:V->R):R := @S.rec (fun _ => R) (fun c0 c1 c2 c3 c4 c5 c6 c7 => @SQ.rec (fun _ => R) (fun d0 d1 d2 d3 => k d0) c1) t
abbrev w4 (t:S) (v:V) (k:S->R):R := @S.rec (fun _ => R) (fun c0 c1 c2 c3 c4 c5 c6 c7 => @SQ.rec (fun _ => R) (fun d0 d1 d2 d3 => k (.mk c0 (.mk v d1 d2 d3) c2 c3 c4 c5 c6 c7)) c1) t
abbrev g5 (t:S) (k:V->R):R := @S.rec (fun _ => R) (fun c0 c1 c2 c3 c4 c5 c6 c7 => @SQ.rec (fun _ => R) (fun d0 d1 d2 d3 => k d1) c1) t
abbrev w5 (t:S) (v:V) (k:S->R):R := @S.rec (fun _ => R) (fun c0 c1 c2 c3 c4 c5 c6 c7 => @SQ.rec (fun _ => R) (fun d0 d1 d2 d3 => k (.mk c0 (.mk d0 v d2 d3) c2 c3 c4 c5 c6 c7)) c1) t
abbrev g6 (t:S) (k:V->R):R := @S.rec (fun _ => R) (fun c0 c1 c2 c3 c4 c5 c6 c7 => @SQ.rec (fun _ => R) (fun d0 d1 d2 d3 => k d2) c1) t
abbrev w6 (t:S) (v:V) (k:S->R):R := @S.rec (fun _ => R) (fun c0 c1 c2 c3 c4 c5 c6 c7 => @SQ.rec (fun _ => R) (fun d0 d1 d2 d3 => k (.mk c0 (.mk d0 d1 v d3) c2 c3 c4 c5 c6 c7)) c1) t
abbrev g7 (t:S) (k:V->R):R := @S.rec (fun _ => R) (fun c0 c1 c2 c3 c4 c5 c6 c7 => @SQ.rec (fun _ => R) (fun d0 d1 d2 d3 => k d3) c1) t
abbrev w7 (t:S) (v:V) (k:S->R):R := @S.rec (fun _ => R) (fun c0 c1 c2 c3 c4 c5 c6 c7 => @SQ.rec (fun _ => R) (fun d0 d1 d2 d3 => k (.mk c0 (.mk d0 d1 d2 v) c2 c3 c4 c5 c6 c7)) c1) t
abbrev g8 (t:S) (k:V->R):R := @S.rec (fun _ => R) (fun c0 c1 c2 c3 c4 c5 c6 c7 => @SQ.rec (fun _ => R) (fun d0 d1 d2 d3 => k d0) c2) t
abbrev w8 (t:S) (v:V) (k:S->R):R := @S.rec (fun _ => R) (fun c0 c1 c2 c3 c4 c5 c6 c7 => @SQ.rec (fun _ => R) (fun d0 d1 d2 d3 => k (.mk c0 c1 (.mk v d1 d2 d3) c3 c4 c5 c6 c7)) c2) t
abbrev g9 (t:S) (k:V->R):R := @S.rec (fun _ => R) (fun c0 c1 c2 c3 c4 c5 c6 c7 => @SQ.rec (fun _ => R) (fun d0 d1 d2 d3 => k d1) c2) t
abbrev w9 (t:S) (v:V) (k:S->R):R := @S.rec (fun _ => R) (fun c0 c1 c2 c3 c4 c5 c6 c7 => @SQ.rec (fun _ => R) (fun d0 d1 d2 d3 => k (.mk c0 c1 (.mk d0 v d2 d3) c3 c4 c5 c6 c7)) c2) t
abbrev BE (t:S) (k:V->R):R := @S.rec (fun _ => R) (fun c0 c1 c2 c3 c4 c5 c6 c7 => @SQ.rec (fun _ => R) (fun d0 d1 d2 d3 => k d2) c2) t
abbrev BD (t:S) (v:V) (k:S->R):R := @S.rec (fun _ => R) (fun c0 c1 c2 c3 c4 c5 c6 c7 => @SQ.rec (fun _ => R) (fun d0 d1 d2 d3 => k (.mk c0 c1 (.mk d0 d1 v d3) c3 c4 c5 c6 c7)) c2) t
abbrev BF (t:S) (k:V->R):R := @S.rec (fun _ => R) (fun c0 c1 c2 c3 c4 c5 c6 c7 => @SQ.rec (fun _ => R) (fun d0 d1 d2 d3 => k d3) c2) t
abbrev BA (t:S) (v:V) (k:S->R):R := @S.rec (fun _ => R) (fun c0 c1 c2 c3 c4 c5 c6 c7 => @SQ.rec (fun _ => R) (fun d0 d1 d2 d3 => k (.mk c0 c1 (.mk d0 d1 d2 v) c3 c4 c5 c6 c7)) c2) t
abbrev Bz (t:S) (k:V->R):R := @S.rec (fun _ => R) (fun c0 c1 c2 c3 c4 c5 c6 c7 => @SQ.rec (fun _ => R) (fun d0 d1 d2 d3 => k d0) c3) t
abbrev BC (t:S) (v:V) (k:S->R):R := @S.rec (fun _ => R) (fun c0 c1 c2 c3 c4 c5 c6 c7 => @SQ.rec (fun _ => R) (fun d0 d1 d2 d3 => k (.mk c0 c1 c2 (.mk v d1 d2 d3) c4 c5 c6 c7)) c3) t
abbrev BQ (t:S) (k:V->R):R := @S.rec (fun _ => R) (fun c0 c1 c2 c3 c4 c5 c6 c7 => @SQ.rec (fun _ => R) (fun d0 d1 d2 d3 => k d1) c3) t
abbrev BT (t:S) (v:V) (k:S->R):R := @S.rec (fun _ => R) (fun c0 c1 c2 c3 c4 c5 c6 c7 => @SQ.rec (fun _ => R) (fun d0 d1 d2 d3 => k (.mk c0 c1 c2 (.mk d0 v d2 d3) c4 c5 c6 c7)) c3) t
abbrev BI (t:S) (k:V->R):R := @S.rec (fun _ => R) (fun c0 c1 c2 c3 c4 c5 c6 c7 => @SQ.rec (fun _ => R) (fun d0 d1 d2 d3 => k d2) c3) t
abbrev BH (t:S) (v:V) (k:S->R):R := @S.rec (fun _ => R) (fun c0 c1 c2 c3 c4 c5 c6 c7 => @SQ.rec (fun _ => R) (fun d0 d1 d2 d3 => k (.mk c0 c1 c2 (.mk d0 d1 v d3) c4 c5 c6 c7)) c3) t
abbrev BS (t:S) (k:V->R):R := @S.rec (fun _ => R) (fun c0 c1 c2 c3 c4 c5 c6 c7 => @SQ.rec (fun _ => R) (fun d0 d1 d2 d3 => k d3) c3) t
abbrev BO (t:S) (v:V) (k:S->R):R := @S.rec (fun _ => R) (fun c0 c1 c2 c3 c4 c5 c6 c7 => @SQ.rec (fun _ => R) (fun d0 d1 d2 d3 => k (.mk c0 c1 c2 (.mk d0 d1 d2 v) c4 c5 c6 c7)) c3) t
abbrev BJ (t:S) (k:V->R):R := @S.rec (fun _ => R) (fun c0 c1 c2 c3 c4 c5 c6 c7 => @SQ.rec (fun _ => R) (fun d0 d1 d2 d3 => k d0) c4) t
abbrev BR (t:S) (v:V) (k:S->R):R := @S.rec (fun _ => R) (fun c0 c1 c2 c3 c4 c5 c6 c7 => @SQ.rec (fun _ => R) (fun d0 d1 d2 d3 => k (.mk c0 c1 c2 c3 (.mk v d1 d2 d3) c5 c6 c7)) c4) t
abbrev g17 (t:S) (k:V->R):R := @S.rec (fun _ => R) (fun c0 c1 c2 c3 c4 c5 c6 c7 => @SQ.rec (fun _ => R) (fun d0 d1 d2 d3 => k d1) c4) t
abbrev BM (t:S) (v:V) (k:S->R):R := @S.rec (fun _ => R) (fun c0 c1 c2 c3 c4 c5 c6 c7 => @SQ.rec (fun _ => R) (fun d0 d1 d2 d3 => k (.mk c0 c1 c2 c3 (.mk d0 v d2 d3) c5 c6 c7)) c4) t
abbrev BL (t:S) (k:V->R):R := @S.rec (fun _ => R) (fun c0 c1 c2 c3 c4 c5 c6 c7 => @SQ.rec (fun _ => R) (fun d0 d1 d2 d3 => k d2) c4) t
abbrev BP (t:S) (v:V) (k:S->R):R := @S.rec (fun _ => R) (fun c0 c1 c2 c3 c4 c5 c6 c7 => @SQ.rec (fun _ => R) (fun d0 d1 d2 d3 => k (.mk c0 c1 c2 c3 (.mk d0 d1 v d3) c5 c6 c7)) c4) t
abbrev BG (t:S) (k:V->R):R := @S.rec (fun _ => R) (fun c0 c1 c2 c3 c4 c5 c6 c7 => @SQ.rec (fun _ => R) (fun d0 d1 d2 d3 => k d3) c4) t
abbrev BK (t:S) (v:V) (k:S->R):R := @S.rec (fun _ => R) (fun c0 c1 c2 c3 c4 c5 c6 c7 => @SQ.rec (fun _ => R) (fun d0 d1 d2 d3 => k (.mk c0 c1 c2 c3 (.mk d0 d1 d2 v) c5 c6 c7)) c4) t
section
variable {P:Program} {ρ:Env} {B:Nat}
/-- What stands at a function's place in the table. -/
def AP (P:Program) (ρ:Env) (B:Nat) (f:FuncId) (o:DC):Prop := ∀ e, o=some e->N8 P ρ B f e
theorem AP.no {f:FuncId}:AP P ρ B f none := fun e h => by cases h
theorem AP.fn {f:FuncId} {e:Ent} (h:AR P f e):AP P ρ B f (some e) := fun e' h' => by cases h'; exact .inl (.inl h)
theorem AP.br {f:FuncId} {k:Nat} {en:List V->(S->R)->R} {bo:FX->S->Heap->K4->R} {re:S->Heap->K4->R} (h:AR P f (.code en bo re)):AP P ρ B f (some (.br k en bo re)) := fun e' h' => by cases h'; exact .inl (.inr ⟨k, en, bo, re, rfl, h⟩)
theorem AP.pr {f:FuncId} {p:Ou} (h:Oc P ρ B f p):AP P ρ B f (some (.prim p)) := fun e' h' => by cases h'; exact .inr (.inl ⟨p, rfl, h⟩)
def PJ (s:String):Ou := fun _ _ _ => .fail s
theorem AP.noP {f:FuncId} (s:String):AP P ρ B f (some (.prim (PJ s))) := AP.pr fun args h n v h1 n1 hx => by cases hx
theorem AP.ap {f:FuncId} {its:List Nat} {rd:Rd} {A:ApC} (hA:ρ.ap f=some A) (h1:M0 P f=some A) (h2:V1 P A=some rd) (h3:∀ g∈its, KC P g):AP P ρ B f (some (.ap f its rd)) := fun e' h' => by cases h'; exact .inr (.inr (.inl ⟨its, rd, A, rfl, hA, h1, h2, h3⟩))
theorem AP.tr {f:FuncId} {p:Ou} (h:Us P ρ B f p):AP P ρ B f (some (.tree p)) := fun e' h' => by cases h'; exact .inr (.inr (.inr ⟨p, rfl, h⟩))
def IX (P:Program) (ρ:Env) (B:Nat) (base:Nat) (x:FA):Prop := ∀ d, AP P ρ B (base+d.toN) (FA.sel d x)
def NX (P:Program) (ρ:Env) (B:Nat) (base:Nat) (x:FB):Prop := ∀ d, IX P ρ B (base+16*d.toN) (FB.sel d x)
theorem Gb {base:Nat} {c0 c1 c2 c3 c4 c5 c6 c7 c8 c9 ca cb cc cd ce cf:DC} (h0:AP P ρ B (base+0) c0) (h1:AP P ρ B (base+1) c1) (h2:AP P ρ B (base+2) c2) (h3:AP P ρ B (base+3) c3) (h4:AP P ρ B (base+4) c4) (h5:AP P ρ B (base+5) c5) (h6:AP P ρ B (base+6) c6) (h7:AP P ρ B (base+7) c7) (h8:AP P ρ B (base+8) c8) (h9:AP P ρ B (base+9) c9) (h10:AP P ρ B (base+10) ca) (h11:AP P ρ B (base+11) cb) (h12:AP P ρ B (base+12) cc) (h13:AP P ρ B (base+13) cd) (h14:AP P ρ B (base+14) ce) (h15:AP P ρ B (base+15) cf):IX P ρ B base (.mk c0 c1 c2 c3 c4 c5 c6 c7 c8 c9 ca cb cc cd ce cf) := fun d => by
  cases d
  · exact h0
  · exact h1
  · exact h2
  · exact h3
  · exact h4
  · exact h5
  · exact h6
  · exact h7
  · exact h8
  · exact h9
  · exact h10
  · exact h11
  · exact h12
  · exact h13
  · exact h14
  · exact h15
theorem Y8 {base:Nat} {c0 c1 c2 c3 c4 c5 c6 c7 c8 c9 ca cb cc cd ce cf:FA} (h0:IX P ρ B (base+16*0) c0) (h1:IX P ρ B (base+16*1) c1) (h2:IX P ρ B (base+16*2) c2) (h3:IX P ρ B (base+16*3) c3) (h4:IX P ρ B (base+16*4) c4) (h5:IX P ρ B (base+16*5) c5) (h6:IX P ρ B (base+16*6) c6) (h7:IX P ρ B (base+16*7) c7) (h8:IX P ρ B (base+16*8) c8) (h9:IX P ρ B (base+16*9) c9) (h10:IX P ρ B (base+16*10) ca) (h11:IX P ρ B (base+16*11) cb) (h12:IX P ρ B (base+16*12) cc) (h13:IX P ρ B (base+16*13) cd) (h14:IX P ρ B (base+16*14) ce) (h15:IX P ρ B (base+16*15) cf):NX P ρ B base (.mk c0 c1 c2 c3 c4 c5 c6 c7 c8 c9 ca cb cc cd ce cf) := fun d => by
  cases d
  · exact h0
  · exact h1
  · exact h2
  · exact h3
  · exact h4
  · exact h5
  · exact h6
  · exact h7
  · exact h8
  · exact h9
  · exact h10
  · exact h11
  · exact h12
  · exact h13
  · exact h14
  · exact h15
def Kk:FA := .mk none none none none none none none none none none none none none none none none
def Nq:FB := .mk Kk Kk Kk Kk Kk Kk Kk Kk Kk Kk Kk Kk Kk Kk Kk Kk
theorem RH (d:D):FA.sel d Kk=none := by cases d <;> rfl
theorem R9 (d:D):FB.sel d Nq=Kk := by cases d <;> rfl
theorem In {base:Nat}:IX P ρ B base Kk := fun d => by rw [RH]; exact AP.no
theorem E0 {base:Nat}:NX P ρ B base Nq := fun d => by rw [R9]; exact In
theorem ofN_lt {x:Nat} {d:D} (h:D.ofN x=d) (hd:d ≠ .d15):x=d.toN := by
  rcases Nat.lt_or_ge x 15 with hx | hx
  · rw [←h, D.toN_ofN x (by omega)]
  · exfalso
    obtain ⟨y, rfl⟩:∃ y, x=y+15 := ⟨x - 15, by omega⟩
    exact hd h.symm
theorem Y5 {c0 c1 c2 c3 c4 c5 c6 c7 c8 c9 ca cb cc cd ce:FB} (h0:NX P ρ B (256*0) c0) (h1:NX P ρ B (256*1) c1) (h2:NX P ρ B (256*2) c2) (h3:NX P ρ B (256*3) c3) (h4:NX P ρ B (256*4) c4) (h5:NX P ρ B (256*5) c5) (h6:NX P ρ B (256*6) c6) (h7:NX P ρ B (256*7) c7) (h8:NX P ρ B (256*8) c8) (h9:NX P ρ B (256*9) c9) (h10:NX P ρ B (256*10) ca) (h11:NX P ρ B (256*11) cb) (h12:NX P ρ B (256*12) cc) (h13:NX P ρ B (256*13) cd) (h14:NX P ρ B (256*14) ce):∀ f e, B7 (Bj f) (.mk c0 c1 c2 c3 c4 c5 c6 c7 c8 c9 ca cb cc cd ce Nq)=some e->N8 P ρ B f e := fun f e h => by
  have hc:(D.ofN (f % 16)).toN=f % 16 := D.toN_ofN _ (by omega)
  have hb:(D.ofN (f / 16 % 16)).toN=f / 16 % 16 := D.toN_ofN _ (by omega)
  have key:∀ x:FB, NX P ρ B (256*(f / 256)) x->FA.sel (D.ofN (f % 16)) (FB.sel (D.ofN (f / 16 % 16)) x)=some e->N8 P ρ B f e := fun x hx hs => by
    have := hx (D.ofN (f / 16 % 16)) (D.ofN (f % 16)) e hs
    rw [hc, hb] at this
    have e1:256*(f / 256)+16*(f / 16 % 16)+f % 16=f := by omega
    rw [e1] at this; exact this
  have h:FA.sel (D.ofN (f % 16)) (FB.sel (D.ofN (f / 16 % 16)) (FC.sel (D.ofN (f / 256)) (.mk c0 c1 c2 c3 c4 c5 c6 c7 c8 c9 ca cb cc cd ce Nq)))=some e := h
  generalize hd:D.ofN (f / 256)=d at h
  cases d
  · have := ofN_lt hd (by intro h; cases h); rw [show D.toN .d0=0 from rfl] at this; exact key c0 (by rw [this]; exact h0) h
  · have := ofN_lt hd (by intro h; cases h); rw [show D.toN .d1=1 from rfl] at this; exact key c1 (by rw [this]; exact h1) h
  · have := ofN_lt hd (by intro h; cases h); rw [show D.toN .d2=2 from rfl] at this; exact key c2 (by rw [this]; exact h2) h
  · have := ofN_lt hd (by intro h; cases h); rw [show D.toN .d3=3 from rfl] at this; exact key c3 (by rw [this]; exact h3) h
  · have := ofN_lt hd (by intro h; cases h); rw [show D.toN .d4=4 from rfl] at this; exact key c4 (by rw [this]; exact h4) h
  · have := ofN_lt hd (by intro h; cases h); rw [show D.toN .d5=5 from rfl] at this; exact key c5 (by rw [this]; exact h5) h
  · have := ofN_lt hd (by intro h; cases h); rw [show D.toN .d6=6 from rfl] at this; exact key c6 (by rw [this]; exact h6) h
  · have := ofN_lt hd (by intro h; cases h); rw [show D.toN .d7=7 from rfl] at this; exact key c7 (by rw [this]; exact h7) h
  · have := ofN_lt hd (by intro h; cases h); rw [show D.toN .d8=8 from rfl] at this; exact key c8 (by rw [this]; exact h8) h
  · have := ofN_lt hd (by intro h; cases h); rw [show D.toN .d9=9 from rfl] at this; exact key c9 (by rw [this]; exact h9) h
  · have := ofN_lt hd (by intro h; cases h); rw [show D.toN .d10=10 from rfl] at this; exact key ca (by rw [this]; exact h10) h
  · have := ofN_lt hd (by intro h; cases h); rw [show D.toN .d11=11 from rfl] at this; exact key cb (by rw [this]; exact h11) h
  · have := ofN_lt hd (by intro h; cases h); rw [show D.toN .d12=12 from rfl] at this; exact key cc (by rw [this]; exact h12) h
  · have := ofN_lt hd (by intro h; cases h); rw [show D.toN .d13=13 from rfl] at this; exact key cd (by rw [this]; exact h13) h
  · have := ofN_lt hd (by intro h; cases h); rw [show D.toN .d14=14 from rfl] at this; exact key ce (by rw [this]; exact h14) h
  · have h:FA.sel (D.ofN (f % 16)) (FB.sel (D.ofN (f / 16 % 16)) Nq)=some e := h
    rw [R9, RH] at h; cases h
/-- The environment of a program in which some functions range over functions. -/
def KS (P:Program) (fs:List Nat):Env := { v := fun _ => .bool true, ap := fun f => @Bool.rec (fun _ => Option ApC) none (M0 P f) (fs.contains f) }
def NL (P:Program) (g:FuncId):Bool := match P.funcs[g]? with
  | some fn => fn.body.isSome && !(fn.name == "runtime.NumGoroutine")
  | none => false
theorem QS {g:FuncId} (h:NL P g=true):KC P g := by
  unfold NL at h
  split at h
  · rename_i fn hfn
    simp only [Bool.and_eq_true, Bool.not_eq_true'] at h
    obtain ⟨c, hc⟩ := Option.isSome_iff_exists.1 h.1
    exact ⟨fn, c, hfn, hc, h.2⟩
  · cases h
def Abl (P:Program) (f:FuncId):Option Rd := (M0 P f).bind (V1 P)
theorem Gf.mk {fs:List Nat} {f:FuncId} {its:List Nat} {rd:Rd} (hf:fs.contains f=true) (h:Abl P f=some rd) (hb:its.all (NL P)=true):Gf P (KS P fs) f (.ap f its rd) := by
  unfold Abl at h
  cases hA:M0 P f with
  | none => rw [hA] at h; cases h
  | some A =>
    rw [hA] at h
    exact ⟨its, rd, A, rfl, by show @Bool.rec (fun _ => Option ApC) none (M0 P f) (fs.contains f)=_; rw [hf]; exact hA, hA, h, fun g hg => QS (List.all_eq_true.1 hb g hg)⟩
theorem AP.apE {f:FuncId} {e:Ent} (h:Gf P ρ f e):AP P ρ B f (some e) := fun e' h' => by cases h'; exact .inr (.inr (.inl h))
theorem JK.mk {fs:List Nat} {T:FC} (h:∀ f e, B7 (Bj f) T=some e->N8 P (KS P fs) B f e) (ha:∀ f∈fs, ∃ e, B7 (Bj f) T=some e∧Gf P (KS P fs) f e):JK P (KS P fs) B T := by
  refine ⟨h, fun f A hA => ?_⟩
  have hA:@Bool.rec (fun _ => Option ApC) none (M0 P f) (fs.contains f)=some A := hA
  cases hc:fs.contains f with
  | false => rw [hc] at hA; cases hA
  | true => exact ha f (List.contains_iff_mem.1 hc)
theorem Yk {Q:Nat->Prop}:∀ f∈([]:List Nat), Q f := fun f h => by cases h
theorem WC {Q:Nat->Prop} {x:Nat} {l:List Nat} (h:Q x) (k:∀ f∈l, Q f):∀ f∈x::l, Q f := fun f hf => by
  rcases List.mem_cons.1 hf with rfl | hf
  · exact h
  · exact k f hf
/-- A call that is evaluated to true, from values that the arguments tell of. -/
theorem T5 (hρ:Bm ρ) (hm:P.follows .mixedOrders=true) {T:FC} (hT:∀ B, JK P ρ B T) {m:Nat} {f:FuncId} {fn:Func} {args:List V}
    (hf:P.funcs[f]? = some fn) (hb:fn.body.isSome=true) (hn:(fn.name == "runtime.NumGoroutine")=false) (hx:OH (Ak T m (Bj f) args AE WJ)=true) {xs:Array Value} (hr:Bn ρ (fun _ => none) args xs.toList) (w:World) (hgl:WY ρ w := by intro b c e fr h; have h:(none:Option (Array Value×TypeId×(Nat×Nat)))=some (c, e, fr) := h; cases h) :
    Calls P f xs w fun e w' => e = .returned (.bool true)∧Below w.heap.size w w' := by
  obtain ⟨h1, n1, hx⟩ := Ue hx
  obtain ⟨c, hc⟩ := Option.isSome_iff_exists.1 hb
  have := I7 (R := fun x w' => x = .bool true∧Below w.heap.size w w') hf hc (by simpa using hn) (fun o a K Q hK =>
    UV (B := w.heap.size) hρ hm (hT _) m f args AE WJ _ h1 n1 hx (fun _ => none) w xs (Ta w WJ hgl) hr o a K Q fun x w' ⟨φ', f1, _, hr⟩ => hK x w' ⟨by simpa only [Al] using hr, Q2 f1⟩)
  refine this.mono fun e w' he => ?_
  cases e with
  | returned v => exact ⟨by rw [he.1], he.2⟩
  | _ => exact he.elim
end
end Go.Ev

namespace Go.Ev
set_option linter.unusedVariables false
open Go.RowKit
def Lm:Ou := fun args h n =>
  Kf args fun v l => S4 l (E2 v (.fail "") fun p => Rf p h fun es bs c => Eh h n (.m es bs c) fun h n' => .rv (.map n) h n')
/-- It is maps.Clone: the function that it calls. -/
def RO (P:Program) (f:FuncId):Option FuncId :=
  match P.funcs[f]? with
  | some fn => match fn.body with
    | some (.seq (.region _ r0 false) (.seq (.seq (.region _ r1 false) (.cond (.tmp 4) _ .skip)) (.seq (.region _ r3 false) .ret))) =>
      match r0.toList, r1.toList, r3.toList, fn.results.toList with
      | [o1], [o2, o3], [o4, o5, o6, o7, o8], [.tmp s2] => match o1.op, o2.op, o3.op, o4.op, o5.op, o6.op, o7.op, o8.op with
        | .assign (.const c1), .move (.tmp s0), .binOp .eql t3 (.tmp s3) (.const (.map none)) _, .move (.tmp s0'), .makeInterface t5 (.tmp s5), .call ct, .typeAssert (.tmp s7) _ t7 false, .assign (.tmp s8) =>
          match ct.callee, ct.args.toList, P.underlying t5 with
          | .value (.func g), [.tmp s6], some (.map _ _) =>
            if (fn.name == "runtime.NumGoroutine")=false∧fn.ntmps=9∧s2=2∧s0=0∧s0'=0∧s3=3∧s5=5∧s6=6∧s7=7∧s8=8∧t3=t5∧t7=t5∧o1.dst=some 2∧o2.dst=some 3∧o3.dst=some 4∧o4.dst=some 5∧o5.dst=some 6∧o6.dst=some 7∧o7.dst=some 8∧o8.dst=some 2 ∧
              o1.guard=none∧o2.guard=none∧o3.guard=none∧o4.guard=none∧o5.guard=none∧o6.guard=none∧o7.guard=none∧o8.guard=none then some g else none
          | _, _, _ => none
        | _, _, _, _, _, _, _, _ => none
      | _, _, _, _ => none
    | _ => none
  | none => none
section
variable {P:Program} {ρ:Env} {B:Nat}
theorem PS (w:World) (t k e:TypeId) (p:Option Nat) (h:P.underlying t=some (.map k e)):(binOp .eql t (.map p) (.map none)).run P w = .ok (.bool p.isNone) w := by
  have key:∀ d, (Op.equalIn (d+1) t (.map p) (.map none)).run P w = .ok p.isNone w := fun d => by cases p <;> simp [Op.equalIn, run_underlying h]
  simp only [binOp]
  simp [show Op.equal t (.map p) (.map none)=Op.equalIn (9999+1) t (.map p) (.map none) from rfl, key 9999]
theorem Lf (w:World) (t xT k e:TypeId) (v:Value) (h:P.underlying t=some (.map k e)):(Instr.typeAssert (.iface t v) xT t false).run P w = .ok v w := by
  simp [Instr.typeAssert, run_underlying h, go_sem, Result.andThen]
theorem Tb {w:World} {r:Nat} {es:Array MapEntry} {c:Nat} (t:TypeId) (hb:w.heap[r]? = some (.map es c)) :
    (Extern.MapsClone.clone #[.iface t (.map (some r))]).run P w = .ok (.iface t (.map (some w.heap.size))) (w.alloc (.map es c)) := by
  have e:Extern.MapsClone.clone #[.iface t (.map (some r))]=(getObj r >>= fun o => match o with
      | .map entries clock => (newObj (.map entries clock) >>= fun n => pure (.iface t (.map (some n))))
      | _ => stuck "maps.clone: a map expected") := rfl
  rw [e]
  have hg:(getObj r).run P w = .ok (.map es c) w := by simp [getObj, Sem.run, hb]
  simp [hg, Result.andThen, go_sem]
theorem Un {f g:FuncId} (hc:RO P f=some g) (b:Bare P g Extern.MapsClone.clone):Oc P ρ B f Lm := by
  intro args h n v h1 n1 hx φ w xs gm hr
  have hg:(Lm args h n).good := by rw [hx]; trivial
  unfold Lm at hx hg
  obtain ⟨m, l, rfl, q1⟩ := Hc hg
  rw [q1] at hx hg
  obtain ⟨rfl, q2⟩ := L7 hg
  rw [q2] at hx hg
  rcases DD hg with ⟨_, q3⟩ | ⟨p, rfl, q3⟩
  · rw [q3] at hg; exact hg.elim
  rw [q3, Fl] at hx hg
  obtain ⟨es, bs, c, hp, q4⟩ := EC hg
  rw [q4, HG] at hx hg
  obtain ⟨n', hn, q5⟩ := Be hg
  rw [q5] at hx
  cases hx
  obtain ⟨X, l0, hX, r0, hl0⟩ := Ap.1 hr
  have hl0 := Aw.1 hl0
  subst hl0
  obtain ⟨bk, s, tot, hφ, rfl⟩ := FJ r0
  obtain ⟨ents, k1, k2, k3⟩ := gm.obj p _ bk s tot hp hφ
  have hxe:xs = #[.map (some bk)] := by cases xs; simp at hX; rw [hX]
  subst hxe
  unfold RO at hc
  split at hc
  next fn hfn =>
    split at hc
    next i0 r0 i1 r1 cthen i3 r3 hbody =>
      split at hc
      next o1 o2 o3 o4 o5 o6 o7 o8 s2 e0 e1 e3 ers =>
        split at hc
        next c1 s0 t3 s3 t3' s0' t5 s5 ct s7 t7' t7 s8 p1 p2 p3 p4 p5 p6 p7 p8 =>
          split at hc
          next g' s6 kt et hcal hargs hu =>
            split at hc
            next hc' =>
              cases hc
              obtain ⟨hname, hnt, rfl, rfl, rfl, rfl, rfl, rfl, rfl, rfl, rfl, rfl, d1, d2, d3, d4, d5, d6, d7, d8, g1, g2, g3, g4, g5, g6, g7, g8⟩ := hc'
              have hres:fn.results = #[.tmp 2] := by cases hh:fn.results with | mk l => rw [hh] at ers; simp at ers; rw [ers]
              have hcargs:ct.args = #[.tmp 6] := by cases hh:ct.args with | mk l => rw [hh] at hargs; simp at hargs; rw [hargs]
              have e1':(callFunc f #[.map (some bk)]).run P w = .ok (.enter f #[.map (some bk)]) w := by
                have hname':fn.name ≠ "runtime.NumGoroutine" := by simpa using hname
                simp [callFunc, hfn, hname', hbody]
              intro o a K Q hK
              rw [e1']
              refine (callsIn_wide (n := 0)).1 (callsIn_of_wp_marks hfn hbody trivial ?_ rfl)
              rw [hnt]
              simp only [List.size_toArray, List.length_cons, List.length_nil, Nat.reduceAdd, Nat.reduceSub, Array.replicate_succ, Array.replicate_zero, List.push_toArray, List.append_toArray, List.nil_append, List.cons_append]
              refine wpIn_seq (wpIn_region_list ?_)
              rw [e0]
              refine wpListIn_plain g1 fun K1 hK1 => BW (x := c1) (w' := w) (by simp [execOp, p1, Act.eval]) (hK1 _ _ ?_)
              refine wpListIn_nil ?_
              refine wpIn_seq (wpIn_seq (wpIn_region_list ?_))
              rw [e1, d1]
              refine wpListIn_plain g2 fun K2 hK2 => BW (x := .map (some bk)) (w' := w) (by simp [execOp, p2, Act.eval, Act.put]) (hK2 _ _ ?_)
              rw [d2]
              refine wpListIn_plain g3 fun K3 hK3 => BW (x := .bool false) (w' := w) (by simp [execOp, p3, Act.eval, Act.put, eqGuard, PS w _ _ _ _ hu]) (hK3 _ _ ?_)
              rw [d3]
              refine wpListIn_nil (wpIn_cond_false (by simp [Act.eval, Act.put]) (wpIn_skip ?_))
              refine wpIn_seq (wpIn_region_list ?_)
              rw [e3]
              refine wpListIn_plain g4 fun K4 hK4 => BW (x := .map (some bk)) (w' := w) (by simp [execOp, p4, Act.eval, Act.put]) (hK4 _ _ ?_)
              rw [d4]
              refine wpListIn_plain g5 fun K5 hK5 => BW (x := .iface t7 (.map (some bk))) (w' := w) (by simp [execOp, p5, Act.eval, Act.put, Instr.makeInterface, run_underlying hu]) (hK5 _ _ ?_)
              rw [d5]
              refine wpListIn_plain g6 fun K6 hK6 => BW (x := .iface t7 (.map (some w.heap.size))) (w' := w.alloc (.map ents c)) (by
                simp only [execOp, p6, resolve, hcal, hcargs, Deferred.ofValue, Act.eval, Act.put]
                have := b.run (Tb (P := P) t7 k1)
                simp [invoke, Act.eval, this]) (hK6 _ _ ?_)
              rw [d6]
              refine wpListIn_plain g7 fun K7 hK7 => BW (x := .map (some w.heap.size)) (w' := w.alloc (.map ents c)) (by simp [execOp, p7, Act.eval, Act.put, Lf _ _ _ _ _ _ hu]) (hK7 _ _ ?_)
              rw [d7]
              refine wpListIn_plain g8 fun K8 hK8 => BW (x := .map (some w.heap.size)) (w' := w.alloc (.map ents c)) (by simp [execOp, p8, Act.eval, Act.put]) (hK8 _ _ ?_)
              rw [d8]
              refine wpListIn_nil (wpIn_ret ?_)
              show LeavesInM Fence.wide 0 P fn _ _ [] .returning (w.alloc (.map ents c))
              unfold LeavesInM LeavesIn
              refine ⟨.map (some w.heap.size), by simp [results, hres, Act.put], ?_⟩
              refine hK _ _ ⟨Ez φ n (w.heap.size, 0, 0), Fr.alloc gm.at_n (by omega) (Nat.le_refl _) (by omega) _ _ 0, gm.alloc gm.at_n (by omega) (by omega) (.m es bs c) rfl _ 0 fun φ' hle w' hw' => ⟨ents, hw', NF hle k2, k3⟩, ?_⟩
              simp only [Al]
              exact ⟨w.heap.size, 0, 0, C4 _ _ _, rfl⟩
            next => cases hc
          next => cases hc
        next => cases hc
      next => cases hc
    next => cases hc
  next => cases hc
end
end Go.Ev

namespace Go.Ev
set_option linter.unusedVariables false
theorem HA.setS_sel (d:D) (p:HA):HA.setS d p (HA.sel d p)=p := by cases d <;> cases p <;> rfl
theorem HB.setS_sel (d:D) (p:HB):HB.setS d p (HB.sel d p)=p := by cases d <;> cases p <;> rfl
theorem HC.setS_sel (d:D) (p:HC):HC.setS d p (HC.sel d p)=p := by cases d <;> cases p <;> rfl
theorem Heap.setS_sel (d:D) (p:Heap):Heap.setS d p (Heap.sel d p)=p := by cases d <;> cases p <;> rfl
theorem Qf (p:K4) (h:Heap):Af p h (Aa p h)=h := by
  cases p
  simp only [Aa, Af, F2, Heap.setK_eq, HC.setK_eq, HB.setK_eq, HA.setK_eq, Heap.selK_eq, HC.selK_eq, HB.selK_eq, id, HA.setS_sel, HB.setS_sel, HC.setS_sel, Heap.setS_sel]
def KL (r:R) (κ:S->Heap->K4->R):R :=
  @R.rec (fun _ => R) (fun e t h n => @Ex.rec (fun _ => R) (κ t h n) (fun id => .ok (.exit id) t h n) (.ok .ret t h n) e) (C1 "") (fun w => .fail w) (fun _ _ a b => .both a b) r
abbrev P1 := S->Heap->(Nat->S->R)->R->R
def Hl (body:S->Heap->K4->R) (ih:Nat->S->Heap->K4->R) (k:Nat) (t:S) (h:Heap) (n:K4):R :=
  @Nat.rec (fun _ => R) (.fail "") (fun k _ => KL (body t h n) (ih k)) k
def NE (body:S->Heap->K4->R) (J:P1) (r:Nat):Nat->S->Heap->K4->R :=
  @Nat.rec (fun _ => Nat->S->Heap->K4->R) (fun k => DN body k)
    (fun _ ih k t h n => J t h (fun j t' => br (Nat.ble j k) (A9 (Nat.sub k j) fun k => Hl body ih k t' h n) (DN body k t h n)) (Hl body ih k t h n)) r
def Jj (body:S->Heap->K4->R) (J:P1):S->Heap->K4->R := NE body J 1000000 1000000000
def LI (body:S->Heap->K4->R) (J:P1):Prop :=
  ∀ t h κ κ0, J t h κ κ0=κ0 ∨ ∃ j t', J t h κ κ0=κ j t' ∧ ∀ k n, DN body (j+k) t h n=DN body k t' h n
theorem DJ (body:S->Heap->K4->R):∀ (k:Nat) (t:S) (h:Heap) (n:K4), DN body k t h n=Hl body (DN body) k t h n
  | 0, _, _, _ => rfl
  | _+1, _, _, _ => rfl
theorem WE {body:S->Heap->K4->R} {J:P1} (H:LI body J):∀ (r k:Nat), NE body J r k=DN body k := by
  intro r
  induction r with
  | zero => exact fun _ => rfl
  | succ r ih =>
    intro k
    funext t h n
    have e0:NE body J (r+1) k t h n=J t h (fun j t' => br (Nat.ble j k) (A9 (Nat.sub k j) fun k => Hl body (NE body J r) k t' h n) (DN body k t h n)) (Hl body (NE body J r) k t h n) := rfl
    have ih:NE body J r=DN body := funext ih
    rw [e0, ih]
    rcases H t h (fun j t' => br (Nat.ble j k) (A9 (Nat.sub k j) fun k => Hl body (DN body) k t' h n) (DN body k t h n)) (Hl body (DN body) k t h n) with e | ⟨j, t', e, hj⟩
    · rw [e, ←DJ]
    · rw [e]
      cases hb:Nat.ble j k with
      | false => rfl
      | true =>
        have hb := Nat.le_of_ble_eq_true hb
        show A9 (Nat.sub k j) (fun k => Hl body (DN body) k t' h n)=_
        rw [A6, ←DJ, show Nat.sub k j=k - j from rfl, ←hj (k - j) n, show j+(k - j)=k by omega]
theorem JA {body:S->Heap->K4->R} {J:P1} (H:LI body J):C0 body=Jj body J := (WE H 1000000 1000000000).symm
def CH:S->Heap->K4->R := fun t h n => g7 t fun z20 => g6 t fun z21 => B2 z20 z21 fun z22 => Br z22 (Am 2 (g5 t fun z23 => Ao z23 fun z24 => Aq 2 z24 fun z25 => AB z25 h fun z26 => g2 t fun z27 => AJ z27 z20 fun z28 => EW z28 (.int .i64 64) fun z29 => PH (.sc .i) z26 z29 (.bool true) h fun h => .ok .nrm t h n) fun t h n => g7 t fun z2a => AJ z2a (.int .i64 1) fun z2b => w7 t z2b fun t => .ok .nrm t h n) <| .ok (.exit 1) t h n
def M6 (v:V) (κ0:R) (κ:Nat->R):R :=
  @V.rec (fun _ => R) (fun _ => Unit) (fun k r => br (AW k .i64) (κ r) κ0) (fun _ => κ0) (fun _ _ => κ0) (fun _ _ _ _ _ _ => κ0) (fun _ _ => κ0) (fun _ _ => κ0) (fun _ => κ0) (fun _ => κ0) (fun _ _ _ => κ0) (fun _ _ => κ0) (fun _ => κ0) () (fun _ _ _ _ => ()) v
def X5 (v:V) (κ0:R) (κ:K4->Nat->R):R :=
  @V.rec (fun _ => R) (fun _ => Unit) (fun _ _ => κ0) (fun _ => κ0) (fun p o => κ p o) (fun _ _ _ _ _ _ => κ0) (fun _ _ => κ0) (fun _ _ => κ0) (fun _ => κ0) (fun _ => κ0) (fun _ _ _ => κ0) (fun _ _ => κ0) (fun _ => κ0) () (fun _ _ _ _ => ()) v
def WH (v:V) (κ0:R) (κ:K4->R):R :=
  @V.rec (fun _ => R) (fun _ => Unit) (fun _ _ => κ0) (fun _ => κ0) (fun _ _ => κ0) (fun _ _ _ _ _ _ => κ0) (fun _ _ => κ0) (fun _ _ => κ0) (fun _ => κ0) (fun p => κ p) (fun _ _ _ => κ0) (fun _ _ => κ0) (fun _ => κ0) () (fun _ _ _ _ => ()) v
def Ig (v:V):Bool :=
  @V.rec (fun _ => Bool) (fun _ => Unit) (fun _ _ => false) (fun b => b) (fun _ _ => false) (fun _ _ _ _ _ _ => false) (fun _ _ => false) (fun _ _ => false) (fun _ => false) (fun _ => false) (fun _ _ _ => false) (fun _ _ => false) (fun _ => false) () (fun _ _ _ _ => ()) v
def Yx (m:Nat):List V->R->(V->R)->R :=
  @Nat.rec (fun _ => List V->R->(V->R)->R) (fun xs κ0 k => @List.rec V (fun _ => R) κ0 (fun x _ _ => k x) xs)
    (fun _ ih xs κ0 k => @List.rec V (fun _ => R) κ0 (fun _ ys _ => ih ys κ0 k) xs) m
def Rv (o:Cf) (i:Nat) (κ0:R) (κ:V->R):R :=
  @Option.rec Ob (fun _ => R) κ0 (fun o => @Ob.rec (fun _ => R) (fun cs _ _ => @Cs.rec (fun _ => R) (fun xs => Yx i xs κ0 κ) (fun _ _ => κ0) cs) (fun _ _ _ => κ0) (fun _ _ _ _ => κ0) κ0 (fun _ _ => κ0) o) o
def S2 (o:Cf) (κ0:R) (κ:List (V×V)->List Nat->R):R :=
  @Option.rec Ob (fun _ => R) κ0 (fun o => @Ob.rec (fun _ => R) (fun _ _ _ => κ0) (fun es bs _ => κ es bs) (fun _ _ _ _ => κ0) κ0 (fun _ _ => κ0) o) o
/-- Is the key there, and true? -/
def PD (k:Nat) (es:List (V×V)):Bool :=
  @List.rec (V×V) (fun _ => Bool) false (fun e _ ih => @Prod.rec V V (fun _ => Bool) (fun a b => @V.rec (fun _ => Bool) (fun _ => Unit) (fun kd r => br (AW kd .i64) (br (Nat.beq k r) (Ig b) ih) false) (fun _ => false) (fun _ _ => false) (fun _ _ _ _ _ _ => false) (fun _ _ => false) (fun _ _ => false) (fun _ => false) (fun _ => false) (fun _ _ _ => false) (fun _ _ => false) (fun _ => false) () (fun _ _ _ _ => ()) a) e) es
def NR:P1 := fun t h κ κ0 => g7 t fun i => g6 t fun m => g2 t fun a => g5 t fun x =>
  M6 i κ0 fun i0 => M6 m κ0 fun m0 => M6 a κ0 fun a0 => X5 x κ0 fun p off => B8 p h fun o => Rv o (Nat.add off 2) κ0 fun u => WH u κ0 fun q => B8 q h fun o => S2 o κ0 fun es bs =>
    br (Nat.ble m0 4611686018427387904) (br (Nat.ble a0 4611686018427387904) (br (Nat.ble i0 m0) (br (GM es bs) (A9 (Nat.div (Nat.add a0 i0) 64) fun k => br (PD k es)
      (A9 (Nat.sub m0 i0) fun j1 => A9 (Nat.sub (Nat.mul 64 (Nat.succ k)) (Nat.add a0 i0)) fun j2 => br (Nat.ble j1 j2) (A9 (Nat.add i0 j1) fun i => w7 t (.int .i64 i) fun t => κ j1 t) (A9 (Nat.add i0 j2) fun i => w7 t (.int .i64 i) fun t => κ j2 t))
      κ0) κ0) κ0) κ0) κ0
theorem VO (v:V) (κ0:R) (κ:Nat->R):M6 v κ0 κ=κ0 ∨ ∃ r, v = .int .i64 r∧M6 v κ0 κ=κ r := by
  cases v with
  | int k r =>
    show br (AW k .i64) (κ r) κ0=κ0 ∨ ∃ r', V.int k r = .int .i64 r'∧br (AW k .i64) (κ r) κ0=κ r'
    cases hb:AW k .i64 with
    | false => exact .inl rfl
    | true => exact .inr ⟨r, by rw [AA.1 hb], rfl⟩
  | _ => exact .inl rfl
theorem UX (v:V) (κ0:R) (κ:K4->Nat->R):X5 v κ0 κ=κ0 ∨ ∃ p o, v = .ptr p o∧X5 v κ0 κ=κ p o := by
  cases v with
  | ptr p o => exact .inr ⟨p, o, rfl, rfl⟩
  | _ => exact .inl rfl
theorem Uy (v:V) (κ0:R) (κ:K4->R):WH v κ0 κ=κ0 ∨ ∃ p, v = .map p∧WH v κ0 κ=κ p := by
  cases v with
  | map p => exact .inr ⟨p, rfl, rfl⟩
  | _ => exact .inl rfl
theorem PI:∀ (m:Nat) (xs:List V) (κ0:R) (κ:V->R), Yx m xs κ0 κ=κ0 ∨ ∃ v, xs[m]? = some v∧Yx m xs κ0 κ=κ v
  | 0, [], _, _ => .inl rfl
  | 0, x::_, _, _ => .inr ⟨x, rfl, rfl⟩
  | m+1, [], _, _ => .inl rfl
  | m+1, x::xs, κ0, κ => PI m xs κ0 κ
theorem Np:∀ {m:Nat} {xs:List V} {v:V} {κ:V->R}, xs[m]? = some v->DF m xs κ=κ v
  | 0, [], _, _, h => by cases h
  | 0, x::_, _, _, h => by cases h; rfl
  | m+1, [], _, _, h => by cases h
  | m+1, x::xs, v, κ, h => Np (m := m) (xs := xs) h
theorem SH (o:Cf) (i:Nat) (κ0:R) (κ:V->R):Rv o i κ0 κ=κ0 ∨ ∃ xs sup prev v, o=some (.c (.l xs) sup prev)∧xs[i]? = some v∧Rv o i κ0 κ=κ v := by
  cases o with
  | none => exact .inl rfl
  | some o => cases o with
    | c cs sup prev => cases cs with
      | l xs =>
        rcases PI i xs κ0 κ with e | ⟨v, h, e⟩
        · exact .inl e
        · exact .inr ⟨xs, sup, prev, v, rfl, h, e⟩
      | b _ _ => exact .inl rfl
    | _ => exact .inl rfl
theorem Tq (o:Cf) (κ0:R) (κ:List (V×V)->List Nat->R):S2 o κ0 κ=κ0 ∨ ∃ es bs c, o=some (.m es bs c)∧S2 o κ0 κ=κ es bs := by
  cases o with
  | none => exact .inl rfl
  | some o => cases o with
    | m es bs c => exact .inr ⟨es, bs, c, rfl, rfl⟩
    | _ => exact .inl rfl
theorem LP {v:V} (h:Ig v=true):v = .bool true := by
  cases v with
  | bool b => rw [show b=true from h]
  | _ => cases h
theorem Sk {k:Nat}:∀ {es:List (V×V)} {κ:List (V×V)->R}, PD k es=true->EN (.sc .i) (.int .i64 k) (.bool true) es κ=κ es
  | [], κ, h => by cases h
  | (a, b)::es, κ, h => by
    cases a with
    | int kd r =>
      have h:br (AW kd .i64) (br (Nat.beq k r) (Ig b) (PD k es)) false=true := h
      cases hk:AW kd .i64 with
      | false => rw [hk] at h; cases h
      | true =>
        have hkd := AA.1 hk
        subst hkd
        have hx:br (Nat.beq k r) (Ig b) (PD k es)=true := h
        have e0:EN (.sc .i) (.int .i64 k) (.bool true) ((.int .i64 r, b)::es) κ=BN (Nat.beq k r) fun q => br q (κ ((.int .i64 k, .bool true)::es)) (EN (.sc .i) (.int .i64 k) (.bool true) es fun l => κ ((.int .i64 r, b)::l)) := rfl
        rw [e0, B0]
        cases hb:Nat.beq k r with
        | true =>
          rw [hb] at hx
          rw [LP (show Ig b=true from hx), Nat.eq_of_beq_eq_true hb]; rfl
        | false =>
          rw [hb] at hx
          exact Sk (κ := fun l => κ ((.int .i64 r, b)::l)) (show PD k es=true from hx)
    | _ => cases h
theorem PE {a b:Nat} {κ:V->R} (h:a<b) (hb:b≤4611686018427387904):B2 (.int .i64 a) (.int .i64 b) κ=κ (.bool true) := by
  have e0:B2 (.int .i64 a) (.int .i64 b) κ=BN (br (Nat.ble 9223372036854775808 a) (br (Nat.ble 9223372036854775808 b) (Nat.ble (Nat.succ a) b) true) (br (Nat.ble 9223372036854775808 b) false (Nat.ble (Nat.succ a) b))) fun r => κ (.bool r) := rfl
  have h1:Nat.ble 9223372036854775808 a=false := Bool.eq_false_iff.2 fun h => by have := Nat.le_of_ble_eq_true h; omega
  have h2:Nat.ble 9223372036854775808 b=false := Bool.eq_false_iff.2 fun h => by have := Nat.le_of_ble_eq_true h; omega
  have h3:Nat.ble (Nat.succ a) b=true := Nat.ble_eq_true_of_le h
  rw [e0, B0, h1, h2, h3]; rfl
theorem JE {a b:Nat} {κ:V->R} (h:a+b<18446744073709551616):AJ (.int .i64 a) (.int .i64 b) κ=κ (.int .i64 (a+b)) := by
  have e0:AJ (.int .i64 a) (.int .i64 b) κ=A9 (Nat.mod (Nat.add a b) 18446744073709551616) fun r => κ (.int .i64 r) := rfl
  rw [e0, A6, show Nat.mod (Nat.add a b) 18446744073709551616=a+b from Nat.mod_eq_of_lt h]
theorem Ur {a:Nat} {κ:V->R} (h:a<9223372036854775808):EW (.int .i64 a) (.int .i64 64) κ=κ (.int .i64 (a / 64)) := by
  have e0:EW (.int .i64 a) (.int .i64 64) κ=br (Nat.ble (Nat.succ a) 9223372036854775808) (A9 (Nat.div a 64) fun r => κ (.int .i64 r)) (.fail "") := rfl
  rw [e0, show Nat.ble (Nat.succ a) 9223372036854775808=true from Nat.ble_eq_true_of_le h]
  show A9 (Nat.div a 64) (fun r => κ (V.int .i64 r))=κ (V.int .i64 (a / 64))
  rw [A6]; rfl
theorem Fg {id:Nat} {t:S} {h:Heap} {n:K4} {κ:S->Heap->K4->R}:Am id (.ok .nrm t h n) κ=κ t h n := rfl
theorem ZD {p:K4} {off:Nat} {h:Heap} {xs:List V} {sup:Bool} {prev:Option K4} {v:V} {κ:V->R} (hp:Aa p h=some (.c (.l xs) sup prev)) (hv:xs[off]? = some v):AB (.ptr p off) h κ=κ v := by
  show Kl p h (fun cs _ _ => F6 cs off κ)=_
  rw [Dk]
  have e:(Hh p h fun cs _ _ => F6 cs off κ)=@Option.rec Ob (fun _ => R) (.fail "") (fun o => @Ob.rec (fun _ => R) (fun cs _ _ => F6 cs off κ) (C1 "") (Fq "") (.fail "") (Av "") o) (Aa p h) := Cd _ _ _
  rw [e, hp]
  exact Np hv
theorem Aaa {q:K4} {h:Heap} {es:List (V×V)} {bs:List Nat} {c k:Nat} {κ:Heap->R} (hq:Aa q h=some (.m es bs c)) (hs:GM es bs=true) (hh:PD k es=true):PH (.sc .i) (.map q) (.int .i64 k) (.bool true) h κ=κ h := by
  show P2 q h (fun es bs c k' => EN (.sc .i) (.int .i64 k) (.bool true) es fun es => TC es bs c fun bs c => k' es bs c) κ=κ h
  rw [Jb]
  have e:∀ F, N1 q h F=@Option.rec Ob (fun _ => R) (.fail "") (fun o => @Ob.rec (fun _ => R) (C1 "") F (Fq "") (.fail "") (Av "") o) (Aa q h) := fun F => Cd _ _ _
  rw [e, hq]
  show EN (.sc .i) (.int .i64 k) (.bool true) es (fun es' => TC es' bs c fun bs c => F2 q h (some (.m es' bs c)) κ)=κ h
  rw [Sk hh]
  unfold TC
  rw [hs]
  show F2 q h (some (.m es bs c)) κ=κ h
  rw [AS, ←hq, Qf]
theorem Pl {d0 d1 d3 d4:V} {c2 c3 c4 c5 c6 c7:SQ} {h:Heap} {n p q:K4} {off i0 m0 a0 c:Nat} {xs:List V} {sup:Bool} {prev:Option K4} {es:List (V×V)} {bs:List Nat}
    (hp:Aa p h=some (.c (.l xs) sup prev)) (hv:xs[off+2]? = some (.map q)) (hq:Aa q h=some (.m es bs c)) (hs:GM es bs=true) (hm:m0≤4611686018427387904) (ha:a0≤4611686018427387904) (hi:i0<m0) (hh:PD ((a0+i0) / 64) es=true) :
    CH (.mk (.mk d0 d1 (.int .i64 a0) d3) (.mk d4 (.ptr p off) (.int .i64 m0) (.int .i64 i0)) c2 c3 c4 c5 c6 c7) h n = .ok .nrm (.mk (.mk d0 d1 (.int .i64 a0) d3) (.mk d4 (.ptr p off) (.int .i64 m0) (.int .i64 (i0+1))) c2 c3 c4 c5 c6 c7) h n := by
  have e1:∀ κ:V->R, Ao (.ptr p off) κ=κ (.ptr p off) := fun κ => rfl
  have e2:∀ κ:V->R, Aq 2 (.ptr p off) κ=κ (.ptr p (off+2)) := fun κ => by
    show A9 (Nat.add off 2) (fun o => κ (.ptr p o))=_
    rw [A6]
  unfold CH
  show B2 (.int .i64 i0) (.int .i64 m0) _=_
  rw [PE hi hm]
  show Am 2 (Ao (.ptr p off) _) _=_
  rw [e1, e2, ZD hp hv]
  show Am 2 (AJ (.int .i64 a0) (.int .i64 i0) _) _=_
  rw [JE (by omega), Ur (by omega), Aaa hq hs hh, Fg]
  show AJ (.int .i64 i0) (.int .i64 1) _=_
  rw [JE (by omega)]
theorem IY {d0 d1 d3 d4:V} {c2 c3 c4 c5 c6 c7:SQ} {h:Heap} {n p q:K4} {off m0 a0 c k:Nat} {xs:List V} {sup:Bool} {prev:Option K4} {es:List (V×V)} {bs:List Nat}
    (hp:Aa p h=some (.c (.l xs) sup prev)) (hv:xs[off+2]? = some (.map q)) (hq:Aa q h=some (.m es bs c)) (hs:GM es bs=true) (hm:m0≤4611686018427387904) (ha:a0≤4611686018427387904) (hh:PD k es=true) :
    ∀ (j i0:Nat), i0+j≤m0->(∀ r, r<j->(a0+(i0+r)) / 64=k)->∀ K, DN CH (j+K) (.mk (.mk d0 d1 (.int .i64 a0) d3) (.mk d4 (.ptr p off) (.int .i64 m0) (.int .i64 i0)) c2 c3 c4 c5 c6 c7) h n
      = DN CH K (.mk (.mk d0 d1 (.int .i64 a0) d3) (.mk d4 (.ptr p off) (.int .i64 m0) (.int .i64 (i0+j))) c2 c3 c4 c5 c6 c7) h n
  | 0, i0, _, _, K => by rw [Nat.zero_add]; rfl
  | j+1, i0, hj, hr, K => by
    have h0 := hr 0 (by omega)
    rw [show j+1+K=(j+K)+1 by omega, DJ]
    show KL (CH _ h n) (DN CH (j+K))=_
    rw [Pl hp hv hq hs hm ha (by omega) (by rw [show a0+i0=a0+(i0+0) by omega, h0]; exact hh)]
    show DN CH (j+K) _ h n=_
    rw [IY hp hv hq hs hm ha hh j (i0+1) (by omega) (fun r hr' => by have := hr (r+1) (by omega); rw [←this]; congr 2; omega) K, show i0+1+j=i0+(j+1) by omega]
section
variable {G:R->Prop}
theorem Fx {v:V} {κ0:R} {κ:Nat->R} (g0:G κ0) (g1:∀ r, v = .int .i64 r->G (κ r)):G (M6 v κ0 κ) := by
  rcases VO v κ0 κ with e | ⟨r, h, e⟩ <;> rw [e]
  · exact g0
  · exact g1 r h
theorem TL {v:V} {κ0:R} {κ:K4->Nat->R} (g0:G κ0) (g1:∀ p o, v = .ptr p o->G (κ p o)):G (X5 v κ0 κ) := by
  rcases UX v κ0 κ with e | ⟨p, o, h, e⟩ <;> rw [e]
  · exact g0
  · exact g1 p o h
theorem Vj {v:V} {κ0:R} {κ:K4->R} (g0:G κ0) (g1:∀ p, v = .map p->G (κ p)):G (WH v κ0 κ) := by
  rcases Uy v κ0 κ with e | ⟨p, h, e⟩ <;> rw [e]
  · exact g0
  · exact g1 p h
theorem Tz {o:Cf} {i:Nat} {κ0:R} {κ:V->R} (g0:G κ0) (g1:∀ xs sup prev v, o=some (.c (.l xs) sup prev)->xs[i]? = some v->G (κ v)):G (Rv o i κ0 κ) := by
  rcases SH o i κ0 κ with e | ⟨xs, sup, prev, v, h, h', e⟩ <;> rw [e]
  · exact g0
  · exact g1 xs sup prev v h h'
theorem T9 {o:Cf} {κ0:R} {κ:List (V×V)->List Nat->R} (g0:G κ0) (g1:∀ es bs c, o=some (.m es bs c)->G (κ es bs)):G (S2 o κ0 κ) := by
  rcases Tq o κ0 κ with e | ⟨es, bs, c, h, e⟩ <;> rw [e]
  · exact g0
  · exact g1 es bs c h
theorem Di {b:Bool} {x y:R} (g0:G y) (g1:b=true->G x):G (br b x y) := by
  cases b with
  | false => exact g0
  | true => exact g1 rfl
theorem HP {p:K4} {h:Heap} {κ:Cf->R} (g:G (κ (Aa p h))):G (B8 p h κ) := by rw [Bf]; exact g
theorem Im {m:Nat} {κ:Nat->R} (g:G (κ m)):G (A9 m κ) := by rw [A6]; exact g
end
theorem Qw:LI CH NR := by
  intro t h κ κ0
  cases t with
  | mk c0 c1 c2 c3 c4 c5 c6 c7 =>
    cases c0 with
    | mk d0 d1 a d3 =>
      cases c1 with
      | mk d4 x m i =>
        obtain ⟨T, hT⟩:∃ T:S, T = .mk (.mk d0 d1 a d3) (.mk d4 x m i) c2 c3 c4 c5 c6 c7 := ⟨_, rfl⟩
        obtain ⟨G, hG⟩:∃ G:R->Prop, ∀ r, G r ↔ (r=κ0 ∨ ∃ j t', r=κ j t' ∧ ∀ k n, DN CH (j+k) T h n=DN CH k t' h n) := ⟨_, fun r => Iff.rfl⟩
        have g0:G κ0 := (hG _).2 (.inl rfl)
        rw [←hT]
        refine (hG _).1 ?_
        rw [hT]
        refine Fx (G := G) g0 fun i0 hi => Fx (G := G) g0 fun m0 hm => Fx (G := G) g0 fun a0 ha => TL (G := G) g0 fun p off hx => HP (G := G) (Tz (G := G) g0 fun xs sup prev u hp hv => Vj (G := G) g0 fun q hu => ?_)
        subst hi hm ha hx hu
        refine HP (G := G) (T9 (G := G) g0 fun es bs c hq => Di (G := G) g0 fun b1 => Di (G := G) g0 fun b2 => Di (G := G) g0 fun b3 => Di (G := G) g0 fun b4 => Im (G := G) (Di (G := G) g0 fun b5 => Im (G := G) (Im (G := G) ?_)))
        have b1 := Nat.le_of_ble_eq_true b1
        have b2 := Nat.le_of_ble_eq_true b2
        have b3 := Nat.le_of_ble_eq_true b3
        have e1:Nat.sub m0 i0=m0 - i0 := rfl
        have e2:Nat.sub (Nat.mul 64 (Nat.succ (Nat.div (Nat.add a0 i0) 64))) (Nat.add a0 i0)=64*((a0+i0) / 64+1) - (a0+i0) := rfl
        have e3:Nat.div (Nat.add a0 i0) 64=(a0+i0) / 64 := rfl
        rw [e1, e2]
        rw [e3] at b5
        have key:∀ j, j≤m0 - i0->j≤64*((a0+i0) / 64+1) - (a0+i0)->∀ K n, DN CH (j+K) (.mk (.mk d0 d1 (.int .i64 a0) d3) (.mk d4 (.ptr p off) (.int .i64 m0) (.int .i64 i0)) c2 c3 c4 c5 c6 c7) h n
            = DN CH K (.mk (.mk d0 d1 (.int .i64 a0) d3) (.mk d4 (.ptr p off) (.int .i64 m0) (.int .i64 (i0+j))) c2 c3 c4 c5 c6 c7) h n := fun j hj1 hj2 K n =>
          IY hp hv hq b4 b1 b2 b5 j i0 (by omega) (fun r hr => by omega) K
        cases hb:Nat.ble (m0 - i0) (64*((a0+i0) / 64+1) - (a0+i0)) with
        | true =>
          rw [show ∀ x y:R, br true x y=x from fun _ _ => rfl, A6]
          refine (hG _).2 (.inr ⟨m0 - i0, _, rfl, fun K n => ?_⟩)
          rw [hT]
          exact key _ (Nat.le_refl _) (Nat.le_of_ble_eq_true hb) K n
        | false =>
          rw [show ∀ x y:R, br false x y=y from fun _ _ => rfl, A6]
          refine (hG _).2 (.inr ⟨64*((a0+i0) / 64+1) - (a0+i0), _, rfl, fun K n => ?_⟩)
          rw [hT]
          refine key _ ?_ (Nat.le_refl _) K n
          rcases Nat.lt_or_ge (64*((a0+i0) / 64+1) - (a0+i0)) (m0 - i0) with h' | h'
          · omega
          · rw [Nat.ble_eq_true_of_le h'] at hb; cases hb
theorem Pz:C0 CH=Jj CH NR := JA Qw
def IN:S->Heap->K4->R := fun t h n => g7 t fun ze => B2 ze (.int .i64 8) fun zf => Br zf (Am 3 (g3 t fun zg => ES zg (.int .u64 1) fun zh => I3 zg (.int .u32 1) fun zi => JZ zi fun zj => I3 (.int .u32 2197175160) zj fun zk => I5 zh zk fun zl => w3 t zl fun t => .ok .nrm t h n) fun t h n => g7 t fun zm => AJ zm (.int .i64 1) fun zn => w7 t zn fun t => .ok .nrm t h n) <| .ok (.exit 2) t h n
def Aap (v:V) (κ0:R) (κ:Nat->R):R :=
  @V.rec (fun _ => R) (fun _ => Unit) (fun k r => br (AW k .u32) (κ r) κ0) (fun _ => κ0) (fun _ _ => κ0) (fun _ _ _ _ _ _ => κ0) (fun _ _ => κ0) (fun _ _ => κ0) (fun _ => κ0) (fun _ => κ0) (fun _ _ _ => κ0) (fun _ _ => κ0) (fun _ => κ0) () (fun _ _ _ _ => ()) v
def IA (x:Nat):Nat := Nat.xor (Nat.shiftRight x 1) (Nat.land 2197175160 (Nat.mod (Nat.add 0 (Nat.sub 4294967296 (Nat.land x 1))) 4294967296))
def Gt (j:Nat):Nat->Nat := @Nat.rec (fun _ => Nat->Nat) (fun x => x) (fun _ ih x => ih (IA x)) j
theorem Vh {G:R->Prop} {v:V} {κ0:R} {κ:Nat->R} (g0:G κ0) (g1:∀ r, v = .int .u32 r->G (κ r)):G (Aap v κ0 κ) := by
  cases v with
  | int k r =>
    show G (br (AW k .u32) (κ r) κ0)
    cases hb:AW k .u32 with
    | false => exact g0
    | true => exact g1 r (by rw [AA.1 hb])
  | _ => exact g0
theorem Rg {x:Nat} (h:x<4294967296):IA x<4294967296 := by
  have h1:x >>> 1<2 ^ 32 := by rw [Nat.shiftRight_eq_div_pow]; omega
  have h2:2197175160 &&& ((0+(4294967296 - (x &&& 1))) % 4294967296)<2 ^ 32 := Nat.lt_of_le_of_lt Nat.and_le_left (by decide)
  exact Nat.xor_lt_two_pow h1 h2
theorem Tw {d0 d1 d2 d4 d5 d6:V} {c2 c3 c4 c5 c6 c7:SQ} {h:Heap} {n:K4} {i x:Nat} (hi:i<8) (hx:x<4294967296) :
    IN (.mk (.mk d0 d1 d2 (.int .u32 x)) (.mk d4 d5 d6 (.int .i64 i)) c2 c3 c4 c5 c6 c7) h n = .ok .nrm (.mk (.mk d0 d1 d2 (.int .u32 (IA x))) (.mk d4 d5 d6 (.int .i64 (i+1))) c2 c3 c4 c5 c6 c7) h n := by
  have e1:∀ κ:V->R, ES (.int .u32 x) (.int .u64 1) κ=κ (.int .u32 (Nat.shiftRight x 1)) := fun κ => by
    have e0:ES (.int .u32 x) (.int .u64 1) κ=br (Nat.ble (Nat.succ x) 4294967296) (A9 (Nat.shiftRight x 1) fun r => κ (.int .u32 r)) (.fail "") := rfl
    rw [e0, show Nat.ble (Nat.succ x) 4294967296=true from Nat.ble_eq_true_of_le hx]
    show A9 (Nat.shiftRight x 1) (fun r => κ (V.int .u32 r))=_
    rw [A6]
  have e2:∀ (a b:Nat) (κ:V->R), I3 (.int .u32 a) (.int .u32 b) κ=κ (.int .u32 (Nat.land a b)) := fun a b κ => by
    have e0:I3 (.int .u32 a) (.int .u32 b) κ=A9 (Nat.land a b) fun r => κ (.int .u32 r) := rfl
    rw [e0, A6]
  have e3:∀ (a b:Nat) (κ:V->R), I5 (.int .u32 a) (.int .u32 b) κ=κ (.int .u32 (Nat.xor a b)) := fun a b κ => by
    have e0:I5 (.int .u32 a) (.int .u32 b) κ=A9 (Nat.xor a b) fun r => κ (.int .u32 r) := rfl
    rw [e0, A6]
  have e4:∀ (a:Nat) (κ:V->R), JZ (.int .u32 a) κ=κ (.int .u32 (Nat.mod (Nat.add 0 (Nat.sub 4294967296 a)) 4294967296)) := fun a κ => by
    have e0:JZ (.int .u32 a) κ=A9 (Nat.mod (Nat.add 0 (Nat.sub 4294967296 a)) 4294967296) fun r => κ (.int .u32 r) := rfl
    rw [e0, A6]
  unfold IN
  show B2 (.int .i64 i) (.int .i64 8) _=_
  rw [PE hi (by omega)]
  show Am 3 (ES (.int .u32 x) (.int .u64 1) _) _=_
  rw [e1, e2, e4, e2, e3, Fg]
  show AJ (.int .i64 i) (.int .i64 1) _=_
  rw [JE (by omega)]; rfl
theorem Lv {d0 d1 d2 d4 d5 d6:V} {c2 c3 c4 c5 c6 c7:SQ} {h:Heap} {n:K4} :
    ∀ (j i x:Nat), i+j≤8->x<4294967296->∀ K, DN IN (j+K) (.mk (.mk d0 d1 d2 (.int .u32 x)) (.mk d4 d5 d6 (.int .i64 i)) c2 c3 c4 c5 c6 c7) h n
      = DN IN K (.mk (.mk d0 d1 d2 (.int .u32 (Gt j x))) (.mk d4 d5 d6 (.int .i64 (i+j))) c2 c3 c4 c5 c6 c7) h n
  | 0, i, x, _, _, K => by rw [Nat.zero_add]; rfl
  | j+1, i, x, hj, hx, K => by
    rw [show j+1+K=(j+K)+1 by omega, DJ]
    show KL (IN _ h n) (DN IN (j+K))=_
    rw [Tw (by omega) hx]
    show DN IN (j+K) _ h n=_
    rw [Lv j (i+1) (IA x) (by omega) (Rg hx) K, show i+1+j=i+(j+1) by omega]; rfl
end Go.Ev

namespace Go.Ev
set_option linter.unusedVariables false
theorem KD (x:Nat):IA x=(x >>> 1) ^^^ (if x % 2=1 then 2197175160 else 0) := by
  show (x >>> 1) ^^^ (2197175160 &&& ((0+(4294967296 - (x &&& 1))) % 4294967296))=_
  rw [Nat.and_one_is_mod]
  rcases Nat.mod_two_eq_zero_or_one x with h | h <;> rw [h] <;> rfl
theorem TM (a b:Nat):IA (a ^^^ b)=IA a ^^^ IA b := by
  rw [KD, KD, KD, Nat.shiftRight_xor_distrib]
  have h:(a ^^^ b) % 2=(a+b) % 2 := by
    have e := Nat.xor_mod_two_pow (a := a) (b := b) (n := 1)
    rw [Nat.pow_one] at e
    rw [e]
    rcases Nat.mod_two_eq_zero_or_one a with ha | ha <;> rcases Nat.mod_two_eq_zero_or_one b with hb | hb <;> rw [ha, hb, Nat.add_mod, ha, hb] <;> rfl
  rcases Nat.mod_two_eq_zero_or_one a with ha | ha <;> rcases Nat.mod_two_eq_zero_or_one b with hb | hb
  · have:(a ^^^ b) % 2=0 := by omega
    simp [ha, hb, this]
  · have:(a ^^^ b) % 2=1 := by omega
    simp [ha, hb, this, Nat.xor_assoc]
  · have:(a ^^^ b) % 2=1 := by omega
    simp only [ha, hb, this, if_true, if_false, Nat.xor_zero, reduceIte, Nat.zero_ne_one]
    simp only [Nat.xor_assoc, Nat.xor_comm (b >>> 1)]
  · have:(a ^^^ b) % 2=0 := by omega
    simp only [ha, hb, this, reduceIte, Nat.xor_zero, Nat.zero_ne_one]
    generalize a >>> 1=p
    generalize b >>> 1=q
    apply Nat.eq_of_testBit_eq
    intro i
    simp only [Nat.testBit_xor]
    cases p.testBit i <;> cases q.testBit i <;> cases (2197175160:Nat).testBit i <;> rfl
theorem PV:∀ (j a b:Nat), Gt j (a ^^^ b)=Gt j a ^^^ Gt j b
  | 0, _, _ => rfl
  | j+1, a, b => by
    show Gt j (IA (a ^^^ b))=Gt j (IA a) ^^^ Gt j (IA b)
    rw [TM, PV]
theorem SD (m:Nat):IA (2*m)=m := by
  rw [KD, Nat.mul_mod_right, Nat.shiftRight_eq_div_pow]; simp
theorem OQ:∀ (j q:Nat), Gt j (2 ^ j*q)=q
  | 0, q => by show 2 ^ 0*q=q; omega
  | j+1, q => by
    show Gt j (IA (2 ^ (j+1)*q))=q
    rw [show 2 ^ (j+1)*q=2*(2 ^ j*q) by rw [Nat.pow_succ, Nat.mul_comm (2 ^ j) 2, Nat.mul_assoc], SD, OQ]
theorem SR (y:Nat):y=(2 ^ 8*(y / 2 ^ 8)) ^^^ (y % 2 ^ 8) := by
  apply Nat.eq_of_testBit_eq
  intro i
  rw [Nat.testBit_xor, Nat.testBit_two_pow_mul, Nat.testBit_mod_two_pow, Nat.testBit_div_two_pow]
  by_cases h:8≤i
  · have h2:¬ i<8 := by omega
    simp [h, h2, show i - 8+8=i by omega]
  · have h2:i<8 := by omega
    simp [h, h2]
theorem Ky:∀ (j:Nat) {x:Nat}, x<4294967296->Gt j x<4294967296
  | 0, _, h => h
  | j+1, x, h => by show Gt j (IA x)<_; exact Ky j (Rg h)
def NW:Nat := 739192992287711479272199505450802174180944935565270117958735211195864883404034321072575759094604862722103638970562105654534965976895685875045062592379112792078985738769595739548904202597956689934399229134939183684703714920378025961387270778473281346239181994539903784708069763525514523240966634758967547723819948093640238732618841930738396489733218495472825776362786651876001733504161834172818020394346043168775838788836904094212573134772649703407841545716218812283123984658267516726659948613643534969466376019494666614718815429190684246327365394372519258139400530706807260825564948901732507176286259752944669944548605679086391305931301222988237278526118373278492307487107474296386730408839343753629123128283572704772544098648517013212824233746728729854273945055038163572363387039908578405517982904131040319505009390255243990278860523606265815895619710957563380635837315129012976704357344131429050367435482781212454439427280336740616644805562249867251859340971513883299426874200217165290071196282711253218164865174241416073419876796213293517950780480733835793334181716730049909888366296838117288969681076010175182486226749959458237712061794030512295298309798453151350168298336411933176330063767835252143862258384197256040876755067274410026075604127347481305827849130625987059819492849891529288490451730106428376839488665315100810248841715739596040091270955624355315201462555945279029196416991040143682248153287045556144390819759753283690710943841433520922330785319143598322120010359670046292912296136999474302691355293324886616216537430761212949134977443278613456733727644009057088654822989287437792990360527449046917776586498554113667460252688333953726837853077886002223252717428049737186417130969568838070377296274375688487884511950345697105344492065413654582468965021167618282726469469929715764674333614324035309623813703284835732759643444816186743644084768553800456975483023122915759126937036001171360984116527371042249105866775992680472790331893395027602898497596949565462107432141452181910127216554936352241472142685417685618824675396402282974391037184848625305334079832924861339728594832024687877422901193159812755254516361032103358958860399075665489958680801135040793967932263797765198140728704255468134266160630916650637156666977854355604551105352627939572551570066195951258251545213658746024110892771407706843609824354401912642345941057507434795836161327506684973593222243082074173577446865175872619707633030268690896528048779238513612740446475572226293760
abbrev Jn (y:Nat):Nat := Nat.xor (Nat.shiftRight y 8) (Nat.land (Nat.shiftRight NW (Nat.mul 32 (Nat.land y 255))) 4294967295)
theorem Wr:SU (fun b => Nat.beq (Gt 8 b) (Nat.land (Nat.shiftRight NW (Nat.mul 32 b)) 4294967295)) 256=true := by kernel_rfl
theorem J0 (y:Nat):Jn y=Gt 8 y := by
  have h255:Nat.land y 255=y % 2 ^ 8 := Nat.and_two_pow_sub_one_eq_mod y 8
  have hb:y % 2 ^ 8<256 := Nat.mod_lt _ (by decide)
  have key:Gt 8 (y % 2 ^ 8)=Nat.land (Nat.shiftRight NW (Nat.mul 32 (y % 2 ^ 8))) 4294967295 := Nat.eq_of_beq_eq_true (Ku Wr _ hb)
  have e:Gt 8 y=Gt 8 (2 ^ 8*(y / 2 ^ 8)) ^^^ Gt 8 (y % 2 ^ 8) := by rw [←PV, ←SR]
  rw [e, OQ, key]
  show Nat.xor (Nat.shiftRight y 8) (Nat.land (Nat.shiftRight NW (Nat.mul 32 (Nat.land y 255))) 4294967295)=_
  rw [h255]
  show (y >>> 8) ^^^ _=_
  rw [Nat.shiftRight_eq_div_pow]
theorem ZZ {a b:Nat} {κ:V->R} (h:b≤a) (ha:a≤4611686018427387904):B2 (.int .i64 a) (.int .i64 b) κ=κ (.bool false) := by
  have e0:B2 (.int .i64 a) (.int .i64 b) κ=BN (br (Nat.ble 9223372036854775808 a) (br (Nat.ble 9223372036854775808 b) (Nat.ble (Nat.succ a) b) true) (br (Nat.ble 9223372036854775808 b) false (Nat.ble (Nat.succ a) b))) fun r => κ (.bool r) := rfl
  have h1:Nat.ble 9223372036854775808 a=false := Bool.eq_false_iff.2 fun h => by have := Nat.le_of_ble_eq_true h; omega
  have h2:Nat.ble 9223372036854775808 b=false := Bool.eq_false_iff.2 fun h => by have := Nat.le_of_ble_eq_true h; omega
  have h3:Nat.ble (Nat.succ a) b=false := Bool.eq_false_iff.2 fun h => by have := Nat.le_of_ble_eq_true h; omega
  rw [e0, B0, h1, h2, h3]; rfl
theorem UN {p:K4} {off len cap esz i:Nat} {ex:Bool} {κ:V->R} (h:i<len) (hi:i<9223372036854775808):Bc esz (.sl p off len cap ex esz) (.int .i64 i) κ=κ (.ptr p (off+i*esz)) := by
  have e0:Bc esz (.sl p off len cap ex esz) (.int .i64 i) κ=br (Nat.ble (Nat.succ i) 9223372036854775808) (br (Nat.beq esz esz) (br (Nat.ble (Nat.succ i) len) (A9 (Nat.add off (Nat.mul i esz)) fun o => κ (.ptr p o)) (.fail "")) (.fail "")) (.fail "") := rfl
  rw [e0, show Nat.ble (Nat.succ i) 9223372036854775808=true from Nat.ble_eq_true_of_le hi, show Nat.ble (Nat.succ i) len=true from Nat.ble_eq_true_of_le h, show Nat.beq esz esz=true from Nat.beq_refl _]
  show A9 (Nat.add off (Nat.mul i esz)) (fun o => κ (.ptr p o))=_
  rw [A6]; rfl
theorem Vs {p:K4} {off m c:Nat} {h:Heap} {sup:Bool} {prev:Option K4} {κ:V->R} (hp:Aa p h=some (.c (.b m c) sup prev)) (hv:off<m):AB (.ptr p off) h κ=κ (.int .u8 (lo (sh c off) 1)) := by
  show Kl p h (fun cs _ _ => F6 cs off κ)=_
  rw [Dk]
  have e:(Hh p h fun cs _ _ => F6 cs off κ)=@Option.rec Ob (fun _ => R) (.fail "") (fun o => @Ob.rec (fun _ => R) (fun cs _ _ => F6 cs off κ) (C1 "") (Fq "") (.fail "") (Av "") o) (Aa p h) := Cd _ _ _
  rw [e, hp]
  show br (Nat.ble (Nat.succ off) m) (A9 (lo (sh c off) 1) fun r => κ (.int .u8 r)) (.fail "")=_
  rw [show Nat.ble (Nat.succ off) m=true from Nat.ble_eq_true_of_le hv]
  show A9 (lo (sh c off) 1) (fun r => κ (V.int .u8 r))=_
  rw [A6]
theorem K9 (c:Nat):lo c 1<256 := by rw [Dr]; exact Nat.mod_lt _ (by decide)
theorem O7 (c a:Nat):sh (sh c a) 1=sh c (a+1) := by
  rw [E7, E7, E7, Nat.div_div_eq_div_mul, ←Nat.pow_add]
def slE (v:V) (κ0:R) (κ:K4->Nat->Nat->Nat->R):R :=
  @V.rec (fun _ => R) (fun _ => Unit) (fun _ _ => κ0) (fun _ => κ0) (fun _ _ => κ0) (fun p off len _ _ esz => κ p off len esz) (fun _ _ => κ0) (fun _ _ => κ0) (fun _ => κ0) (fun _ => κ0) (fun _ _ _ => κ0) (fun _ _ => κ0) (fun _ => κ0) () (fun _ _ _ _ => ()) v
theorem Ro {G:R->Prop} {v:V} {κ0:R} {κ:K4->Nat->Nat->Nat->R} (g0:G κ0) (g1:∀ p off len cap ex esz, v = .sl p off len cap ex esz->G (κ p off len esz)):G (slE v κ0 κ) := by
  cases v with
  | sl p off len cap ex esz => exact g1 p off len cap ex esz rfl
  | _ => exact g0
def YG (o:Cf) (κ0:R) (κ:Nat->Nat->R):R :=
  @Option.rec Ob (fun _ => R) κ0 (fun o => @Ob.rec (fun _ => R) (fun cs _ _ => @Cs.rec (fun _ => R) (fun _ => κ0) κ cs) (fun _ _ _ => κ0) (fun _ _ _ _ => κ0) κ0 (fun _ _ => κ0) o) o
theorem OS {G:R->Prop} {o:Cf} {κ0:R} {κ:Nat->Nat->R} (g0:G κ0) (g1:∀ n c sup prev, o=some (.c (.b n c) sup prev)->G (κ n c)):G (YG o κ0 κ) := by
  cases o with
  | none => exact g0
  | some o => cases o with
    | c cs sup prev => cases cs with
      | l xs => exact g0
      | b n c => exact g1 n c sup prev rfl
    | _ => exact g0
def Zm (v:V) (κ0:R) (κ:Nat->R):R :=
  @V.rec (fun _ => R) (fun _ => Unit) (fun k r => br (AW k .u64) (κ r) κ0) (fun _ => κ0) (fun _ _ => κ0) (fun _ _ _ _ _ _ => κ0) (fun _ _ => κ0) (fun _ _ => κ0) (fun _ => κ0) (fun _ => κ0) (fun _ _ _ => κ0) (fun _ _ => κ0) (fun _ => κ0) () (fun _ _ _ _ => ()) v
theorem TU {G:R->Prop} {v:V} {κ0:R} {κ:Nat->R} (g0:G κ0) (g1:∀ r, v = .int .u64 r->G (κ r)):G (Zm v κ0 κ) := by
  cases v with
  | int k r =>
    show G (br (AW k .u64) (κ r) κ0)
    cases hb:AW k .u64 with
    | false => exact g0
    | true => exact g1 r (by rw [AA.1 hb])
  | _ => exact g0
def Dc:S->Heap->K4->R := fun t h n => g6 t fun z5 => g5 t fun z6 => B2 z5 z6 fun z7 => Br z7 (Am 1 (g4 t fun z8 => Bc 1 z8 z5 fun z9 => AB z9 h fun za => g3 t fun zb => AV .u32 za fun zc => I5 zb zc fun zd => Am 2 (w3 t zd fun t => w7 t (.int .i64 0) fun t => C0 IN t h n) fun t h n => .ok .nrm t h n) fun t h n => g6 t fun zo => AJ zo (.int .i64 1) fun zp => w6 t zp fun t => .ok .nrm t h n) <| .ok (.exit 0) t h n
def HX (j:Nat):Nat->Nat->Nat := @Nat.rec (fun _ => Nat->Nat->Nat) (fun _ x => x) (fun _ ih d x => ih (sh d 1) (Jn (Nat.xor x (lo d 1)))) j
def Yc (j:Nat):Nat->Nat->(Nat->R)->R := @Nat.rec (fun _ => Nat->Nat->(Nat->R)->R) (fun _ x κ => κ x) (fun _ ih d x κ => A9 (Nat.xor x (lo d 1)) fun y => A9 (Jn y) fun x => A9 (sh d 1) fun d => ih d x κ) j
theorem Rj:∀ (j d x:Nat) (κ:Nat->R), Yc j d x κ=κ (HX j d x)
  | 0, _, _, _ => rfl
  | j+1, d, x, κ => by
    show A9 (Nat.xor x (lo d 1)) (fun y => A9 (Jn y) fun x => A9 (sh d 1) fun d => Yc j d x κ)=κ (HX j (sh d 1) (Jn (Nat.xor x (lo d 1))))
    rw [A6, A6, A6, Rj]
theorem XI (d j:Nat):lo (lo d (j+1)) 1=lo d 1 := by
  rw [Dr, Dr, Dr, Nat.pow_succ, Nat.mod_mul_left_mod]
theorem X9 (d j:Nat):sh (lo d (j+1)) 1=lo (sh d 1) j := by
  rw [Dr, Dr, E7, E7, Nat.pow_succ, Nat.pow_one, Nat.mul_comm, Nat.mod_mul_right_div_self]
theorem O2:∀ (j d x:Nat), HX j (lo d j) x=HX j d x
  | 0, _, _ => rfl
  | j+1, d, x => by
    show HX j (sh (lo d (j+1)) 1) (Jn (Nat.xor x (lo (lo d (j+1)) 1)))=HX j (sh d 1) (Jn (Nat.xor x (lo d 1)))
    rw [XI, X9, O2]
def R7:P1 := fun t h κ κ0 => g6 t fun i => g5 t fun m => g4 t fun s => g3 t fun x => M6 i κ0 fun i0 => M6 m κ0 fun m0 => slE s κ0 fun p off len esz => Aap x κ0 fun x0 => B8 p h fun o => YG o κ0 fun nb c =>
  br (Nat.ble (Nat.succ i0) m0) (br (Nat.ble m0 len) (br (Nat.ble (Nat.add off len) nb) (br (Nat.beq esz 1) (br (Nat.ble (Nat.succ x0) 4294967296) (br (Nat.ble m0 4611686018427387904)
    (A9 (Nat.sub m0 i0) fun j => A9 (lo (sh c (Nat.add off i0)) j) fun d => Yc j d x0 fun x => w3 t (.int .u32 x) fun t => w6 t (.int .i64 m0) fun t => w7 t (.int .i64 8) fun t => κ j t) κ0) κ0) κ0) κ0) κ0) κ0
theorem Um (body:S->Heap->K4->R) (k:Nat) (t:S) (h:Heap) (n:K4):DN body (k+1) t h n=KL (body t h n) (DN body k) := DJ body (k+1) t h n
theorem Kd {id:Nat} {t:S} {h:Heap} {n:K4} {κ:S->Heap->K4->R}:Am id (.ok (.exit id) t h n) κ=κ t h n := by
  show br (Nat.beq id id) (κ t h n) (.ok (.exit id) t h n)=κ t h n
  rw [Nat.beq_refl]; rfl
theorem MW {d0 d1 d2 d4 d5 d6:V} {c2 c3 c4 c5 c6 c7:SQ} {h:Heap} {n:K4} {x:Nat} (hx:x<4294967296) :
    C0 IN (.mk (.mk d0 d1 d2 (.int .u32 x)) (.mk d4 d5 d6 (.int .i64 0)) c2 c3 c4 c5 c6 c7) h n = .ok (.exit 2) (.mk (.mk d0 d1 d2 (.int .u32 (Gt 8 x))) (.mk d4 d5 d6 (.int .i64 8)) c2 c3 c4 c5 c6 c7) h n := by
  show DN IN 1000000000 _ _ _=_
  rw [show (1000000000:Nat)=8+(999999991+1) from rfl, Lv 8 0 x (by omega) hx, Um]
  have e:IN (.mk (.mk d0 d1 d2 (.int .u32 (Gt 8 x))) (.mk d4 d5 d6 (.int .i64 (0+8))) c2 c3 c4 c5 c6 c7) h n = .ok (.exit 2) (.mk (.mk d0 d1 d2 (.int .u32 (Gt 8 x))) (.mk d4 d5 d6 (.int .i64 (0+8))) c2 c3 c4 c5 c6 c7) h n := by
    unfold IN
    show B2 (.int .i64 (0+8)) (.int .i64 8) _=_
    rw [ZZ (by omega) (by omega)]; rfl
  rw [e]; rfl
theorem QR {k:IntKind} {r:Nat} {κ:V->R} (h:r<256) (hk:256≤Mk k):AV k (.int .u8 r) κ=κ (.int k r) := by
  have e0:AV k (.int .u8 r) κ=br (Nat.ble (Nat.succ r) 256) (A9 (Nat.mod r (Mk k)) fun r => κ (.int k r)) (br (Nat.ble (Mk k) 256) (A9 (Nat.mod r (Mk k)) fun r => κ (.int k r)) (A9 (Nat.sub (Mk k) (Nat.sub 256 r)) fun r => κ (.int k r))) := rfl
  rw [e0, show Nat.ble (Nat.succ r) 256=true from Nat.ble_eq_true_of_le h]
  show A9 (Nat.mod r (Mk k)) (fun r => κ (V.int k r))=_
  rw [A6, show Nat.mod r (Mk k)=r from Nat.mod_eq_of_lt (by omega)]
theorem L3 {d0 d1 d2 d7:V} {c2 c3 c4 c5 c6 c7:SQ} {h:Heap} {n p:K4} {off len cap m i x nb c:Nat} {ex sup:Bool} {prev:Option K4}
    (hp:Aa p h=some (.c (.b nb c) sup prev)) (hi:i<m) (hm:m≤len) (hl:off+len≤nb) (hb:m≤4611686018427387904) (hx:x<4294967296) :
    Dc (.mk (.mk d0 d1 d2 (.int .u32 x)) (.mk (.sl p off len cap ex 1) (.int .i64 m) (.int .i64 i) d7) c2 c3 c4 c5 c6 c7) h n
      = .ok .nrm (.mk (.mk d0 d1 d2 (.int .u32 (Jn (Nat.xor x (lo (sh c (off+i)) 1))))) (.mk (.sl p off len cap ex 1) (.int .i64 m) (.int .i64 (i+1)) (.int .i64 8)) c2 c3 c4 c5 c6 c7) h n := by
  unfold Dc
  show B2 (.int .i64 i) (.int .i64 m) _=_
  rw [PE hi hb]
  show Am 1 (Bc 1 (.sl p off len cap ex 1) (.int .i64 i) _) _=_
  rw [UN (by omega) (by omega), Vs hp (by omega)]
  show Am 1 (AV .u32 (.int .u8 (lo (sh c (off+i*1)) 1)) _) _=_
  rw [QR (K9 _) (by decide), Nat.mul_one]
  have e3:∀ (a b:Nat) (κ:V->R), I5 (.int .u32 a) (.int .u32 b) κ=κ (.int .u32 (Nat.xor a b)) := fun a b κ => by
    have e0:I5 (.int .u32 a) (.int .u32 b) κ=A9 (Nat.xor a b) fun r => κ (.int .u32 r) := rfl
    rw [e0, A6]
  rw [e3]
  have hx2:Nat.xor x (lo (sh c (off+i)) 1)<4294967296 := Nat.xor_lt_two_pow (n := 32) hx (Nat.lt_trans (K9 _) (by decide))
  rw [J0]
  generalize Nat.xor x (lo (sh c (off+i)) 1)=y at hx2
  show Am 1 (Am 2 (C0 IN (.mk (.mk d0 d1 d2 (.int .u32 y)) (.mk (.sl p off len cap ex 1) (.int .i64 m) (.int .i64 i) (.int .i64 0)) c2 c3 c4 c5 c6 c7) h n) _) _=_
  rw [MW hx2, Kd, Fg]
  show AJ (.int .i64 i) (.int .i64 1) _=_
  rw [JE (by omega)]
theorem Hm {d0 d1 d2:V} {c2 c3 c4 c5 c6 c7:SQ} {h:Heap} {n p:K4} {off len cap m nb c:Nat} {ex sup:Bool} {prev:Option K4}
    (hp:Aa p h=some (.c (.b nb c) sup prev)) (hm:m≤len) (hl:off+len≤nb) (hb:m≤4611686018427387904) :
    ∀ (j i x:Nat) (d7:V), i+(j+1)≤m->x<4294967296->∀ K, DN Dc (j+1+K) (.mk (.mk d0 d1 d2 (.int .u32 x)) (.mk (.sl p off len cap ex 1) (.int .i64 m) (.int .i64 i) d7) c2 c3 c4 c5 c6 c7) h n
      = DN Dc K (.mk (.mk d0 d1 d2 (.int .u32 (HX (j+1) (sh c (off+i)) x))) (.mk (.sl p off len cap ex 1) (.int .i64 m) (.int .i64 (i+(j+1))) (.int .i64 8)) c2 c3 c4 c5 c6 c7) h n
  | 0, i, x, d7, hj, hx, K => by
    rw [show 0+1+K=K+1 by omega, DJ]
    show KL (Dc _ h n) (DN Dc K)=_
    rw [L3 hp (by omega) hm hl hb hx]; rfl
  | j+1, i, x, d7, hj, hx, K => by
    rw [show j+1+1+K=(j+1+K)+1 by omega, DJ]
    show KL (Dc _ h n) (DN Dc (j+1+K))=_
    rw [L3 hp (by omega) hm hl hb hx]
    show DN Dc (j+1+K) _ h n=_
    rw [Hm hp hm hl hb j (i+1) _ _ (by omega) (by rw [J0]; exact Ky 8 (Nat.xor_lt_two_pow (n := 32) hx (Nat.lt_trans (K9 _) (by decide)))) K]
    have e:HX (j+1+1) (sh c (off+i)) x=HX (j+1) (sh (sh c (off+i)) 1) (Jn (Nat.xor x (lo (sh c (off+i)) 1))) := rfl
    rw [e, O7, show off+(i+1)=off+i+1 by omega, show i+1+(j+1)=i+(j+1+1) by omega]
theorem SB:LI Dc R7 := by
  intro t h κ κ0
  cases t with
  | mk c0 c1 c2 c3 c4 c5 c6 c7 =>
    cases c0 with
    | mk d0 d1 d2 x =>
      cases c1 with
      | mk s m i d7 =>
        obtain ⟨T, hT⟩:∃ T:S, T = .mk (.mk d0 d1 d2 x) (.mk s m i d7) c2 c3 c4 c5 c6 c7 := ⟨_, rfl⟩
        obtain ⟨G, hG⟩:∃ G:R->Prop, ∀ r, G r ↔ (r=κ0 ∨ ∃ j t', r=κ j t' ∧ ∀ k n, DN Dc (j+k) T h n=DN Dc k t' h n) := ⟨_, fun r => Iff.rfl⟩
        have g0:G κ0 := (hG _).2 (.inl rfl)
        rw [←hT]
        refine (hG _).1 ?_
        rw [hT]
        refine Fx (G := G) g0 fun i0 hi => Fx (G := G) g0 fun m0 hm => Ro (G := G) g0 fun p off len cap ex esz hs => Vh (G := G) g0 fun x0 hx => HP (G := G) (OS (G := G) g0 fun nb c sup prev hp => ?_)
        subst hi hm hs hx
        refine Di (G := G) g0 fun b1 => Di (G := G) g0 fun b2 => Di (G := G) g0 fun b3 => Di (G := G) g0 fun b4 => Di (G := G) g0 fun b5 => Di (G := G) g0 fun b6 => ?_
        have b1 := Nat.le_of_ble_eq_true b1
        have b2 := Nat.le_of_ble_eq_true b2
        have b3:off+len≤nb := Nat.le_of_ble_eq_true b3
        have b4 := Nat.eq_of_beq_eq_true b4
        have b5 := Nat.le_of_ble_eq_true b5
        have b6 := Nat.le_of_ble_eq_true b6
        subst b4
        obtain ⟨j, hj⟩:∃ j, Nat.sub m0 i0=j+1 := ⟨m0 - i0 - 1, by show m0 - i0=_; omega⟩
        have hj':m0 - i0=j+1 := hj
        rw [hj, A6, A6, Rj, O2]
        refine (hG _).2 (.inr ⟨j+1, _, rfl, fun K n => ?_⟩)
        rw [hT, Hm hp b2 b3 b6 j i0 x0 d7 (by omega) b5 K, show i0+(j+1)=m0 by omega]; rfl
theorem Kq:C0 Dc=Jj Dc R7 := JA SB
def Fz:S->Heap->K4->R := fun t h n => g5 t fun z3 => g4 t fun z4 => B2 z3 z4 fun z5 => Br z5 (Am 1 (g3 t fun z6 => Bc 1 z6 z3 fun z7 => AB z7 h fun z8 => g2 t fun z9 => PN z9 (.int .u64 8) fun za => AV .u64 z8 fun zb => TK za zb fun zc => w2 t zc fun t => .ok .nrm t h n) fun t h n => g5 t fun zd => AJ zd (.int .i64 1) fun ze => w5 t ze fun t => .ok .nrm t h n) <| .ok (.exit 0) t h n
abbrev Ic (x b:Nat):Nat := Nat.lor (Nat.mod (Nat.shiftLeft x 8) 18446744073709551616) b
def FV (j:Nat):Nat->Nat->Nat := @Nat.rec (fun _ => Nat->Nat->Nat) (fun _ x => x) (fun _ ih d x => ih (sh d 1) (Ic x (lo d 1))) j
def UM (j:Nat):Nat->Nat->(Nat->R)->R := @Nat.rec (fun _ => Nat->Nat->(Nat->R)->R) (fun _ x κ => κ x) (fun _ ih d x κ => A9 (Ic x (lo d 1)) fun x => A9 (sh d 1) fun d => ih d x κ) j
theorem Pp:∀ (j d x:Nat) (κ:Nat->R), UM j d x κ=κ (FV j d x)
  | 0, _, _, _ => rfl
  | j+1, d, x, κ => by
    show A9 (Ic x (lo d 1)) (fun x => A9 (sh d 1) fun d => UM j d x κ)=κ (FV j (sh d 1) (Ic x (lo d 1)))
    rw [A6, A6, Pp]
theorem KI:∀ (j d x:Nat), FV j (lo d j) x=FV j d x
  | 0, _, _ => rfl
  | j+1, d, x => by
    show FV j (sh (lo d (j+1)) 1) (Ic x (lo (lo d (j+1)) 1))=FV j (sh d 1) (Ic x (lo d 1))
    rw [XI, X9, KI]
def Vb:P1 := fun t h κ κ0 => g5 t fun i => g4 t fun m => g3 t fun s => g2 t fun x => M6 i κ0 fun i0 => M6 m κ0 fun m0 => slE s κ0 fun p off len esz => Zm x κ0 fun x0 => B8 p h fun o => YG o κ0 fun nb c =>
  br (Nat.ble (Nat.succ i0) m0) (br (Nat.ble m0 len) (br (Nat.ble (Nat.add off len) nb) (br (Nat.beq esz 1) (br (Nat.ble m0 4611686018427387904)
    (A9 (Nat.sub m0 i0) fun j => A9 (lo (sh c (Nat.add off i0)) j) fun d => UM j d x0 fun x => w2 t (.int .u64 x) fun t => w5 t (.int .i64 m0) fun t => κ j t) κ0) κ0) κ0) κ0) κ0
theorem QD {d0 d1 d6 d7:V} {c2 c3 c4 c5 c6 c7:SQ} {h:Heap} {n p:K4} {off len cap m i x nb c:Nat} {ex sup:Bool} {prev:Option K4}
    (hp:Aa p h=some (.c (.b nb c) sup prev)) (hi:i<m) (hm:m≤len) (hl:off+len≤nb) (hb:m≤4611686018427387904) :
    Fz (.mk (.mk d0 d1 (.int .u64 x) (.sl p off len cap ex 1)) (.mk (.int .i64 m) (.int .i64 i) d6 d7) c2 c3 c4 c5 c6 c7) h n
      = .ok .nrm (.mk (.mk d0 d1 (.int .u64 (Ic x (lo (sh c (off+i)) 1))) (.sl p off len cap ex 1)) (.mk (.int .i64 m) (.int .i64 (i+1)) d6 d7) c2 c3 c4 c5 c6 c7) h n := by
  unfold Fz
  show B2 (.int .i64 i) (.int .i64 m) _=_
  rw [PE hi hb]
  show Am 1 (Bc 1 (.sl p off len cap ex 1) (.int .i64 i) _) _=_
  rw [UN (by omega) (by omega), Vs hp (by omega), Nat.mul_one]
  have e1:∀ (κ:V->R), PN (.int .u64 x) (.int .u64 8) κ=κ (.int .u64 (Nat.mod (Nat.shiftLeft x 8) 18446744073709551616)) := fun κ => by
    have e0:PN (.int .u64 x) (.int .u64 8) κ=A9 (Nat.mod (Nat.shiftLeft x 8) 18446744073709551616) fun r => κ (.int .u64 r) := rfl
    rw [e0, A6]
  have e2:∀ (a b:Nat) (κ:V->R), TK (.int .u64 a) (.int .u64 b) κ=κ (.int .u64 (Nat.lor a b)) := fun a b κ => by
    have e0:TK (.int .u64 a) (.int .u64 b) κ=A9 (Nat.lor a b) fun r => κ (.int .u64 r) := rfl
    rw [e0, A6]
  show Am 1 (PN (.int .u64 x) (.int .u64 8) _) _=_
  rw [e1, QR (K9 _) (by decide), e2, Fg]
  show AJ (.int .i64 i) (.int .i64 1) _=_
  rw [JE (by omega)]
theorem Hf {d0 d1 d6 d7:V} {c2 c3 c4 c5 c6 c7:SQ} {h:Heap} {n p:K4} {off len cap m nb c:Nat} {ex sup:Bool} {prev:Option K4}
    (hp:Aa p h=some (.c (.b nb c) sup prev)) (hm:m≤len) (hl:off+len≤nb) (hb:m≤4611686018427387904) :
    ∀ (j i x:Nat), i+j≤m->∀ K, DN Fz (j+K) (.mk (.mk d0 d1 (.int .u64 x) (.sl p off len cap ex 1)) (.mk (.int .i64 m) (.int .i64 i) d6 d7) c2 c3 c4 c5 c6 c7) h n
      = DN Fz K (.mk (.mk d0 d1 (.int .u64 (FV j (sh c (off+i)) x)) (.sl p off len cap ex 1)) (.mk (.int .i64 m) (.int .i64 (i+j)) d6 d7) c2 c3 c4 c5 c6 c7) h n
  | 0, i, x, hj, K => by rw [Nat.zero_add]; rfl
  | j+1, i, x, hj, K => by
    rw [show j+1+K=(j+K)+1 by omega, DJ]
    show KL (Fz _ h n) (DN Fz (j+K))=_
    rw [QD hp (by omega) hm hl hb]
    show DN Fz (j+K) _ h n=_
    rw [Hf hp hm hl hb j (i+1) _ (by omega) K]
    have e:FV (j+1) (sh c (off+i)) x=FV j (sh (sh c (off+i)) 1) (Ic x (lo (sh c (off+i)) 1)) := rfl
    rw [e, O7, show off+(i+1)=off+i+1 by omega, show i+1+j=i+(j+1) by omega]
theorem T8:LI Fz Vb := by
  intro t h κ κ0
  cases t with
  | mk c0 c1 c2 c3 c4 c5 c6 c7 =>
    cases c0 with
    | mk d0 d1 x s =>
      cases c1 with
      | mk m i d6 d7 =>
        obtain ⟨T, hT⟩:∃ T:S, T = .mk (.mk d0 d1 x s) (.mk m i d6 d7) c2 c3 c4 c5 c6 c7 := ⟨_, rfl⟩
        obtain ⟨G, hG⟩:∃ G:R->Prop, ∀ r, G r ↔ (r=κ0 ∨ ∃ j t', r=κ j t' ∧ ∀ k n, DN Fz (j+k) T h n=DN Fz k t' h n) := ⟨_, fun r => Iff.rfl⟩
        have g0:G κ0 := (hG _).2 (.inl rfl)
        rw [←hT]
        refine (hG _).1 ?_
        rw [hT]
        refine Fx (G := G) g0 fun i0 hi => Fx (G := G) g0 fun m0 hm => Ro (G := G) g0 fun p off len cap ex esz hs => TU (G := G) g0 fun x0 hx => HP (G := G) (OS (G := G) g0 fun nb c sup prev hp => ?_)
        subst hi hm hs hx
        refine Di (G := G) g0 fun b1 => Di (G := G) g0 fun b2 => Di (G := G) g0 fun b3 => Di (G := G) g0 fun b4 => Di (G := G) g0 fun b6 => ?_
        have b1 := Nat.le_of_ble_eq_true b1
        have b2 := Nat.le_of_ble_eq_true b2
        have b3:off+len≤nb := Nat.le_of_ble_eq_true b3
        have b4 := Nat.eq_of_beq_eq_true b4
        have b6 := Nat.le_of_ble_eq_true b6
        subst b4
        rw [A6, A6, Pp, KI]
        refine (hG _).2 (.inr ⟨Nat.sub m0 i0, _, rfl, fun K n => ?_⟩)
        rw [hT, Hf hp b2 b3 b6 (Nat.sub m0 i0) i0 x0 (by show i0+(m0 - i0)≤m0; omega) K, show i0+Nat.sub m0 i0=m0 by show i0+(m0 - i0)=m0; omega]; rfl
theorem Rt:C0 Fz=Jj Fz Vb := JA T8
end Go.Ev

namespace Go.Ev
set_option linter.unusedVariables false
theorem LY {P:Program} {f:FuncId} {fn:Func} {c:Code} {xs:Array Value} {w:World} {R:Value->World->Prop} (hf:P.funcs[f]? = some fn) (hb:fn.body=some c) (hn:(fn.name == "runtime.NumGoroutine")=false)
    (h:Calls P f xs w fun e w' => ∃ v, e = .returned v∧R v w'):M4 P f xs w R := by
  intro o a K Q hK
  have hn':fn.name ≠ "runtime.NumGoroutine" := by simpa using hn
  have e:(callFunc f xs).run P w = .ok (.enter f xs) w := by simp [callFunc, hf, hn', hb]
  rw [e]
  show Calls P f xs w _
  refine h.mono fun e w' ⟨v, he, hv⟩ => ?_
  subst he
  exact hK v w' hv
section
variable {P:Program} {ρ:Env} {B:Nat}
end
abbrev iI (n:Nat):V := .int .i64 n
abbrev iW (n:Nat):V := .int .u32 n
abbrev iB (n:Nat):V := .int .u8 n
abbrev iL (n:Nat):V := .int .u64 n
abbrev nR (t:S) (h:Heap) (n:K4):R := .ok .nrm t h n
abbrev rT (t:S) (h:Heap) (n:K4):R := .ok .ret t h n
def o8 (i:Nat):O8 := @Nat.rec (fun _ => O8) .d0 (fun i _ => @Nat.rec (fun _ => O8) .d1 (fun i _ => @Nat.rec (fun _ => O8) .d2 (fun i _ => @Nat.rec (fun _ => O8) .d3 (fun i _ => @Nat.rec (fun _ => O8) .d4 (fun i _ => @Nat.rec (fun _ => O8) .d5 (fun i _ => @Nat.rec (fun _ => O8) .d6 (fun _ _ => .d7) i) i) i) i) i) i) i
def o4 (i:Nat):O4 := @Nat.rec (fun _ => O4) .d0 (fun i _ => @Nat.rec (fun _ => O4) .d1 (fun i _ => @Nat.rec (fun _ => O4) .d2 (fun _ _ => .d3) i) i) i
def mS (l:List Nat):SM := @List.rec Nat (fun _ => Nat->SM) (fun _ => []) (fun p _ ih i => (⟨D.ofN (Nat.div p 16), D.ofN (Nat.mod p 16)⟩, ⟨o8 (Nat.div i 4), o4 (Nat.mod i 4)⟩)::ih (Nat.succ i)) l 0
theorem YK {α:Type} {p:α->Bool} {l:List α} (k:Nat) (h1:((l.take k).all fun x => !p x)=true) (h2:((l.drop k).all fun x => !p x)=true):(l.all fun x => !p x)=true := by
  rw [←List.take_append_drop k l, List.all_append, h1, h2]; rfl
theorem Wo {P:Program} (h:(P.funcs.toList.all fun fn => !fn.goes)=true) (func:String):P.goesAt .entering func=false := by
  have key:∀ g:Nat, (P.funcs[g]?).any Func.goes=false := fun g => by
    cases hx:P.funcs[g]? with
    | none => rfl
    | some fn =>
      have hm:fn∈P.funcs.toList := by
        rw [←Array.getElem?_toList] at hx
        exact List.mem_of_getElem? hx
      have := List.all_eq_true.1 h fn hm
      simpa using this
  have hp:P.funcs.any Func.goes=false := by
    rw [←Array.any_toList, Bool.eq_false_iff]
    intro hc
    obtain ⟨fn, hm, hg⟩ := List.any_eq_true.1 hc
    have := List.all_eq_true.1 h fn hm
    rw [hg] at this; cases this
  have hgo:∀ f, P.goes f=false := fun f => by
    unfold Program.goes
    rw [hp, Bool.and_false, Bool.or_false, Bool.eq_false_iff]
    intro hc
    simp only [key] at hc
    simp at hc
  unfold Program.goesAt Program.goesFrom
  cases P.funcNamed func with
  | none => rfl
  | some f => simp [hgo f]
end Go.Ev

namespace Go.Ev
set_option linter.unusedVariables false
abbrev Kt := Nat->Option (Array Value×TypeId×(Nat×Nat))
/-- The environment of a program whose blocks gl stay as they are. -/
def KG (P:Program) (fs:List Nat) (gl:Kt):Env := { KS P fs with gl := gl }
theorem Abt {P:Program} {fs:List Nat} {gl:Kt}:Bm (KG P fs gl) := fun _ => rfl
section
variable {P:Program} {ρ:Env} {B:Nat}
theorem Gf.gl {fs:List Nat} {gl:Kt} {f:FuncId} {e:Ent} (h:Gf P (KS P fs) f e):Gf P (KG P fs gl) f e := h
theorem JK.mkG {fs:List Nat} {gl:Kt} {T:FC} (h:∀ f e, B7 (Bj f) T=some e->N8 P (KG P fs gl) B f e) (ha:∀ f∈fs, ∃ e, B7 (Bj f) T=some e∧Gf P (KG P fs gl) f e):JK P (KG P fs gl) B T := by
  refine ⟨h, fun f A hA => ?_⟩
  have hA:@Bool.rec (fun _ => Option ApC) none (M0 P f) (fs.contains f)=some A := hA
  cases hc:fs.contains f with
  | false => rw [hc] at hA; cases hA
  | true => exact ha f (List.contains_iff_mem.1 hc)
/-- A table that stays. -/
def Qv (P:Program) (gl:Kt) (name:String) (k:IntKind) (zs:List Int):Prop := ∃ g e fr, P.globalNamed name=some g∧gl g=some ((zs.map fun z => Value.int k z).toArray, e, fr)
theorem Qv.is {gl:Kt} {name:String} {k:IntKind} {zs:List Int} {h:Heap} {n:K4} {φ:AN} {w:World} (t:Qv P gl name k zs) (hgl:ρ.gl=gl) (g:Gam ρ B h n φ w):Lib.TabIs P w name k zs := by
  obtain ⟨b, e, fr, h1, h2⟩ := t
  obtain ⟨_, h3⟩ := g.glob b _ e fr (by rw [hgl]; exact h2)
  unfold Lib.TabIs World.var?
  rw [h1, Option.bind_some, h3]
/-- The blocks of a world that a list names. -/
def UD (w:World) (l:List Nat):Kt := fun b => if b∈l then (match w.heap[b]? with | some (.cells c e fr) => some (c, e, fr) | _ => none) else none
theorem Wq {P:Program} {fs:List Nat} {w:World} {l:List Nat}:WY (KG P fs (UD w l)) w := fun b c e fr h => by
  have h:UD w l b=some (c, e, fr) := h
  unfold UD at h
  split at h
  · split at h
    · rename_i c' e' fr' hw
      cases h
      refine ⟨?_, hw⟩
      rcases Nat.lt_or_ge b w.heap.size with hb | hb
      · exact hb
      · rw [Array.getElem?_eq_none hb] at hw; cases hw
    · cases h
  · cases h
theorem Qv.of {w:World} {l:List Nat} {g:Nat} {name:String} {k:IntKind} {zs:List Int} (hg:P.globalNamed name=some g) (hl:g∈l) (h:Lib.TabIs P w name k zs):Qv P (UD w l) name k zs := by
  unfold Lib.TabIs World.var? at h
  rw [hg, Option.bind_some] at h
  split at h
  · rename_i c e fr hw
    cases h
    refine ⟨g, e, fr, hg, ?_⟩
    unfold UD
    rw [if_pos hl, hw]
  · cases h
def Jq (m:Nat):Nat->Nat := @Nat.rec (fun _ => Nat->Nat) (fun _ => 1) (fun _ ih u => br (Nat.ble (Nat.succ u) 10) 1 (Nat.succ (ih (Nat.div u 10)))) m
theorem QA:∀ (m u:Nat), u<10 ^ (m+1)->Jq m u=Lib.nDigits u
  | 0, u, h => by rw [Lib.nDigits_small (by simpa using h)]; rfl
  | m+1, u, h => by
    have e:Jq (m+1) u=br (Nat.ble (Nat.succ u) 10) 1 (Nat.succ (Jq m (u / 10))) := rfl
    rw [e]
    by_cases hu:u<10
    · rw [Ab.2 (by omega), Ac, Lib.nDigits_small hu]
    · rw [AF (by omega), Ai, Lib.nDigits_big hu, QA m (u / 10) (by rw [Nat.pow_succ] at h; omega)]
theorem QL {u:Nat} (h:u<18446744073709551616):Lib.nDigits u≤20 := by
  rw [←QA 19 u (by omega)]
  have:∀ (m u:Nat), Jq m u≤m+1 := by
    intro m
    induction m with
    | zero => intro u; exact Nat.le_refl _
    | succ m ih =>
      intro u
      have e:Jq (m+1) u=br (Nat.ble (Nat.succ u) 10) 1 (Nat.succ (Jq m (u / 10))) := rfl
      rw [e]
      cases Nat.ble (Nat.succ u) 10 with
      | true => show 1≤_; omega
      | false => have := ih (u / 10); show Nat.succ _≤_; omega
  exact this 19 u
/-- internal/strconv.numDigits. -/
def Jc:Ou := fun args h n =>
  Kf args fun x l => S4 l (Hx x fun k r => br (AW k .u64) (br (Nat.ble 1 r) (A9 (Jq 19 r) fun i => .rv (.int .i64 i) h n) (.fail "")) (.fail ""))
def Pj (P:Program) (f:FuncId):Prop := ∀ (u:Nat), 1≤u->u<18446744073709551616->∀ w:World, Lib.TabIs P w "internal/strconv.uint64pow10" .u64 Lib.pow10Tab->Calls P f #[.int .u64 u] w fun e w' => e = .returned (.int .i64 (Lib.nDigits u))∧w'=w
theorem Tl {f:FuncId} {fn:Func} {gl:Kt} (hf:P.funcs[f]? = some fn) (hb:fn.body.isSome=true) (hn:(fn.name == "runtime.NumGoroutine")=false) (hS:Pj P f) (hgl:ρ.gl=gl) (ht:Qv P gl "internal/strconv.uint64pow10" .u64 Lib.pow10Tab):Oc P ρ B f Jc := by
  intro args h n v h1 n1 hx φ w xs g hr
  have hg:(Jc args h n).good := by rw [hx]; trivial
  unfold Jc at hx hg
  obtain ⟨x, l, rfl, q1⟩ := Hc hg
  rw [q1] at hx hg
  obtain ⟨rfl, q2⟩ := L7 hg
  rw [q2] at hx
  obtain ⟨k, r, rfl, hx⟩ := Yw hx
  obtain ⟨hk, hx⟩ := Xw hx
  obtain rfl := AA.1 hk
  obtain ⟨h1', hx⟩ := Xw hx
  have h1' := Ab.1 h1'
  rw [A6] at hx
  cases hx
  obtain ⟨X, ys, hX, r0, hr⟩ := Ap.1 hr
  obtain rfl := Aw.1 hr
  obtain ⟨hlt, rfl⟩ := Cl r0
  have hlt:r<18446744073709551616 := hlt
  have hxs:xs = #[.int .u64 (Bx .u64 r)] := by cases xs; simp at hX; rw [hX]
  subst hxs
  rw [show Bx .u64 r=(r:Int) from Aj (by simp only [Hk]; exact hlt)]
  obtain ⟨c, hc⟩ := Option.isSome_iff_exists.1 hb
  refine LY hf hc hn ((hS r h1' hlt w (ht.is hgl g)).mono fun e w' ⟨he, hw⟩ => ⟨_, he, ?_⟩)
  subst hw
  refine ⟨φ, Fr.refl h φ n _, g, ?_⟩
  rw [QA 19 r (by omega)]
  have := QL hlt
  simp only [Al]
  generalize Lib.nDigits r=d at this
  exact ⟨by simp only [Mk]; omega, congrArg (Value.int .i64) (Aj (k := .i64) (by simp only [Hk]; omega)).symm⟩
end
theorem Kc {P:Program} {w:World}:∀ {l:List (String×DataW Unit)} {ps:List MemPlace}, DataW.LaidVars P w l ps->∀ {name:String} {d:DataW Unit}, (name, d)∈l →
    ∃ g t cs fuel p, P.globalNamed name=some g∧(P.globals[g]?).map (·.type)=some t∧w.var? P name=some cs∧DataW.trod (fun _ => ()) P w 0 (fun _ => true) false fuel t cs.toList=some (d, p)
  | [], _, _, _, _, hm => by cases hm
  | (n, d)::r, ps, h, name, d', hm => by
    obtain ⟨g, t, cs, fuel, p, q, h1, h2, h3, h4, h5, _⟩ := h
    rcases List.mem_cons.1 hm with e | e
    · cases e; exact ⟨g, t, cs, fuel, p, h1, h2, h3, h4⟩
    · exact Kc h5 e
theorem Ok {P:Program} {W:World} {name:String} {k:IntKind} {zs:List Int} {l:List (String×DataW Unit)} {g:Nat} {t e:TypeId} {n:Nat}
    (hg:P.globalNamed name=some g) (hty:(P.globals[g]?).map (·.type)=some t) (ht:P.underlying t=some (.array n e)) (he:P.underlying e=some (.int k)) (hce:P.cellsOf e=1) (hct:P.cellsOf t=n)
    (hm:(name, Lib.tabData k zs)∈l) (h:laidMet P l W):Lib.TabIs P W name k zs := by
  obtain ⟨ps, hv, _⟩ := h
  obtain ⟨g', t', cs, fuel, p, hg', ht', hvar, hd⟩ := Kc hv hm
  obtain rfl := Option.some.inj (hg.symm.trans hg')
  obtain rfl := Option.some.inj (hty.symm.trans ht')
  unfold Lib.TabIs
  rw [hvar, ←Lib.cells_of_tab ht he hce hct hd]
end Go.Ev

namespace Go.Ev
set_option linter.unusedVariables false
open Go.RowKit
section
variable {P:Program} {ρ:Env} {B:Nat}
/-- What stands below stays; new blocks are nothing to it. -/
theorem Gam.below {h:Heap} {n:K4} {φ:AN} {w w':World} (g:Gam ρ B h n φ w) (b:Below w.heap.size w w'):Gam ρ B h n φ w'∧Fr h h φ φ n n w w' := by
  obtain ⟨b1, b2, b3, b4, b5⟩ := b
  refine ⟨⟨Nat.le_trans g.base b4, g.dom, fun p b s t hp => ⟨(g.blk p b s t hp).1, Nat.lt_of_lt_of_le (g.blk p b s t hp).2 b4⟩, fun p o b s t ho hp => Cj (b5 b (g.blk p b s t hp).2) (g.obj p o b s t ho hp), g.sep, g.sup,
    fun b c e fr hb => ⟨(g.glob b c e fr hb).1, by rw [b5 b (Nat.lt_of_lt_of_le (g.glob b c e fr hb).1 g.base)]; exact (g.glob b c e fr hb).2⟩⟩,
    ⟨AN.le_refl φ, fun _ _ h => .inl h, Nat.le_refl _, b1, b2, b3, b4, fun b hb _ => b5 b hb, fun _ _ _ _ h => .inl h, fun _ _ h => h⟩⟩
end
end Go.Ev

namespace Go.Ev
set_option linter.unusedVariables false
section
variable {P:Program} {ρ:Env} {B:Nat}
end
section
variable {ρ:Env} {φ:AN} {b o len cap lo hi hi' i:Nat} {c:Array Value} {e:TypeId} {fr:Nat×Nat}
end
end Go.Ev

namespace Go.Ev
set_option linter.unusedVariables false
theorem Sh (k:IntKind) (a b:Nat) (κ:V->R):AJ (.int k a) (.int k b) κ=κ (.int k ((a+b) % Mk k)) := by
  show kM k k (fun M => A9 (Nat.mod (Nat.add a b) M) fun r => κ (.int k r))=_
  rw [OK, AA.2 rfl, Ac, A6]; rfl
/-- A difference. -/
def Ie (k:IntKind) (a b:Nat):Nat := (a+(Mk k - b)) % Mk k
theorem Xl (k:IntKind) (a b:Nat) (κ:V->R):B6 (.int k a) (.int k b) κ=κ (.int k (Ie k a b)) := by
  show kM k k (fun M => A9 (Nat.mod (Nat.add a (Nat.sub M b)) M) fun r => κ (.int k r))=_
  rw [OK, AA.2 rfl, Ac, A6]; rfl
theorem TG (k:IntKind) (a b:Nat) (κ:V->R):DQ (.int k a) (.int k b) κ=κ (.int k ((a*b) % Mk k)) := by
  show kM k k (fun M => A9 (Nat.mod (Nat.mul a b) M) fun r => κ (.int k r))=_
  rw [OK, AA.2 rfl, Ac, A6]; rfl
theorem Ce (a b:Nat):Nat.beq a b=decide (a=b) := by
  rw [Bool.eq_iff_iff, decide_eq_true_iff]
  exact ⟨Nat.eq_of_beq_eq_true, fun h => by rw [h]; exact Nat.beq_refl b⟩
theorem Xp (k:IntKind) (a b:Nat) (κ:V->R):BB (.int k a) (.int k b) κ=κ (.bool (decide (a=b))) := by
  show kM k k (fun _ => BN (Nat.beq a b) fun r => κ (.bool r))=_
  rw [OK, AA.2 rfl, Ac, B0, Ce]
theorem XY (k:IntKind) (a b:Nat) (κ:V->R):Cg (.int k a) (.int k b) κ=κ (.bool (decide (¬ a=b))) := by
  show kM k k (fun _ => br (Nat.beq a b) (κ (.bool false)) (κ (.bool true)))=_
  rw [OK, AA.2 rfl, Ac, Ce]
  by_cases h:a=b
  · rw [decide_eq_true h, decide_eq_false (fun g => g h)]; rfl
  · rw [decide_eq_false h, decide_eq_true h]; rfl
/-- Signed numbers that are not negative, and unsigned ones, by their residues. -/
theorem O9 {k:IntKind} {a b:Nat} (ha:a<Hk k) (hb:b<Hk k):DH k a b=decide (a<b) := by
  unfold DH
  rw [AF ha, AF hb, Ai, Ai, CJ]
  exact decide_eq_decide.2 Nat.succ_le_iff
theorem XX (k:IntKind) (a b:Nat) (κ:V->R):B2 (.int k a) (.int k b) κ=κ (.bool (DH k a b)) := by
  show kH k k (fun H => BN (WU H a b) fun r => κ (.bool r))=_
  rw [RZ, AA.2 rfl, Ac, B0]; rfl
theorem Y3 (k:IntKind) (a b:Nat) (κ:V->R):Dv (.int k a) (.int k b) κ=κ (.bool (DH k b a)) := by
  show kH k k (fun H => BN (WU H b a) fun r => κ (.bool r))=_
  rw [RZ, AA.2 rfl, Ac, B0]; rfl
theorem XL (k:IntKind) (a b:Nat) (κ:V->R):EK (.int k a) (.int k b) κ=κ (.bool (!DH k b a)) := by
  show kH k k (fun H => br (WU H b a) (κ (.bool false)) (κ (.bool true)))=_
  rw [RZ, AA.2 rfl, Ac, UW]; cases DH k b a <;> rfl
theorem XC (k:IntKind) (a b:Nat) (κ:V->R):Cx (.int k a) (.int k b) κ=κ (.bool (!DH k a b)) := by
  show kH k k (fun H => br (WU H a b) (κ (.bool false)) (κ (.bool true)))=_
  rw [RZ, AA.2 rfl, Ac, UW]; cases DH k a b <;> rfl
theorem RA {k:IntKind} {a b:Nat} (ha:a<Hk k) (hb:b<Hk k) (h0:0<b) (κ:V->R):EW (.int k a) (.int k b) κ=κ (.int k (a / b)) := by
  show br (AW k k) (br (Nat.ble (Nat.succ a) (Hk k)) (br (Nat.ble (Nat.succ b) (Hk k)) (br (Nat.ble 1 b) (A9 (Nat.div a b) fun r => κ (.int k r)) _) _) _) _=_
  rw [AA.2 rfl, Ac, Ab.2 ha, Ac, Ab.2 hb, Ac, Ab.2 h0, Ac, A6]; rfl
theorem Sq {k:IntKind} {a b:Nat} (ha:a<Hk k) (hb:b<Hk k) (h0:0<b) (κ:V->R):Hp (.int k a) (.int k b) κ=κ (.int k (a % b)) := by
  show br (Nat.ble (Nat.succ a) (Hk k)) (br (AW k k) (br (Nat.ble (Nat.succ a) (Hk k)) (br (Nat.ble (Nat.succ b) (Hk k)) (br (Nat.ble 1 b) (A9 (Nat.mod a b) fun r => κ (.int k r)) (.fail "")) (.fail "")) (.fail "")) (.fail "")) (MF k a k b κ)=_
  rw [show Nat.ble (Nat.succ a) (Hk k)=true from Ab.2 ha, Ac, AA.2 rfl, Ac, Ac, show Nat.ble (Nat.succ b) (Hk k)=true from Ab.2 hb, Ac, show Nat.ble 1 b=true from Ab.2 h0, Ac, A6]; rfl
theorem Xm (k:IntKind) (a b:Nat) (κ:V->R):I3 (.int k a) (.int k b) κ=κ (.int k (a &&& b)) := by
  show br (AW k k) (A9 (Nat.land a b) fun r => κ (.int k r)) _=_
  rw [AA.2 rfl, Ac, A6]; rfl
theorem Ab5 (k:IntKind) (a b:Nat) (κ:V->R):TK (.int k a) (.int k b) κ=κ (.int k (a ||| b)) := by
  show br (AW k k) (A9 (Nat.lor a b) fun r => κ (.int k r)) _=_
  rw [AA.2 rfl, Ac, A6]; rfl
theorem XE (k:IntKind) (a b:Nat) (κ:V->R):I5 (.int k a) (.int k b) κ=κ (.int k (a ^^^ b)) := by
  show br (AW k k) (A9 (Nat.xor a b) fun r => κ (.int k r)) _=_
  rw [AA.2 rfl, Ac, A6]; rfl
/-- A number turned into one of another kind: not negative. -/
theorem GW {k j:IntKind} {a:Nat} (h:a<Hk j) (κ:V->R):AV k (.int j a) κ=κ (.int k (a % Mk k)) := by
  show br (Nat.ble (Nat.succ a) (Hk j)) (A9 (Nat.mod a (Mk k)) fun r => κ (.int k r)) _=_
  rw [Ab.2 h, Ac, A6]; rfl
theorem Abo (b:Bool) (x y:R):Br (.bool b) x y=bif b then x else y := by cases b <;> rfl
theorem Vc (b:Bool) (x y:V) (κ:V->R):AL (.bool b) x y κ=bif b then κ x else κ y := by cases b <;> rfl
theorem Xy (b:Bool) (κ:V->R):ET (.bool b) κ=κ (.bool (!b)) := by cases b <;> rfl
theorem Xq (w b:Bool) (h:Heap) (n:K4) (F:KV->R) (κ:KV):BU w (.bool b) h n F κ=bif b == w then F κ else κ Bb h n := by cases w <;> cases b <;> rfl
theorem Xr (w b:Bool) (F:(V->R)->R) (κ:V->R):Oy w (.bool b) F κ=bif b == w then F κ else κ Bb := by cases w <;> cases b <;> rfl
theorem XU (v:V) (h:Heap) (n:K4) (κ:V->R):AG (.rv v h n) κ=κ v := id rfl
theorem Xj (v:V) (h:Heap) (n:K4) (κ:KV):DY (.rv v h n) κ=κ v h n := id rfl
theorem TE (v:V) (h:Heap) (n:K4) (κ:KV):Ah (.rv v h n) κ=κ v h n := id rfl
theorem S0 (t:S) (h:Heap) (n:K4) (κ:S->Heap->K4->R):C5 (.ok .nrm t h n) κ=κ t h n := id rfl
theorem RY (i:Nat) (t:S) (h:Heap) (n:K4) (κ:S->Heap->K4->R):C5 (.ok (.exit i) t h n) κ = .ok (.exit i) t h n := id rfl
theorem RE (t:S) (h:Heap) (n:K4) (κ:S->Heap->K4->R):C5 (.ok .ret t h n) κ = .ok .ret t h n := id rfl
theorem Pm (i:Nat) (t:S) (h:Heap) (n:K4) (κ:S->Heap->K4->R):Am i (.ok .nrm t h n) κ=κ t h n := id rfl
theorem Pt (i:Nat) (t:S) (h:Heap) (n:K4) (κ:S->Heap->K4->R):Am i (.ok .ret t h n) κ = .ok .ret t h n := id rfl
theorem Pb (i j:Nat) (t:S) (h:Heap) (n:K4) (κ:S->Heap->K4->R):Am i (.ok (.exit j) t h n) κ=bif decide (j=i) then κ t h n else .ok (.exit j) t h n := by
  show br (Nat.beq j i) (κ t h n) (.ok (.exit j) t h n)=_
  rw [Ce]; cases decide (j=i) <;> rfl
theorem S6 (b:Bool) (x y:R) (κ:S->Heap->K4->R):C5 (bif b then x else y) κ=bif b then C5 x κ else C5 y κ := by cases b <;> rfl
theorem OL (i:Nat) (b:Bool) (x y:R) (κ:S->Heap->K4->R):Am i (bif b then x else y) κ=bif b then Am i x κ else Am i y κ := by cases b <;> rfl
theorem Vf (b:Bool) (x y:R) (κ:V->R):AG (bif b then x else y) κ=bif b then AG x κ else AG y κ := by cases b <;> rfl
theorem Ub (b:Bool) (x y:R) (κ:KV):DY (bif b then x else y) κ=bif b then DY x κ else DY y κ := by cases b <;> rfl
/-- What a cell of an object is. -/
def Sg (o:Cf) (off:Nat) (κ:V->R):R := @Option.rec Ob (fun _ => R) (.fail "") (fun o => @Ob.rec (fun _ => R) (fun cs _ _ => F6 cs off κ) (C1 "") (Fq "") (.fail "") (Av "") o) o
theorem Yh (p:K4) (off:Nat) (h:Heap) (κ:V->R):AB (.ptr p off) h κ=Sg (Aa p h) off κ := by
  show Kl p h (fun cs _ _ => F6 cs off κ)=_
  rw [Dk]; unfold Hh Sg; rw [Cd]
theorem V4 (xs:List V) (s:Bool) (pr:Option K4) (off:Nat) (κ:V->R):Sg (some (.c (.l xs) s pr)) off κ=DF off xs κ := id rfl
theorem TV (x:V) (xs:List V) (κ:V->R):DF 0 (x::xs) κ=κ x := id rfl
theorem Ui (m:Nat) (x:V) (xs:List V) (κ:V->R):DF (m+1) (x::xs) κ=DF m xs κ := id rfl
theorem Xd (off o:Nat) (p:K4) (κ:V->R):Aq off (.ptr p o) κ=κ (.ptr p (o+off)) := by
  show A9 (Nat.add o off) (fun o => κ (.ptr p o))=_
  rw [A6]; rfl
theorem Rs (p:K4) (o:Nat) (κ:V->R):Ao (.ptr p o) κ=κ (.ptr p o) := id rfl
end Go.Ev

namespace Go.Ev
set_option linter.unusedVariables false
theorem D.nx_all (d:D):(d.toN=15 ∧ ∀ (k:D->R) (c:R), d.nx k c=c) ∨ ∃ e:D, e.toN=d.toN+1 ∧ ∀ (k:D->R) (c:R), d.nx k c=k e := by
  cases d
  case d0 => exact .inr ⟨.d1, rfl, fun _ _ => rfl⟩
  case d1 => exact .inr ⟨.d2, rfl, fun _ _ => rfl⟩
  case d2 => exact .inr ⟨.d3, rfl, fun _ _ => rfl⟩
  case d3 => exact .inr ⟨.d4, rfl, fun _ _ => rfl⟩
  case d4 => exact .inr ⟨.d5, rfl, fun _ _ => rfl⟩
  case d5 => exact .inr ⟨.d6, rfl, fun _ _ => rfl⟩
  case d6 => exact .inr ⟨.d7, rfl, fun _ _ => rfl⟩
  case d7 => exact .inr ⟨.d8, rfl, fun _ _ => rfl⟩
  case d8 => exact .inr ⟨.d9, rfl, fun _ _ => rfl⟩
  case d9 => exact .inr ⟨.d10, rfl, fun _ _ => rfl⟩
  case d10 => exact .inr ⟨.d11, rfl, fun _ _ => rfl⟩
  case d11 => exact .inr ⟨.d12, rfl, fun _ _ => rfl⟩
  case d12 => exact .inr ⟨.d13, rfl, fun _ _ => rfl⟩
  case d13 => exact .inr ⟨.d14, rfl, fun _ _ => rfl⟩
  case d14 => exact .inr ⟨.d15, rfl, fun _ _ => rfl⟩
  case d15 => exact .inl ⟨rfl, fun _ _ => rfl⟩
theorem K4.nx_all (p:K4) (h:p.toN<65535):∃ q:K4, q.toN=p.toN+1 ∧ ∀ k:K4->R, p.nx k=k q := by
  obtain ⟨a, b, c, d⟩ := p
  simp only [K4.toN] at h
  have hd0:D.d0.toN=0 := id rfl
  have ha := a.toN_lt; have hb := b.toN_lt; have hc := c.toN_lt; have hd := d.toN_lt
  rcases d.nx_all with ⟨d1, d2⟩ | ⟨e, d1, d2⟩
  · rcases c.nx_all with ⟨c1, c2⟩ | ⟨e, c1, c2⟩
    · rcases b.nx_all with ⟨b1, b2⟩ | ⟨e, b1, b2⟩
      · rcases a.nx_all with ⟨a1, a2⟩ | ⟨e, a1, a2⟩
        · omega
        · exact ⟨⟨e, .d0, .d0, .d0⟩, by simp only [K4.toN, hd0]; omega, fun k => by show d.nx _ (c.nx _ (b.nx _ (a.nx _ _)))=_; rw [d2, c2, b2, a2]⟩
      · exact ⟨⟨a, e, .d0, .d0⟩, by simp only [K4.toN, hd0]; omega, fun k => by show d.nx _ (c.nx _ (b.nx _ _))=_; rw [d2, c2, b2]⟩
    · exact ⟨⟨a, b, e, .d0⟩, by simp only [K4.toN, hd0]; omega, fun k => by show d.nx _ (c.nx _ _)=_; rw [d2, c2]⟩
  · exact ⟨⟨a, b, c, e⟩, by simp only [K4.toN]; omega, fun k => by show d.nx _ _=_; rw [d2]⟩
/-- The next place, where there is one. -/
def K4.up (p:K4):K4 := if h:p.toN<65535 then Classical.choose (p.nx_all h) else p
theorem K4.up_toN {p:K4} (h:p.toN<65535):p.up.toN=p.toN+1 := by
  unfold K4.up; rw [dif_pos h]; exact (Classical.choose_spec (p.nx_all h)).1
theorem K4.nx_up {p:K4} (h:p.toN<65535) (k:K4->R):p.nx k=k p.up := by
  unfold K4.up; rw [dif_pos h]; exact (Classical.choose_spec (p.nx_all h)).2 k
theorem K4.ne_of_lt {p q:K4} (h:p.toN<q.toN):p≠q := fun e => by subst e; omega
theorem DU {n:K4} (hn:n.toN<65535) (h:Heap) (o:Ob) (κ:Heap->K4->R):Eh h n o κ=κ (Af n h (some o)) n.up := by
  rw [HG]
  have e:D6 h n o κ=n.nx fun n' => κ (Af n h (some o)) n' := AS _ _ _ _
  rw [e, K4.nx_up hn]
theorem Rc {n:K4} (hn:n.toN<65535) (h:Heap) (κ:KV):Hz h n κ=κ (.map n) (Af n h (some (.m [] [] 0))) n.up := DU hn _ _ _
theorem U5 {n:K4} (hn:n.toN<65535) (l:List V) (h:Heap) (κ:KV):Gs (.agg l) h n κ=κ (.ptr n 0) (Af n h (some (.c (.l l) false none))) n.up := DU hn _ _ _
theorem Xt {n:K4} (hn:n.toN<65535) (cs:Cs) (h:Heap) (κ:KV):EJ cs h n κ=κ (.ptr n 0) (Af n h (some (.c cs false none))) n.up := DU hn _ _ _
theorem QQ {n:K4} (hn:n.toN<65535) (len esz:Nat) (l:List V) (h:Heap) (κ:KV):Co false len esz l h n κ=κ (.sl n 0 len len true esz) (Af n h (some (.c (.l l) false none))) n.up := DU hn _ _ _
theorem VN {n:K4} (hn:n.toN<65535) (esz:Nat) (h:Heap) (κ:KV):Co true 0 esz [] h n κ=κ (.sl n 0 0 0 true esz) (Af n h (some (.c (.b 0 0) false none))) n.up := DU hn _ _ _
theorem J5:∀ {m:Nat} {xs:List V} {k:List V->R}, m≤xs.length->CU m xs k=k (xs.take m)
  | 0, xs, k, _ => rfl
  | m+1, [], k, h => by simp at h
  | m+1, x::xs, k, h => by
    have := J5 (m := m) (xs := xs) (k := fun zs => k (x::zs)) (by simpa using h)
    exact this
theorem IC:∀ {m:Nat} {xs:List V} {k:List V->R}, m≤xs.length->Do m xs k=k (xs.drop m)
  | 0, xs, k, _ => rfl
  | m+1, [], k, h => by simp at h
  | m+1, x::xs, k, h => IC (m := m) (xs := xs) (k := k) (by simpa using h)
theorem RC:∀ {m:Nat} {xs:List V} {k:V->R} {v:V}, xs[m]? = some v->DF m xs k=k v
  | 0, [], k, v, h => by simp at h
  | 0, x::xs, k, v, h => by simp at h; subst h; rfl
  | m+1, [], k, v, h => by simp at h
  | m+1, x::xs, k, v, h => RC (m := m) (xs := xs) (k := k) (by simpa using h)
theorem Fn {p:K4} {h:Heap} {cs:Cs} {s:Bool} {pr:Option K4} (hp:Aa p h=some (.c cs s pr)) (κ:Cs->Bool->Option K4->R):Hh p h κ=κ cs s pr := by
  unfold Hh; rw [Cd, hp]
theorem YT {p:K4} {h:Heap} {es:List (V×V)} {bs:List Nat} {c:Nat} (hp:Aa p h=some (.m es bs c)) (κ:List (V×V)->List Nat->Nat->R):N1 p h κ=κ es bs c := by
  unfold N1; rw [Cd, hp]
theorem Ra:∀ {off:Nat} {xs:List V} {v:V} {κ:List V->R}, off<xs.length->BY off xs v κ=κ (xs.set off v)
  | 0, [], v, κ, h => by simp at h
  | 0, x::xs, v, κ, h => rfl
  | off+1, [], v, κ, h => by simp at h
  | off+1, x::xs, v, κ, h => Ra (off := off) (xs := xs) (v := v) (κ := fun zs => κ (x::zs)) (by simpa using h)
/-- One cell of a struct. -/
theorem ZP {p:K4} {h:Heap} {xs:List V} {off:Nat} (hp:Aa p h=some (.c (.l xs) false none)) (ho:off<xs.length) (v:V) (κ:Heap->R):Jm h p off v κ=κ (Af p h (some (.c (.l (xs.set off v)) false none))) := by
  rw [Jm, JH, Fn hp]
  show BY off xs v (fun zs => IJ none h fun h => F2 p h (some (.c (.l zs) false none)) κ)=_
  rw [Ra ho]
  exact AS _ _ _ _
theorem HA.setS_setS (d:D) (p:HA) (x y:Cf):HA.setS d (HA.setS d p x) y=HA.setS d p y := by cases d <;> cases p <;> rfl
theorem HB.setS_setS (d:D) (p:HB) (x y:HA):HB.setS d (HB.setS d p x) y=HB.setS d p y := by cases d <;> cases p <;> rfl
theorem HC.setS_setS (d:D) (p:HC) (x y:HB):HC.setS d (HC.setS d p x) y=HC.setS d p y := by cases d <;> cases p <;> rfl
theorem Heap.setS_setS (d:D) (p:Heap) (x y:HC):Heap.setS d (Heap.setS d p x) y=Heap.setS d p y := by cases d <;> cases p <;> rfl
theorem Gm (p:K4) (h:Heap) (x y:Cf):Af p (Af p h x) y=Af p h y := by
  cases p
  simp only [Af, F2, Heap.setK_eq, HC.setK_eq, HB.setK_eq, HA.setK_eq, Heap.selK_eq, HC.selK_eq, HB.selK_eq, id, Heap.sel_setS_same, HC.sel_setS_same, HB.sel_setS_same, Heap.setS_setS, HC.setS_setS, HB.setS_setS, HA.setS_setS]
/-- A store of one cell to a struct. -/
def Uq (o:Cf) (h:Heap) (p:K4) (off:Nat) (v:V) (κ:Heap->R):R :=
  match o with
  | some (.c (.l xs) false none) => bif Nat.ble (off+1) xs.length then κ (Af p h (some (.c (.l (xs.set off v)) false none))) else Jm h p off v κ
  | _ => Jm h p off v κ
theorem Ii (h:Heap) (p:K4) (off:Nat) (v:V) (κ:Heap->R):Jm h p off v κ=Uq (Aa p h) h p off v κ := by
  unfold Uq
  split
  · rename_i xs hp
    cases hb:Nat.ble (off+1) xs.length with
    | true => exact ZP hp (Ab.1 hb) v κ
    | false => rfl
  · rfl
theorem XO (xs:List V) (h:Heap) (p:K4) (off:Nat) (v:V) (κ:Heap->R):Uq (some (.c (.l xs) false none)) h p off v κ=bif Nat.ble (off+1) xs.length then κ (Af p h (some (.c (.l (xs.set off v)) false none))) else Jm h p off v κ := id rfl
theorem TS (p:K4) (off:Nat) (h:Heap) (k:IntKind) (r:Nat) (κ:Heap->R):Bk (.ptr p off) (.int k r) h κ=Uq (Aa p h) h p off (.int k r) κ := Ii _ _ _ _ _
theorem Se (p:K4) (off:Nat) (h:Heap) (b:Bool) (κ:Heap->R):Bk (.ptr p off) (.bool b) h κ=Uq (Aa p h) h p off (.bool b) κ := Ii _ _ _ _ _
theorem Uw (p:K4) (off:Nat) (h:Heap) (q:K4) (r:Nat) (κ:Heap->R):Bk (.ptr p off) (.ptr q r) h κ=Uq (Aa p h) h p off (.ptr q r) κ := Ii _ _ _ _ _
theorem VD (p:K4) (off:Nat) (h:Heap) (q:K4) (κ:Heap->R):Bk (.ptr p off) (.map q) h κ=Uq (Aa p h) h p off (.map q) κ := Ii _ _ _ _ _
theorem Vn (p:K4) (off:Nat) (h:Heap) (w:Nl) (κ:Heap->R):Bk (.ptr p off) (.nil w) h κ=Uq (Aa p h) h p off (.nil w) κ := Ii _ _ _ _ _
theorem Xe (p:K4) (off:Nat) (h:Heap) (q:K4) (a b c:Nat) (e:Bool) (z:Nat) (κ:Heap->R):Bk (.ptr p off) (.sl q a b c e z) h κ=Uq (Aa p h) h p off (.sl q a b c e z) κ := Ii _ _ _ _ _
theorem QZ (p:K4) (off:Nat) (h:Heap) (n c:Nat) (κ:Heap->R):Bk (.ptr p off) (.str n c) h κ=Uq (Aa p h) h p off (.str n c) κ := Ii _ _ _ _ _
theorem V2 (neg:Bool) (p:K4) (o:Nat) (κ:V->R):Eb neg (.rf .ptr) (.ptr p o) (.nil .ptr) κ=κ (.bool neg) := by cases neg <;> rfl
theorem U0 (neg:Bool) (w:Nl) (κ:V->R):Eb neg (.rf w) (.nil w) (.nil w) κ=κ (.bool (!neg)) := by cases neg <;> cases w <;> rfl
theorem R4 (neg:Bool) (p:K4) (a b c:Nat) (e:Bool) (z:Nat) (κ:V->R):Eb neg (.rf .sl) (.sl p a b c e z) (.nil .sl) κ=κ (.bool neg) := by cases neg <;> rfl
theorem Ul (neg:Bool) (n c:Nat) (κ:V->R):Eb neg (.rf .sl) (.oth (.rb n c)) (.nil .sl) κ=κ (.bool neg) := by cases neg <;> rfl
theorem RJ {a b:Nat} (ha:a<18446744073709551616) (hb:b<18446744073709551616):(AT (Hk .i64) (Mk .i64) a+1≤AT (Hk .i64) (Mk .i64) b ↔ DH .i64 a b=true)∧(DH .i64 a b=false->AT (Hk .i64) (Mk .i64) b≤AT (Hk .i64) (Mk .i64) a) := by
  have h1:∀ x:Nat, x<18446744073709551616->(Nat.ble (Hk .i64) x=true∧9223372036854775808≤x∧AT (Hk .i64) (Mk .i64) x=x - 9223372036854775808)∨(Nat.ble (Hk .i64) x=false∧x<9223372036854775808∧AT (Hk .i64) (Mk .i64) x=x+9223372036854775808) := fun x hx => by
    unfold AT
    rcases Nat.lt_or_ge x 9223372036854775808 with h | h
    · exact .inr ⟨AF h, h, by rw [AF (show x<Hk .i64 from h), Ai]; rfl⟩
    · exact .inl ⟨Ab.2 h, h, by rw [Ab.2 (show Hk .i64≤x from h), Ac]; rfl⟩
  have e:DH .i64 a b=br (Nat.ble (Hk .i64) a) (br (Nat.ble (Hk .i64) b) (Nat.ble (Nat.succ a) b) true) (br (Nat.ble (Hk .i64) b) false (Nat.ble (Nat.succ a) b)) := id rfl
  rw [e]
  have h2 := h1 a ha; have h3 := h1 b hb
  clear h1 e
  generalize AT (Hk .i64) (Mk .i64) a=ka at *
  generalize AT (Hk .i64) (Mk .i64) b=kb at *
  rcases h2 with ⟨a1, a2, a3⟩ | ⟨a1, a2, a3⟩ <;> rcases h3 with ⟨b1, b2, b3⟩ | ⟨b1, b2, b3⟩ <;> rw [a1, b1] <;> simp only [Ac, Ai, CJ, decide_eq_true_eq, decide_eq_false_iff_not, Bool.true_eq_false, Bool.false_eq_true, iff_false, iff_true, Nat.succ_eq_add_one, false_implies, and_true, true_implies] <;> omega
theorem MS {a b:Nat} (ha:a<18446744073709551616) (hb:b<18446744073709551616) (κ:V->R):JP (.int .i64 a) (.int .i64 b) κ=κ (.int .i64 (bif DH .i64 a b then b else a)) := by
  have on:∀ x, CG (Hk .i64) x x=true := fun x => by
    unfold CG
    rcases Nat.lt_or_ge x (Hk .i64) with h | h
    · rw [Ab.2 h, Ac]
    · rw [Ab.2 h]; cases Nat.ble (Nat.succ x) (Hk .i64) <;> rfl
  show br (AW .i64 .i64) (br (CG (Hk .i64) a a) (br (CG (Hk .i64) b b) (W2 (AT (Hk .i64) (Mk .i64) a) (AT (Hk .i64) (Mk .i64) a) (AT (Hk .i64) (Mk .i64) b) (AT (Hk .i64) (Mk .i64) b) (κ (.int .i64 b)) (κ (.int .i64 a))) (.fail "")) (.fail "")) (.fail "")=_
  rw [AA.2 rfl, Ac, on, Ac, on, Ac]
  unfold W2
  obtain ⟨k1, k2⟩ := RJ ha hb
  cases hl:DH .i64 a b with
  | true => rw [Ab.2 (k1.2 hl), Ac]; rfl
  | false =>
    have:¬ (AT (Hk .i64) (Mk .i64) a+1≤AT (Hk .i64) (Mk .i64) b) := fun h => by rw [k1.1 h] at hl; cases hl
    rw [AF (by show _<_; omega), Ai, Ab.2 (k2 hl), Ac]; rfl
theorem XA {a b:Nat} (ha:a<18446744073709551616) (hb:b<18446744073709551616) (κ:V->R):PC (.int .i64 a) (.int .i64 b) κ=κ (.int .i64 (bif DH .i64 b a then b else a)) := by
  have on:∀ x, CG (Hk .i64) x x=true := fun x => by
    unfold CG
    rcases Nat.lt_or_ge x (Hk .i64) with h | h
    · rw [Ab.2 h, Ac]
    · rw [Ab.2 h]; cases Nat.ble (Nat.succ x) (Hk .i64) <;> rfl
  show br (AW .i64 .i64) (br (CG (Hk .i64) a a) (br (CG (Hk .i64) b b) (W2 (AT (Hk .i64) (Mk .i64) b) (AT (Hk .i64) (Mk .i64) b) (AT (Hk .i64) (Mk .i64) a) (AT (Hk .i64) (Mk .i64) a) (κ (.int .i64 b)) (κ (.int .i64 a))) (.fail "")) (.fail "")) (.fail "")=_
  rw [AA.2 rfl, Ac, on, Ac, on, Ac]
  unfold W2
  obtain ⟨k1, k2⟩ := RJ hb ha
  cases hl:DH .i64 b a with
  | true => rw [Ab.2 (k1.2 hl), Ac]; rfl
  | false =>
    have:¬ (AT (Hk .i64) (Mk .i64) b+1≤AT (Hk .i64) (Mk .i64) a) := fun h => by rw [k1.1 h] at hl; cases hl
    rw [AF (by show _<_; omega), Ai, Ab.2 (k2 hl), Ac]; rfl
theorem Wi {a b:Nat} (ha:a<9223372036854775808) (hb:b<9223372036854775808):DH .i64 a b=decide (a<b) := O9 ha hb
theorem V8 {a b:Nat} (ha:9223372036854775808≤a) (hb:b<9223372036854775808):DH .i64 a b=true := by
  unfold DH; rw [Ab.2 (show Hk .i64≤a from ha), AF (show b<Hk .i64 from hb)]; rfl
theorem Si {a b:Nat} (ha:a<9223372036854775808) (hb:9223372036854775808≤b):DH .i64 a b=false := by
  unfold DH; rw [Ab.2 (show Hk .i64≤b from hb), AF (show a<Hk .i64 from ha)]; rfl
theorem VW {a b:Nat} (ha:9223372036854775808≤a) (hb:9223372036854775808≤b):DH .i64 a b=decide (a<b) := by
  unfold DH; rw [Ab.2 (show Hk .i64≤a from ha), Ab.2 (show Hk .i64≤b from hb), Ac, Ac, CJ]; exact decide_eq_decide.2 Nat.succ_le_iff
theorem ltu {k:IntKind} {a b:Nat} (hk:Hk k=Mk k) (ha:a<Mk k) (hb:b<Mk k):DH k a b=decide (a<b) := O9 (by rw [hk]; exact ha) (by rw [hk]; exact hb)
theorem OG {a b:Nat} (ha:a<18446744073709551616) (hb:b<18446744073709551616):DH .u64 a b=decide (a<b) := ltu rfl ha hb
theorem Li {a b:Nat} (h:b≤a) (ha:a<18446744073709551616):Ie .i64 a b=a - b := by
  unfold Ie
  show (a+(18446744073709551616 - b)) % 18446744073709551616=_
  omega
theorem RS:Ie .i64 0 1=18446744073709551615 := by decide
theorem S8:Ie .i64 18446744073709551615 1=18446744073709551614 := by decide
end Go.Ev

namespace Go.Ev
set_option linter.unusedVariables false
/-- A text, bytes in memory, bytes of memory that stays. -/
def sb (l:List UInt8):V := .str l.length (Ar l)
def cb (l:List UInt8):Cs := .b l.length (Ar l)
def LC (l:List UInt8):V := .oth (.rb l.length (Ar l))
theorem Fe (l:List UInt8) (i m:Nat):lo (sh (Ar l) i) m=Ar ((l.drop i).take m) := by
  rw [Dr, E7, J1, Ji]
theorem UT (l:List UInt8):lo (Ar l) l.length=Ar l := by
  rw [Dr, Ji, List.take_length]
theorem Kr (a b:List UInt8):Ar a+up (Ar b) a.length=Ar (a++b) := by
  rw [RQ, Ha]
theorem E9 {l:List UInt8} {i m:Nat} (h:i+m≤l.length):((l.drop i).take m).length=m := by
  rw [List.length_take, List.length_drop]; omega
theorem Gq {l:List UInt8} {i m:Nat} (h:i+m≤l.length) (κ:Cs->R):AY (cb l) i m κ=κ (cb ((l.drop i).take m)) := by
  show br (Nat.ble (Nat.add i m) l.length) (A9 (lo (sh (Ar l) i) m) fun r => κ (.b m r)) _=_
  rw [show Nat.ble (Nat.add i m) l.length=true from Ab.2 h, Ac, A6, Fe]
  unfold cb; rw [E9 h]
theorem W4 (a b:List UInt8) (κ:Cs->R):R2 (cb a) (cb b) κ=κ (cb (a++b)) := by
  show A9 (Nat.add a.length b.length) (fun l => A9 (Nat.add (lo (Ar a) a.length) (up (Ar b) a.length)) fun r => κ (.b l r))=_
  rw [A6, A6, UT]
  show κ (.b (a.length+b.length) (Ar a+up (Ar b) a.length))=_
  rw [Kr]; unfold cb; rw [List.length_append]
theorem Wj {a b:List UInt8} {i:Nat} (h:i+b.length≤a.length) (κ:Cs->R):Mb (cb a) i (cb b) κ=κ (cb (a.take i++(b++a.drop (i+b.length)))) := by
  show br (Nat.ble (Nat.add i b.length) a.length) (A9 (Nat.add (lo (Ar a) i) (up (Nat.add (lo (Ar b) b.length) (up (sh (Ar a) (Nat.add i b.length)) b.length)) i)) fun r => κ (.b a.length r)) _=_
  rw [show Nat.ble (Nat.add i b.length) a.length=true from Ab.2 h, Ac, A6, UT]
  have e1:sh (Ar a) (Nat.add i b.length)=Ar (a.drop (i+b.length)) := by rw [E7, J1]; rfl
  have e2:Nat.add (Ar b) (up (sh (Ar a) (Nat.add i b.length)) b.length)=Ar (b++a.drop (i+b.length)) := by rw [e1]; exact Kr _ _
  have e3:lo (Ar a) i=Ar (a.take i) := by rw [Dr, Ji]
  have e4:i=(a.take i).length := by rw [List.length_take]; omega
  rw [e2, e3]
  have e5:Nat.add (Ar (a.take i)) (up (Ar (b++a.drop (i+b.length))) i)=Ar (a.take i++(b++a.drop (i+b.length))) := by
    have := Kr (a.take i) (b++a.drop (i+b.length))
    rw [←e4] at this; exact this
  rw [e5]
  unfold cb
  have e6:(a.take i++(b++a.drop (i+b.length))).length=a.length := by simp only [List.length_append, List.length_take, List.length_drop]; omega
  rw [e6]
theorem Xg (l:List UInt8) (h:l.length<9223372036854775808) (κ:V->R):I6 (sb l) κ=κ (.int .i64 l.length) := by
  show br (Nat.ble (Nat.succ l.length) 9223372036854775808) (κ (.int .i64 l.length)) _=_
  rw [Ab.2 h, Ac]
theorem Vl {a b:List UInt8} (h:a.length+b.length≤1000000000) (κ:V->R):AJ (sb a) (sb b) κ=κ (sb (a++b)) := by
  have e0:AJ (sb a) (sb b) κ=Kp .add (sb a) (sb b) κ := KA .add _ _ _
  rw [e0]
  show A9 (Nat.add a.length b.length) (fun l => br (Nat.ble l 1000000000) (A9 (Nat.add (Ar a) (up (Ar b) a.length)) fun r => κ (.str l r)) _)=_
  rw [A6, show Nat.ble (Nat.add a.length b.length) 1000000000=true from Ab.2 h, Ac, A6]
  show κ (.str (a.length+b.length) (Ar a+up (Ar b) a.length))=_
  rw [Kr]; unfold sb; rw [List.length_append]
theorem Yj {p:K4} {h:Heap} {l:List UInt8} {s:Bool} {pr:Option K4} {off len cap:Nat} {ex:Bool} (hp:Aa p h=some (.c (cb l) s pr)) (hl:off+len≤l.length) (κ:V->R):GZ (.sl p off len cap ex 1) h κ=κ (sb ((l.drop off).take len)) := by
  show br (Nat.beq 1 1) (Kl p h fun cs _ _ => AY cs off len fun y => @Cs.rec (fun _ => R) (fun l => Cp l (fun m c => κ (.str m c)) (.fail "")) (fun m c => κ (.str m c)) y) (.fail "")=_
  rw [Nat.beq_refl, Ac, Dk, Fn hp, Gq hl]; rfl
theorem Ag8 (l:List UInt8) (h:Heap) (κ:Nat->Cs->R):H5 1 (sb l) h κ=κ l.length (cb l) := id rfl
theorem Zc {p:K4} {h:Heap} {l:List UInt8} {s:Bool} {pr:Option K4} {off len cap:Nat} {ex:Bool} (hp:Aa p h=some (.c (cb l) s pr)) (hl:off+len≤l.length) (κ:Nat->Cs->R):H5 1 (.sl p off len cap ex 1) h κ=κ len (cb ((l.drop off).take len)) := by
  show br (Nat.beq 1 1) (Hh p h fun cs _ _ => A9 (Nat.mul len 1) fun m => AY cs off m fun y => κ len y) (.fail "")=_
  rw [Nat.beq_refl, Ac, Fn hp, A6, show Nat.mul len 1=len from Nat.mul_one len, Gq hl]
theorem NM {m:Nat} (hm:0<m) (hm2:m≤1000000000000) {n:K4} (hn:n.toN<65535) (y:Cs) (h:Heap) (κ:KV):BZ 1 1 (.nil .sl) m y h n κ=κ (.sl n 0 m m false 1) (Af n h (some (.c y false none))) n.up := by
  show br (Nat.beq m 0) (κ (.nil .sl) h n) (br (Nat.ble (Nat.mul (Nat.add (Nat.mul 4 m) 4096) 1) 281474976710656) (Eh h n (.c y false none) fun h' n' => κ (.sl n 0 m m false 1) h' n') (.fail ""))=_
  rw [Ce, decide_eq_false (by omega), Ai, show Nat.ble (Nat.mul (Nat.add (Nat.mul 4 m) 4096) 1) 281474976710656=true from Ab.2 (by show (4*m+4096)*1≤_; omega), Ac, DU hn]
theorem LT {x:V} (hx:x = .nil .sl ∨ ∃ p off len cap ex, x = .sl p off len cap ex 1) (y:Cs) (h:Heap) (n:K4) (κ:KV):BZ 1 1 x 0 y h n κ=κ x h n := by
  rcases hx with rfl | ⟨p, off, len, cap, ex, rfl⟩ <;> rfl
/-- Bytes of one's own, full: they grow, and lie anew. -/
theorem Fj {p:K4} {h:Heap} {a b:List UInt8} {pr:Option K4} (hp:Aa p h=some (.c (cb a) false pr)) {ex:Bool} (hb:0<b.length) (hm2:a.length+b.length≤1000000000000) {n:K4} (hn:n.toN<65535) (κ:KV) :
    BZ 1 1 (.sl p 0 a.length a.length ex 1) b.length (cb b) h n κ=if ex then κ (.sl n 0 (a++b).length (a++b).length false 1) (Af n h (some (.c (cb (a++b)) false none))) n.up
      else κ (.sl n 0 (a++b).length (a++b).length false 1) (Af n (Af p (EF pr h) (some (.c (cb a) true none))) (some (.c (cb (a++b)) false (some p)))) n.up := by
  show br (Nat.beq 1 1) (br (Nat.beq b.length 0) (κ (.sl p 0 a.length a.length ex 1) h n) (A9 (Nat.add a.length b.length) fun need => br (Nat.ble need a.length) (A9 (Nat.add 0 (Nat.mul a.length 1)) fun j => El h p j (cb b) fun h' => κ (.sl p 0 need a.length ex 1) h' n)
    (br (Nat.ble (Nat.mul (Nat.add (Nat.mul 4 need) 4096) 1) 281474976710656)
      (Kl p h fun cs sup prev => A9 (Nat.mul a.length 1) fun l => AY cs 0 l fun x => R2 x (cb b) fun z =>
        br ex (Eh h n (.c z false none) fun h' n' => κ (.sl n 0 need need false 1) h' n')
          (br sup (.fail "") (A9 (Nat.add 0 l) fun j => AY cs 0 j fun old => IJ prev h fun h => F2 p h (some (.c old true none)) fun h =>
            Eh h n (.c z false (some p)) fun h' n' => κ (.sl n 0 need need false 1) h' n'))) (.fail "")))) (.fail "")=_
  have e1:∀ l:List UInt8, (l.drop 0).take l.length=l := fun l => by rw [List.drop_zero, List.take_length]
  have e3:Nat.ble (Nat.mul (Nat.add (Nat.mul 4 (Nat.add a.length b.length)) 4096) 1) 281474976710656=true := Ab.2 (by show (4*(a.length+b.length)+4096)*1≤_; omega)
  have e4:Nat.ble (Nat.add a.length b.length) a.length=false := AF (by show a.length<a.length+b.length; omega)
  rw [Nat.beq_refl, Ac, Ce, decide_eq_false (by omega), Ai, A6, e4, Ai, e3, Ac, Dk, Fn hp, A6, show Nat.mul a.length 1=a.length from Nat.mul_one _, Gq (by omega), e1, W4]
  have e2:Nat.add a.length b.length=(a++b).length := by rw [List.length_append]; rfl
  rw [e2]
  cases ex with
  | true => rw [Ac, DU hn]; rfl
  | false =>
    rw [Ai, Ai, A6, show Nat.add 0 a.length=a.length from Nat.zero_add _, Gq (by omega), e1, Ft, AS, DU hn]; rfl
end Go.Ev

namespace Go.Ev
set_option linter.unusedVariables false
theorem X8 (c:FX) (en:List V->(S->R)->R) (bo:FX->S->Heap->K4->R) (re:S->Heap->K4->R) (args:List V) (h:Heap) (n:K4):M1 c (some (.code en bo re)) args h n=en args fun t => L5 (bo c t h n) re := id rfl
theorem Zw (v:V) (l:List V) (k:V->List V->R):Kf (v::l) k=k v l := id rfl
theorem Abh (k:R):S4 [] k=k := id rfl
theorem UK (t:S) (h:Heap) (n:K4) (res:S->Heap->K4->R):L5 (.ok .ret t h n) res=res t h n := id rfl
theorem VB (t:S) (h:Heap) (n:K4) (res:S->Heap->K4->R):L5 (.ok .nrm t h n) res=res t h n := id rfl
theorem VS (b:Bool) (x y:R) (res:S->Heap->K4->R):L5 (bif b then x else y) res=bif b then L5 x res else L5 y res := by cases b <;> rfl
theorem Aa1 (t:S) (h:Heap) (n:K4):rT t h n = .ok .ret t h n := id rfl
theorem Abi (t:S) (h:Heap) (n:K4):nR t h n = .ok .nrm t h n := id rfl
theorem Aaf (r:Nat):iI r = .int .i64 r := id rfl
theorem Aa8 (v:V) (κ:V->R):AG (AD v) κ=κ v := id rfl
end Go.Ev

namespace Go.Ev
set_option linter.unusedVariables false
def Wl (o:Cf) (κ:List (V×V)->List Nat->Nat->R):R :=
  @Option.rec Ob (fun _ => R) (.fail "") (fun o => @Ob.rec (fun _ => R) (C1 "") κ (Fq "") (.fail "") (Av "") o) o
theorem U7 (es:List (V×V)) (bs:List Nat) (c:Nat) (κ:List (V×V)->List Nat->Nat->R):Wl (some (.m es bs c)) κ=κ es bs c := id rfl
theorem Ke (p:K4) (h:Heap) (κ:List (V×V)->List Nat->Nat->R):N1 p h κ=Wl (Aa p h) κ := by unfold N1; rw [Cd]; rfl
theorem Aat (p:K4) (a c:Nat) (w:V) (h:Heap) (κ:Heap->R):PH (.sc .s) (.map p) (.str a c) w h κ=Wl (Aa p h) fun es bs k => EN (.sc .s) (.str a c) w es fun es' => TC es' bs k fun bs' k' => κ (Af p h (some (.m es' bs' k'))) := by
  show P2 p h (fun es bs c' k => EN (.sc .s) (.str a c) w es fun es => TC es bs c' fun bs c => k es bs c) κ=_
  rw [Jb, Ke]
  simp only [AS]
theorem Abm (z:V) (p:K4) (a c:Nat) (h:Heap) (κ:V->R):L6 (.sc .s) z false (.map p) (.str a c) h κ=Wl (Aa p h) fun es _ _ => EY (.sc .s) (.str a c) es κ (κ z) := by
  show Rf p h (fun es _ _ => EY (.sc .s) (.str a c) es (fun r => κ r) (κ z))=_
  rw [Fl, Ke]
theorem Y1 (p:K4) (a c:Nat) (h:Heap) (κ:Heap->R):P4 (.sc .s) (.map p) (.str a c) h κ=Wl (Aa p h) fun es bs k => HW (.sc .s) (.str a c) es fun es2 => HQ (.sc .s) (.str a c) es bs fun bs' => κ (Af p h (some (.m es2 bs' k))) := by
  show P2 p h (fun es bs c' k => HW (.sc .s) (.str a c) es fun es2 => HQ (.sc .s) (.str a c) es bs fun bs => k es2 bs c') κ=_
  rw [Jb, Ke]
  simp only [AS]
theorem Yq (es:List (V×V)) (κ:Nat->R):UE es κ=κ es.length := by
  induction es generalizing κ with
  | nil => rfl
  | cons e es ih => exact (ih fun n => A9 (Nat.succ n) κ).trans (A6 _ _)
theorem CI {m:Nat} (h:m<9223372036854775808) (κ:V->R):DA m κ=κ (.int .i64 m) := by
  show br (Nat.ble (Nat.succ m) 9223372036854775808) (κ (.int .i64 m)) (.fail "")=_
  rw [show Nat.ble (Nat.succ m) 9223372036854775808=true from Ab.2 h, Ac]
theorem XR (p:K4) (h:Heap) (κ:V->R):RW (.map p) h κ=Wl (Aa p h) fun es _ _ => DA es.length κ := by
  show Rf p h (fun es _ _ => UE es fun m => DA m κ)=_
  rw [Fl, Ke]
  simp only [Yq]
theorem ML (k:V) (κf:V->R) (κn:R):EY (.sc .s) k [] κf κn=κn := id rfl
theorem Mq (a c m d:Nat) (w:V) (es:List (V×V)) (κf:V->R) (κn:R):EY (.sc .s) (.str a c) ((.str m d, w)::es) κf κn=bif D5 a c m d then κf w else EY (.sc .s) (.str a c) es κf κn := by
  show BN (D5 a c m d) (fun r => br r (κf w) (EY (.sc .s) (.str a c) es κf κn))=_
  rw [B0]; cases D5 a c m d <;> rfl
theorem Po (k v:V) (κ:List (V×V)->R):EN (.sc .s) k v [] κ=κ [(k, v)] := id rfl
theorem PY (a c m d:Nat) (v w:V) (es:List (V×V)) (κ:List (V×V)->R):EN (.sc .s) (.str a c) v ((.str m d, w)::es) κ=bif D5 a c m d then κ ((.str a c, v)::es) else EN (.sc .s) (.str a c) v es fun l => κ ((.str m d, w)::l) := by
  show BN (D5 a c m d) (fun r => br r (κ ((.str a c, v)::es)) (EN (.sc .s) (.str a c) v es fun l => κ ((.str m d, w)::l)))=_
  rw [B0]; cases D5 a c m d <;> rfl
theorem OU (k:V) (κ:List (V×V)->R):HW (.sc .s) k [] κ=κ [] := id rfl
theorem OC (a c m d:Nat) (w:V) (es:List (V×V)) (κ:List (V×V)->R):HW (.sc .s) (.str a c) ((.str m d, w)::es) κ=bif D5 a c m d then κ es else HW (.sc .s) (.str a c) es fun l => κ ((.str m d, w)::l) := by
  show BN (D5 a c m d) (fun r => br r (κ es) (HW (.sc .s) (.str a c) es fun l => κ ((.str m d, w)::l)))=_
  rw [B0]; cases D5 a c m d <;> rfl
theorem Pd (k:V) (bs:List Nat) (κ:List Nat->R):HQ (.sc .s) k [] bs κ=κ bs := id rfl
theorem PR (a c m d b:Nat) (w:V) (es:List (V×V)) (bs:List Nat) (κ:List Nat->R):HQ (.sc .s) (.str a c) ((.str m d, w)::es) (b::bs) κ=bif D5 a c m d then κ bs else HQ (.sc .s) (.str a c) es bs fun l => κ (b::l) := by
  show BN (D5 a c m d) (fun r => br r (κ bs) (HQ (.sc .s) (.str a c) es bs fun l => κ (b::l)))=_
  rw [B0]; cases D5 a c m d <;> rfl
theorem OD (a c m d:Nat):D5 a c m d=(decide (a=m)&&decide (c=d)) := by unfold D5; rw [Ce, Ce]
theorem PB:∀ (es:List (V×V)) (bs:List Nat), GM es bs=decide (es.length=bs.length)
  | [], [] => rfl
  | [], _::_ => rfl
  | _::_, [] => rfl
  | e::es, b::bs => by
    have := PB es bs
    show GM es bs=_
    rw [this]; simp
theorem Wz (bs:List Nat) (c:Nat) (κ:List Nat->R):Sj bs c κ=κ (bs++[c]) := by
  induction bs generalizing κ with
  | nil => rfl
  | cons b bs ih => exact ih fun l => κ (b::l)
theorem Xh (es:List (V×V)) (bs:List Nat) (c:Nat) (κ:List Nat->Nat->R):TC es bs c κ=bif decide (es.length=bs.length) then κ bs c else κ (bs++[c]) (c+1) := by
  unfold TC
  rw [PB]
  cases decide (es.length=bs.length) with
  | true => rfl
  | false =>
    rw [Ai, Wz, A6]; rfl
theorem VC (x v:V) (xs:List V) (κ:List V->R):BY 0 (x::xs) v κ=κ (v::xs) := id rfl
theorem TO (m:Nat) (x v:V) (xs:List V) (κ:List V->R):BY (m+1) (x::xs) v κ=BY m xs v fun zs => κ (x::zs) := id rfl
theorem UF (o:Nat) (k:IntKind) (r:Nat) (z:List V) (κ:List V->R):Ax o (.int k r) z κ=BY o z (.int k r) κ := id rfl
theorem S3 (o:Nat) (b:Bool) (z:List V) (κ:List V->R):Ax o (.bool b) z κ=BY o z (.bool b) κ := id rfl
theorem VJ (o:Nat) (p:K4) (r:Nat) (z:List V) (κ:List V->R):Ax o (.ptr p r) z κ=BY o z (.ptr p r) κ := id rfl
theorem Vq (o:Nat) (p:K4) (z:List V) (κ:List V->R):Ax o (.map p) z κ=BY o z (.map p) κ := id rfl
theorem UZ (o:Nat) (a c:Nat) (z:List V) (κ:List V->R):Ax o (.str a c) z κ=BY o z (.str a c) κ := id rfl
theorem UB (o:Nat) (w:Nl) (z:List V) (κ:List V->R):Ax o (.nil w) z κ=BY o z (.nil w) κ := id rfl
theorem XS (o:Nat) (q:K4) (a b c:Nat) (e:Bool) (x:Nat) (z:List V) (κ:List V->R):Ax o (.sl q a b c e x) z κ=BY o z (.sl q a b c e x) κ := id rfl
def PF (o:Cf) (m off:Nat) (κ:V->R):R := @Option.rec Ob (fun _ => R) (.fail "") (fun o => @Ob.rec (fun _ => R) (fun cs _ _ => AY cs off m fun y => E6 y fun l => κ (.agg l)) (C1 "") (Fq "") (.fail "") (Av "") o) o
theorem UG (m:Nat) (p:K4) (off:Nat) (h:Heap) (κ:V->R):EV m (.ptr p off) h κ=PF (Aa p h) m off κ := by
  show Kl p h (fun cs _ _ => AY cs off m fun y => E6 y fun l => κ (.agg l))=_
  rw [Dk]; unfold Hh PF; rw [Cd]
theorem Yz {xs:List V} {m off:Nat} (h:off+m≤xs.length) (s:Bool) (pr:Option K4) (κ:V->R):PF (some (.c (.l xs) s pr)) m off κ=κ (.agg ((xs.drop off).take m)) := by
  show Do off xs (fun ys => CU m ys fun zs => κ (.agg zs))=_
  rw [IC (by omega), J5 (by rw [List.length_drop]; omega)]
theorem K4.nx16_all (p:K4) (h:p.toN<65520):∃ q:K4, q.toN=(p.toN / 16+1)*16∧q.d = .d0 ∧ ∀ k:K4->R, p.nx16 k=k q := by
  obtain ⟨a, b, c, d⟩ := p
  simp only [K4.toN] at h
  have hd0:D.d0.toN=0 := rfl
  have ha := a.toN_lt; have hb := b.toN_lt; have hc := c.toN_lt; have hd := d.toN_lt
  rcases c.nx_all with ⟨c1, c2⟩ | ⟨e, c1, c2⟩
  · rcases b.nx_all with ⟨b1, b2⟩ | ⟨e, b1, b2⟩
    · rcases a.nx_all with ⟨a1, a2⟩ | ⟨e, a1, a2⟩
      · omega
      · exact ⟨⟨e, .d0, .d0, .d0⟩, by simp only [K4.toN, hd0]; omega, rfl, fun k => by show c.nx _ (b.nx _ (a.nx _ _))=_; rw [c2, b2, a2]⟩
    · exact ⟨⟨a, e, .d0, .d0⟩, by simp only [K4.toN, hd0]; omega, rfl, fun k => by show c.nx _ (b.nx _ _)=_; rw [c2, b2]⟩
  · exact ⟨⟨a, b, e, .d0⟩, by simp only [K4.toN, hd0]; omega, rfl, fun k => by show c.nx _ _=_; rw [c2]⟩
open Classical in
def K4.up16 (p:K4):K4 := if h:p.toN<65520 then Classical.choose (p.nx16_all h) else p
theorem K4.up16_toN {p:K4} (h:p.toN<65520):p.up16.toN=(p.toN / 16+1)*16 := by
  unfold K4.up16; rw [dif_pos h]; exact (Classical.choose_spec (p.nx16_all h)).1
theorem K4.nx16_up {p:K4} (h:p.toN<65520) (k:K4->R):p.nx16 k=k p.up16 := by
  unfold K4.up16; rw [dif_pos h]; exact (Classical.choose_spec (p.nx16_all h)).2.2 k
def K4.pl (p:K4) (j:D):K4 := ⟨p.a, p.b, p.c, j⟩
theorem K4.pl_toN {p:K4} (h:p.toN<65520) (j:D):(p.up16.pl j).toN=(p.toN / 16+1)*16+j.toN := by
  have h1 := K4.up16_toN h
  have h2:p.up16.d = .d0 := by unfold K4.up16; rw [dif_pos h]; exact (Classical.choose_spec (p.nx16_all h)).2.1
  rw [←h1]
  unfold K4.pl
  simp only [K4.toN, h2]
  show _=_+(D.d0.toN)+_
  rw [show D.d0.toN=0 from rfl, Nat.add_zero]
theorem Vk {n:K4} (h:n.toN<65000) (κ:K4->K4->R):Ny n κ=κ n.up16 n.up16.up16 := by
  show n.nx16 (fun b => b.nx16 fun n => κ b n)=_
  have := K4.up16_toN (p := n) (by omega)
  rw [K4.nx16_up (by omega), K4.nx16_up (by omega)]
/-- What is asked of a place that is to be free. -/
def frO (o:Cf) (κ:R):R := Gu o κ
theorem PT (κ:R):frO none κ=κ := id rfl
theorem Abn (b:K4) (j:D) (h:Heap) (κ:R):US b j h κ=frO (Aa (b.pl j) h) κ := by
  show b.at j (fun r => B8 r h fun x => Gu x κ)=_
  rw [K4.at_eq, Bf]; rfl
theorem Aay (b:K4) (j:D) (h:Heap) (F:K4->R) (κ:V->Heap->R):alX b j h F κ=frO (Aa (b.pl j) h) (DY (F (b.pl j)) fun v h _ => κ v h) := by
  show b.at j (fun r => B8 r h fun x => Gu x (DY (F r) fun v h _ => κ v h))=_
  rw [K4.at_eq, Bf]; rfl
theorem As {p q:K4} (h:q.toN<p.toN) (hp:Heap) (o:Option Ob):Aa q (Af p hp o)=Aa q hp := A7 _ _ fun e => by subst e; omega
theorem AH {p q:K4} (h:p.toN<q.toN) (hp:Heap) (o:Option Ob):Aa q (Af p hp o)=Aa q hp := A7 _ _ fun e => by subst e; omega
theorem RL (v:V) (h:Heap) (n:K4) (κ:KV):Dl (.rv v h n) κ=κ v h n := id rfl
theorem XM (p:K4) {h:Heap} {n:K4} (hn:n.toN<65535) (κ:KV):VQ (.map p) h n κ=Wl (Aa p h) fun _ _ c => κ (.ptr n 0) (Af n h (some (.it p c [] c))) n.up := by
  show Rf p h (fun _ _ c => Eh h n (.it p c [] c) fun h' n' => κ (.ptr n 0) h' n')=_
  rw [Fl, Ke]
  simp only [DU hn]
def itO (o:Cf) (κ0:R) (κ:K4->Nat->List Nat->Nat->R):R := @Option.rec Ob (fun _ => R) (.fail "") (fun o => @Ob.rec (fun _ => R) (C1 "") (C1 "") κ κ0 (Av "") o) o
theorem Vm (p:K4) (a:Nat) (l:List Nat) (c:Nat) (κ0:R) (κ:K4->Nat->List Nat->Nat->R):itO (some (.it p a l c)) κ0 κ=κ p a l c := id rfl
theorem Xv (q:K4) (h:Heap) (κ0:R) (κ:K4->Nat->List Nat->Nat->R):Ww q h κ0 κ=itO (Aa q h) κ0 κ := Bf _ _ _
theorem Y0 (q:K4) (h:Heap) (n:K4) (κ:KV):Ug (.ptr q 0) h n κ=itO (Aa q h) (κ (.tup [.bool false]) h n) fun p since seen c => Wl (Aa p h) fun es bs clk => br (Ib since bs) (br (Nat.ble since c)
    (GP seen (Pn q p since seen clk h n κ) es bs (κ (.tup [.bool false]) h n)) (.fail "")) (.fail "") := by
  show br (Nat.beq 0 0) (Ww q h (κ (.tup [.bool false]) h n) fun p since seen c => Rf p h fun es bs clk => br (Ib since bs) (br (Nat.ble since c) (GP seen (Pn q p since seen clk h n κ) es bs (κ (.tup [.bool false]) h n)) (.fail "")) (.fail "")) (.fail "")=_
  rw [Nat.beq_refl, Ac, Xv, Fl]
  simp only [Ke]
theorem KP (seen:List Nat) (leaf:V×V->Nat->R) (bs:List Nat) (none:R):GP seen leaf [] bs none=none := id rfl
theorem JN (seen:List Nat) (leaf:V×V->Nat->R) (e:V×V) (es:List (V×V)) (b:Nat) (bs:List Nat) (none:R):GP seen leaf (e::es) (b::bs) none=br (GB b seen) (GP seen leaf es bs none) (G9 seen leaf es bs (leaf e b)) := id rfl
theorem KQ (seen:List Nat) (leaf:V×V->Nat->R) (bs:List Nat) (acc:R):G9 seen leaf [] bs acc=acc := id rfl
theorem Pr (b:Nat):GB b []=false := id rfl
theorem MI (b x:Nat) (l:List Nat):GB b (x::l)=(decide (x=b) || GB b l) := by
  show br (Nat.beq x b) true (GB b l)=_
  rw [Ce]; cases decide (x=b) <;> rfl
theorem N4 (s:Nat):Ib s []=true := id rfl
theorem Lh (s b:Nat) (bs:List Nat):Ib s (b::bs)=(decide (b<s)&&Ib s bs) := by
  show br (Nat.ble (Nat.succ b) s) (Ib s bs) false=_
  rw [CJ]
  cases h:decide (Nat.succ b≤s) with
  | true => rw [decide_eq_true (show b<s from of_decide_eq_true h)]; rfl
  | false => rw [decide_eq_false (show ¬ b<s from of_decide_eq_false h)]; rfl
theorem RF (q p:K4) (since:Nat) (seen:List Nat) (clk:Nat) (h:Heap) (n:K4) (κ:KV) (k x:V) (b:Nat):Pn q p since seen clk h n κ (k, x) b=κ (.tup [.bool true, k, x]) (Af q h (some (.it p since (b::seen) clk))) n := by
  show Bq q h (some (.it p since (b::seen) clk)) (fun h' => κ (.tup [.bool true, k, x]) h' n)=_
  rw [Bt, AS]
theorem WV (b:Bool) (x y:R):br b x y=bif b then x else y := by cases b <;> rfl
theorem Vd (q:K4) (h:Heap) (n:K4) (κ:KV):Px (.ptr q 0) h n κ=itO (Aa q h) (.fail "") fun p since seen c => Wl (Aa p h) fun es bs clk => bif decide (clk=c) then (@List.rec Nat (fun _ => R) (.fail "") (fun s _ _ => Gx s es bs fun k x => κ (.tup [k, x]) h n) seen) else .fail "" := by
  show br (Nat.beq 0 0) (Ww q h (.fail "") fun p since seen c => Rf p h fun es bs clk => br (Nat.beq clk c) (@List.rec Nat (fun _ => R) (.fail "") (fun s _ _ => Gx s es bs fun k x => κ (.tup [k, x]) h n) seen) (.fail "")) (.fail "")=_
  rw [Nat.beq_refl, Ac, Xv, Fl]
  simp only [Ke, Ce, WV]
theorem Lx (s:Nat) (k x:V) (es:List (V×V)) (b:Nat) (bs:List Nat) (κ:V->V->R):Gx s ((k, x)::es) (b::bs) κ=bif decide (b=s) then κ k x else Gx s es bs κ := by
  show br (Nat.beq b s) (κ k x) (Gx s es bs κ)=_
  rw [Ce, WV]
theorem UQ (x:V) (l:List V) (κ:V->R):B4 0 (.tup (x::l)) κ=κ x := id rfl
theorem V3 (x y:V) (l:List V) (κ:V->R):B4 1 (.tup (x::y::l)) κ=κ y := id rfl
theorem VY (x y z:V) (l:List V) (κ:V->R):B4 2 (.tup (x::y::z::l)) κ=κ z := id rfl
theorem Aej (c:FX) (f:Nat) (its:List Nat) (rd:Rd) (s:V) (h:Heap) (n:K4) (hits:∀ g κ, g∈its->I1 g its κ=κ) (g:Nat) (caps:List V) (hs:s = .fn g caps) (hg:g∈its) (hn:n.toN<65000) :
    M1 c (some (.ap f its rd)) [.nil .sl, s] h n=Dl (c (Bj g) (.oth (.yl n.up)::caps) (Af n.up (Af n h (some (.c (.l [.nil .sl]) false none))) (some (.lp f n))) n.up.up) fun _ h m => B8 n.up h fun o => Wx o (Kl n h fun cs _ _ => F6 cs 0 fun sv => Bq n h none fun h => Bq n.up h none fun h => .rv sv h m) := by
  subst hs
  have h1 := K4.up_toN (p := n) (by omega)
  show I1 g its (Bq n h (some (.c (.l [.nil .sl]) false none)) fun h => n.nx fun n1 => Bq n1 h (some (.lp f n)) fun h => n1.nx fun n2 =>
      Dl (c (Bj g) (.oth (.yl n1)::caps) h n2) fun _ h m =>
        B8 n1 h fun o => Wx o (Kl n h fun cs _ _ => F6 cs 0 fun sv => Bq n h none fun h => Bq n1 h none fun h => .rv sv h m))=_
  rw [hits g _ hg, Bt, AS, K4.nx_up (by omega), Bt, AS, K4.nx_up (by omega)]
def lpO (o:Cf) (κ:Nat->K4->R):R := @Option.rec Ob (fun _ => R) (.fail "") (fun o => @Ob.rec (fun _ => R) (C1 "") (C1 "") (Fq "") (.fail "") (fun f box => κ f box) o) o
theorem Vt (f:Nat) (b:K4) (κ:Nat->K4->R):lpO (some (.lp f b)) κ=κ f b := id rfl
theorem Xn (c:FX) (p:K4) (x:V) (h:Heap) (n:K4) (κ:KV):Vp c (.oth (.yl p)) [x] h n κ=lpO (Aa p h) fun f box => Dl (c (Bj f) [.oth .no, .ptr box 0, x] (Af p h none) n) fun v h n => κ v (Af p h (some (.lp f box))) n := by
  show B8 p h (fun o => @Option.rec Ob (fun _ => R) (.fail "") (fun o => @Ob.rec (fun _ => R) (C1 "") (C1 "") (Fq "") (.fail "")
    (fun f box => Bq p h none fun h => Dl (c (Bj f) [.oth .no, .ptr box 0, x] h n) fun v h n => Bq p h (some (.lp f box)) fun h => κ v h n) o) o)=_
  rw [Bf]
  unfold lpO
  simp only [Bt, AS]
theorem YD (c:FX) (f:Nat) (its:List Nat) (rd:Rd) (b x:V) (h:Heap) (n:K4):M1 c (some (.ap f its rd)) [.oth .no, b, x] h n=rd c b x h n := id rfl
def UO (o:Cf) (off m:Nat) (κ:Cs->R):R := @Option.rec Ob (fun _ => R) (.fail "") (fun o => @Ob.rec (fun _ => R) (fun cs _ _ => AY cs off m κ) (C1 "") (Fq "") (.fail "") (Av "") o) o
theorem XQ (z eb:Nat) (u:V) (p:K4) (off len cap:Nat) (ex:Bool) (h:Heap) (n:K4) (κ:KV):Ca z eb u (.sl p off len cap ex z) h n κ=UO (Aa p h) off (len*z) fun y => BZ z eb u len y h n κ := by
  show br (Nat.beq z z) (Hh p h fun cs _ _ => A9 (Nat.mul len z) fun m => AY cs off m fun y => BZ z eb u len y h n κ) (.fail "")=_
  rw [Nat.beq_refl, Ac]
  unfold Hh UO
  rw [Cd]
  simp only [A6]; rfl
theorem QE {z eb m:Nat} (hm:0<m) (hs:(4*m+4096)*eb≤281474976710656) {n:K4} (hn:n.toN<65535) (y:Cs) (h:Heap) (κ:KV):BZ z eb (.nil .sl) m y h n κ=κ (.sl n 0 m m false z) (Af n h (some (.c y false none))) n.up := by
  show br (Nat.beq m 0) (κ (.nil .sl) h n) (br (Nat.ble (Nat.mul (Nat.add (Nat.mul 4 m) 4096) eb) 281474976710656) (Eh h n (.c y false none) fun h' n' => κ (.sl n 0 m m false z) h' n') (.fail ""))=_
  rw [Ce, decide_eq_false (by omega), Ai, show Nat.ble (Nat.mul (Nat.add (Nat.mul 4 m) 4096) eb) 281474976710656=true from Ab.2 hs, Ac, DU hn]
theorem XV (z:Nat) {p:K4} {off len cap:Nat} {ex:Bool} {k:IntKind} {a:Nat} (ha:a<Hk k) (hl:a<len) (κ:V->R):Bc z (.sl p off len cap ex z) (.int k a) κ=κ (.ptr p (off+a*z)) := by
  show br (Nat.ble (Nat.succ a) (Hk k)) (br (Nat.beq z z) (br (Nat.ble (Nat.succ a) len) (A9 (Nat.add off (Nat.mul a z)) fun o => κ (.ptr p o)) (.fail "")) (.fail "")) (.fail "")=_
  rw [show Nat.ble (Nat.succ a) (Hk k)=true from Ab.2 ha, Ac, Nat.beq_refl, Ac, show Nat.ble (Nat.succ a) len=true from Ab.2 hl, Ac, A6]; rfl
theorem XF {z:Nat} {p:K4} {off len cap:Nat} {ex:Bool} {a:Nat} (ha:a<9223372036854775808) (hl:a<len) (κ:V->R):Bc z (.sl p off len cap ex z) (.int .i64 a) κ=κ (.ptr p (off+a*z)) := XV z (k := .i64) ha hl κ
theorem QO {n:K4} (hn:n.toN<65535) (p:K4) (h:Heap) (κ:KV):Gs (.map p) h n κ=κ (.ptr n 0) (Af n h (some (.c (.l [.map p]) false none))) n.up := DU hn _ _ _
theorem Aar:Hk .i64=9223372036854775808 := rfl
theorem Xx {p:K4} {off len cap:Nat} {ex:Bool} {z:Nat} (h:len<9223372036854775808) (κ:V->R):B1 (.sl p off len cap ex z) κ=κ (.int .i64 len) := CI h κ
theorem Uk (κ:V->R):B1 (.nil .sl) κ=κ (.int .i64 0) := id rfl
theorem TX {n c:Nat} (h:n<9223372036854775808) (κ:V->R):B1 (.oth (.rb n c)) κ=κ (.int .i64 n) := CI h κ
theorem UI {l:List RV} {m z:Nat} (h:m<9223372036854775808) (κ:V->R):B1 (.oth (.rx l m z)) κ=κ (.int .i64 m) := CI h κ
/-- Nothing stands where nothing was M8. -/
def AM (h:Heap) (n:K4):Prop := ∀ q:K4, n.toN≤q.toN->Aa q h=none
theorem V0 (a b c:V) (s:Bool) (pr:Option K4) (κ:V->R):PF (some (.c (.l [a, b, c]) s pr)) 3 0 κ=κ (.agg [a, b, c]) := id rfl
theorem UP (a b c:V) (s:Bool) (pr:Option K4) (κ:Cs->R):UO (some (.c (.l [a, b, c]) s pr)) 0 3 κ=κ (.l [a, b, c]) := id rfl
theorem UY (a:V) (s:Bool) (pr:Option K4) (κ:Cs->R):UO (some (.c (.l [a]) s pr)) 0 1 κ=κ (.l [a]) := id rfl
theorem S1 (a b c x y z:V) (κ:List V->R):CZ 0 3 (.agg [a, b, c]) [x, y, z] κ=κ [a, b, c] := id rfl
theorem Iq (body:S->Heap->K4->R) (t:S) (h:Heap) (n:K4):C0 body t h n=KL (body t h n) fun t h n => KL (body t h n) (DN body 999999998) := id rfl
theorem Da (body:S->Heap->K4->R) (t:S) (h:Heap) (n:K4):C0 body t h n=KL (body t h n) (DN body 999999999) := id rfl
theorem E3 (body:S->Heap->K4->R) (m:Nat) (t:S) (h:Heap) (n:K4):DN body (m+1) t h n=KL (body t h n) (DN body m) := id rfl
theorem Hb (t:S) (h:Heap) (n:K4) (κ:S->Heap->K4->R):KL (.ok .nrm t h n) κ=κ t h n := id rfl
theorem Xi (i:Nat) (t:S) (h:Heap) (n:K4) (κ:S->Heap->K4->R):KL (.ok (.exit i) t h n) κ = .ok (.exit i) t h n := id rfl
theorem Xb (t:S) (h:Heap) (n:K4) (κ:S->Heap->K4->R):KL (.ok .ret t h n) κ = .ok .ret t h n := id rfl
theorem Xc (b:Bool) (x y:R) (κ:S->Heap->K4->R):KL (bif b then x else y) κ=bif b then KL x κ else KL y κ := by cases b <;> rfl
theorem Sf (p:K4) (h:Heap) (i:Nat) (κ:V->R):Kl p h (fun cs _ _ => F6 cs i κ)=Sg (Aa p h) i κ := Yh p i h κ
theorem Pa (p:K4) (h:Heap) (κ:R):B8 p h (fun o => Wx o κ)=Wx (Aa p h) κ := Bf _ _ _
theorem UJ (f:Nat) (b:K4) (κ:R):Wx (some (.lp f b)) κ=κ := id rfl
theorem S7 (p:K4) (h:Heap) (o:Cf) (κ:Heap->R):Bq p h o κ=κ (Af p h o) := by rw [Bt, AS]
/-- All that a text is told by. -/
theorem qa:type_of% (And.intro (And.intro (And.intro (And.intro (And.intro (And.intro (And.intro @X8 @Zw) (And.intro @Abh (And.intro @UK @VB))) (And.intro (And.intro @VS (And.intro @Aa1 @Abi)) (And.intro @Aaf (And.intro @Aa8 @Sh)))) (And.intro (And.intro (And.intro @Xl (And.intro @TG @Xp)) (And.intro @XY (And.intro @XX @Y3))) (And.intro (And.intro @XL (And.intro @XC @MS)) (And.intro @XA (And.intro @Abo @Vc))))) (And.intro (And.intro (And.intro (And.intro @Xy (And.intro @Xq @Xr)) (And.intro @XU (And.intro @Xj @TE))) (And.intro (And.intro @S0 (And.intro @RY @RE)) (And.intro @Pm (And.intro @Pt @Pb)))) (And.intro (And.intro (And.intro @S6 (And.intro @OL @Vf)) (And.intro @Ub (And.intro @Yh @V4))) (And.intro (And.intro @TV (And.intro @Ui @Xd)) (And.intro @Rs (And.intro @TS @Se)))))) (And.intro (And.intro (And.intro (And.intro (And.intro @Uw (And.intro @VD @Vn)) (And.intro @Xe (And.intro @QZ @XO))) (And.intro (And.intro @V2 (And.intro @U0 @R4)) (And.intro @Ul (And.intro @A8 @Gm)))) (And.intro (And.intro (And.intro @CJ (And.intro @Wi @V8)) (And.intro @Si (And.intro @VW @OG))) (And.intro (And.intro @Li (And.intro @RS @S8)) (And.intro @Aat (And.intro @U7 @Abm))))) (And.intro (And.intro (And.intro (And.intro @Y1 (And.intro @XR @CI)) (And.intro @ML (And.intro @Mq @Po))) (And.intro (And.intro @PY (And.intro @OU @OC)) (And.intro @Pd (And.intro @PR @OD)))) (And.intro (And.intro (And.intro @Xh (And.intro @VC @TO)) (And.intro @UF (And.intro @S3 @VJ))) (And.intro (And.intro @Vq (And.intro @UZ @UB)) (And.intro @XS (And.intro @UG @Vk))))))) (And.intro (And.intro (And.intro (And.intro (And.intro (And.intro @Abn @Aay) (And.intro @PT (And.intro @As @AH))) (And.intro (And.intro @RL (And.intro @XM @Y0)) (And.intro @Vm (And.intro @KP @JN)))) (And.intro (And.intro (And.intro @KQ (And.intro @Pr @MI)) (And.intro @N4 (And.intro @Lh @RF))) (And.intro (And.intro @WV (And.intro @Vd @Lx)) (And.intro @UQ (And.intro @V3 @VY))))) (And.intro (And.intro (And.intro (And.intro @Vt (And.intro @Xn @YD)) (And.intro @DU (And.intro @Rc @U5))) (And.intro (And.intro @Xt (And.intro @QQ @VN)) (And.intro @GW (And.intro @RA @Sq)))) (And.intro (And.intro (And.intro @Xm (And.intro @Ab5 @XE)) (And.intro @XQ (And.intro @QE @XF))) (And.intro (And.intro @QO (And.intro @Aar @Xx)) (And.intro @Uk (And.intro @TX @UI)))))) (And.intro (And.intro (And.intro (And.intro (And.intro @V0 (And.intro @UP @UY)) (And.intro @S1 (And.intro @Hb @Xi))) (And.intro (And.intro @Xb (And.intro @Xc @Sf)) (And.intro @Pa (And.intro @UJ @S7)))) (And.intro (And.intro (And.intro @cond_true.{1} (And.intro @cond_false.{1} @List.set_cons_zero.{0})) (And.intro @List.set_cons_succ.{0} (And.intro @List.length_cons.{0} @List.length_nil.{0}))) (And.intro (And.intro @decide_true (And.intro @decide_false @Nat.zero_add)) (And.intro @beq_self_eq_true.{0} (And.intro @Bool.not_true @Bool.not_false))))) (And.intro (And.intro (And.intro (And.intro @bne_self_eq_false.{0} (And.intro @Nat.mod_eq_of_lt @decide_eq_true)) (And.intro @decide_eq_false (And.intro @List.nil_append.{0} @List.cons_append.{0}))) (And.intro (And.intro @List.take_zero.{0} (And.intro @List.drop_zero.{0} @List.drop_succ_cons.{0})) (And.intro @List.take_succ_cons.{0} (And.intro @List.drop_nil.{0} @List.append_nil.{0})))) (And.intro (And.intro (And.intro @Bool.and_true (And.intro @Bool.true_and @Bool.and_false)) (And.intro @Bool.false_and (And.intro @Bool.or_true @Bool.true_or))) (And.intro (And.intro @Bool.or_false (And.intro @Bool.false_or @Nat.one_mul)) (And.intro @Nat.mul_one (And.intro @not_true_eq_false @not_false_eq_true)))))))) := And.intro (And.intro (And.intro (And.intro (And.intro (And.intro (And.intro @X8 @Zw) (And.intro @Abh (And.intro @UK @VB))) (And.intro (And.intro @VS (And.intro @Aa1 @Abi)) (And.intro @Aaf (And.intro @Aa8 @Sh)))) (And.intro (And.intro (And.intro @Xl (And.intro @TG @Xp)) (And.intro @XY (And.intro @XX @Y3))) (And.intro (And.intro @XL (And.intro @XC @MS)) (And.intro @XA (And.intro @Abo @Vc))))) (And.intro (And.intro (And.intro (And.intro @Xy (And.intro @Xq @Xr)) (And.intro @XU (And.intro @Xj @TE))) (And.intro (And.intro @S0 (And.intro @RY @RE)) (And.intro @Pm (And.intro @Pt @Pb)))) (And.intro (And.intro (And.intro @S6 (And.intro @OL @Vf)) (And.intro @Ub (And.intro @Yh @V4))) (And.intro (And.intro @TV (And.intro @Ui @Xd)) (And.intro @Rs (And.intro @TS @Se)))))) (And.intro (And.intro (And.intro (And.intro (And.intro @Uw (And.intro @VD @Vn)) (And.intro @Xe (And.intro @QZ @XO))) (And.intro (And.intro @V2 (And.intro @U0 @R4)) (And.intro @Ul (And.intro @A8 @Gm)))) (And.intro (And.intro (And.intro @CJ (And.intro @Wi @V8)) (And.intro @Si (And.intro @VW @OG))) (And.intro (And.intro @Li (And.intro @RS @S8)) (And.intro @Aat (And.intro @U7 @Abm))))) (And.intro (And.intro (And.intro (And.intro @Y1 (And.intro @XR @CI)) (And.intro @ML (And.intro @Mq @Po))) (And.intro (And.intro @PY (And.intro @OU @OC)) (And.intro @Pd (And.intro @PR @OD)))) (And.intro (And.intro (And.intro @Xh (And.intro @VC @TO)) (And.intro @UF (And.intro @S3 @VJ))) (And.intro (And.intro @Vq (And.intro @UZ @UB)) (And.intro @XS (And.intro @UG @Vk))))))) (And.intro (And.intro (And.intro (And.intro (And.intro (And.intro @Abn @Aay) (And.intro @PT (And.intro @As @AH))) (And.intro (And.intro @RL (And.intro @XM @Y0)) (And.intro @Vm (And.intro @KP @JN)))) (And.intro (And.intro (And.intro @KQ (And.intro @Pr @MI)) (And.intro @N4 (And.intro @Lh @RF))) (And.intro (And.intro @WV (And.intro @Vd @Lx)) (And.intro @UQ (And.intro @V3 @VY))))) (And.intro (And.intro (And.intro (And.intro @Vt (And.intro @Xn @YD)) (And.intro @DU (And.intro @Rc @U5))) (And.intro (And.intro @Xt (And.intro @QQ @VN)) (And.intro @GW (And.intro @RA @Sq)))) (And.intro (And.intro (And.intro @Xm (And.intro @Ab5 @XE)) (And.intro @XQ (And.intro @QE @XF))) (And.intro (And.intro @QO (And.intro @Aar @Xx)) (And.intro @Uk (And.intro @TX @UI)))))) (And.intro (And.intro (And.intro (And.intro (And.intro @V0 (And.intro @UP @UY)) (And.intro @S1 (And.intro @Hb @Xi))) (And.intro (And.intro @Xb (And.intro @Xc @Sf)) (And.intro @Pa (And.intro @UJ @S7)))) (And.intro (And.intro (And.intro @cond_true.{1} (And.intro @cond_false.{1} @List.set_cons_zero.{0})) (And.intro @List.set_cons_succ.{0} (And.intro @List.length_cons.{0} @List.length_nil.{0}))) (And.intro (And.intro @decide_true (And.intro @decide_false @Nat.zero_add)) (And.intro @beq_self_eq_true.{0} (And.intro @Bool.not_true @Bool.not_false))))) (And.intro (And.intro (And.intro (And.intro @bne_self_eq_false.{0} (And.intro @Nat.mod_eq_of_lt @decide_eq_true)) (And.intro @decide_eq_false (And.intro @List.nil_append.{0} @List.cons_append.{0}))) (And.intro (And.intro @List.take_zero.{0} (And.intro @List.drop_zero.{0} @List.drop_succ_cons.{0})) (And.intro @List.take_succ_cons.{0} (And.intro @List.drop_nil.{0} @List.append_nil.{0})))) (And.intro (And.intro (And.intro @Bool.and_true (And.intro @Bool.true_and @Bool.and_false)) (And.intro @Bool.false_and (And.intro @Bool.or_true @Bool.true_or))) (And.intro (And.intro @Bool.or_false (And.intro @Bool.false_or @Nat.one_mul)) (And.intro @Nat.mul_one (And.intro @not_true_eq_false @not_false_eq_true)))))))
end Go.Ev

namespace Go.Ev
set_option linter.unusedVariables false
theorem K4.beq_self (p:K4):p.beq p=true := K4.beq_iff.2 rfl
theorem Ql (k:IntKind) (r:Nat) (κ:R):Bh (.int k r) (.int k r) κ=κ := by
  show br (AW k k) (br (Nat.beq r r) κ _) _=_
  rw [AA.2 rfl, Nat.beq_refl]; rfl
theorem Y9 (w:Nl) (κ:R):Bh (.nil w) (.nil w) κ=κ := by cases w <;> rfl
theorem Yd (p:K4) (a b c:Nat) (e:Bool) (z:Nat) (κ:R):Bh (.sl p a b c e z) (.sl p a b c e z) κ=κ := by
  show br (K4.beq p p) (br (and (Nat.beq a a) (and (Nat.beq b b) (and (Nat.beq c c) (and (Bool.rec (Bool.rec true false e) e e) (Nat.beq z z))))) κ _) _=_
  rw [K4.beq_self]; simp only [Nat.beq_refl]; cases e <;> rfl
def IK (es:List (V×V)):Prop := ∀ e∈es, ∃ r w, e=(.int .i64 r, w)
theorem IK.nil:IK [] := fun e h => by cases h
theorem Abd (k:Nat) (w:V):∀ es:List (V×V), IK es->∃ es', (∀ κ:List (V×V)->R, EN (.sc .i) (.int .i64 k) w es κ=κ es')∧IK es'∧es'.length≤es.length+1
  | [], _ => ⟨[(.int .i64 k, w)], fun κ => rfl, fun e he => by rcases List.mem_singleton.1 he with rfl; exact ⟨k, w, rfl⟩, by simp⟩
  | e::es, h => by
    obtain ⟨r, u, rfl⟩ := h e List.mem_cons_self
    have hes:IK es := fun x hx => h x (List.mem_cons_of_mem _ hx)
    obtain ⟨es', h1, h2, h3⟩ := Abd k w es hes
    cases hb:Nat.beq k r with
    | true => exact ⟨(.int .i64 k, w)::es, fun κ => by
        show BN (Nat.beq k r) (fun q => br q (κ ((.int .i64 k, w)::es)) (EN (.sc .i) (.int .i64 k) w es fun l => κ ((.int .i64 r, u)::l)))=_
        rw [B0, hb]; rfl, fun x hx => by
        rcases List.mem_cons.1 hx with rfl | hx
        · exact ⟨k, w, rfl⟩
        · exact hes x hx, by simp⟩
    | false => exact ⟨(.int .i64 r, u)::es', fun κ => by
        show BN (Nat.beq k r) (fun q => br q (κ ((.int .i64 k, w)::es)) (EN (.sc .i) (.int .i64 k) w es fun l => κ ((.int .i64 r, u)::l)))=_
        rw [B0, hb]; exact h1 _, fun x hx => by
        rcases List.mem_cons.1 hx with rfl | hx
        · exact ⟨r, u, rfl⟩
        · exact h2 x hx, by simp only [List.length_cons]; omega⟩
theorem Ad1 {q:K4} {h:Heap} {es:List (V×V)} {bs:List Nat} {c:Nat} (hq:Aa q h=some (.m es bs c)) (hk:IK es) (k:Nat) (w:V) :
    ∃ es' bs' c', (∀ κ:Heap->R, PH (.sc .i) (.map q) (.int .i64 k) w h κ=κ (Af q h (some (.m es' bs' c'))))∧IK es' := by
  obtain ⟨es', h1, h2, h3⟩ := Abd k w es hk
  refine ⟨es', if es'.length=bs.length then bs else bs++[c], if es'.length=bs.length then c else c+1, fun κ => ?_, h2⟩
  show P2 q h (fun es bs c' k' => EN (.sc .i) (.int .i64 k) w es fun es => TC es bs c' fun bs c => k' es bs c) κ=_
  rw [Jb, YT hq, h1]
  rw [VH]; exact AS _ _ _ _
def P9 (p:K4) (h:Heap) (c:V) (l:List UInt8):Prop := (c = .nil .sl∧l=[]) ∨ ∃ ex, c = .sl p 0 l.length l.length ex 1∧Aa p h=some (.c (cb l) false none)
theorem P9.frame {p:K4} {h h':Heap} {c:V} {l:List UInt8} (H:P9 p h c l) (e:Aa p h'=Aa p h):P9 p h' c l := by
  rcases H with H | ⟨ex, h1, h2⟩
  · exact .inl H
  · exact .inr ⟨ex, h1, e.trans h2⟩
theorem P9.len {p:K4} {h:Heap} {c:V} {l:List UInt8} (H:P9 p h c l) (hl:l.length<9223372036854775808) (κ:V->R):B1 c κ=κ (.int .i64 l.length) := by
  rcases H with ⟨rfl, rfl⟩ | ⟨ex, rfl, h2⟩
  · rfl
  · exact CI hl κ
theorem P5:∀ m:Nat, Ar (List.replicate m 0)=0
  | 0 => rfl
  | m+1 => by rw [List.replicate_succ]; show (0:UInt8).toNat+256*Ar (List.replicate m 0)=0; rw [P5 m]; rfl
theorem QJ (u:V) {m:Nat} (hm:m≤1000000000000) (h:Heap) (n:K4) (κ:KV):If 1 1 true [.int .u8 0] u (.int .i64 m) h n κ=BZ 1 1 u m (cb (List.replicate m 0)) h n κ := by
  show br (Nat.ble (Nat.succ m) 9223372036854775808) (br (Nat.ble (Nat.mul 1 m) 281474976710656) (BZ 1 1 u m (.b m 0) h n κ) (.fail "")) (.fail "")=_
  rw [show Nat.ble (Nat.succ m) 9223372036854775808=true from Ab.2 (by omega), Ac, show Nat.ble (Nat.mul 1 m) 281474976710656=true from Ab.2 (by rw [show Nat.mul 1 m=m from Nat.one_mul m]; omega), Ac]
  unfold cb
  rw [P5, List.length_replicate]
theorem Vu {p:K4} {h:Heap} {c:V} {bs:List UInt8} (H:P9 p h c bs) {m:Nat} (hm:0<m) (hb:bs.length+m≤1000000000) {n:K4} (hn:n.toN<65000) (hpn:p.toN<n.toN) :
    ∃ h' pr, (∀ κ:KV, If 1 1 true [.int .u8 0] c (.int .i64 m) h n κ=κ (.sl n 0 (bs++List.replicate m 0).length (bs++List.replicate m 0).length false 1) h' n.up)∧Aa n h'=some (.c (cb (bs++List.replicate m 0)) false pr)∧(pr=none∨pr=some p) ∧
      (∀ q:K4, q≠n->q≠p->Aa q h'=Aa q h) := by
  rcases H with ⟨rfl, rfl⟩ | ⟨ex, rfl, h2⟩
  · refine ⟨_, none, fun κ => ?_, A8 _ _ _, .inl rfl, fun q hq _ => A7 _ _ (Ne.symm hq)⟩
    rw [QJ _ (by omega), NM hm (by omega) (by omega), List.nil_append, List.length_replicate]
  · have hl:(List.replicate m (0:UInt8)).length=m := List.length_replicate
    cases ex with
    | true =>
      refine ⟨_, none, fun κ => ?_, A8 _ _ _, .inl rfl, fun q hq _ => A7 _ _ (Ne.symm hq)⟩
      have e := Fj h2 (ex := true) (b := List.replicate m 0) (by omega) (by omega) (n := n) (by omega) κ
      rw [hl] at e
      rw [QJ _ (by omega), e, if_pos rfl]
    | false =>
      refine ⟨Af n (Af p h (some (.c (cb bs) true none))) (some (.c (cb (bs++List.replicate m 0)) false (some p))), some p, fun κ => ?_, A8 _ _ _, .inr rfl, fun q hq h3 => (A7 _ _ (Ne.symm hq)).trans (A7 _ _ (Ne.symm h3))⟩
      have e := Fj h2 (ex := false) (b := List.replicate m 0) (by omega) (by omega) (n := n) (by omega) κ
      rw [hl] at e
      rw [QJ _ (by omega), e, if_neg (by decide)]; rfl
/-- Bytes that are copied from. -/
def G7 (v:V) (l:List UInt8) (h:Heap):Prop := v=LC l∨(v = .nil .sl∧l=[]) ∨ ∃ p off cap ex L s pr, v = .sl p off l.length cap ex 1∧Aa p h=some (.c (cb L) s pr)∧off+l.length≤L.length∧(L.drop off).take l.length=l
theorem G7.len {v:V} {l:List UInt8} {h:Heap} (H:G7 v l h) (hl:l.length<9223372036854775808) (κ:V->R):B1 v κ=κ (.int .i64 l.length) := by
  rcases H with rfl | ⟨rfl, rfl⟩ | ⟨p, off, cap, ex, L, s, pr, rfl, h1, h2, h3⟩
  · exact CI hl κ
  · rfl
  · exact CI hl κ
theorem G7.src {v:V} {l:List UInt8} {h:Heap} (H:G7 v l h):∃ y, (∀ κ:Nat->Cs->R, H5 1 v h κ=κ l.length y)∧(0<l.length->y=cb l) := by
  rcases H with rfl | ⟨rfl, rfl⟩ | ⟨p, off, cap, ex, L, s, pr, rfl, h1, h2, h3⟩
  · exact ⟨cb l, fun κ => rfl, fun _ => rfl⟩
  · exact ⟨.l [], fun κ => rfl, fun h => by cases h⟩
  · refine ⟨cb l, fun κ => ?_, fun _ => rfl⟩
    rw [Zc h1 h2, h3]
theorem G7.frame {v:V} {l:List UInt8} {h h':Heap} (H:G7 v l h) (e:∀ p:K4, (∃ off cap ex, v = .sl p off l.length cap ex 1)->Aa p h'=Aa p h):G7 v l h' := by
  rcases H with H | H | ⟨p, off, cap, ex, L, s, pr, rfl, h1, h2, h3⟩
  · exact .inl H
  · exact .inr (.inl H)
  · exact .inr (.inr ⟨p, off, cap, ex, L, s, pr, rfl, (e p ⟨off, cap, ex, rfl⟩).trans h1, h2, h3⟩)
theorem YR {v:V} {l bs:List UInt8} {h:Heap} (H:G7 v l h) (h0:0<l.length) {p:K4} {off len cap:Nat} {ex:Bool} {pr:Option K4} (hp:Aa p h=some (.c (cb bs) false pr)) (hl:l.length≤len) (hl2:off+l.length≤bs.length) (hl3:l.length<9223372036854775808) (κ:V->Heap->R) :
    Pw 1 (.sl p off len cap ex 1) v h κ=κ (.int .i64 l.length) (Af p (EF pr h) (some (.c (cb (bs.take off++(l++bs.drop (off+l.length)))) false none))) := by
  obtain ⟨y, h1, h2⟩ := H.src
  have hy := h2 h0; subst hy
  show H5 1 v h (fun m y => _)=_
  rw [h1]
  show br (Nat.beq 1 1) (A9 (@Bool.rec (fun _ => Nat) len l.length (Nat.ble l.length len)) fun k => br (Nat.beq k 0) (κ (.int .i64 0) h) (A9 (Nat.mul k 1) fun j => AY (cb l) 0 j fun y => El h p off y fun h => DA k fun v => κ v h)) (.fail "")=_
  rw [Nat.beq_refl, Ac, A6, show Nat.ble l.length len=true from Ab.2 hl]
  show br (Nat.beq l.length 0) (κ (.int .i64 0) h) (A9 (Nat.mul l.length 1) fun j => AY (cb l) 0 j fun y => El h p off y fun h => DA l.length fun v => κ v h)=_
  rw [Ce, decide_eq_false (by omega), Ai, A6, show Nat.mul l.length 1=l.length from Nat.mul_one _, Gq (by omega), List.drop_zero, List.take_length, Gj]
  unfold DV
  rw [Fn hp, Ai, Wj hl2, Ft, AS, CI hl3]
theorem P9.same {p:K4} {h:Heap} {c:V} {l:List UInt8} (H:P9 p h c l) (κ:R):Bh c c κ=κ := by
  rcases H with ⟨rfl, rfl⟩ | ⟨ex, rfl, h2⟩
  · exact Y9 _ _
  · exact Yd _ _ _ _ _ _ _
theorem OI {a b:Nat} (h:a<b) (hb:b<4611686018427387904):9223372036854775808≤Ie .i64 a b∧Ie .i64 a b<18446744073709551616 := by
  unfold Ie
  rw [show Mk .i64=18446744073709551616 from rfl, Nat.mod_eq_of_lt (by omega)]
  omega
theorem VZ {a b:Nat} (ha:a<4611686018427387904) (hb:b<4611686018427387904) (κ:V->R):JP (.int .i64 (Ie .i64 a b)) (.int .i64 0) κ=κ (.int .i64 (a - b)) := by
  rcases Nat.lt_or_ge a b with h | h
  · obtain ⟨h1, h2⟩ := OI h hb
    rw [MS h2 (by omega), V8 h1 (by omega), show a - b=0 by omega]; rfl
  · rw [Li h (by omega), MS (by omega) (by omega), Wi (by omega) (by omega), decide_eq_false (by omega)]; rfl
theorem UA {a b:Nat} (ha:a<4611686018427387904) (hb:b<4611686018427387904):DH .i64 0 (Ie .i64 a b)=decide (b<a) := by
  rcases Nat.lt_or_ge a b with h | h
  · obtain ⟨h1, h2⟩ := OI h hb
    rw [Si (by omega) h1, decide_eq_false (by omega)]
  · rw [Li h (by omega), Wi (by omega) (by omega)]
    by_cases h3:b<a
    · rw [decide_eq_true h3, decide_eq_true (by omega)]
    · rw [decide_eq_false h3, decide_eq_false (by omega)]
theorem EE:(false == true)=false := id rfl
theorem EH:(true == true)=true := id rfl
theorem Y2 {p:K4} {o len cap a:Nat} {ex:Bool} (ha:a≤len) (hl:len≤cap) (ha2:a<9223372036854775808) (κ:V->R):DM 1 (.sl p o len cap ex 1) (some (.int .i64 a)) none κ=κ (.sl p (o+a) (len - a) (cap - a) ex 1) := by
  show br (Nat.ble (Nat.succ a) 9223372036854775808) (br (Nat.beq 1 1) (br (Nat.ble a len) (br (Nat.ble len cap) (A9 (Nat.sub len a) fun l => A9 (Nat.sub cap a) fun c => A9 (Nat.add o (Nat.mul a 1)) fun o => κ (.sl p o l c ex 1)) (.fail "")) (.fail "")) (.fail "")) (.fail "")=_
  rw [show Nat.ble (Nat.succ a) 9223372036854775808=true from Ab.2 (by omega), Ac, Nat.beq_refl, Ac, Ab.2 ha, Ac, Ab.2 hl, Ac, A6, A6, A6, show Nat.mul a 1=a from Nat.mul_one a]; rfl
theorem Rm {p:K4} {o len cap a b:Nat} {ex:Bool} (ha:a≤b) (hl:b≤cap) (ha2:b<9223372036854775808) (κ:V->R):DM 1 (.sl p o len cap ex 1) (some (.int .i64 a)) (some (.int .i64 b)) κ=κ (.sl p (o+a) (b - a) (cap - a) ex 1) := by
  show br (Nat.ble (Nat.succ b) 9223372036854775808) (br (Nat.ble (Nat.succ a) 9223372036854775808) (br (Nat.beq 1 1) (br (Nat.ble a b) (br (Nat.ble b cap) (A9 (Nat.sub b a) fun l => A9 (Nat.sub cap a) fun c => A9 (Nat.add o (Nat.mul a 1)) fun o => κ (.sl p o l c ex 1)) (.fail "")) (.fail "")) (.fail "")) (.fail "")) (.fail "")=_
  rw [show Nat.ble (Nat.succ b) 9223372036854775808=true from Ab.2 (by omega), Ac, show Nat.ble (Nat.succ a) 9223372036854775808=true from Ab.2 (by omega), Ac, Nat.beq_refl, Ac, Ab.2 ha, Ac, Ab.2 hl, Ac, A6, A6, A6, show Nat.mul a 1=a from Nat.mul_one a]; rfl
theorem WD (κ:V->R):DM 1 (.nil .sl) (some (.int .i64 0)) (some (.int .i64 0)) κ=κ (.nil .sl) := id rfl
theorem Ab6 {p:K4} {o len cap b:Nat} {ex:Bool} (hl:b≤cap) (ha2:b<9223372036854775808) (κ:V->R):DM 1 (.sl p o len cap ex 1) none (some (.int .i64 b)) κ=κ (.sl p o b cap ex 1) := by
  show br (Nat.ble (Nat.succ b) 9223372036854775808) (br (Nat.beq 1 1) (br (Nat.ble 0 b) (br (Nat.ble b cap) (A9 (Nat.sub b 0) fun l => A9 (Nat.sub cap 0) fun c => A9 (Nat.add o (Nat.mul 0 1)) fun o => κ (.sl p o l c ex 1)) (.fail "")) (.fail "")) (.fail "")) (.fail "")=_
  rw [show Nat.ble (Nat.succ b) 9223372036854775808=true from Ab.2 (by omega), Ac, Nat.beq_refl, Ac, show Nat.ble 0 b=true from Ab.2 (Nat.zero_le _), Ac, Ab.2 hl, Ac, A6, A6, A6, show Nat.mul 0 1=0 from rfl]; rfl
theorem WP {a b:Nat} (h:a+b<18446744073709551616):Ie .i64 (a+b) a=b := by rw [Li (by omega) h]; omega
/-- Bytes that were laid anew are written over, all that is new. -/
theorem Wh {p n:K4} {h':Heap} {v:V} {bs l:List UInt8} {pr:Option K4} (hp:Aa n h'=some (.c (cb (bs++List.replicate l.length 0)) false pr)) (hpr:pr=none∨pr=some p) (hs:G7 v l h') (h0:0<l.length) (hb:bs.length+l.length<1000000000) :
    ∃ h2, (∀ κ:Heap->R, Pw 1 (.sl n bs.length l.length l.length false 1) v h' (fun _ h => κ h)=κ h2)∧Aa n h2=some (.c (cb (bs++l)) false none) ∧ ∀ q, q≠n->q≠p->Aa q h2=Aa q h' := by
  have hl:(bs++List.replicate l.length (0:UInt8)).length=bs.length+l.length := by rw [List.length_append, List.length_replicate]
  have e := fun κ:Heap->R => YR hs h0 (ex := false) (off := bs.length) (len := l.length) (cap := l.length) hp (Nat.le_refl _) (by omega) (by omega) fun _ h => κ h
  have e2:(bs++List.replicate l.length (0:UInt8)).take bs.length++(l++(bs++List.replicate l.length (0:UInt8)).drop (bs.length+l.length))=bs++l := by
    rw [List.take_left, List.drop_eq_nil_of_le (by omega), List.append_nil]
  rw [e2] at e
  refine ⟨_, e, A8 _ _ _, fun q h1 h2 => ?_⟩
  rw [A7 _ _ (Ne.symm h1)]
  rcases hpr with rfl | rfl
  · rfl
  · exact A7 _ _ (Ne.symm h2)
end Go.Ev

namespace Go.Ev
set_option linter.unusedVariables false
theorem W3 {v b:Nat} (hv:v<18446744073709551616) (hb:b≤64) (κ:V->R):ES (.int .u64 v) (.int .i64 b) κ=κ (.int .u64 (v >>> b)) := by
  show br (Nat.ble (Nat.succ b) 9223372036854775808) (br (Nat.ble (Nat.succ v) 18446744073709551616) (br (Nat.ble b 64) (A9 (Nat.shiftRight v b) fun r => κ (.int .u64 r)) (κ (.int .u64 0))) (.fail "")) (.fail "")=_
  rw [show Nat.ble (Nat.succ b) 9223372036854775808=true from Ab.2 (by omega), Ac, show Nat.ble (Nat.succ v) 18446744073709551616=true from Ab.2 (by omega), Ac, Ab.2 hb, Ac, A6]; rfl
theorem QH {v:Nat} (hv:v<18446744073709551616) (κ:V->R):AV .u8 (.int .u64 v) κ=κ (.int .u8 (v % 256)) := GW (k := .u8) (j := .u64) hv κ
theorem XN {r:Nat} (hr:r<256) {n:K4} (hn:n.toN<65535) (h:Heap) (κ:KV):Co true 1 1 [.int .u8 r] h n κ=κ (.sl n 0 1 1 true 1) (Af n h (some (.c (cb [UInt8.ofNat r]) false none))) n.up := by
  show br (Nat.ble r 255) (A9 (Nat.succ 0) fun m => A9 (Nat.add r (Nat.mul 256 0)) fun c => Eh h n (.c (.b m c) false none) fun h' n' => κ (.sl n 0 1 1 true 1) h' n') (.fail "")=_
  rw [show Nat.ble r 255=true from Ab.2 (by omega), Ac, A6, A6, DU hn]
  have e:(UInt8.ofNat r).toNat=r := by show r % 256=r; omega
  show κ _ (Af n h (some (.c (.b 1 r) false none))) n.up=κ _ (Af n h (some (.c (.b 1 ((UInt8.ofNat r).toNat+256*0)) false none))) n.up
  rw [e]; rfl
/-- Bytes that may still know what they grew from. -/
def EL (lo:Nat) (n:K4) (h:Heap) (c:V) (l:List UInt8):Prop := (c = .nil .sl∧l=[]) ∨ ∃ p ex pr, c = .sl p 0 l.length l.length ex 1∧Aa p h=some (.c (cb l) false pr)∧lo≤p.toN∧p.toN<n.toN∧(pr=none ∨ ∃ q, pr=some q∧lo≤q.toN∧q.toN<n.toN)
theorem EL.frame {lo:Nat} {n n':K4} {h h':Heap} {c:V} {l:List UInt8} (H:EL lo n h c l) (hn:n.toN≤n'.toN) (e:∀ q:K4, lo≤q.toN->q.toN<n.toN->Aa q h'=Aa q h):EL lo n' h' c l := by
  rcases H with H | ⟨p, ex, pr, h1, h2, h3, h4, h5⟩
  · exact .inl H
  · refine .inr ⟨p, ex, pr, h1, (e p h3 h4).trans h2, h3, by omega, ?_⟩
    rcases h5 with h5 | ⟨q, h5, h6, h7⟩
    · exact .inl h5
    · exact .inr ⟨q, h5, h6, by omega⟩
theorem EL.nil {lo:Nat} {n:K4} {h:Heap}:EL lo n h (.nil .sl) [] := .inl ⟨rfl, rfl⟩
theorem EL.len {lo:Nat} {n:K4} {h:Heap} {c:V} {l:List UInt8} (H:EL lo n h c l) (hl:l.length<9223372036854775808) (κ:V->R):B1 c κ=κ (.int .i64 l.length) := by
  rcases H with ⟨rfl, rfl⟩ | ⟨p, ex, pr, rfl, _⟩
  · rfl
  · exact CI hl κ
theorem EL.src {lo:Nat} {n:K4} {h:Heap} {c:V} {l:List UInt8} (H:EL lo n h c l):G7 c l h := by
  rcases H with ⟨rfl, rfl⟩ | ⟨p, ex, pr, rfl, h2, _⟩
  · exact .inr (.inl ⟨rfl, rfl⟩)
  · exact .inr (.inr ⟨p, 0, l.length, ex, l, false, pr, rfl, h2, by omega, by rw [List.drop_zero, List.take_length]⟩)
theorem grow {lo:Nat} {n:K4} {h:Heap} {c:V} {l b:List UInt8} (H:EL lo n h c l) (hlo:lo≤n.toN) (hb:l.length+b.length≤1000000000) (hn:n.toN<65000) {y:Cs} (hy:0<b.length->y=cb b) :
    ∃ c' h' n', (∀ κ:KV, BZ 1 1 c b.length y h n κ=κ c' h' n')∧EL lo n' h' c' (l++b)∧n.toN≤n'.toN∧n'.toN≤n.toN+1∧(∀ q:K4, q.toN<lo->Aa q h'=Aa q h)∧(AM h n->AM h' n') := by
  have u1 := K4.up_toN (p := n) (by omega)
  rcases Nat.eq_zero_or_pos b.length with h0 | h0
  · obtain rfl := List.length_eq_zero_iff.1 h0
    refine ⟨c, h, n, fun κ => LT ?_ _ _ _ _, by rw [List.append_nil]; exact H, by omega, by omega, fun q _ => rfl, fun h => h⟩
    rcases H with ⟨rfl, _⟩ | ⟨p, ex, pr, rfl, _⟩
    · exact .inl rfl
    · exact .inr ⟨p, _, _, _, ex, rfl⟩
  · obtain rfl := hy h0
    rcases H with ⟨rfl, rfl⟩ | ⟨p, ex, pr, rfl, h2, h3, h4, h5⟩
    · refine ⟨_, _, _, fun κ => NM h0 (by omega) (by omega) _ _ _, ?_, by omega, by omega, fun q hq => As (by omega) _ _, fun hf q hq => (AH (by omega) _ _).trans (hf q (by omega))⟩
      exact .inr ⟨n, false, none, rfl, A8 _ _ _, hlo, by omega, .inl rfl⟩
    · cases ex with
      | true =>
        refine ⟨_, _, _, fun κ => (Fj h2 h0 (by omega) (by omega) κ).trans (if_pos rfl), ?_, by omega, by omega, fun q hq => As (by omega) _ _, fun hf q hq => (AH (by omega) _ _).trans (hf q (by omega))⟩
        exact .inr ⟨n, false, none, rfl, A8 _ _ _, hlo, by omega, .inl rfl⟩
      | false =>
        refine ⟨_, _, _, fun κ => (Fj h2 h0 (by omega) (by omega) κ).trans (if_neg (by decide)), ?_, by omega, by omega, fun q hq => ?_, fun hf q hq => ?_⟩
        · exact .inr ⟨n, false, some p, rfl, A8 _ _ _, hlo, by omega, .inr ⟨p, rfl, h3, by omega⟩⟩
        · rw [As (by omega), As (by omega)]
          rcases h5 with rfl | ⟨r, rfl, h6, h7⟩
          · rfl
          · exact A7 _ _ (K4.ne_of_lt (by omega)).symm
        · rw [AH (by omega), AH (by omega)]
          rcases h5 with rfl | ⟨r, rfl, h6, h7⟩
          · exact hf q (by omega)
          · exact (A7 _ _ (K4.ne_of_lt (by omega))).trans (hf q (by omega))
/-- .. by what is copied from. -/
theorem IB {lo:Nat} {n:K4} {h:Heap} {c v:V} {l b:List UInt8} (H:EL lo n h c l) (hs:G7 v b h) (hlo:lo≤n.toN) (hb:l.length+b.length≤1000000000) (hn:n.toN<65000) :
    ∃ c' h' n', (∀ κ:KV, Ca 1 1 c v h n κ=κ c' h' n')∧EL lo n' h' c' (l++b)∧n.toN≤n'.toN∧n'.toN≤n.toN+1∧(∀ q:K4, q.toN<lo->Aa q h'=Aa q h)∧(AM h n->AM h' n') := by
  obtain ⟨y, h1, h2⟩ := hs.src
  obtain ⟨c', h', n', e, r⟩ := grow H hlo hb hn h2
  refine ⟨c', h', n', fun κ => ?_, r⟩
  show H5 1 v h (fun m y => BZ 1 1 c m y h n κ)=_
  rw [h1, e]
end Go.Ev

namespace Go.Ev
set_option linter.unusedVariables false
theorem F0:(true == false)=false := id rfl
theorem F4:(false == false)=true := id rfl
theorem CW (g:Bool) (h:Heap) (n:K4) (F:KV->R) (κ:KV):BU g Bb h n F κ=κ Bb h n := id rfl
theorem Dn (g:Bool) (F:(V->R)->R) (κ:V->R):Oy g Bb F κ=κ Bb := id rfl
theorem IV {xs:List V} {off m:Nat} (h:off+m≤xs.length) (κ:Cs->R):AY (.l xs) off m κ=κ (.l ((xs.drop off).take m)) := by
  show Do off xs (fun ys => CU m ys fun zs => κ (.l zs))=_
  rw [IC (by omega), J5 (by rw [List.length_drop]; omega)]
theorem Yf (a b:List V) (κ:Cs->R):R2 (.l a) (.l b) κ=κ (.l (a++b)) := by
  show EM a b (fun zs => κ (.l zs))=_
  rw [Dz]
theorem Yn {a b:List V} {i:Nat} (h:i+b.length≤a.length) (κ:Cs->R):Mb (.l a) i (.l b) κ=κ (.l (a.take i++(b++a.drop (i+b.length)))) := by
  show CU i a (fun x => GH b fun m => A9 (Nat.add i m) fun j => Do j a fun y => EM b y fun t => EM x t fun zs => κ (.l zs))=_
  rw [J5 (by omega), CS, A6, IC (by show i+b.length≤_; exact h), Dz, Dz]; rfl
theorem Ac3 {p:K4} {h:Heap} {a b:List V} {pr:Option K4} {off:Nat} (hp:Aa p h=some (.c (.l a) false pr)) (hl:off+b.length≤a.length) (κ:Heap->R):El h p off (.l b) κ=κ (Af p (EF pr h) (some (.c (.l (a.take off++(b++a.drop (off+b.length)))) false none))) := by
  rw [Gj]; unfold DV
  rw [Fn hp, Ai, Yn hl, Ft, AS]
theorem YV {m:Nat} {p:K4} {h:Heap} {a b:List V} {pr:Option K4} {off:Nat} (hp:Aa p h=some (.c (.l a) false pr)) (hm:b.length=m) (hl:off+b.length≤a.length) (κ:Heap->R):DW m (.ptr p off) (.agg b) h κ=κ (Af p (EF pr h) (some (.c (.l (a.take off++(b++a.drop (off+b.length)))) false none))) := by
  show GH b (fun k => br (Nat.beq k m) (El h p off (.l b) κ) (.fail ""))=_
  rw [CS, hm, Nat.beq_refl, Ac, Ac3 hp hl, hm]
/-- A slice that is read: its cells. -/
def LS (h:Heap) (n:K4) (av:List K4) (z:Nat) (v:V) (l:List V) (k:Nat):Prop := (v = .nil .sl∧l=[]∧k=0) ∨ ∃ p off cap ex a s pr, v = .sl p off k cap ex z∧Aa p h=some (.c (.l a) s pr)∧off+k*z≤a.length∧(a.drop off).take (k*z)=l∧p.toN<n.toN ∧ ∀ q∈av, p≠q
theorem LS.len {h:Heap} {n:K4} {av:List K4} {z:Nat} {v:V} {l:List V} {k:Nat} (H:LS h n av z v l k) (hk:k<9223372036854775808) (κ:V->R):B1 v κ=κ (.int .i64 k) := by
  rcases H with ⟨rfl, _, rfl⟩ | ⟨p, off, cap, ex, a, s, pr, rfl, _⟩
  · rfl
  · exact CI hk κ
theorem LS.frame {h h':Heap} {n n':K4} {av av':List K4} {z:Nat} {v:V} {l:List V} {k:Nat} (H:LS h n av z v l k) (hn:n.toN≤n'.toN) (e:∀ p:K4, p.toN<n.toN->(∀ q∈av, p≠q)->Aa p h'=Aa p h ∧ ∀ q∈av', p≠q):LS h' n' av' z v l k := by
  rcases H with H | ⟨p, off, cap, ex, a, s, pr, rfl, h1, h2, h3, h4, h5⟩
  · exact .inl H
  · exact .inr ⟨p, off, cap, ex, a, s, pr, rfl, ((e p h4 h5).1).trans h1, h2, h3, by omega, (e p h4 h5).2⟩
theorem LS.more {h h':Heap} {n n':K4} {av:List K4} {z:Nat} {v:V} {l:List V} {k:Nat} (H:LS h n av z v l k) (hn:n.toN≤n'.toN) (e:∀ p:K4, p.toN<n.toN->Aa p h'=Aa p h):LS h' n' av z v l k := H.frame hn fun p hp hq => ⟨e p hp, hq⟩
theorem LS.src {h:Heap} {n:K4} {av:List K4} {z:Nat} {v:V} {l:List V} {k:Nat} (H:LS h n av z v l k) (κ:Nat->Cs->R):H5 z v h κ=κ k (.l l) := by
  rcases H with ⟨rfl, rfl, rfl⟩ | ⟨p, off, cap, ex, a, s, pr, rfl, h1, h2, rfl, _⟩
  · rfl
  · show br (Nat.beq z z) (Hh p h fun cs _ _ => A9 (Nat.mul k z) fun m => AY cs off m fun y => κ k y) (.fail "")=_
    rw [Nat.beq_refl, Ac, Fn h1, A6, show Nat.mul k z=k*z from rfl, IV h2]
/-- An element's place, and its cells. -/
theorem LS.ix {h:Heap} {n:K4} {av:List K4} {z:Nat} {v:V} {l:List V} {k i:Nat} (H:LS h n av z v l k) (hi:i<k) (h2:i<9223372036854775808) :
    ∃ p o, (∀ κ:V->R, Bc z v (.int .i64 i) κ=κ (.ptr p o))∧(∀ (κ:V->R), PF (Aa p h) z o κ=κ (.agg ((l.drop (i*z)).take z)))∧(∀ (j:Nat) (x:V) (κ:V->R), l[i*z+j]? = some x->Sg (Aa p h) (o+j) κ=κ x) := by
  rcases H with ⟨rfl, rfl, rfl⟩ | ⟨p, off, cap, ex, a, s, pr, rfl, h1, h3, rfl, _⟩
  · cases hi
  · have hm:i*z+z≤k*z := by rw [←Nat.succ_mul]; exact Nat.mul_le_mul_right z hi
    refine ⟨p, off+i*z, fun κ => XV z (k := .i64) h2 hi κ, fun κ => ?_, fun j x κ hx => ?_⟩
    · rw [h1, Yz (by omega)]
      congr 2
      rw [List.drop_take, List.take_take, List.drop_drop, Nat.min_eq_left (by omega)]
    · rw [h1, V4]
      rw [List.getElem?_take] at hx
      split at hx
      · rw [List.getElem?_drop, ←Nat.add_assoc] at hx
        exact RC hx
      · cases hx
theorem LS.at1 {h:Heap} {n:K4} {av:List K4} {v:V} {l:List V} {k i:Nat} (H:LS h n av 1 v l k) (hi:i<k) (h2:i<9223372036854775808) {x:V} (hx:l[i]? = some x) :
    ∃ p o, (∀ κ:V->R, Bc 1 v (.int .i64 i) κ=κ (.ptr p o)) ∧ ∀ κ:V->R, Sg (Aa p h) o κ=κ x := by
  obtain ⟨p, o, e1, _, e3⟩ := H.ix hi h2
  exact ⟨p, o, e1, fun κ => e3 0 x κ (by rw [Nat.mul_one]; exact hx)⟩
/-- A slice of one's own. -/
def Ja (lo:Nat) (n:K4) (h:Heap) (z:Nat) (v:V) (l:List V) (k:Nat):Prop := (v = .nil .sl∧l=[]∧k=0) ∨ ∃ p ex pr, v = .sl p 0 k k ex z∧Aa p h=some (.c (.l l) false pr)∧l.length=k*z∧lo≤p.toN∧p.toN<n.toN∧(pr=none ∨ ∃ q, pr=some q∧lo≤q.toN∧q.toN<n.toN)
theorem Ja.frame {lo:Nat} {n n':K4} {h h':Heap} {z:Nat} {v:V} {l:List V} {k:Nat} (H:Ja lo n h z v l k) (hn:n.toN≤n'.toN) (e:∀ q:K4, lo≤q.toN->q.toN<n.toN->Aa q h'=Aa q h):Ja lo n' h' z v l k := by
  rcases H with H | ⟨p, ex, pr, h1, h2, h3, h4, h5, h6⟩
  · exact .inl H
  · refine .inr ⟨p, ex, pr, h1, (e p h4 h5).trans h2, h3, h4, by omega, ?_⟩
    rcases h6 with h6 | ⟨q, h6, h7, h8⟩
    · exact .inl h6
    · exact .inr ⟨q, h6, h7, by omega⟩
theorem Ja.ls {lo:Nat} {n:K4} {h:Heap} {z:Nat} {v:V} {l:List V} {k:Nat} (H:Ja lo n h z v l k) (av:List K4) (hav:∀ q∈av, q.toN<lo∨n.toN≤q.toN):LS h n av z v l k := by
  rcases H with H | ⟨p, ex, pr, h1, h2, h3, h4, h5, h6⟩
  · exact .inl H
  · refine .inr ⟨p, 0, k, ex, l, false, pr, h1, h2, by omega, by rw [List.drop_zero, ←h3, List.take_length], h5, fun q hq e => ?_⟩
    have := hav q hq
    rw [←e] at this
    omega
theorem ZY {lo:Nat} {n:K4} {h:Heap} {z eb:Nat} {v:V} {l b:List V} {k m:Nat} (H:Ja lo n h z v l k) (hlo:lo≤n.toN) (hb:b.length=m*z) (hm:0<m) (hs:(4*(k+m)+4096)*eb≤281474976710656) (hn:n.toN<65000) :
    ∃ h' pr', (∀ κ:KV, BZ z eb v m (.l b) h n κ=κ (.sl n 0 (k+m) (k+m) false z) h' n.up)∧Aa n h'=some (.c (.l (l++b)) false pr')∧Ja lo n.up h' z (.sl n 0 (k+m) (k+m) false z) (l++b) (k+m)∧(∀ q:K4, q.toN<lo->Aa q h'=Aa q h)∧(AM h n->AM h' n.up) := by
  have u1 := K4.up_toN (p := n) (by omega)
  rcases H with ⟨rfl, rfl, rfl⟩ | ⟨p, ex, pr, rfl, h2, h3, h4, h5, h6⟩
  · refine ⟨_, none, fun κ => ?_, A8 _ _ _, .inr ⟨n, false, none, rfl, A8 _ _ _, by rw [List.nil_append, hb, Nat.zero_add], hlo, by omega, .inl rfl⟩, fun q hq => As (by omega) _ _, fun hf q hq => (AH (by omega) _ _).trans (hf q (by omega))⟩
    rw [QE hm (by rw [Nat.zero_add] at hs; exact hs) (by omega)]; simp only [List.nil_append, Nat.zero_add]
  · have e4:Nat.ble (Nat.add k m) k=false := AF (by show k<k+m; omega)
    have e0:∀ κ:KV, BZ z eb (.sl p 0 k k ex z) m (.l b) h n κ=br ex (κ (.sl n 0 (k+m) (k+m) false z) (Af n h (some (.c (.l (l++b)) false none))) n.up) (κ (.sl n 0 (k+m) (k+m) false z) (Af n (Af p (EF pr h) (some (.c (.l l) true none))) (some (.c (.l (l++b)) false (some p)))) n.up) := fun κ => by
      show br (Nat.beq z z) (br (Nat.beq m 0) (κ (.sl p 0 k k ex z) h n) (A9 (Nat.add k m) fun need => br (Nat.ble need k) (A9 (Nat.add 0 (Nat.mul k z)) fun j => El h p j (.l b) fun h' => κ (.sl p 0 need k ex z) h' n)
        (br (Nat.ble (Nat.mul (Nat.add (Nat.mul 4 need) 4096) eb) 281474976710656)
          (Kl p h fun cs sup prev => A9 (Nat.mul k z) fun l => AY cs 0 l fun x => R2 x (.l b) fun y =>
            br ex (Eh h n (.c y false none) fun h' n' => κ (.sl n 0 need need false z) h' n')
              (br sup (.fail "") (A9 (Nat.add 0 l) fun j => AY cs 0 j fun old => IJ prev h fun h => F2 p h (some (.c old true none)) fun h =>
                Eh h n (.c y false (some p)) fun h' n' => κ (.sl n 0 need need false z) h' n'))) (.fail "")))) (.fail "")=_
      have e1:(l.drop 0).take (k*z)=l := by rw [List.drop_zero, ←h3, List.take_length]
      rw [Nat.beq_refl, Ac, Ce, decide_eq_false (by omega), Ai, A6, e4, Ai, show Nat.ble (Nat.mul (Nat.add (Nat.mul 4 (Nat.add k m)) 4096) eb) 281474976710656=true from Ab.2 hs, Ac, Dk, Fn h2, A6, show Nat.mul k z=k*z from rfl, IV (by omega), e1, Yf, Ai, A6, show Nat.add 0 (k*z)=k*z from Nat.zero_add _, IV (by omega), e1, Ft, AS, DU (by omega), DU (by omega)]
      rfl
    have hll:(l++b).length=(k+m)*z := by rw [List.length_append, h3, hb, Nat.add_mul]
    cases ex with
    | true =>
      exact ⟨_, none, fun κ => (e0 κ).trans (Ac _ _), A8 _ _ _, .inr ⟨n, false, none, rfl, A8 _ _ _, hll, hlo, by omega, .inl rfl⟩, fun q hq => As (by omega) _ _, fun hf q hq => (AH (by omega) _ _).trans (hf q (by omega))⟩
    | false =>
      refine ⟨_, some p, fun κ => (e0 κ).trans (Ai _ _), A8 _ _ _, .inr ⟨n, false, some p, rfl, A8 _ _ _, hll, hlo, by omega, .inr ⟨p, rfl, h4, by omega⟩⟩, fun q hq => ?_, fun hf q hq => ?_⟩
      · rw [As (by omega), As (by omega)]
        rcases h6 with rfl | ⟨r, rfl, h7, h8⟩
        · rfl
        · exact A7 _ _ (K4.ne_of_lt (by omega)).symm
      · rw [AH (by omega), AH (by omega)]
        rcases h6 with rfl | ⟨r, rfl, h7, h8⟩
        · exact hf q (by omega)
        · exact (A7 _ _ (K4.ne_of_lt (by omega))).trans (hf q (by omega))
/-- Bytes that may still know what they grew from; where their places may be. -/
def Qd (P:K4->Prop) (n:K4) (h:Heap) (c:V) (l:List UInt8):Prop := (c = .nil .sl∧l=[]) ∨ ∃ p ex pr, c = .sl p 0 l.length l.length ex 1∧Aa p h=some (.c (cb l) false pr)∧P p∧p.toN<n.toN∧(pr=none ∨ ∃ q, pr=some q∧P q∧q.toN<n.toN)
theorem Qd.frame {P P':K4->Prop} {n n':K4} {h h':Heap} {c:V} {l:List UInt8} (H:Qd P n h c l) (hn:n.toN≤n'.toN) (hP:∀ q:K4, q.toN<n.toN->P q->P' q) (e:∀ q:K4, q.toN<n.toN->P q->Aa q h'=Aa q h):Qd P' n' h' c l := by
  rcases H with H | ⟨p, ex, pr, h1, h2, h3, h4, h5⟩
  · exact .inl H
  · refine .inr ⟨p, ex, pr, h1, (e p h4 h3).trans h2, hP p h4 h3, by omega, ?_⟩
    rcases h5 with h5 | ⟨q, h5, h6, h7⟩
    · exact .inl h5
    · exact .inr ⟨q, h5, hP q h7 h6, by omega⟩
theorem Qd.len {P:K4->Prop} {n:K4} {h:Heap} {c:V} {l:List UInt8} (H:Qd P n h c l) (hl:l.length<9223372036854775808) (κ:V->R):B1 c κ=κ (.int .i64 l.length) := by
  rcases H with ⟨rfl, rfl⟩ | ⟨p, ex, pr, rfl, _⟩
  · rfl
  · exact CI hl κ
theorem Qd.src {P:K4->Prop} {n:K4} {h:Heap} {c:V} {l:List UInt8} (H:Qd P n h c l):G7 c l h := by
  rcases H with ⟨rfl, rfl⟩ | ⟨p, ex, pr, rfl, h2, _⟩
  · exact .inr (.inl ⟨rfl, rfl⟩)
  · exact .inr (.inr ⟨p, 0, l.length, ex, l, false, pr, rfl, h2, by omega, by rw [List.drop_zero, List.take_length]⟩)
/-- Six cells written over six. -/
theorem Rh (p:K4) (h:Heap) (a0 a1 a2 a3 a4 a5 b0 b1 b2 b3 b4 b5:V) (κ:Heap->R):DW 6 (.ptr p 0) (.agg [b0, b1, b2, b3, b4, b5]) (Af p h (some (.c (.l [a0, a1, a2, a3, a4, a5]) false none))) κ=κ (Af p h (some (.c (.l [b0, b1, b2, b3, b4, b5]) false none))) := by
  rw [YV (m := 6) (b := [b0, b1, b2, b3, b4, b5]) (A8 _ _ _) rfl (by simp)]
  show κ (Af p (Af p h _) _)=_
  rw [Gm]; rfl
theorem KO (a b c d e f:V) (s:Bool) (pr:Option K4) (κ:V->R):PF (some (.c (.l [a, b, c, d, e, f]) s pr)) 6 0 κ=κ (.agg [a, b, c, d, e, f]) := id rfl
/-- A slice that is read, out of the way of what grows. -/
def LSQ (P:K4->Prop) (h:Heap) (n:K4) (z:Nat) (v:V) (l:List V) (k:Nat):Prop := (v = .nil .sl∧l=[]∧k=0) ∨ ∃ p off cap ex a s pr, v = .sl p off k cap ex z∧Aa p h=some (.c (.l a) s pr)∧off+k*z≤a.length∧(a.drop off).take (k*z)=l∧p.toN<n.toN ∧ ¬ P p
theorem LSQ.ls {P:K4->Prop} {h:Heap} {n:K4} {z:Nat} {v:V} {l:List V} {k:Nat} (H:LSQ P h n z v l k):LS h n [] z v l k := by
  rcases H with H | ⟨p, off, cap, ex, a, s, pr, h1, h2, h3, h4, h5, _⟩
  · exact .inl H
  · exact .inr ⟨p, off, cap, ex, a, s, pr, h1, h2, h3, h4, h5, fun q hq => by cases hq⟩
theorem LSQ.frame {P P':K4->Prop} {h h':Heap} {n n':K4} {z:Nat} {v:V} {l:List V} {k:Nat} (H:LSQ P h n z v l k) (hn:n.toN≤n'.toN) (e:∀ q:K4, q.toN<n.toN->¬ P q->Aa q h'=Aa q h ∧ ¬ P' q):LSQ P' h' n' z v l k := by
  rcases H with H | ⟨p, off, cap, ex, a, s, pr, h1, h2, h3, h4, h5, h6⟩
  · exact .inl H
  · exact .inr ⟨p, off, cap, ex, a, s, pr, h1, ((e p h5 h6).1).trans h2, h3, h4, by omega, (e p h5 h6).2⟩
end Go.Ev

namespace Go.Ev
open Go.RowKit Go.ChangeShapes
set_option linter.unusedVariables false
/-- The blocks of the list stay. -/
def VL (ρ:Env) (w:World) (bl:List Nat):Prop := ∀ b∈bl, ∀ c e fr, w.heap[b]? = some (.cells c e fr)->ρ.gl b=some (c, e, fr)
theorem VL.sub {ρ:Env} {w:World} {bl cl:List Nat} (h:VL ρ w bl) (hs:∀ b∈cl, b∈bl):VL ρ w cl := fun b hb => h b (hs b hb)
end Go.Ev

namespace Go.Ev
set_option linter.unusedVariables false
def Ov (o:Cf):Bool := @Option.rec Ob (fun _ => Bool) true (fun _ => false) o
theorem EG {o:Cf} (h:Ov o=true):o=none := by cases o with
  | none => rfl
  | some _ => cases h
theorem AQ {a b:Bool} (h:and a b=true):a=true∧b=true := by cases a <;> cases b <;> first | exact ⟨rfl, rfl⟩ | cases h
def Ox (p:HA):Bool := @HA.rec (fun _ => Bool) (fun A B C E F G I J L M N O P Q T U => and (Ov A) (and (Ov B) (and (Ov C) (and (Ov E) (and (Ov F) (and (Ov G) (and (Ov I) (and (Ov J) (and (Ov L) (and (Ov M) (and (Ov N) (and (Ov O) (and (Ov P) (and (Ov Q) (and (Ov T) (Ov U)))))))))))))))) p
def Ow (p:HB):Bool := @HB.rec (fun _ => Bool) (fun A B C E F G I J L M N O P Q T U => and (Ox A) (and (Ox B) (and (Ox C) (and (Ox E) (and (Ox F) (and (Ox G) (and (Ox I) (and (Ox J) (and (Ox L) (and (Ox M) (and (Ox N) (and (Ox O) (and (Ox P) (and (Ox Q) (and (Ox T) (Ox U)))))))))))))))) p
def OW (p:HC):Bool := @HC.rec (fun _ => Bool) (fun A B C E F G I J L M N O P Q T U => and (Ow A) (and (Ow B) (and (Ow C) (and (Ow E) (and (Ow F) (and (Ow G) (and (Ow I) (and (Ow J) (and (Ow L) (and (Ow M) (and (Ow N) (and (Ow O) (and (Ow P) (and (Ow Q) (and (Ow T) (Ow U)))))))))))))))) p
theorem EQ {p:HA} (h:Ox p=true) (d:D):HA.sel d p=none := by
  cases p with | mk A B C E F G I J L M N O P Q T U =>
  unfold Ox at h
  dsimp only at h
  obtain ⟨a0, h⟩ := AQ h
  obtain ⟨a1, h⟩ := AQ h
  obtain ⟨a2, h⟩ := AQ h
  obtain ⟨a3, h⟩ := AQ h
  obtain ⟨a4, h⟩ := AQ h
  obtain ⟨a5, h⟩ := AQ h
  obtain ⟨a6, h⟩ := AQ h
  obtain ⟨a7, h⟩ := AQ h
  obtain ⟨a8, h⟩ := AQ h
  obtain ⟨a9, h⟩ := AQ h
  obtain ⟨a10, h⟩ := AQ h
  obtain ⟨a11, h⟩ := AQ h
  obtain ⟨a12, h⟩ := AQ h
  obtain ⟨a13, h⟩ := AQ h
  obtain ⟨a14, h⟩ := AQ h
  cases d
  · exact EG a0
  · exact EG a1
  · exact EG a2
  · exact EG a3
  · exact EG a4
  · exact EG a5
  · exact EG a6
  · exact EG a7
  · exact EG a8
  · exact EG a9
  · exact EG a10
  · exact EG a11
  · exact EG a12
  · exact EG a13
  · exact EG a14
  · exact EG h
theorem EU {p:HB} (h:Ow p=true) (c d:D):HA.sel d (HB.sel c p)=none := by
  cases p with | mk A B C E F G I J L M N O P Q T U =>
  unfold Ow at h
  dsimp only at h
  obtain ⟨a0, h⟩ := AQ h
  obtain ⟨a1, h⟩ := AQ h
  obtain ⟨a2, h⟩ := AQ h
  obtain ⟨a3, h⟩ := AQ h
  obtain ⟨a4, h⟩ := AQ h
  obtain ⟨a5, h⟩ := AQ h
  obtain ⟨a6, h⟩ := AQ h
  obtain ⟨a7, h⟩ := AQ h
  obtain ⟨a8, h⟩ := AQ h
  obtain ⟨a9, h⟩ := AQ h
  obtain ⟨a10, h⟩ := AQ h
  obtain ⟨a11, h⟩ := AQ h
  obtain ⟨a12, h⟩ := AQ h
  obtain ⟨a13, h⟩ := AQ h
  obtain ⟨a14, h⟩ := AQ h
  cases c
  · exact EQ a0 d
  · exact EQ a1 d
  · exact EQ a2 d
  · exact EQ a3 d
  · exact EQ a4 d
  · exact EQ a5 d
  · exact EQ a6 d
  · exact EQ a7 d
  · exact EQ a8 d
  · exact EQ a9 d
  · exact EQ a10 d
  · exact EQ a11 d
  · exact EQ a12 d
  · exact EQ a13 d
  · exact EQ a14 d
  · exact EQ h d
theorem Abs {p:HC} (h:OW p=true) (b c d:D):HA.sel d (HB.sel c (HC.sel b p))=none := by
  cases p with | mk A B C E F G I J L M N O P Q T U =>
  unfold OW at h
  dsimp only at h
  obtain ⟨a0, h⟩ := AQ h
  obtain ⟨a1, h⟩ := AQ h
  obtain ⟨a2, h⟩ := AQ h
  obtain ⟨a3, h⟩ := AQ h
  obtain ⟨a4, h⟩ := AQ h
  obtain ⟨a5, h⟩ := AQ h
  obtain ⟨a6, h⟩ := AQ h
  obtain ⟨a7, h⟩ := AQ h
  obtain ⟨a8, h⟩ := AQ h
  obtain ⟨a9, h⟩ := AQ h
  obtain ⟨a10, h⟩ := AQ h
  obtain ⟨a11, h⟩ := AQ h
  obtain ⟨a12, h⟩ := AQ h
  obtain ⟨a13, h⟩ := AQ h
  obtain ⟨a14, h⟩ := AQ h
  cases b
  · exact EU a0 c d
  · exact EU a1 c d
  · exact EU a2 c d
  · exact EU a3 c d
  · exact EU a4 c d
  · exact EU a5 c d
  · exact EU a6 c d
  · exact EU a7 c d
  · exact EU a8 c d
  · exact EU a9 c d
  · exact EU a10 c d
  · exact EU a11 c d
  · exact EU a12 c d
  · exact EU a13 c d
  · exact EU a14 c d
  · exact EU h c d
def Tr (f:D->Bool):Bool := and (f .d0) (and (f .d1) (and (f .d2) (and (f .d3) (and (f .d4) (and (f .d5) (and (f .d6) (and (f .d7) (and (f .d8) (and (f .d9) (and (f .d10) (and (f .d11) (and (f .d12) (and (f .d13) (and (f .d14) (f .d15)))))))))))))))
theorem Oe {f:D->Bool} (h:Tr f=true) (d:D):f d=true := by
  unfold Tr at h
  obtain ⟨a0, h⟩ := AQ h
  obtain ⟨a1, h⟩ := AQ h
  obtain ⟨a2, h⟩ := AQ h
  obtain ⟨a3, h⟩ := AQ h
  obtain ⟨a4, h⟩ := AQ h
  obtain ⟨a5, h⟩ := AQ h
  obtain ⟨a6, h⟩ := AQ h
  obtain ⟨a7, h⟩ := AQ h
  obtain ⟨a8, h⟩ := AQ h
  obtain ⟨a9, h⟩ := AQ h
  obtain ⟨a10, h⟩ := AQ h
  obtain ⟨a11, h⟩ := AQ h
  obtain ⟨a12, h⟩ := AQ h
  obtain ⟨a13, h⟩ := AQ h
  obtain ⟨a14, h⟩ := AQ h
  cases d
  · exact a0
  · exact a1
  · exact a2
  · exact a3
  · exact a4
  · exact a5
  · exact a6
  · exact a7
  · exact a8
  · exact a9
  · exact a10
  · exact a11
  · exact a12
  · exact a13
  · exact a14
  · exact h
end Go.Ev

namespace Go.Ev
set_option linter.unusedVariables false
def XP (n:K4) (p:HC):Bool := Tr fun b => Tr fun c => Tr fun d => @Bool.rec (fun _ => Bool) true (Ov (HA.sel d (HB.sel c (HC.sel b p)))) (Nat.ble n.toN (K4.toN ⟨.d0, b, c, d⟩))
theorem WB {n:K4} {p:HC} (h:XP n p=true) (b c d:D) (hn:n.toN≤(K4.toN ⟨.d0, b, c, d⟩)):HA.sel d (HB.sel c (HC.sel b p))=none := by
  have h1 := Oe (Oe (Oe h b) c) d
  rw [show Nat.ble n.toN (K4.toN ⟨.d0, b, c, d⟩)=true from Nat.ble_eq_true_of_le hn] at h1
  exact EG h1
def VV (n:K4) (p:Heap):Bool := and (XP n (Heap.sel .d0 p)) (Tr fun a => @D.rec (fun _ => Bool) true (OW (Heap.sel .d1 p)) (OW (Heap.sel .d2 p)) (OW (Heap.sel .d3 p)) (OW (Heap.sel .d4 p)) (OW (Heap.sel .d5 p)) (OW (Heap.sel .d6 p)) (OW (Heap.sel .d7 p)) (OW (Heap.sel .d8 p)) (OW (Heap.sel .d9 p)) (OW (Heap.sel .d10 p)) (OW (Heap.sel .d11 p)) (OW (Heap.sel .d12 p)) (OW (Heap.sel .d13 p)) (OW (Heap.sel .d14 p)) (OW (Heap.sel .d15 p)) a)
theorem WW {n:K4} {p:Heap} (h:VV n p=true):AM p n := by
  obtain ⟨h1, h2⟩ := AQ h
  rintro ⟨a, b, c, d⟩ hq
  show HA.sel d (HB.sel c (HC.sel b (Heap.sel a p)))=none
  have h3 := Oe h2 a
  cases a
  · exact WB h1 b c d hq
  all_goals exact Abs h3 b c d
def Xf (r:R):Bool :=
  @R.rec (fun _ => Bool) (fun _ _ _ _ => false) (fun v h n => and (Ig v) (and (Nat.ble n.toN 4000) (VV n h))) (fun _ => false) (fun _ _ _ _ => false) r
theorem RD {r:R} (h:Xf r=true):∃ h n, r = .rv (.bool true) h n∧n.toN≤4000∧AM h n := by
  cases r with
  | rv v hh n =>
    obtain ⟨h1, h2⟩ := AQ (show and (Ig v) (and (Nat.ble n.toN 4000) (VV n hh))=true from h)
    obtain ⟨h2, h3⟩ := AQ h2
    exact ⟨hh, n, by rw [LP h1], Nat.le_of_ble_eq_true h2, WW h3⟩
  | _ => cases h
end Go.Ev

namespace Go.Ev
set_option linter.unusedVariables false
theorem FY {a b:Nat} (ha:a<4294967296) (hb:b<4294967296) (h0:0<b) (κ:V->R):Hp (.int .u32 a) (.int .u32 b) κ=κ (.int .u32 (a % b)) := Sq (k := .u32) ha hb h0 κ
theorem FW {a b:Nat} (ha:a<4294967296) (hb:b<4294967296) (h0:0<b) (κ:V->R):EW (.int .u32 a) (.int .u32 b) κ=κ (.int .u32 (a / b)) := RA (k := .u32) ha hb h0 κ
theorem FO {a b:Nat} (ha:a<18446744073709551616) (hb:b<18446744073709551616) (h0:0<b) (κ:V->R):Hp (.int .u64 a) (.int .u64 b) κ=κ (.int .u64 (a % b)) := Sq (k := .u64) ha hb h0 κ
theorem FN {a b:Nat} (ha:a<18446744073709551616) (hb:b<18446744073709551616) (h0:0<b) (κ:V->R):EW (.int .u64 a) (.int .u64 b) κ=κ (.int .u64 (a / b)) := RA (k := .u64) ha hb h0 κ
theorem FR {a b:Nat} (h:a*b<4294967296) (κ:V->R):DQ (.int .u32 a) (.int .u32 b) κ=κ (.int .u32 (a*b)) := by
  rw [TG, show (a*b) % Mk .u32=a*b from Nat.mod_eq_of_lt h]
theorem FK {a b:Nat} (h:a+b<4294967296) (κ:V->R):AJ (.int .u32 a) (.int .u32 b) κ=κ (.int .u32 (a+b)) := by
  rw [Sh, show (a+b) % Mk .u32=a+b from Nat.mod_eq_of_lt h]
theorem He {a b:Nat} (h:a+b<256) (κ:V->R):AJ (.int .u8 a) (.int .u8 b) κ=κ (.int .u8 (a+b)) := by
  rw [Sh, show (a+b) % Mk .u8=a+b from Nat.mod_eq_of_lt h]
theorem DS {a:Nat} (h:a<4294967296) (κ:V->R):AV .u32 (.int .u64 a) κ=κ (.int .u32 a) := by
  rw [GW (k := .u32) (j := .u64) (Nat.lt_trans h (by decide)), show a % Mk .u32=a from Nat.mod_eq_of_lt h]
theorem FF {a:Nat} (h:a<256) (κ:V->R):AV .u8 (.int .u32 a) κ=κ (.int .u8 a) := by
  rw [GW (k := .u8) (j := .u32) (Nat.lt_trans h (by decide)), show a % Mk .u8=a from Nat.mod_eq_of_lt h]
/-- The library's texts of two digits, and of one. -/
def Y4:Nat := 9938655150514779720929161263213647789093395803754561035662628441001274968862597953692946393464194303251501229616933063375291039650253924995779037586872666250072396106842829501851083234932712366962979930255066872747696324303968523733872590022915936937156789320557469720923390131174387415513794469201054844961267015441141542819553679203788501627738430154234325528792480477051962324423099068299719245009424585859096469223093538032153047611602695245052081125123941502624659711709950000
def SDA:Nat := 237927390410950444456928663707796224754864904193074819559483181009558347043374296609072
theorem smB:SU (fun i => Nat.beq (lo (sh Y4 (i*2)) 1) (48+i / 10)&&Nat.beq (lo (sh Y4 (i*2+1)) 1) (48+i % 10)) 100=true := by kernel_rfl
theorem sdB:SU (fun i => Nat.beq (lo (sh SDA i) 1) (48+i)) 10=true := by kernel_rfl
theorem Xz {i:Nat} (h:i<100):lo (sh Y4 (i*2)) 1=48+i / 10∧lo (sh Y4 (i*2+1)) 1=48+i % 10 := by
  have e := Ku smB i h
  rw [Bool.and_eq_true] at e
  exact ⟨Nat.eq_of_beq_eq_true e.1, Nat.eq_of_beq_eq_true e.2⟩
theorem ZI {i:Nat} (h:i<10):lo (sh SDA i) 1=48+i := Nat.eq_of_beq_eq_true (Ku sdB i h)
theorem JW {i:Nat} (h:i<100) (κ:V->R):Cm (.str 200 9938655150514779720929161263213647789093395803754561035662628441001274968862597953692946393464194303251501229616933063375291039650253924995779037586872666250072396106842829501851083234932712366962979930255066872747696324303968523733872590022915936937156789320557469720923390131174387415513794469201054844961267015441141542819553679203788501627738430154234325528792480477051962324423099068299719245009424585859096469223093538032153047611602695245052081125123941502624659711709950000) (.int .u32 (i*2)) κ=κ (.int .u8 (48+i / 10)) := by
  show br (Nat.ble (Nat.succ (i*2)) 4294967296) (br (Nat.ble (Nat.succ (i*2)) 200) (A9 (Ev.lo (sh Y4 (i*2)) 1) fun r => κ (.int .u8 r)) (.fail "")) _=_
  rw [show Nat.ble (Nat.succ (i*2)) 4294967296=true from Ab.2 (by omega), Ac, show Nat.ble (Nat.succ (i*2)) 200=true from Ab.2 (by omega), Ac, A6, (Xz h).1]
theorem JM {i:Nat} (h:i<100) (κ:V->R):Cm (.str 200 9938655150514779720929161263213647789093395803754561035662628441001274968862597953692946393464194303251501229616933063375291039650253924995779037586872666250072396106842829501851083234932712366962979930255066872747696324303968523733872590022915936937156789320557469720923390131174387415513794469201054844961267015441141542819553679203788501627738430154234325528792480477051962324423099068299719245009424585859096469223093538032153047611602695245052081125123941502624659711709950000) (.int .u32 (i*2+1)) κ=κ (.int .u8 (48+i % 10)) := by
  show br (Nat.ble (Nat.succ (i*2+1)) 4294967296) (br (Nat.ble (Nat.succ (i*2+1)) 200) (A9 (Ev.lo (sh Y4 (i*2+1)) 1) fun r => κ (.int .u8 r)) (.fail "")) _=_
  rw [show Nat.ble (Nat.succ (i*2+1)) 4294967296=true from Ab.2 (by omega), Ac, show Nat.ble (Nat.succ (i*2+1)) 200=true from Ab.2 (by omega), Ac, A6, (Xz h).2]
/-- Bytes of an array, as cells. -/
def uc (l:List UInt8):List V := l.map fun b => .int .u8 b.toNat
theorem QW (l:List UInt8):(uc l).length=l.length := List.length_map _
theorem Pu:∀ (l:List UInt8) (κ:Nat->Nat->R) (e:R), Cp (uc l) κ e=κ l.length (Ar l)
  | [], κ, e => rfl
  | b::l, κ, e => by
    show Ka (.int .u8 b.toNat) (fun r => Cp (uc l) (fun n c => A9 (Nat.succ n) fun n => A9 (Nat.add r (Nat.mul 256 c)) fun c => κ n c) e) e=_
    have e1:∀ (F:Nat->R), Ka (.int .u8 b.toNat) F e=F b.toNat := fun F => by
      show br (Nat.ble b.toNat 255) (F b.toNat) e=_
      rw [show Nat.ble b.toNat 255=true from Ab.2 (by have := b.toNat_lt; omega), Ac]
    rw [e1, Pu l, A6, A6]
    rfl
end Go.Ev

namespace Go.Ev
set_option linter.unusedVariables false
/-- Bytes whose places satisfy A. -/
def GN (A:K4->Prop) (n:K4) (h:Heap) (c:V) (l:List UInt8):Prop := (c = .nil .sl∧l=[]) ∨ ∃ p ex pr, c = .sl p 0 l.length l.length ex 1∧Aa p h=some (.c (cb l) false pr)∧A p∧p.toN<n.toN∧(pr=none ∨ ∃ q, pr=some q∧A q∧q.toN<n.toN)
theorem EL.toA {lo:Nat} {A:K4->Prop} {n:K4} {h:Heap} {c:V} {l:List UInt8} (H:EL lo n h c l) (hA:∀ q:K4, lo≤q.toN->q.toN<n.toN->A q):GN A n h c l := by
  rcases H with H | ⟨p, ex, pr, h1, h2, h3, h4, h5⟩
  · exact .inl H
  · refine .inr ⟨p, ex, pr, h1, h2, hA p h3 h4, h4, ?_⟩
    rcases h5 with h5 | ⟨q, h5, h6, h7⟩
    · exact .inl h5
    · exact .inr ⟨q, h5, hA q h6 h7, h7⟩
theorem GN.toP {lo:Nat} {A:K4->Prop} {n:K4} {h:Heap} {c:V} {l:List UInt8} (H:GN A n h c l) (hA:∀ q:K4, A q->lo≤q.toN):EL lo n h c l := by
  rcases H with H | ⟨p, ex, pr, h1, h2, h3, h4, h5⟩
  · exact .inl H
  · refine .inr ⟨p, ex, pr, h1, h2, hA p h3, h4, ?_⟩
    rcases h5 with h5 | ⟨q, h5, h6, h7⟩
    · exact .inl h5
    · exact .inr ⟨q, h5, hA q h6, h7⟩
theorem GN.frame {A:K4->Prop} {n n':K4} {h h':Heap} {c:V} {l:List UInt8} (H:GN A n h c l) (hn:n.toN≤n'.toN) (e:∀ q:K4, A q->q.toN<n.toN->Aa q h'=Aa q h):GN A n' h' c l := by
  rcases H with H | ⟨p, ex, pr, h1, h2, h3, h4, h5⟩
  · exact .inl H
  · refine .inr ⟨p, ex, pr, h1, (e p h3 h4).trans h2, h3, by omega, ?_⟩
    rcases h5 with h5 | ⟨q, h5, h6, h7⟩
    · exact .inl h5
    · exact .inr ⟨q, h5, h6, by omega⟩
theorem GN.src {A:K4->Prop} {n:K4} {h:Heap} {c:V} {l:List UInt8} (H:GN A n h c l):G7 c l h := by
  rcases H with ⟨rfl, rfl⟩ | ⟨p, ex, pr, rfl, h2, _⟩
  · exact .inr (.inl ⟨rfl, rfl⟩)
  · exact .inr (.inr ⟨p, 0, l.length, ex, l, false, pr, rfl, h2, by omega, by rw [List.drop_zero, List.take_length]⟩)
theorem Xo {A:K4->Prop} {n:K4} {h:Heap} {c v:V} {l b:List UInt8} {y:Cs} (H:GN A n h c l) (hA:∀ q:K4, n.toN≤q.toN->A q) (hs:∀ κ:Nat->Cs->R, H5 1 v h κ=κ b.length y) (hy:0<b.length->y=cb b) (hb:l.length+b.length≤1000000000) (hn:n.toN<65000) :
    ∃ c' h' n', (∀ κ:KV, Ca 1 1 c v h n κ=κ c' h' n')∧GN A n' h' c' (l++b)∧n.toN≤n'.toN∧n'.toN≤n.toN+1∧(∀ q:K4, ¬ A q->Aa q h'=Aa q h)∧(AM h n->AM h' n') := by
  have u1 := K4.up_toN (p := n) (by omega)
  have e0:∀ κ:KV, Ca 1 1 c v h n κ=BZ 1 1 c b.length y h n κ := fun κ => by
    show H5 1 v h (fun m y => BZ 1 1 c m y h n κ)=_
    rw [hs]
  have hAn:A n := hA n (Nat.le_refl _)
  have hne:∀ q:K4, ¬ A q->q≠n := fun q hq e => hq (e ▸ hAn)
  rcases Nat.eq_zero_or_pos b.length with h0 | h0
  · obtain rfl := List.length_eq_zero_iff.1 h0
    refine ⟨c, h, n, fun κ => (e0 κ).trans (LT ?_ _ _ _ _), by rw [List.append_nil]; exact H, by omega, by omega, fun q _ => rfl, fun h => h⟩
    rcases H with ⟨rfl, _⟩ | ⟨p, ex, pr, rfl, _⟩
    · exact .inl rfl
    · exact .inr ⟨p, _, _, _, ex, rfl⟩
  · obtain rfl := hy h0
    rcases H with ⟨rfl, rfl⟩ | ⟨p, ex, pr, rfl, h2, h3, h4, h5⟩
    · refine ⟨_, _, _, fun κ => (e0 κ).trans (NM h0 (by omega) (by omega) _ _ _), ?_, by omega, by omega, fun q hq => A7 _ _ (hne q hq).symm, fun hf q hq => (AH (by omega) _ _).trans (hf q (by omega))⟩
      exact .inr ⟨n, false, none, rfl, A8 _ _ _, hAn, by omega, .inl rfl⟩
    · cases ex with
      | true =>
        refine ⟨_, _, _, fun κ => (e0 κ).trans ((Fj h2 h0 (by omega) (by omega) κ).trans (if_pos rfl)), ?_, by omega, by omega, fun q hq => A7 _ _ (hne q hq).symm, fun hf q hq => (AH (by omega) _ _).trans (hf q (by omega))⟩
        exact .inr ⟨n, false, none, rfl, A8 _ _ _, hAn, by omega, .inl rfl⟩
      | false =>
        refine ⟨_, _, _, fun κ => (e0 κ).trans ((Fj h2 h0 (by omega) (by omega) κ).trans (if_neg (by decide))), ?_, by omega, by omega, fun q hq => ?_, fun hf q hq => ?_⟩
        · exact .inr ⟨n, false, some p, rfl, A8 _ _ _, hAn, by omega, .inr ⟨p, rfl, h3, by omega⟩⟩
        · rw [A7 _ _ (hne q hq).symm, A7 _ _ (show p≠q from fun e => hq (e ▸ h3))]
          rcases h5 with rfl | ⟨r, rfl, h6, h7⟩
          · rfl
          · exact A7 _ _ (show r≠q from fun e => hq (e ▸ h6))
        · rw [AH (by omega), AH (by omega)]
          rcases h5 with rfl | ⟨r, rfl, h6, h7⟩
          · exact hf q (by omega)
          · exact (A7 _ _ (K4.ne_of_lt (by omega))).trans (hf q (by omega))
theorem Om {A:K4->Prop} {n:K4} {h:Heap} {c v:V} {l b:List UInt8} (H:GN A n h c l) (hA:∀ q:K4, n.toN≤q.toN->A q) (hs:G7 v b h) (hb:l.length+b.length≤1000000000) (hn:n.toN<65000) :
    ∃ c' h' n', (∀ κ:KV, Ca 1 1 c v h n κ=κ c' h' n')∧GN A n' h' c' (l++b)∧n.toN≤n'.toN∧n'.toN≤n.toN+1∧(∀ q:K4, ¬ A q->Aa q h'=Aa q h)∧(AM h n->AM h' n') := by
  obtain ⟨y, h1, h2⟩ := hs.src
  exact Xo H hA h1 h2 hb hn
theorem Wd {A:K4->Prop} {n:K4} {h:Heap} {c:V} {l b:List UInt8} (H:GN A n h c l) (hA:∀ q:K4, n.toN≤q.toN->A q) (hb:l.length+b.length≤1000000000) (hn:n.toN<65000) :
    ∃ c' h' n', (∀ κ:KV, Ca 1 1 c (sb b) h n κ=κ c' h' n')∧GN A n' h' c' (l++b)∧n.toN≤n'.toN∧n'.toN≤n.toN+1∧(∀ q:K4, ¬ A q->Aa q h'=Aa q h)∧(AM h n->AM h' n') :=
  Xo H hA (fun κ => Ag8 b h κ) (fun _ => rfl) hb hn
theorem Z8 {a b:Nat} (ha:a<256) (hb:b<256) {n:K4} (hn:n.toN<65535) (h:Heap) (κ:KV):Co true 2 1 [.int .u8 a, .int .u8 b] h n κ=κ (.sl n 0 2 2 true 1) (Af n h (some (.c (cb [UInt8.ofNat a, UInt8.ofNat b]) false none))) n.up := by
  show br (Nat.ble a 255) (br (Nat.ble b 255) (A9 (Nat.succ 0) fun m => A9 (Nat.add b (Nat.mul 256 0)) fun c => A9 (Nat.succ m) fun m => A9 (Nat.add a (Nat.mul 256 c)) fun c => Eh h n (.c (.b m c) false none) fun h' n' => κ (.sl n 0 2 2 true 1) h' n') (.fail "")) (.fail "")=_
  rw [show Nat.ble a 255=true from Ab.2 (by omega), Ac, show Nat.ble b 255=true from Ab.2 (by omega), Ac, A6, A6, A6, A6, DU hn]
  have e:(UInt8.ofNat a).toNat=a := by show a % 256=a; omega
  have e':(UInt8.ofNat b).toNat=b := by show b % 256=b; omega
  show κ _ (Af n h (some (.c (.b 2 (a+256*(b+256*0))) false none))) n.up=κ _ (Af n h (some (.c (.b 2 ((UInt8.ofNat a).toNat+256*((UInt8.ofNat b).toNat+256*0))) false none))) n.up
  rw [e, e']
theorem YO {p:K4} {h:Heap} {cs:Cs} {s:Bool} {pr:Option K4} {o l c z:Nat} {ex:Bool} (hp:Aa p h=some (.c cs s pr)) (κ:V->R):Jt (.sl p o l c ex z) h κ=κ (.sl p o l c ex z) := by
  show Kl p h (fun _ _ _ => κ (.sl p o l c ex z))=_
  rw [Dk, Fn hp]
theorem ZU (l:List UInt8) (h:Heap) {n:K4} (hn:n.toN<65535) (κ:KV):NK (sb l) h n κ=κ (.sl n 0 l.length l.length false 1) (Af n h (some (.c (cb l) false none))) n.up := by
  show Eh h n (.c (.b l.length (Ar l)) false none) (fun h' n' => κ (.sl n 0 l.length l.length false 1) h' n')=_
  rw [DU hn]; rfl
end Go.Ev
