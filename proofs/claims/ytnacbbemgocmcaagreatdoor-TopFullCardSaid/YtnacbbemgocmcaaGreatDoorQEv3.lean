/- AN EVALUATOR OF THE MODEL OF Go, PROVED SOUND, PART 3: what it says of a call holds in every world, on every tape. Conditions: none of its own; each theorem bears its premises. -/
import Derived.Test.YtnacbbemgocmcaaGreatDoorQEv2
import Derived.Below
import Derived.ChangeSame
import Derived.Lib.Bytealg
import Derived.Maps.RangeRun
import Derived.Orders
import Derived.RangeFuncIn
import Derived.RangeFuncRecord
import Derived.TacticsIn
noncomputable section
set_option linter.unusedSimpArgs false
set_option linter.unusedVariables false
namespace Go.Ev
set_option linter.unusedVariables false
def Wq (x:V):Prop:=∀ (y:V) (κ:R),(AF x y κ).good->x=y∧AF x y κ=κ
def YM (l:List V):Prop:=∀ (m:List V) (κ:R),(AF (.agg l) (.agg m) κ).good->l=m∧AF (.agg l) (.agg m) κ=κ
theorem TX (x:V):Wq x:=by
 refine @V.rec Wq YM ?_ ?_ ?_ ?_ ?_ ?_ ?_ ?_ ?_ ?_ ?_ ?_ ?_ x
 ·intro k r y κ hg
  obtain ⟨j,b,rfl,e1⟩:=Cz (show R.good (E6 y fun j b=>br (Be k j) (br (Nat.beq r b) κ (.fail "")) (.fail "")) from hg)
  obtain ⟨h2,e2⟩:=Ak (show R.good (br (Be k j) (br (Nat.beq r b) κ (.fail "")) (.fail "")) from hg)
  obtain ⟨h3,e3⟩:=Ak (e2 ▸ (show R.good (br (Be k j) (br (Nat.beq r b) κ (.fail "")) (.fail "")) from hg))
  exact ⟨by rw [B3.1 h2,Nat.eq_of_beq_eq_true h3],Eq.trans e2 e3⟩
 ·intro b y κ hg
  obtain ⟨c,rfl,e1⟩:=Fj (show R.good (Lk y fun c=>br (Bool.rec (Bool.rec true false b) b c) κ (.fail "")) from hg)
  cases b <;> cases c <;> first | exact ⟨rfl,rfl⟩ | exact hg.elim
 ·intro p off y κ hg
  obtain ⟨q,o,rfl,e1⟩:=CA (show R.good (Hy y fun q o=>br (K4.beq p q) (br (Nat.beq off o) κ (.fail "")) (.fail "")) from hg)
  have hg:R.good (br (K4.beq p q) (br (Nat.beq off o) κ (.fail "")) (.fail "")):=hg
  obtain ⟨h2,e2⟩:=Ak hg
  obtain ⟨h3,e3⟩:=Ak (e2 ▸ hg)
  exact ⟨by rw [K4.beq_iff.1 h2,Nat.eq_of_beq_eq_true h3],Eq.trans e2 e3⟩
 ·intro p off len cap ex esz y κ hg
  rcases C8 (show R.good (CK y (.fail "") fun q o l c e z=>br (K4.beq p q) (br (and (Nat.beq off o) (and (Nat.beq len l) (and (Nat.beq cap c) (and (Bool.rec (Bool.rec true false ex) ex e) (Nat.beq esz z))))) κ (.fail "")) (.fail "")) from hg) with ⟨rfl,e1⟩ | ⟨q,o,l,c,e,z,rfl,e1⟩
  ·exact hg.elim
  ·have hg:R.good (br (K4.beq p q) (br (and (Nat.beq off o) (and (Nat.beq len l) (and (Nat.beq cap c) (and (Bool.rec (Bool.rec true false ex) ex e) (Nat.beq esz z))))) κ (.fail "")) (.fail "")):=hg
   obtain ⟨h2,e2⟩:=Ak hg
   obtain ⟨h3,e3⟩:=Ak (e2 ▸ hg)
   simp only [Bool.and_eq_true] at h3
   obtain ⟨a1,a2,a3,a4,a5⟩:=h3
   have a4':ex=e:=by cases ex <;> cases e <;> first | rfl | cases a4
   exact ⟨by rw [K4.beq_iff.1 h2,Nat.eq_of_beq_eq_true a1,Nat.eq_of_beq_eq_true a2,Nat.eq_of_beq_eq_true a3,a4',Nat.eq_of_beq_eq_true a5],Eq.trans e2 e3⟩
 ·intro n c y κ hg
  obtain ⟨m,d,rfl,e1⟩:=BA (show R.good (Bd y fun m d=>br (Ij n c m d) κ (.fail "")) from hg)
  have hg:R.good (br (Ij n c m d) κ (.fail "")):=hg
  obtain ⟨h2,e2⟩:=Ak hg
  simp only [Ij,Bool.and_eq_true] at h2
  exact ⟨by rw [Nat.eq_of_beq_eq_true h2.1,Nat.eq_of_beq_eq_true h2.2],e2⟩
 ·intro l ih y κ hg
  obtain ⟨m,rfl,e1⟩:=CS (show R.good (asAgg y fun m=>AF (.agg l) (.agg m) κ) from hg)
  obtain ⟨h1,h2⟩:=ih m κ hg
  exact ⟨by rw [h1],h2⟩
 ·intro w y κ hg
  cases y with
  | nil u=>cases w <;> cases u <;> first | exact ⟨rfl,rfl⟩ | exact hg.elim
  | _=>exact hg.elim
 ·intro p y κ hg
  rcases Dg (show R.good (D6 y (.fail "") fun q=>br (K4.beq p q) κ (.fail "")) from hg) with ⟨rfl,e1⟩ | ⟨q,rfl,e1⟩
  ·exact hg.elim
  ·obtain ⟨h2,e2⟩:=Ak (show R.good (br (K4.beq p q) κ (.fail "")) from hg)
   exact ⟨by rw [K4.beq_iff.1 h2],e2⟩
 ·intro f l ih y κ hg
  obtain ⟨g,m,rfl,e1⟩:=Ho (show R.good (Lq y fun g m=>br (Nat.beq f g) (AF (.agg l) (.agg m) κ) (.fail "")) from hg)
  have hg:R.good (br (Nat.beq f g) (AF (.agg l) (.agg m) κ) (.fail "")):=hg
  obtain ⟨h2,e2⟩:=Ak hg
  obtain ⟨h3,e3⟩:=ih m κ (e2 ▸ hg)
  exact ⟨by rw [Nat.eq_of_beq_eq_true h2,h3],Eq.trans e2 e3⟩
 ·intro l ih y κ hg
  obtain ⟨m,rfl,e1⟩:=Ln (show R.good (KI y fun m=>AF (.agg l) (.agg m) κ) from hg)
  obtain ⟨h1,h2⟩:=ih m κ hg
  exact ⟨by rw [h1],h2⟩
 ·intro o y κ hg
  cases y with
  | oth u =>
   cases o <;> cases u <;> first | exact hg.elim | exact ⟨rfl,rfl⟩ | skip
   rename_i k lo hi k' lo' hi'
   have hg:R.good (br (Be k k') (br (Nat.beq lo lo') (br (Nat.beq hi hi') κ (.fail "")) (.fail "")) (.fail "")):=hg
   obtain ⟨h2,e2⟩:=Ak hg
   obtain ⟨h3,e3⟩:=Ak (e2 ▸ hg)
   obtain ⟨h4,e4⟩:=Ak (e3 ▸ e2 ▸ hg)
   exact ⟨by rw [B3.1 h2,Nat.eq_of_beq_eq_true h3,Nat.eq_of_beq_eq_true h4],Eq.trans e2 (Eq.trans e3 e4)⟩
  | _=>exact hg.elim
 ·intro m κ hg
  cases m with
  | nil=>exact ⟨rfl,rfl⟩
  | cons y m=>exact hg.elim
 ·intro x l ihx ihl m κ hg
  cases m with
  | nil=>exact hg.elim
  | cons y m =>
   have hg:R.good (AF x y (AF (.agg l) (.agg m) κ)):=hg
   obtain ⟨h1,h2⟩:=ihx y _ hg
   obtain ⟨h3,h4⟩:=ihl m κ (h2 ▸ hg)
   exact ⟨by rw [h1,h3],Eq.trans h2 h4⟩
theorem Ef {x y:V} {κ:R} (h:(AF x y κ).good):x=y∧AF x y κ=κ:=TX x y κ h
def FO (g:Option (K2×Bool)) (t:Regs):Prop:=∀ y n,CZ g t y n=y
def PY (g:Option (K2×Bool)) (t:Regs):Prop:=∀ y n,CZ g t y n=n
theorem Ff {g:Option (K2×Bool)} {t:Regs} {yes no:R} (hg:(CZ g t yes no).good):FO g t∨PY g t:=by
 cases g with
 | none=>exact .inl fun _ _=>rfl
 | some pw =>
  obtain ⟨p,want⟩:=pw
  have e1:∀ y n,CZ (some (p,want)) t y n=@V.rec (fun _=>R) (fun _=>Unit) (fun _ _=>n) (fun b=>br (Bool.rec (Bool.rec true false b) b want) y n) (fun _ _=>n) (fun _ _ _ _ _ _=>n) (fun _ _=>n) (fun _ _=>n) (fun _=>n) (fun _=>n) (fun _ _ _=>n) (fun _ _=>n) (fun o=>.fail "") () (fun _ _ _ _=>()) (Bo p t):=fun y n=>CV p t _
  rw [e1] at hg
  cases hv:Bo p t with
  | bool b=>cases b <;> cases want <;> first | exact .inl fun y n=>by rw [e1,hv]; rfl | exact .inr fun y n=>by rw [e1,hv]; rfl
  | oth _=>rw [hv] at hg; exact hg.elim
  | _=>exact .inr fun y n=>by rw [e1,hv]
theorem On {g:Option (K2×Bool)} {t t':Regs} (h:∀ p w,g=some (p,w)->Bo p t=Bo p t') (y n:R):CZ g t y n=CZ g t' y n:=by
 cases g with
 | none=>rfl
 | some pw =>
  obtain ⟨p,want⟩:=pw
  have:=h p want rfl
  show I0 p t _=I0 p t' _
  rw [CV,CV,this]
structure St where
 t:Regs
 h0:Heap
 h1:Heap
 n:K4
def El (b:K4) (j:D):K4:=⟨b.a,b.b,b.c,j⟩
def IV (cf:CF) (b:K4):Item->St->St->Prop
 | .rd _ o,s,s'=>(FO o.g s.t ∧ ∃ v h n,HU o.k cf s.t s.h0 s.n KF = .rv v h n∧s'=⟨Du o.dst s.t v,s.h0,s.h1,s.n⟩)∨(PY o.g s.t∧s'=⟨Du o.dst s.t Cn,s.h0,s.h1,s.n⟩)
 | .ef _ o,s,s'=>(FO o.g s.t ∧ ∃ v h n,HU o.k cf s.t s.h1 s.n R.rv = .rv v h n∧s'=⟨Du o.dst s.t v,h,h,n⟩)∨(PY o.g s.t∧s'=⟨Du o.dst s.t Cn,s.h1,s.h1,s.n⟩)
 | .al _ j o,s,s'=>(FO o.g s.t∧Ar (El b j) s.h1=none ∧ ∃ v h n,HU o.k cf s.t s.h1 (El b j) R.rv = .rv v h n∧s'=⟨Du o.dst s.t v,s.h0,h,s.n⟩)∨(PY o.g s.t∧s'=⟨Du o.dst s.t Cn,s.h0,s.h1,s.n⟩)
 | .ck _ o,s,s'=>s'=s∧((FO o.g s.t ∧ ∃ p h n,o.dst=some p∧HU o.k cf s.t s.h0 s.n KF = .rv (Bo p s.t) h n)∨PY o.g s.t)
 | .no j,s,s'=>s'=s∧Ar (El b j) s.h0=none
 | .rn _ j o,s,s'=>(FO o.g s.t ∧ ∃ ob v h n,Ar (El b j) s.h1=some ob∧HU o.k cf s.t (AJ (El b j) AS (some ob)) s.n KF = .rv v h n∧s'=⟨Du o.dst s.t v,s.h0,s.h1,s.n⟩)∨(PY o.g s.t∧s'=⟨Du o.dst s.t Cn,s.h0,s.h1,s.n⟩)
theorem Pd {r:R} {κ:V->Heap->K4->R} (hg:(B9 r κ).good):∃ v h n,r = .rv v h n∧B9 r κ=κ v h n:=by
 cases r with
 | ok e t h n=>exact hg.elim
 | rv v h n=>exact ⟨v,h,n,rfl,rfl⟩
 | fail w=>exact hg.elim
 | both a b=>exact hg.elim
theorem UK {o:Option Ob} {κ:Ob->R} (hg:(Wx o κ).good):∃ ob,o=some ob∧Wx o κ=κ ob:=by
 cases o with
 | none=>exact hg.elim
 | some x=>exact ⟨x,rfl,rfl⟩
theorem LB {o:Option Ob} {κ:R} (hg:(I3 o κ).good):o=none∧I3 o κ=κ:=by
 cases o with
 | none=>exact ⟨rfl,rfl⟩
 | some x=>exact hg.elim
end Go.Ev

namespace Go.Ev
set_option linter.unusedVariables false
theorem DA {a b:Nat}:Nat.blt a b=true ↔ a<b:=by unfold Nat.blt; rw [Ao]; exact Iff.rfl
theorem K2.beq_iff {p q:K2}:p.beq q=true ↔ p=q:=by
 obtain ⟨a,b⟩:=p; obtain ⟨c,d⟩:=q
 simp only [K2.beq,Bool.and_eq_true,D.beq_iff,K2.mk.injEq]
 exact And.comm
theorem P9 {p:K2} {l:List K2}:W4 p l=true ↔ p∈l:=by
 unfold W4
 rw [List.any_eq_true]
 constructor
 ·rintro ⟨x,hx,h⟩; rw [K2.beq_iff.1 h]; exact hx
 ·intro h; exact ⟨p,h,K2.beq_iff.2 rfl⟩
namespace Plot
structure Good (p:Plot):Prop where
 dst:∀ i j d,i<p.m->j<p.m->p.dst i=some d->p.dst j=some d->i=j
 deps:∀ i d,i<p.m->d∈p.deps i->d<i
 anc:∀ i d,i<p.m->d<p.m->p.anc i d=true->d∈p.deps i ∨ ∃ c∈p.deps i,p.anc c d=true
 pos:∀ i,i<p.m->(p.sk[p.pos i]? = some (.ef i)∧p.sort i=3)∨(∃ j,p.sk[p.pos i]? = some (.al i j)∧p.sort i=2)∨((p.sk[p.pos i]? = some (.rd i) ∨ ∃ a d,p.sk[p.pos i]? = some (.rn i a d))∧p.sort i≤1)
 rn:∀ i a d,i<p.m->p.sk[p.pos i]? = some (.rn i a d)->a<p.m∧p.sk[p.pos a]? = some (.al a d)∧p.anc i a=true∧p.pos a<p.pos i∧p.bat (p.pos a)=p.bat (p.pos i)
 uniq:∀ l x i,p.sk[l]? = some x->x.ix=some i->i<p.m∧p.pos i=l
 ck:∀ l i,p.sk[l]? = some (.ck i)->i<p.m∧p.pos i<l∧p.sort i≤1
 slots:∀ i w d,i<p.m->w<p.m->p.dst w=some d->d∈p.slots i->i≠w∧((p.anc i w=true∧p.pos w<p.pos i)∨(p.anc w i=true∧p.pos i<p.pos w ∧ ∀ l,p.sk[l]? = some (.ck i)->l<p.pos w))
 eff:∀ i j,i<p.m->j<p.m->p.sort i=3->p.sort j=3->p.pos i<p.pos j->p.anc j i=true
 read:∀ i j,i<p.m->p.sort i=1->j≤p.effs.length->(∃ e,e<p.m∧p.sort e=3∧((p.anc i e=true∧j≤p.bat (p.pos e))∨(p.anc e i=true∧p.bat (p.pos e)<j)))∨(∃ a d,p.sk[p.pos i]? = some (.rn i a d)∧j≤p.bat (p.pos a)) ∨ ∃ l x,p.bat l=j∧p.sk[l]? = some x∧x.reads=some i
 al:∀ i d,i<p.m->p.sk[p.pos i]? = some (.al i d)->∀ j,j≤p.effs.length->(j≤p.bat (p.pos i)->∃ l,p.bat l=j∧p.sk[l]? = some (.no d))∧(p.bat (p.pos i)<j->∃ e,e<p.m∧p.sort e=3∧p.anc e i=true∧p.bat (p.pos e)<j)
 alD:∀ i i' d d',i<p.m->i'<p.m->i≠i'->p.sk[p.pos i]? = some (.al i d)->p.sk[p.pos i']? = some (.al i' d')->d≠d'
variable {p:Plot}
theorem Di {f:Nat->Bool}:p.all f=true ↔ ∀ i,i<p.m->f i=true:=by
 unfold Plot.all; rw [List.all_eq_true]; simp
theorem EI {i:Nat} (h:i<p.m):p.tab.po.getD i 0=p.pos i:=by
 simp [tab,List.getD_eq_getElem?_getD,List.getElem?_map,List.getElem?_range h]
theorem Kc {l:Nat} (h:l≤p.sk.length):p.tab.ba.getD l 0=p.bat l:=by
 simp [tab,List.getD_eq_getElem?_getD,List.getElem?_map,List.getElem?_range (show l<p.sk.length+1 by omega)]
theorem Pi {e:Nat}:e∈p.effs ↔ ∃ l:Nat,p.sk[l]? = some (SI.ef e):=by
 unfold effs
 rw [List.mem_filterMap]
 constructor
 ·rintro ⟨x,hx,h⟩
  obtain ⟨l,hl,rfl⟩:=List.getElem_of_mem hx
  refine ⟨l,?_⟩
  rw [List.getElem?_eq_getElem hl]
  split at h
  ·rename_i i hi; cases h; rw [hi]
  ·cases h
 ·rintro ⟨l,hl⟩
  exact ⟨.ef e,List.mem_of_getElem? hl,rfl⟩
theorem sk_lt {l:Nat} {x:SI} (h:p.sk[l]? = some x):l<p.sk.length:=(List.getElem?_eq_some_iff.1 h).1
theorem Tk (i:Nat):SI.isCk i (.ck i)=true:=by simp [SI.isCk]
theorem good_of_ok (h:p.ok=true):p.Good:=by
 unfold ok at h
 simp only [Bool.and_eq_true] at h
 obtain ⟨h1,h2,h3,h4,h5,h6,h7,h8,h9⟩:=h
 have pos:∀ i,i<p.m->(p.sk[p.pos i]? = some (.ef i)∧p.sort i=3)∨(∃ j,p.sk[p.pos i]? = some (.al i j)∧p.sort i=2)∨((p.sk[p.pos i]? = some (.rd i) ∨ ∃ a d,p.sk[p.pos i]? = some (.rn i a d))∧p.sort i≤1):=fun i hi=>by
  have:=Di.1 h4 i hi
  rw [EI hi] at this
  split at this
  ·rename_i j hj
   simp only [Bool.and_eq_true] at this
   have e:=Nat.eq_of_beq_eq_true this.1
   subst e
   exact .inl ⟨hj,Nat.eq_of_beq_eq_true this.2⟩
  ·rename_i j d hj
   simp only [Bool.and_eq_true] at this
   have e:=Nat.eq_of_beq_eq_true this.1
   subst e
   exact .inr (.inl ⟨d,hj,Nat.eq_of_beq_eq_true this.2⟩)
  ·rename_i j hj
   simp only [Bool.and_eq_true] at this
   have e:=Nat.eq_of_beq_eq_true this.1
   subst e
   exact .inr (.inr ⟨.inl hj,Ao.1 this.2⟩)
  ·rename_i j a d hj
   simp only [Bool.and_eq_true] at this
   have e:=Nat.eq_of_beq_eq_true this.1
   subst e
   exact .inr (.inr ⟨.inr ⟨a,d,hj⟩,Ao.1 this.2.1⟩)
  ·cases this
 have rn:∀ i a d,i<p.m->p.sk[p.pos i]? = some (.rn i a d)->a<p.m∧p.sk[p.pos a]? = some (.al a d)∧p.anc i a=true∧p.pos a<p.pos i∧p.bat (p.pos a)=p.bat (p.pos i):=fun i a d hi hp=>by
  have:=Di.1 h4 i hi
  rw [EI hi,hp] at this
  simp only [Bool.and_eq_true] at this
  obtain ⟨_,_,q1,q2,q3,q4,q5⟩:=this
  have ha:a<p.m:=DA.1 q1
  rw [EI ha] at q3 q4 q5
  have hal:p.sk[p.pos a]? = some (.al a d):=by
   split at q5
   ·rename_i a' d' hq
    simp only [Bool.and_eq_true] at q5
    rw [hq,Nat.eq_of_beq_eq_true q5.1,D.beq_iff.1 q5.2]
   ·cases q5
  rw [Kc (Nat.le_of_lt (sk_lt hal)),Kc (Nat.le_of_lt (sk_lt hp))] at q4
  exact ⟨ha,hal,q2,DA.1 q3,Nat.eq_of_beq_eq_true q4⟩
 have uniq:∀ l x i,p.sk[l]? = some x->x.ix=some i->i<p.m∧p.pos i=l:=fun l x i hl hx=>by
  have:=List.all_eq_true.1 h5 l (List.mem_range.2 (sk_lt hl))
  rw [hl] at this
  simp only [hx,Bool.and_eq_true] at this
  have hi:i<p.m:=DA.1 this.1
  have:=Nat.eq_of_beq_eq_true this.2
  rw [EI hi] at this
  exact ⟨hi,this⟩
 have eft:∀ e,e∈p.tab.ef->e<p.m∧p.sort e=3∧p.sk[p.pos e]? = some (.ef e):=fun e he=>by
  obtain ⟨l,hl⟩:=Pi.1 he
  obtain ⟨hm,hp⟩:=uniq l _ e hl rfl
  rcases pos e hm with ⟨q1,q2⟩ | ⟨j,q1,q2⟩ | ⟨q1 | ⟨_,_,q1⟩,q2⟩
  ·exact ⟨hm,q2,q1⟩
  ·rw [hp,hl] at q1; cases q1
  ·rw [hp,hl] at q1; cases q1
  ·rw [hp,hl] at q1; cases q1
 have efm:∀ e,e<p.m->p.sort e=3->e∈p.tab.ef:=fun e he hs=>by
  rcases pos e he with ⟨q1,q2⟩ | ⟨j,q1,q2⟩ | ⟨q1,q2⟩
  ·exact Pi.2 ⟨_,q1⟩
  ·omega
  ·omega
 refine ⟨fun i j d hi hj hdi hdj=>?_,fun i d hi hd=>?_,fun i d hi hd ha=>?_,pos,rn,uniq,fun l i hl=>?_,fun i w d hi hw hd hs=>?_,fun i j hi hj hsi hsj hlt=>?_,fun i j hi hs hj=>?_,fun i d hi hd j hj=>?_,fun i i' d d' hi hi' hne hd hd'=>?_⟩
 ·have:=Di.1 (Di.1 h1 i hi) j hj
  simp only [hdi,hdj,Bool.or_eq_true] at this
  rcases this with h | h
  ·exact Nat.eq_of_beq_eq_true h
  ·rw [K2.beq_iff.2 rfl] at h; cases h
 ·have:=List.all_eq_true.1 (Di.1 h2 i hi) d hd
  exact DA.1 this
 ·have:=Di.1 (Di.1 h3 i hi) d hd
  rw [ha] at this
  simp only [Bool.not_true,Bool.false_or,List.any_eq_true,Bool.or_eq_true] at this
  obtain ⟨c,hc,h | h⟩:=this
  ·rw [←Nat.eq_of_beq_eq_true h]; exact .inl hc
  ·exact .inr ⟨c,hc,h⟩
 ·have:=List.all_eq_true.1 h5 l (List.mem_range.2 (sk_lt hl))
  rw [hl] at this
  simp only [SI.ix,Bool.and_eq_true] at this
  have hi:i<p.m:=DA.1 this.1.1
  have h':=this.1.2
  rw [EI hi] at h'
  exact ⟨hi,DA.1 h',Ao.1 this.2⟩
 ·have:=Di.1 (Di.1 h6 i hi) w hw
  have hwr:p.writes w (p.slots i)=true:=by unfold writes; rw [hd]; exact P9.2 hs
  rw [hwr] at this
  simp only [Bool.not_true,Bool.false_or,Bool.and_eq_true,Bool.or_eq_true,EI hi,EI hw,Bool.not_eq_true'] at this
  refine ⟨fun e=>by subst e; simp at this,?_⟩
  rcases this.2 with ⟨q1,q2⟩ | ⟨⟨q1,q2⟩,q3⟩
  ·exact .inl ⟨q1,DA.1 q2⟩
  ·refine .inr ⟨q1,DA.1 q2,fun l hl=>?_⟩
   have:=List.all_eq_true.1 q3 l (List.mem_range.2 (sk_lt hl))
   rw [hl] at this
   simp only [Tk,Bool.not_true,Bool.false_or] at this
   exact DA.1 this
 ·have:=List.all_eq_true.1 (List.all_eq_true.1 h7 i (efm i hi hsi)) j (efm j hj hsj)
  rw [EI hi,EI hj] at this
  simp only [Bool.or_eq_true,Bool.not_eq_true'] at this
  rcases this with h | h
  ·rw [DA.2 hlt] at h; cases h
  ·exact h
 ·have:=Di.1 h8 i hi
  simp only [hs,Bool.or_eq_true] at this
  rcases this with h | h
  ·simp at h
  ·have:=List.all_eq_true.1 h j (List.mem_range.2 (by show j<p.effs.length+1; omega))
   simp only [Bool.or_eq_true] at this
   rcases this with (h | h) | h
   ·unfold never at h
    obtain ⟨e,he,h⟩:=List.any_eq_true.1 h
    obtain ⟨q1,q2,q3⟩:=eft e he
    rw [EI q1,Kc (Nat.le_of_lt (sk_lt q3))] at h
    simp only [Bool.or_eq_true,Bool.and_eq_true] at h
    refine .inl ⟨e,q1,q2,?_⟩
    rcases h with ⟨a,b⟩ | ⟨a,b⟩
    ·exact .inl ⟨a,Ao.1 b⟩
    ·exact .inr ⟨a,DA.1 b⟩
   ·have hf:p.fresh p.tab i j=true:=h
    unfold fresh at hf
    rw [EI hi] at hf
    split at hf
    ·rename_i i' a d hq
     obtain ⟨_,hp'⟩:=uniq _ _ i' hq rfl
     have hi':i'=i:=by
      rcases pos i hi with ⟨q1,_⟩ | ⟨_,q1,_⟩ | ⟨q1 | ⟨_,_,q1⟩,_⟩
      ·rw [hq] at q1; cases q1
      ·rw [hq] at q1; cases q1
      ·rw [hq] at q1; cases q1
      ·rw [hq] at q1; cases q1; rfl
     subst hi'
     obtain ⟨ha,hal,_⟩:=rn i' a d hi hq
     rw [EI ha,Kc (Nat.le_of_lt (sk_lt hal))] at hf
     exact .inr (.inl ⟨a,d,hq,Ao.1 hf⟩)
    ·cases hf
   ·obtain ⟨l,hl,h⟩:=List.any_eq_true.1 h
    have hl:=List.mem_range.1 hl
    rw [Kc (Nat.le_of_lt hl)] at h
    simp only [Bool.and_eq_true] at h
    refine .inr (.inr ⟨l,p.sk[l],Nat.eq_of_beq_eq_true h.1,List.getElem?_eq_getElem hl,?_⟩)
    have h2:=h.2
    rw [List.getElem?_eq_getElem hl] at h2
    simp only at h2
    split at h2
    ·rename_i i' hi'; rw [hi',Nat.eq_of_beq_eq_true h2]
    ·cases h2
 ·have:=Di.1 h9 i hi
  rw [EI hi,hd] at this
  have hsort:p.sort i=2:=by
   rcases pos i hi with ⟨q1,q2⟩ | ⟨j,q1,q2⟩ | ⟨q1 | ⟨_,_,q1⟩,q2⟩
   ·rw [hd] at q1; cases q1
   ·exact q2
   ·rw [hd] at q1; cases q1
   ·rw [hd] at q1; cases q1
  simp only [hsort,Bool.or_eq_true,Bool.and_eq_true] at this
  rcases this with h | ⟨h,_⟩
  ·simp at h
  ·have hp:=List.all_eq_true.1 h j (List.mem_range.2 (by show j<p.effs.length+1; omega))
   rw [Kc (Nat.le_of_lt (sk_lt hd))] at hp
   constructor
   ·intro hle
    rw [if_pos (Ao.2 hle)] at hp
    obtain ⟨l,hl,h⟩:=List.any_eq_true.1 hp
    have hl:=List.mem_range.1 hl
    rw [Kc (Nat.le_of_lt hl)] at h
    simp only [Bool.and_eq_true] at h
    refine ⟨l,Nat.eq_of_beq_eq_true h.1,?_⟩
    have h2:=h.2
    split at h2
    ·rename_i d' hd'; rw [hd',D.beq_iff.1 h2]
    ·cases h2
   ·intro hlt
    rw [if_neg (fun h=>by have:=Ao.1 h; omega)] at hp
    obtain ⟨e,he,h⟩:=List.any_eq_true.1 hp
    obtain ⟨q1,q2,q3⟩:=eft e he
    rw [EI q1,Kc (Nat.le_of_lt (sk_lt q3))] at h
    simp only [Bool.and_eq_true] at h
    exact ⟨e,q1,q2,h.1,DA.1 h.2⟩
 ·have:=Di.1 h9 i hi
  rw [EI hi,hd] at this
  have hsort:p.sort i=2:=by
   rcases pos i hi with ⟨q1,q2⟩ | ⟨j,q1,q2⟩ | ⟨q1 | ⟨_,_,q1⟩,q2⟩
   ·rw [hd] at q1; cases q1
   ·exact q2
   ·rw [hd] at q1; cases q1
   ·rw [hd] at q1; cases q1
  simp only [hsort,Bool.or_eq_true,Bool.and_eq_true] at this
  rcases this with h | ⟨_,h⟩
  ·simp at h
  ·have:=Di.1 h i' hi'
   rw [EI hi',hd'] at this
   simp only [Bool.or_eq_true] at this
   rcases this with h | h
   ·exact absurd (Nat.eq_of_beq_eq_true h) hne
   ·exact fun e=>by subst e; rw [D.beq_iff.2 rfl] at h; cases h
end Plot
end Go.Ev

namespace Go.Ev
set_option linter.unusedVariables false
section
variable {P:Program} {ρ:Env} {B N:Nat}
theorem Gam.hide {h:Heap} {n r:K4} {φ:Ba} {w:World} (g:Gam ρ B h n φ w) (hr:φ r=none) (hn:r.toN<n.toN) (hh:Ar r h=none) (O:Obj) (tot:Nat) :
  Gam ρ B h n (Er φ r (w.heap.size,0,tot)) (w.alloc O) where
 base:=by have:=g.base; rw [World.size_alloc]; omega
 glob:=fun b c e fr hb=>⟨(g.glob b c e fr hb).1,by rw [Go.RowKit.Below.heap_alloc w O b (by have:=(g.glob b c e fr hb).1; have:=g.base; omega)]; exact (g.glob b c e fr hb).2⟩
 dom:=fun q x hx=>by
  rcases AU hx with ⟨rfl,_⟩ | ⟨_,hx⟩
  ·exact hn
  ·exact g.dom q x hx
 blk:=fun q b s t hx=>by
  rw [World.size_alloc]
  rcases AU hx with ⟨rfl,e⟩ | ⟨_,hx⟩
  ·simp only [Prod.mk.injEq] at e; have:=g.base; omega
  ·have:=g.blk q b s t hx; omega
 obj:=fun q o b s t hq hx=>by
  rcases AU hx with ⟨rfl,_⟩ | ⟨hne,hx⟩
  ·rw [hh] at hq; cases hq
  ·exact Ci (Go.RowKit.Below.heap_alloc w O b (g.blk q b s t hx).2) (Eg (D5 hr) (g.obj q o b s t hq hx))
 sep:=fun p q o o' b s t s' t' hne hp hq hx hy=>by
  rcases AU hx with ⟨rfl,_⟩ | ⟨_,hx⟩
  ·rw [hh] at hp; cases hp
  ·rcases AU hy with ⟨rfl,_⟩ | ⟨_,hy⟩
   ·rw [hh] at hq; cases hq
   ·exact g.sep p q o o' b s t s' t' hne hp hq hx hy
 sup:=fun p q o o' b s t s' t' hp hpr hq hx hy=>by
  rcases AU hx with ⟨rfl,_⟩ | ⟨_,hx⟩
  ·rw [hh] at hp; cases hp
  ·rcases AU hy with ⟨rfl,_⟩ | ⟨_,hy⟩
   ·rw [hh] at hq; cases hq
   ·exact g.sup p q o o' b s t s' t' hp hpr hq hx hy
theorem Fr.hide {h h1:Heap} {φ0 φ:Ba} {n n1 r:K4} {w0 w:World} (f:Fr h h1 φ0 φ n n1 w0 w) (hr:φ r=none) (h1':n.toN≤r.toN) (h2:r.toN<n1.toN) (O:Obj) (tot:Nat) :
  Fr h h1 φ0 (Er φ r (w.heap.size,0,tot)) n n1 w0 (w.alloc O) where
 ext:=Ba.le_trans f.ext (D5 hr)
 new:=fun p x hx=>by
  rcases AU hx with ⟨rfl,_⟩ | ⟨_,hx⟩
  ·exact .inr ⟨h1',h2⟩
  ·exact f.new p x hx
 nn:=f.nn
 os:=f.os
 tape:=f.tape
 out:=f.out
 size:=by have:=f.size; rw [World.size_alloc]; omega
 old:=fun b hb hn=>by
  rw [←f.old b hb hn]
  exact Go.RowKit.Below.heap_alloc w O b (Nat.lt_of_lt_of_le hb f.size)
 fresh:=fun p b s t hx=>by
  rcases AU hx with ⟨rfl,e⟩ | ⟨_,hx⟩
  ·simp only [Prod.mk.injEq] at e; have:=f.size; exact .inr (.inl (by omega))
  ·exact f.fresh p b s t hx
 dm:=f.dm
theorem Fr.drewR {h h1:Heap} {φ0 φ:Ba} {n n1:K4} {w0 w:World} (f:Fr h h1 φ0 φ n n1 w0 w):Fr h h1 φ0 φ n n1 w0 w.drew:=Fr.trans f Fr.drew
theorem Gam.showAll {h h':Heap} {n:K4} {φ:Ba} {w:World} (g:Gam ρ B h n φ w)
  (hs:∀ q,Ar q h'=Ar q h ∨ ∃ ob bk tot,Ar q h=none∧Ar q h'=some ob∧BX ob=none∧φ q=some (bk,0,tot)∧Gl ρ φ w ob bk 0 tot ∧ ∀ q' x y,φ q'=some (bk,x,y)->q'=q) :
  Gam ρ B h' n φ w where
 base:=g.base
 glob:=g.glob
 dom:=g.dom
 blk:=g.blk
 obj:=fun q o b s t hq hx=>by
  rcases hs q with e | ⟨ob,bk,tot,e1,e2,e3,e4,e5,e6⟩
  ·rw [e] at hq; exact g.obj q o b s t hq hx
  ·rw [e2] at hq; cases hq
   rw [e4] at hx; simp only [Option.some.injEq,Prod.mk.injEq] at hx
   obtain ⟨rfl,rfl,rfl⟩:=hx
   exact e5
 sep:=fun p q o o' b s t s' t' hne hp hq hx hy=>by
  rcases hs p with e | ⟨ob,bk,tot,e1,e2,e3,e4,e5,e6⟩
  ·rcases hs q with e' | ⟨ob,bk,tot,e1,e2,e3,e4,e5,e6⟩
   ·rw [e] at hp; rw [e'] at hq
    exact g.sep p q o o' b s t s' t' hne hp hq hx hy
   ·rw [e4] at hy; simp only [Option.some.injEq,Prod.mk.injEq] at hy
    obtain ⟨rfl,rfl,rfl⟩:=hy
    exact absurd (e6 p s t hx) hne
  ·rw [e4] at hx; simp only [Option.some.injEq,Prod.mk.injEq] at hx
   obtain ⟨rfl,rfl,rfl⟩:=hx
   exact absurd (e6 q s' t' hy).symm hne
 sup:=fun p q o o' b s t s' t' hp hpr hq hx hy=>by
  rcases hs p with e | ⟨ob,bk,tot,e1,e2,e3,e4,e5,e6⟩
  ·rw [e] at hp
   rcases hs q with e' | ⟨ob,bk,tot,e1,e2,e3,e4,e5,e6⟩
   ·rw [e'] at hq; exact g.sup p q o o' b s t s' t' hp hpr hq hx hy
   ·rw [e4] at hy; simp only [Option.some.injEq,Prod.mk.injEq] at hy
    obtain ⟨rfl,rfl,rfl⟩:=hy
    have:=e6 p s t hx
    subst this
    rw [e1] at hp; cases hp
  ·rw [e2] at hp; cases hp; rw [e3] at hpr; cases hpr
theorem Fr.show {h h1 h':Heap} {φ0 φ:Ba} {n n1:K4} {w0 w:World} (f:Fr h h1 φ0 φ n n1 w0 w) (hs:∀ p,φ0 p≠none->Ar p h'=Ar p h1):Fr h h' φ0 φ n n1 w0 w :=
 ⟨f.ext,f.new,f.nn,f.os,f.tape,f.out,f.size,f.old,f.fresh,fun p hp hn=>by rw [hs p hp]; exact f.dm p hp hn⟩
end
end Go.Ev

namespace Go.Ev
set_option linter.unusedVariables false
section
variable {P:Program} {N:Nat} {ops:Array Oper} {os:List AOp} {p:Plot} {b:K4} {cf:CF} {st:Nat->St}
structure Rn (P:Program) (N:Nat) (ops:Array Oper) (os:List AOp) (p:Plot) (cf:CF) (b:K4) (st:Nat->St):Prop where
 good:p.Good
 cops:HP P N ops ops.toList=some os
 plot:p=Ce (ops.toList.map D9) os
 step:∀ l x,p.sk[l]? = some x->IV cf b (M5 os x) (st l) (st (l+1))
theorem KJ {ops:Array Oper}:∀ {l:List Oper} {os:List AOp},HP P N ops l=some os->os.length=l.length ∧ ∀ (i:Nat) (o:Oper),l[i]? = some o->∃ ao,os[i]? = some ao∧JT P N ops o=some ao
 | [],os,h=>by simp only [HP,Option.some.injEq] at h; subst h; exact ⟨rfl,fun i o ho=>by simp at ho⟩
 | o::l,os,h=>by
  simp only [HP] at h
  split at h
  ·rename_i ao al ho hl
   cases h
   obtain ⟨h1,h2⟩:=KJ hl
   refine ⟨by simp [h1],fun i o' ho'=>?_⟩
   cases i with
   | zero=>simp at ho'; subst ho'; exact ⟨ao,rfl,ho⟩
   | succ i=>simpa using h2 i o' (by simpa using ho')
  ·cases h
namespace Rn
theorem size (r:Rn P N ops os p cf b st):p.m=ops.size:=by
 have:=(KJ r.cops).1
 rw [r.plot]; simp [Plot.m,Ce,this]
theorem get (r:Rn P N ops os p cf b st) {i:Nat} (hi:i<p.m):∃ o ao,ops[i]? = some o∧os[i]? = some ao∧os.getD i Cb=ao∧JT P N ops o=some ao∧p.sort i=ao.k.sort∧p.dst i=ao.dst∧p.slots i=ao.slots∧p.deps i=D9 o:=by
 have hs:=r.size
 have hi':i<ops.size:=by omega
 obtain ⟨ao,h1,h2⟩:=(KJ r.cops).2 i ops[i] (by rw [Array.getElem?_toList]; exact Array.getElem?_eq_getElem hi')
 refine ⟨ops[i],ao,Array.getElem?_eq_getElem hi',h1,by rw [List.getD_eq_getElem?_getD,h1]; rfl,h2,?_,?_,?_,?_⟩
 ·rw [r.plot]; simp [Plot.sort,Ce,List.getD_eq_getElem?_getD,h1]
 ·rw [r.plot]; simp [Plot.dst,Ce,List.getD_eq_getElem?_getD,h1]
 ·rw [r.plot]; simp [Plot.slots,Ce,List.getD_eq_getElem?_getD,h1]
 ·rw [r.plot]; simp [Plot.deps,Ce,List.getD_eq_getElem?_getD,Array.getElem?_eq_getElem hi']
theorem dst_eq (r:Rn P N ops os p cf b st) (i:Nat):p.dst i=(os.getD i Cb).dst:=by
 rw [r.plot]
 simp only [Plot.dst,Ce,List.getD_eq_getElem?_getD,List.getElem?_map]
 cases os[i]? <;> rfl
theorem writes (r:Rn P N ops os p cf b st) {l:Nat} {x:SI} (hx:p.sk[l]? = some x) :
  (∀ i,x.ix=some i->∃ v,(st (l+1)).t=Du (p.dst i) (st l).t v)∧(x.ix=none->st (l+1)=st l):=by
 have hs:=r.step l x hx
 cases x with
 | rd i =>
  refine ⟨fun i' hi=>?_,fun h=>by cases h⟩
  cases hi
  rw [r.dst_eq]
  rcases hs with ⟨_,v,h,n,_,e⟩ | ⟨_,e⟩ <;> rw [e] <;> exact ⟨_,rfl⟩
 | ef i =>
  refine ⟨fun i' hi=>?_,fun h=>by cases h⟩
  cases hi
  rw [r.dst_eq]
  rcases hs with ⟨_,v,h,n,_,e⟩ | ⟨_,e⟩ <;> rw [e] <;> exact ⟨_,rfl⟩
 | al i j =>
  refine ⟨fun i' hi=>?_,fun h=>by cases h⟩
  cases hi
  rw [r.dst_eq]
  rcases hs with ⟨_,_,v,h,n,_,e⟩ | ⟨_,e⟩ <;> rw [e] <;> exact ⟨_,rfl⟩
 | ck i=>exact ⟨fun i' hi=>(by cases hi),fun _=>hs.1⟩
 | no j=>exact ⟨fun i' hi=>(by cases hi),fun _=>hs.1⟩
 | rn i a j =>
  refine ⟨fun i' hi=>?_,fun h=>by cases h⟩
  cases hi
  rw [r.dst_eq]
  rcases hs with ⟨_,ob,v,h,n,_,_,e⟩ | ⟨_,e⟩ <;> rw [e] <;> exact ⟨_,rfl⟩
theorem keep (r:Rn P N ops os p cf b st) {q:K2} {l1:Nat}:∀ {l2:Nat},l1≤l2->l2≤p.sk.length->(∀ l,l1≤l->l<l2->∀ x i,p.sk[l]? = some x->x.ix=some i->p.dst i≠some q)->Bo q (st l1).t=Bo q (st l2).t:=by
 intro l2 h12
 induction l2 with
 | zero =>
  intro _ _; have:l1=0:=by omega
  subst this; rfl
 | succ l2 ih =>
  intro hL hw
  by_cases e:l1=l2+1
  ·subst e; rfl
  ·rw [ih (by omega) (by omega) fun l h1 h2=>hw l h1 (by omega)]
   have hx:p.sk[l2]? = some p.sk[l2]:=List.getElem?_eq_getElem (by omega)
   obtain ⟨w1,w2⟩:=r.writes hx
   cases hix:(p.sk[l2]'(by omega)).ix with
   | none=>rw [w2 hix]
   | some i =>
    obtain ⟨v,hv⟩:=w1 i hix
    have hne:=hw l2 (by omega) (by omega) _ i hx hix
    rw [hv]
    cases hd:p.dst i with
    | none=>rfl
    | some d =>
     have:d≠q:=fun e=>hne (by rw [hd,e])
     exact (BE _ _ this).symm
theorem reg_after (r:Rn P N ops os p cf b st) {q:K2} {w l:Nat} (hw:w<p.m) (hd:p.dst w=some q) (h1:p.pos w<l) (h2:l≤p.sk.length):Bo q (st l).t=Bo q (st p.sk.length).t :=
 r.keep h2 (Nat.le_refl _) fun l' h3 h4 x i hx hi e=>by
  obtain ⟨hm,hp⟩:=r.good.uniq l' x i hx hi
  have:=r.good.dst i w q hm hw e hd
  subst this; omega
theorem reg_before (r:Rn P N ops os p cf b st) {q:K2} {w l:Nat} (hw:w<p.m) (hd:p.dst w=some q) (h1:l≤p.pos w) (h2:l≤p.sk.length):Bo q (st l).t=Bo q (st 0).t :=
 (r.keep (Nat.zero_le _) h2 fun l' h3 h4 x i hx hi e=>by
  obtain ⟨hm,hp⟩:=r.good.uniq l' x i hx hi
  have:=r.good.dst i w q hm hw e hd
  subst this; omega).symm
theorem reg_free (r:Rn P N ops os p cf b st) {q:K2} {l:Nat} (hd:∀ w,w<p.m->p.dst w≠some q) (h2:l≤p.sk.length):Bo q (st l).t=Bo q (st 0).t :=
 (r.keep (Nat.zero_le _) h2 fun l' h3 h4 x i hx hi e=>hd i (r.good.uniq l' x i hx hi).1 e).symm
theorem bat_succ {l:Nat} {x:SI} (hx:p.sk[l]? = some x):p.bat (l+1)=p.bat l+if x.isEf then 1 else 0:=by
 unfold Plot.bat
 rw [List.take_add_one,hx]
 simp only [Option.toList_some,List.filter_append,List.length_append]
 cases hx:x.isEf <;> simp [hx]
theorem bat_mono {l1 l2:Nat} (h:l1≤l2) (h2:l2≤p.sk.length):p.bat l1≤p.bat l2:=by
 induction l2 with
 | zero =>
  have:l1=0:=by omega
  subst this; exact Nat.le_refl _
 | succ l2 ih =>
  by_cases e:l1=l2+1
  ·subst e; exact Nat.le_refl _
  ·have:=ih (by omega) (by omega)
   rw [bat_succ (List.getElem?_eq_getElem (show l2<p.sk.length by omega))]
   omega
theorem same_batch (r:Rn P N ops os p cf b st) {l1 l2:Nat} (h:l1≤l2) (h2:l2≤p.sk.length) (hb:p.bat l1=p.bat l2):(st l1).h0=(st l2).h0∧(st l1).n=(st l2).n:=by
 induction l2 with
 | zero =>
  have:l1=0:=by omega
  subst this; exact ⟨rfl,rfl⟩
 | succ l2 ih =>
  by_cases e:l1=l2+1
  ·subst e; exact ⟨rfl,rfl⟩
  ·have hx:p.sk[l2]? = some p.sk[l2]:=List.getElem?_eq_getElem (by omega)
   have h3:=bat_mono (p:=p) (show l1≤l2 by omega) (by omega)
   have h4:=bat_succ hx
   have hne:(p.sk[l2]'(by omega)).isEf=false:=by
    cases hh:(p.sk[l2]'(by omega)).isEf with
    | false=>rfl
    | true=>rw [hh] at h4; simp at h4; omega
   obtain ⟨e1,e2⟩:=ih (by omega) (by omega) (by rw [hne] at h4; simp at h4; omega)
   have hs:=r.step l2 _ hx
   have:(st (l2+1)).h0=(st l2).h0∧(st (l2+1)).n=(st l2).n:=by
    revert hs hne
    generalize (p.sk[l2]'(by omega))=x
    intro hne hs
    cases x with
    | rd i=>rcases hs with ⟨_,v,h,n,_,e⟩ | ⟨_,e⟩ <;> rw [e] <;> exact ⟨rfl,rfl⟩
    | ef i=>cases hne
    | al i j=>rcases hs with ⟨_,_,v,h,n,_,e⟩ | ⟨_,e⟩ <;> rw [e] <;> exact ⟨rfl,rfl⟩
    | ck i=>rw [hs.1]; exact ⟨rfl,rfl⟩
    | no j=>rw [hs.1]; exact ⟨rfl,rfl⟩
    | rn i a j=>rcases hs with ⟨_,ob,v,h,n,_,_,e⟩ | ⟨_,e⟩ <;> rw [e] <;> exact ⟨rfl,rfl⟩
   exact ⟨e1.trans this.1.symm,e2.trans this.2.symm⟩
theorem ef_at {l j:Nat} (hl:l≤p.sk.length) (h:j<p.bat l):∃ l' e,l'<l∧p.sk[l']? = some (SI.ef e)∧p.bat l'=j:=by
 induction l with
 | zero=>simp [Plot.bat] at h
 | succ l ih =>
  have hx:p.sk[l]? = some p.sk[l]:=List.getElem?_eq_getElem (by omega)
  have h4:=bat_succ hx
  by_cases hj:j<p.bat l
  ·obtain ⟨l',e,h1,h2,h3⟩:=ih (by omega) hj
   exact ⟨l',e,by omega,h2,h3⟩
  ·revert h4 hx
   generalize (p.sk[l]'(by omega))=x
   intro hx h4
   cases x with
   | ef e=>simp [SI.isEf] at h4; exact ⟨l,e,by omega,hx,by omega⟩
   | _=>simp [SI.isEf] at h4; omega
end Rn
end
end Go.Ev

namespace Go.Ev
set_option linter.unusedVariables false
section
variable {P:Program} {ρ:Env} {B N:Nat} {ops:Array Oper} {os:List AOp} {p:Plot} {b:K4} {cf:CF} {st:Nat->St}
theorem CC {o:AOp} {t t':Regs} (h:∀ q∈o.slots,Bo q t=Bo q t'):Pv t t' o.k.opds ∧ ∀ y n,CZ o.g t y n=CZ o.g t' y n:=by
 refine ⟨fun x hx=>?_,fun y n=>On (fun q w hg=>h q ?_) y n⟩
 ·cases x with
  | c v=>rfl
  | t q=>exact h q (List.mem_append_left _ (List.mem_filterMap.2 ⟨.t q,hx,rfl⟩))
 ·refine List.mem_append_right _ ?_
  rw [hg]; simp
theorem Jh (j:D) (hb:b.d = .d0):(El b j).toN=b.toN+j.toN:=by
 obtain ⟨a,c,d,e⟩:=b
 simp only at hb; subst hb
 simp [El,K4.toN,D.toN]
theorem KE {i j:D} (h:El b i=El b j):i=j:=by simp only [El,K4.mk.injEq,true_and] at h; exact h
def Uj (p:Plot) (st:Nat->St) (S:Nat->Bool) (t:Regs):Prop :=
 ∀ q,(∀ w,w<p.m->p.dst w=some q->(S w=true->Bo q t=Bo q (st p.sk.length).t)∧(S w=false->Bo q t=Bo q (st 0).t)) ∧
  ((∀ w,w<p.m->p.dst w≠some q)->Bo q t=Bo q (st 0).t)
namespace Rn
theorem agree (r:Rn P N ops os p cf b st) {S:Nat->Bool} {t:Regs} (hR:Uj p st S t) {i:Nat} (hi:i<p.m) (ha:∀ d,d<p.m->p.anc i d=true->S d=true) (hd:∀ w,w<p.m->p.anc w i=true->S w=false)
  {l:Nat} (hl:l=p.pos i∨p.sk[l]? = some (.ck i)):∀ q∈p.slots i,Bo q t=Bo q (st l).t:=by
 have hL:l<p.sk.length∧p.pos i≤l:=by
  rcases hl with rfl | hl
  ·rcases r.good.pos i hi with ⟨h,_⟩ | ⟨j,h,_⟩ | ⟨h | ⟨_,_,h⟩,_⟩ <;> exact ⟨Plot.sk_lt h,Nat.le_refl _⟩
  ·exact ⟨Plot.sk_lt hl,Nat.le_of_lt (r.good.ck l i hl).2.1⟩
 intro q hq
 by_cases hw:∃ w,w<p.m∧p.dst w=some q
 ·obtain ⟨w,hw,hdw⟩:=hw
  obtain ⟨hne,h | ⟨h1,h2,h3⟩⟩:=r.good.slots i w q hi hw hdw hq
  ·rw [((hR q).1 w hw hdw).1 (ha w hw h.1)]
   exact (r.reg_after hw hdw (by omega) (by omega)).symm
  ·rw [((hR q).1 w hw hdw).2 (hd w hw h1)]
   refine (r.reg_before hw hdw ?_ (by omega)).symm
   rcases hl with rfl | hl
   ·omega
   ·exact Nat.le_of_lt (h3 l hl)
 ·have hn:∀ w,w<p.m->p.dst w≠some q:=fun w h1 h2=>hw ⟨w,h1,h2⟩
  rw [(hR q).2 hn]
  exact (r.reg_free hn (by omega)).symm
theorem regS_put (r:Rn P N ops os p cf b st) {S:Nat->Bool} {t:Regs} (hR:Uj p st S t) {i:Nat} (hi:i<p.m) {v:V} (hv:(st (p.pos i+1)).t=Du (p.dst i) (st (p.pos i)).t v) :
  Uj p st (fun j=>S j || Nat.beq i j) (Du (p.dst i) t v):=by
 have hL:p.pos i<p.sk.length:=by
  rcases r.good.pos i hi with ⟨h,_⟩ | ⟨j,h,_⟩ | ⟨h | ⟨_,_,h⟩,_⟩ <;> exact Plot.sk_lt h
 have hbeq:Nat.beq i i=true:=by simp
 cases hd:p.dst i with
 | none =>
  intro q
  refine ⟨fun w hw hdw=>?_,(hR q).2⟩
  have hne:i≠w:=fun e=>by subst e; rw [hd] at hdw; cases hdw
  have hb:Nat.beq i w=false:=by cases h:Nat.beq i w with
   | false=>rfl
   | true=>exact absurd (Nat.eq_of_beq_eq_true h) hne
  simp only [hb,Bool.or_false]
  exact (hR q).1 w hw hdw
 | some d =>
  rw [hd] at hv
  have last:Bo d (st p.sk.length).t=v:=by
   rw [←r.reg_after hi hd (l:=p.pos i+1) (by omega) (by omega),hv]
   exact Bk _ _ _
  intro q
  by_cases e:d=q
  ·subst e
   refine ⟨fun w hw hdw=>?_,fun h=>absurd hd (h i hi)⟩
   have:=r.good.dst w i d hw hi hdw hd
   subst this
   refine ⟨fun _=>?_,fun h=>by simp at h⟩
   rw [last]; exact Bk _ _ _
  ·have e1:Bo q (Du (some d) t v)=Bo q t:=BE _ _ e
   rw [e1]
   refine ⟨fun w hw hdw=>?_,(hR q).2⟩
   have hne:i≠w:=fun e'=>by subst e'; rw [hd] at hdw; cases hdw; exact e rfl
   have hb:Nat.beq i w=false:=by cases h:Nat.beq i w with
    | false=>rfl
    | true=>exact absurd (Nat.eq_of_beq_eq_true h) hne
   simp only [hb,Bool.or_false]
   exact (hR q).1 w hw hdw
theorem al_step (r:Rn P N ops os p cf b st) (hρ:Bp ρ) {i:Nat} {d:D} (hi:i<p.m) (hp:p.sk[p.pos i]? = some (.al i d)) :
  (FO (os.getD i Cb).g (st (p.pos i)).t∧Ar (El b d) (st (p.pos i)).h1=none ∧ ∃ v ob n,HU (os.getD i Cb).k cf (st (p.pos i)).t (st (p.pos i)).h1 (El b d) R.rv = .rv v (AJ (El b d) (st (p.pos i)).h1 (some ob)) n ∧
    st (p.pos i+1)=⟨Du (p.dst i) (st (p.pos i)).t v,(st (p.pos i)).h0,AJ (El b d) (st (p.pos i)).h1 (some ob),(st (p.pos i)).n⟩) ∨
  (PY (os.getD i Cb).g (st (p.pos i)).t∧st (p.pos i+1)=⟨Du (p.dst i) (st (p.pos i)).t Cn,(st (p.pos i)).h0,(st (p.pos i)).h1,(st (p.pos i)).n⟩):=by
 have hs:=r.step _ _ hp
 obtain ⟨o,ao,h1,h2,h3,h4,h5,h6,h7,h8⟩:=r.get hi
 have hsort:p.sort i=2:=by
  rcases r.good.pos i hi with ⟨h,_⟩ | ⟨j,h,hh⟩ | ⟨h | ⟨_,_,h⟩,_⟩
  ·rw [hp] at h; cases h
  ·exact hh
  ·rw [hp] at h; cases h
  ·rw [hp] at h; cases h
 rw [r.dst_eq]
 rcases hs with ⟨hy,hn,v,h,n,e1,e2⟩ | ⟨hn,e2⟩
 ·refine .inl ⟨hy,hn,?_⟩
  rw [h3] at e1 e2 ⊢
  have hk:Fx P N o=some ao.k:=by
   rcases (BI h4).2.2 with hk | ⟨why,hk⟩
   ·exact hk
   ·rw [h5,hk] at hsort; cases hsort
  obtain ⟨v',ob,n',e3,_⟩:=KR (P:=P) (ρ:=ρ) (N:=N) (cf:=cf) (t:=(st (p.pos i)).t) (h:=(st (p.pos i)).h1) (n:=El b d) hρ hk (by rw [←h5]; exact hsort) R.rv (by rw [e1]; trivial)
  rw [e1] at e3
  cases e3
  exact ⟨_,_,_,e1,e2⟩
 ·exact .inr ⟨hn,e2⟩
end Rn
end
end Go.Ev

namespace Go.Ev
set_option linter.unusedVariables false
section
variable {P:Program} {ρ:Env} {B N:Nat} {ops:Array Oper} {os:List AOp} {p:Plot} {b:K4} {cf:CF} {st:Nat->St}
def XL (os:List AOp) (p:Plot) (b:K4) (st:Nat->St) (l:Nat) (q:K4):Prop :=
 ∃ i d,i<p.m∧p.sk[p.pos i]? = some (.al i d)∧p.pos i<l∧p.bat (p.pos i)=p.bat l∧q=El b d∧FO (os.getD i Cb).g (st (p.pos i)).t∧Ar q (st l).h1=Ar q (st (p.pos i+1)).h1
namespace Rn
theorem h1_at (r:Rn P N ops os p cf b st) (hρ:Bp ρ) (h0:(st 0).h1=(st 0).h0) (q:K4):∀ {l:Nat},l≤p.sk.length->Ar q (st l).h1=Ar q (st l).h0∨XL os p b st l q:=by
 intro l
 induction l with
 | zero=>intro _; rw [h0]; exact .inl rfl
 | succ l ih =>
  intro hL
  have ih:=ih (by omega)
  cases hx:p.sk[l]? with
  | none=>rw [List.getElem?_eq_none_iff] at hx; omega
  | some x =>
   have hs:=r.step l x hx
   have hb:=bat_succ hx
   -- nothing has moved
   have still:(st (l+1)).h1=(st l).h1->(st (l+1)).h0=(st l).h0->x.isEf=false->Ar q (st (l+1)).h1=Ar q (st (l+1)).h0∨XL os p b st (l+1) q:=fun e1 e0 hne=>by
    rw [hne] at hb; simp at hb
    rcases ih with h | ⟨i,d,a1,a2,a3,a4,a5,a6,a7⟩
    ·rw [e1,e0]; exact .inl h
    ·exact .inr ⟨i,d,a1,a2,by omega,by rw [hb]; exact a4,a5,a6,by rw [e1]; exact a7⟩
   cases x with
   | rd i=>rcases hs with ⟨_,v,h,n,_,e⟩ | ⟨_,e⟩ <;> exact still (by rw [e]) (by rw [e]) rfl
   | ef i=>rcases hs with ⟨_,v,h,n,_,e⟩ | ⟨_,e⟩ <;> (rw [e]; exact .inl rfl)
   | ck i=>exact still (by rw [hs.1]) (by rw [hs.1]) rfl
   | no j=>exact still (by rw [hs.1]) (by rw [hs.1]) rfl
   | rn i a j=>rcases hs with ⟨_,ob,v,h,n,_,_,e⟩ | ⟨_,e⟩ <;> exact still (by rw [e]) (by rw [e]) rfl
   | al i d =>
    obtain ⟨hm,hp⟩:=r.good.uniq l _ i hx rfl
    subst hp
    rcases r.al_step hρ hm hx with ⟨hy,hn,v,ob,n,e1,e2⟩ | ⟨hn,e2⟩
    ·by_cases hq:El b d=q
     ·refine .inr ⟨i,d,hm,hx,by omega,by rw [hb]; simp [SI.isEf],hq.symm,hy,rfl⟩
     ·have e3:Ar q (st (p.pos i+1)).h1=Ar q (st (p.pos i)).h1:=by rw [e2]; exact Ah _ _ hq
      have e4:(st (p.pos i+1)).h0=(st (p.pos i)).h0:=by rw [e2]
      have hb':p.bat (p.pos i+1)=p.bat (p.pos i):=by rw [hb]; simp [SI.isEf]
      rcases ih with h | ⟨i',d',a1,a2,a3,a4,a5,a6,a7⟩
      ·rw [e3,e4]; exact .inl h
      ·exact .inr ⟨i',d',a1,a2,by omega,by rw [hb']; exact a4,a5,a6,by rw [e3]; exact a7⟩
    ·exact still (by rw [e2]) (by rw [e2]) rfl
theorem made (r:Rn P N ops os p cf b st) (hρ:Bp ρ) {i:Nat} {d:D} (hi:i<p.m) (hp:p.sk[p.pos i]? = some (.al i d)) (hy:FO (os.getD i Cb).g (st (p.pos i)).t):∃ ob,Ar (El b d) (st (p.pos i+1)).h1=some ob:=by
 rcases r.al_step hρ hi hp with ⟨_,hn,v,ob,n,e1,e2⟩ | ⟨hn,e2⟩
 ·exact ⟨ob,by rw [e2]; exact Am _ _ _⟩
 ·have:=(hy (.fail "") (.ok .nrm Fi AS b)).symm.trans (hn _ _)
  cases this
end Rn
def Plot.HasAl (p:Plot):Prop:=∃ i d,i<p.m∧p.sk[p.pos i]? = some (.al i d)
structure Inv (P:Program) (ρ:Env) (B N:Nat) (os:List AOp) (p:Plot) (b:K4) (st:Nat->St) (h:Heap) (φ0:Ba) (n:K4) (w0:World) (S:Nat->Bool) (a:Act) (w:World) (l:Nat) (φ:Ba):Prop where
 le:l≤p.sk.length
 closed:∀ i d,i<p.m->S i=true->d∈p.deps i->S d=true
 effs:∀ e,e<p.m->p.sort e=3->(S e=true ↔ p.bat (p.pos e)<p.bat l)
 regs:∃ t,Uj p st S t∧TR ρ N φ t a
 gam:Gam ρ B (st l).h0 (st l).n φ w
 fr:Fr h (st l).h0 φ0 φ n (st l).n w0 w
 room:p.HasAl->b.toN+16≤(st l).n.toN
 kept:∀ i d,i<p.m->p.sk[p.pos i]? = some (.al i d)->p.bat l≤p.bat (p.pos i)->FO (os.getD i Cb).g (st (p.pos i)).t->S i=true →
  ∃ bk tot ob,φ (El b d)=some (bk,0,tot)∧Ar (El b d) (st (p.pos i+1)).h1=some ob∧BX ob=none∧Gl ρ φ w ob bk 0 tot ∧ ∀ q x y,φ q=some (bk,x,y)->q=El b d
 free:∀ i d,i<p.m->p.sk[p.pos i]? = some (.al i d)->S i=false->φ (El b d)=none
end
end Go.Ev

namespace Go.Ev
set_option linter.unusedVariables false
section
variable {P:Program} {ρ:Env} {B N:Nat} {ops:Array Oper} {os:List AOp} {p:Plot} {b:K4} {cf:CF} {st:Nat->St} {h:Heap} {φ0:Ba} {n:K4} {w0:World}
theorem YS {k:AK} (hs:k.sort=0) {t:Regs} {h h':Heap} {n n':K4}:HU k cf t h n KF=HU k cf t h' n' KF:=by
 cases k <;> first | rfl | (simp [AK.sort] at hs)
theorem TJ (p:Plot):p.effs.length=(p.sk.filter SI.isEf).length:=by
 unfold Plot.effs
 generalize p.sk=l
 induction l with
 | nil=>rfl
 | cons x l ih=>cases x <;> simp [List.filterMap_cons,List.filter_cons,SI.isEf] <;> exact ih
theorem Jo (l:Nat):p.bat l≤p.effs.length:=by
 rw [TJ]
 unfold Plot.bat
 exact (List.Sublist.filter _ (List.take_sublist l p.sk)).length_le
def GO (S:Nat->Bool) (i:Nat):Nat->Bool:=fun j=>S j || Nat.beq i j
theorem Dj {S:Nat->Bool} {i j:Nat} (h:i≠j):GO S i j=S j:=by
 unfold GO
 cases hb:Nat.beq i j with
 | false=>simp
 | true=>exact absurd (Nat.eq_of_beq_eq_true hb) h
theorem HL {S:Nat->Bool} {i:Nat}:GO S i i=true:=by simp [GO]
theorem CR (G:p.Good) {S:Nat->Bool} (hc:∀ i d,i<p.m->S i=true->d∈p.deps i->S d=true):∀ (i d:Nat),i<p.m->d<p.m->(∀ c∈p.deps i,S c=true)->p.anc i d=true->S d=true:=by
 intro i
 induction i using Nat.strongRecOn with
 | _ i ih =>
  intro d hi hd hS ha
  rcases G.anc i d hi hd ha with h | ⟨c,hcd,h⟩
  ·exact hS d h
  ·have hlt:=G.deps i c hi hcd
   exact ih c hlt d (by omega) hd (fun e he=>hc c e (by omega) (hS c hcd) he) h
theorem EV {o:Oper} {i:Nat} {a:Act} {w:World} {K:Act->World->Prop} {Q:Exit->Act->World->Prop} (ho:ops[i]? = some o) (h:C9 P ops o a w K Q):wpOp P ops Q i K a w:=by
 unfold wpOp
 rw [ho]
 unfold C9 at h
 simp only
 split
 ·rename_i hw; rw [if_pos hw] at h; exact .inl h
 ·rename_i hw; rw [if_neg hw] at h; exact h
theorem CO {o:Oper} {ao:AOp} (hc:JT P N ops o=some ao) {t:Regs}:(FO ao.g t->∀ φ a,TR ρ N φ t a->Region.wanted o (yielded ops a.tmps)=true)∧(PY ao.g t->∀ φ a,TR ρ N φ t a->Region.wanted o (yielded ops a.tmps)=false):=by
 obtain ⟨_,hg,_⟩:=BI hc
 constructor
 ·intro hy
  rcases GY (ρ:=ρ) (o:=o) (yes:=.ok .nrm Fi AS ⟨.d0,.d0,.d0,.d0⟩) (no:=.fail "") (by rw [hy]; trivial) hg with ⟨_,h⟩ | ⟨e,_⟩
  ·exact h
  ·rw [hy] at e; cases e
 ·intro hn
  rcases GY (ρ:=ρ) (o:=o) (yes:=.fail "") (no:=.ok .nrm Fi AS ⟨.d0,.d0,.d0,.d0⟩) (by rw [hn]; trivial) hg with ⟨e,_⟩ | ⟨_,h⟩
  ·rw [hn] at e; cases e
  ·exact h
theorem Inv.keep1 {S:Nat->Bool} {a a':Act} {w:World} {l:Nat} {φ:Ba} (I:Inv P ρ B N os p b st h φ0 n w0 S a w l φ) {i:Nat} (hi:i<p.m) (hS:S i=false) (hd:∀ d∈p.deps i,S d=true) (hso:p.sort i≠3)
  (hal:∀ d,p.sk[p.pos i]? = some (.al i d)->¬ FO (os.getD i Cb).g (st (p.pos i)).t)
  (hR:∃ t,Uj p st (GO S i) t∧TR ρ N φ t a'):Inv P ρ B N os p b st h φ0 n w0 (GO S i) a' w l φ where
 le:=I.le
 closed:=fun j d hj hs hd'=>by
  by_cases e:i=j
  ·subst e
   have:=hd d hd'
   unfold GO; rw [this]; rfl
  ·rw [Dj e] at hs
   have:=I.closed j d hj hs hd'
   unfold GO; rw [this]; rfl
 effs:=fun e he hs=>by rw [Dj (fun (h:i=e)=>hso (by rw [h]; exact hs))]; exact I.effs e he hs
 regs:=hR
 gam:=I.gam
 fr:=I.fr
 room:=I.room
 kept:=fun j d hj hp hb hy hs=>by
  by_cases e:i=j
  ·subst e; exact absurd hy (hal d hp)
  ·rw [Dj e] at hs; exact I.kept j d hj hp hb hy hs
 free:=fun j d hj hp hs=>by
  by_cases e:i=j
  ·subst e; rw [HL] at hs; cases hs
  ·rw [Dj e] at hs; exact I.free j d hj hp hs
theorem Inv.step_rd (r:Rn P N ops os p cf b st) (hρ:Bp ρ) {S:Nat->Bool} {a:Act} {w:World} {l:Nat} {φ:Ba} (I:Inv P ρ B N os p b st h φ0 n w0 S a w l φ) {i:Nat} (hi:i<p.m) (hS:S i=false) (hd:∀ d∈p.deps i,S d=true)
  (hp:p.sk[p.pos i]? = some (.rd i)) (hso:p.sort i≤1) {K:Act->World->Prop} {Q:Exit->Act->World->Prop} (hK:∀ a' w' l' φ',Inv P ρ B N os p b st h φ0 n w0 (GO S i) a' w' l' φ'->K a' w'):wpOp P ops Q i K a w:=by
 obtain ⟨o,ao,ho1,ho2,ho3,ho4,ho5,ho6,ho7,ho8⟩:=r.get hi
 obtain ⟨t,hR,hT⟩:=I.regs
 have hanc:∀ d,d<p.m->p.anc i d=true->S d=true:=fun d hdm ha=>CR r.good I.closed i d hi hdm hd ha
 have hdes:∀ e,e<p.m->p.anc e i=true->S e=false:=fun e he ha=>by
  cases hSe:S e with
  | false=>rfl
  | true =>
   have:=CR r.good I.closed e i he hi (fun c hc=>I.closed e c he hSe hc) ha
   rw [hS] at this; cases this
 have hal:∀ d,p.sk[p.pos i]? = some (.al i d)->¬ FO (os.getD i Cb).g (st (p.pos i)).t:=fun d hpd=>by rw [hp] at hpd; cases hpd
 have agA:=CC (o:=ao) (t:=t) (t':=(st (p.pos i)).t) (fun q hq=>r.agree hR hi hanc hdes (.inl rfl) q (by rw [ho7]; exact hq))
 have hs:=r.step _ _ hp
 have hs:(FO (os.getD i Cb).g (st (p.pos i)).t ∧ ∃ v h n,HU (os.getD i Cb).k cf (st (p.pos i)).t (st (p.pos i)).h0 (st (p.pos i)).n KF = .rv v h n∧st (p.pos i+1)=⟨Du (os.getD i Cb).dst (st (p.pos i)).t v,(st (p.pos i)).h0,(st (p.pos i)).h1,(st (p.pos i)).n⟩)∨(PY (os.getD i Cb).g (st (p.pos i)).t∧st (p.pos i+1)=⟨Du (os.getD i Cb).dst (st (p.pos i)).t Cn,(st (p.pos i)).h0,(st (p.pos i)).h1,(st (p.pos i)).n⟩):=hs
 rw [ho3] at hs
 refine EV ho1 ?_
 rcases hs with ⟨hy,v,h',n',e1,e2⟩ | ⟨hn,e2⟩
 ·have hy':FO ao.g t:=fun y n=>(agA.2 y n).trans (hy y n)
  have hv:(st (p.pos i+1)).t=Du (p.dst i) (st (p.pos i)).t v:=by rw [e2,ho6]
  -- the value,read here
  have here:∃ h'' n'',HU ao.k cf t (st l).h0 (st l).n KF = .rv v h'' n'':=by
   rcases Nat.lt_or_ge (p.sort i) 1 with h0 | h0
   ·rw [DN agA.1,YS (k:=ao.k) (by rw [←ho5]; omega) (h':=(st (p.pos i)).h0) (n':=(st (p.pos i)).n)]
    exact ⟨_,_,e1⟩
   ·have hbk:p.bat l≤p.effs.length:=Jo l
    rcases r.good.read i (p.bat l) hi (by omega) hbk with ⟨e,he,hse,h3 | h3⟩ | ⟨a',d',hq,_⟩ | ⟨l',x,hbl,hx,hxr⟩
    ·have:=(I.effs e he hse).1 (hanc e he h3.1); omega
    ·have:=(I.effs e he hse).2 h3.2
     rw [hdes e he h3.1] at this; cases this
    ·rw [hp] at hq; cases hq
    ·have hsb:(st l').h0=(st l).h0∧(st l').n=(st l).n:=by
      rcases Nat.le_total l' l with hle | hle
      ·exact r.same_batch hle I.le hbl
      ·obtain ⟨q1,q2⟩:=r.same_batch hle (Nat.le_of_lt (Plot.sk_lt hx)) hbl.symm
       exact ⟨q1.symm,q2.symm⟩
     cases x with
     | rd i' =>
      simp only [SI.reads,Option.some.injEq] at hxr; subst hxr
      obtain ⟨_,hpl⟩:=r.good.uniq l' _ i' hx rfl
      subst hpl
      rw [DN agA.1,←hsb.1,←hsb.2]
      exact ⟨_,_,e1⟩
     | ck i' =>
      simp only [SI.reads,Option.some.injEq] at hxr; subst hxr
      have agB:=CC (o:=ao) (t:=t) (t':=(st l').t) (fun q hq=>r.agree hR hi hanc hdes (.inr hx) q (by rw [ho7]; exact hq))
      have hc:=(r.step _ _ hx).2
      rw [ho3] at hc
      rcases hc with ⟨_,q,h3,n3,hq,e3⟩ | hn
      ·rw [DN agB.1,←hsb.1,←hsb.2]
       have hpl:=(r.good.ck l' i' hx).2.1
       have hdq:p.dst i'=some q:=by rw [ho6]; exact hq
       have e4:Bo q (st l').t=v:=by
        rw [r.reg_after hi hdq hpl (Nat.le_of_lt (Plot.sk_lt hx)),←r.reg_after hi hdq (l:=p.pos i'+1) (by omega) (by have:=Plot.sk_lt hp; omega),hv,hdq]
        exact Bk _ _ _
       rw [e4] at e3
       exact ⟨_,_,e3⟩
      ·have:=(hy' (.fail "") (.ok .nrm Fi AS b)).symm.trans ((agB.2 _ _).trans (hn _ _))
       cases this
     | _=>cases hxr
  obtain ⟨h'',n'',e3⟩:=here
  have hk:Fx P N o=some ao.k:=by
   rcases (BI ho4).2.2 with hk | ⟨why,hk⟩
   ·exact hk
   ·rw [hk] at e3; cases e3
  obtain ⟨v',e4,hpure⟩:=ML (P:=P) (ρ:=ρ) (B:=B) (N:=N) (cf:=cf) (t:=t) (h:=(st l).h0) (n:=(st l).n) hρ hk (by rw [←ho5]; exact hso) KF (by rw [e3]; trivial)
  rw [e3] at e4
  cases e4
  obtain ⟨x,hx,hrx⟩:=hpure φ a w hT I.gam
  unfold C9
  rw [if_pos ((CO (ρ:=ρ) ho4).1 hy' φ a hT)]
  unfold Oper.wp
  rw [hx]
  refine hK _ w l φ (I.keep1 hi hS hd (by omega) hal ⟨_,r.regS_put hR hi hv,?_⟩)
  rw [ho6]
  exact hT.puts (BI ho4).1 hrx
 ·have hn':PY ao.g t:=fun y n=>(agA.2 y n).trans (hn y n)
  have hv:(st (p.pos i+1)).t=Du (p.dst i) (st (p.pos i)).t Cn:=by rw [e2,ho6]
  unfold C9
  rw [if_neg (by rw [(CO (ρ:=ρ) ho4).2 hn' φ a hT]; simp)]
  refine hK _ w l φ (I.keep1 hi hS hd (by omega) hal ⟨_,r.regS_put hR hi hv,?_⟩)
  rw [ho6]
  exact hT.puts (BI ho4).1 F2
theorem Inv.step_al (r:Rn P N ops os p cf b st) (hρ:Bp ρ) (hb0:p.HasAl->b.d = .d0) (hbn:p.HasAl->n.toN≤b.toN) {S:Nat->Bool} {a:Act} {w:World} {l:Nat} {φ:Ba} (I:Inv P ρ B N os p b st h φ0 n w0 S a w l φ) {i:Nat} {d:D} (hi:i<p.m) (hS:S i=false) (hd:∀ d∈p.deps i,S d=true)
  (hp:p.sk[p.pos i]? = some (.al i d)) (hso:p.sort i=2) {K:Act->World->Prop} {Q:Exit->Act->World->Prop} (hK:∀ a' w' l' φ',Inv P ρ B N os p b st h φ0 n w0 (GO S i) a' w' l' φ'->K a' w'):wpOp P ops Q i K a w:=by
 obtain ⟨o,ao,ho1,ho2,ho3,ho4,ho5,ho6,ho7,ho8⟩:=r.get hi
 obtain ⟨t,hR,hT⟩:=I.regs
 have hanc:∀ d,d<p.m->p.anc i d=true->S d=true:=fun d hdm ha=>CR r.good I.closed i d hi hdm hd ha
 have hdes:∀ e,e<p.m->p.anc e i=true->S e=false:=fun e he ha=>by
  cases hSe:S e with
  | false=>rfl
  | true =>
   have:=CR r.good I.closed e i he hi (fun c hc=>I.closed e c he hSe hc) ha
   rw [hS] at this; cases this
 have agA:=CC (o:=ao) (t:=t) (t':=(st (p.pos i)).t) (fun q hq=>r.agree hR hi hanc hdes (.inl rfl) q (by rw [ho7]; exact hq))
 have hs:=r.al_step hρ hi hp
 rw [ho3] at hs
 refine EV ho1 ?_
 rcases hs with ⟨hy,hn0,v,ob,n',e1,e2⟩ | ⟨hn,e2⟩
 ·have hy':FO ao.g t:=fun y n=>(agA.2 y n).trans (hy y n)
  have hv:(st (p.pos i+1)).t=Du (p.dst i) (st (p.pos i)).t v:=by rw [e2]
  have hk:Fx P N o=some ao.k:=by
   rcases (BI ho4).2.2 with hk | ⟨why,hk⟩
   ·exact hk
   ·rw [hk] at e1; cases e1
  have e3:HU ao.k cf t (st (p.pos i)).h1 (El b d) R.rv = .rv v (AJ (El b d) (st (p.pos i)).h1 (some ob)) n':=(DN agA.1).trans e1
  obtain ⟨v',ob',n'',e4,hal⟩:=KR (P:=P) (ρ:=ρ) (N:=N) (cf:=cf) (t:=t) (h:=(st (p.pos i)).h1) (n:=El b d) hρ hk (by rw [←ho5]; exact hso) R.rv (by rw [e3]; trivial)
  rw [e3] at e4
  simp only [R.rv.injEq] at e4
  obtain ⟨rfl,e5,rfl⟩:=e4
  have hob:ob=ob':=by
   have:=congrArg (Ar (El b d)) e5
   rw [Am,Am] at this
   simpa using this
  subst hob
  have hφ:=I.free i d hi hp hS
  obtain ⟨x,O,tot,w1,hx,hw1,hrx,hobk⟩:=hal.run φ a w hT hφ
  -- it is not too late for it
  have hbl:p.bat l≤p.bat (p.pos i):=by
   rcases Nat.lt_or_ge (p.bat (p.pos i)) (p.bat l) with h' | h'
   ·obtain ⟨e,he,hse,ha,hlt⟩:=(r.good.al i d hi hp (p.bat l) (Jo l)).2 h'
    have:=(I.effs e he hse).2 hlt
    rw [hdes e he ha] at this; cases this
   ·exact h'
  have hfree:Ar (El b d) (st l).h0=none:=by
   obtain ⟨l',hb',hx'⟩:=(r.good.al i d hi hp (p.bat l) (Jo l)).1 hbl
   have hno:=(r.step _ _ hx').2
   rcases Nat.le_total l' l with hle | hle
   ·rw [←(r.same_batch hle I.le hb').1]; exact hno
   ·rw [(r.same_batch hle (Nat.le_of_lt (Plot.sk_lt hx')) hb'.symm).1]; exact hno
  have hA:p.HasAl:=⟨i,d,hi,hp⟩
  have hrn:(El b d).toN<(st l).n.toN:=by
   rw [Jh d (hb0 hA)]; have:=I.room hA; have:=D.toN_lt d; omega
  have hrb:n.toN≤(El b d).toN:=by rw [Jh d (hb0 hA)]; have:=hbn hA; omega
  have hw1h:w1.heap=w.heap:=by rcases hw1 with e | e <;> rw [e] <;> rfl
  have hw1s:w1.heap.size=w.heap.size:=by rw [hw1h]
  have g1:Gam ρ B (st l).h0 (st l).n φ w1:=by
   rcases hw1 with e | e
   ·rw [e]; exact I.gam
   ·rw [e]; exact I.gam.drew
  have f1:Fr h (st l).h0 φ0 φ n (st l).n w0 w1:=by
   rcases hw1 with e | e
   ·rw [e]; exact I.fr
   ·rw [e]; exact I.fr.drewR
  have g2:=g1.hide hφ hrn hfree O tot
  have f2:=f1.hide hφ hrb hrn O tot
  rw [hw1s] at g2 f2
  unfold C9
  rw [if_pos ((CO (ρ:=ρ) ho4).1 hy' φ a hT)]
  unfold Oper.wp
  rw [hx]
  have hle:Ba.le φ (Er φ (El b d) (w.heap.size,0,tot)):=D5 hφ
  refine hK _ _ l (Er φ (El b d) (w.heap.size,0,tot)) {
   le:=I.le
   closed:=fun j c hj hs hc=>by
    by_cases e:i=j
    ·subst e; have:=hd c hc; unfold GO; rw [this]; rfl
    ·rw [Dj e] at hs; have:=I.closed j c hj hs hc; unfold GO; rw [this]; rfl
   effs:=fun e he hs=>by rw [Dj (fun (h:i=e)=>by rw [h] at hso; omega)]; exact I.effs e he hs
   regs:=⟨_,r.regS_put hR hi hv,by rw [ho6]; exact (hT.mono hle).puts (BI ho4).1 hrx⟩
   gam:=g2
   fr:=f2
   room:=I.room
   kept:=fun j c hj hpj hbj hyj hs=>by
    by_cases e:i=j
    ·subst e
     rw [hp] at hpj; cases hpj
     refine ⟨w.heap.size,tot,ob,BU _ _ _,by rw [e2]; exact Am _ _ _,hal.prev,hobk _ _ hle (by rw [←hw1s]; exact Jb),fun q x y hq=>?_⟩
     rcases AU hq with ⟨h',_⟩ | ⟨_,hq⟩
     ·exact h'.symm
     ·have:=(I.gam.blk q _ x y hq).2; omega
    ·rw [Dj e] at hs
     obtain ⟨bk,tot',ob',k1,k2,k3,k4,k5⟩:=I.kept j c hj hpj hbj hyj hs
     have hne:El b d≠El b c:=fun h'=>r.good.alD i j d c hi hj e hp hpj (KE h')
     have hbk:=(I.gam.blk _ _ _ _ k1).2
     refine ⟨bk,tot',ob',by rw [Hz hne]; exact k1,k2,k3,Ci (w:=w) ?_ (Eg hle k4),fun q x y hq=>?_⟩
     ·rw [Go.RowKit.Below.heap_alloc w1 O bk (by rw [hw1s]; exact hbk),hw1h]
     ·rcases AU hq with ⟨_,h'⟩ | ⟨_,hq⟩
      ·simp only [Prod.mk.injEq] at h'; omega
      ·exact k5 q x y hq
   free:=fun j c hj hpj hs=>by
    by_cases e:i=j
    ·subst e; rw [HL] at hs; cases hs
    ·rw [Dj e] at hs
     have hne:El b d≠El b c:=fun h'=>r.good.alD i j d c hi hj e hp hpj (KE h')
     rw [Hz hne]; exact I.free j c hj hpj hs }
 ·have hn':PY ao.g t:=fun y n=>(agA.2 y n).trans (hn y n)
  have hv:(st (p.pos i+1)).t=Du (p.dst i) (st (p.pos i)).t Cn:=by rw [e2]
  unfold C9
  rw [if_neg (by rw [(CO (ρ:=ρ) ho4).2 hn' φ a hT]; simp)]
  refine hK _ w l φ (I.keep1 hi hS hd (by omega) (fun d' _ hy=>?_) ⟨_,r.regS_put hR hi hv,?_⟩)
  ·rw [ho3] at hy
   have:=(hy (.fail "") (.ok .nrm Fi AS b)).symm.trans (hn _ _)
   cases this
  ·rw [ho6]
   exact hT.puts (BI ho4).1 F2
end
end Go.Ev

namespace Go.Ev
set_option linter.unusedVariables false
section
variable {P:Program} {ρ:Env} {B N:Nat} {ops:Array Oper} {os:List AOp} {p:Plot} {b:K4} {cf:CF} {st:Nat->St} {h:Heap} {φ0:Ba} {n:K4} {w0:World}
theorem Inv.none_at (r:Rn P N ops os p cf b st) {l:Nat} (hL:l≤p.sk.length) {i:Nat} {d:D} (hi:i<p.m) (hp:p.sk[p.pos i]? = some (.al i d)) (hb:p.bat l≤p.bat (p.pos i)):Ar (El b d) (st l).h0=none:=by
 obtain ⟨l',hb',hx'⟩:=(r.good.al i d hi hp (p.bat l) (Jo l)).1 hb
 have hno:=(r.step _ _ hx').2
 rcases Nat.le_total l' l with hle | hle
 ·rw [←(r.same_batch hle hL hb').1]; exact hno
 ·rw [(r.same_batch hle (Nat.le_of_lt (Plot.sk_lt hx')) hb'.symm).1]; exact hno
theorem Gam.lone {h:Heap} {n:K4} {φ:Ba} {w:World} (g:Gam ρ B h n φ w) {q:K4} {ob:Ob} {bk tot:Nat} (hq:φ q=some (bk,0,tot)) (hp:BX ob=none) (ho:Gl ρ φ w ob bk 0 tot):Gam ρ B (AJ q AS (some ob)) n φ w where
 base:=g.base
 glob:=g.glob
 dom:=g.dom
 blk:=g.blk
 obj:=fun p o b s t hp' hx=>by
  rcases BG hp' with ⟨rfl,e⟩ | ⟨_,e⟩
  ·cases e
   rw [hq] at hx; simp only [Option.some.injEq,Prod.mk.injEq] at hx
   obtain ⟨rfl,rfl,rfl⟩:=hx
   exact ho
  ·rw [Ey] at e; cases e
 sep:=fun p q' o o' b s t s' t' hne hp' hq' hx hy=>by
  rcases BG hp' with ⟨rfl,_⟩ | ⟨_,e⟩
  ·rcases BG hq' with ⟨rfl,_⟩ | ⟨_,e⟩
   ·exact absurd rfl hne
   ·rw [Ey] at e; cases e
  ·rw [Ey] at e; cases e
 sup:=fun p q' o o' b s t s' t' hp' hpr hq' hx hy=>by
  rcases BG hp' with ⟨rfl,e⟩ | ⟨_,e⟩
  ·cases e; rw [hp] at hpr; cases hpr
  ·rw [Ey] at e; cases e
theorem ZO {k:AK} (hs:k.sort≤1) {t:Regs} {h:Heap} {n n':K4}:HU k cf t h n KF=HU k cf t h n' KF:=by
 cases k <;> first | (exfalso; simp [AK.sort] at hs; done) | rfl
theorem Inv.step_rn (r:Rn P N ops os p cf b st) (hρ:Bp ρ) (h00:(st 0).h1=(st 0).h0) {S:Nat->Bool} {a:Act} {w:World} {l:Nat} {φ:Ba} (I:Inv P ρ B N os p b st h φ0 n w0 S a w l φ) {i:Nat} (hi:i<p.m) (hS:S i=false) (hd:∀ d∈p.deps i,S d=true)
  {al:Nat} {dd:D} (hp:p.sk[p.pos i]? = some (.rn i al dd)) (hso:p.sort i≤1) {K:Act->World->Prop} {Q:Exit->Act->World->Prop} (hK:∀ a' w' l' φ',Inv P ρ B N os p b st h φ0 n w0 (GO S i) a' w' l' φ'->K a' w'):wpOp P ops Q i K a w:=by
 obtain ⟨o,ao,ho1,ho2,ho3,ho4,ho5,ho6,ho7,ho8⟩:=r.get hi
 obtain ⟨t,hR,hT⟩:=I.regs
 have hanc:∀ d,d<p.m->p.anc i d=true->S d=true:=fun d hdm ha=>CR r.good I.closed i d hi hdm hd ha
 have hdes:∀ e,e<p.m->p.anc e i=true->S e=false:=fun e he ha=>by
  cases hSe:S e with
  | false=>rfl
  | true =>
   have:=CR r.good I.closed e i he hi (fun c hc=>I.closed e c he hSe hc) ha
   rw [hS] at this; cases this
 have hal:∀ d,p.sk[p.pos i]? = some (.al i d)->¬ FO (os.getD i Cb).g (st (p.pos i)).t:=fun d hpd=>by rw [hp] at hpd; cases hpd
 have agA:=CC (o:=ao) (t:=t) (t':=(st (p.pos i)).t) (fun q hq=>r.agree hR hi hanc hdes (.inl rfl) q (by rw [ho7]; exact hq))
 have hs:=r.step _ _ hp
 have hs:(FO (os.getD i Cb).g (st (p.pos i)).t ∧ ∃ ob v h n,Ar (El b dd) (st (p.pos i)).h1=some ob∧HU (os.getD i Cb).k cf (st (p.pos i)).t (AJ (El b dd) AS (some ob)) (st (p.pos i)).n KF = .rv v h n∧st (p.pos i+1)=⟨Du (os.getD i Cb).dst (st (p.pos i)).t v,(st (p.pos i)).h0,(st (p.pos i)).h1,(st (p.pos i)).n⟩)∨(PY (os.getD i Cb).g (st (p.pos i)).t∧st (p.pos i+1)=⟨Du (os.getD i Cb).dst (st (p.pos i)).t Cn,(st (p.pos i)).h0,(st (p.pos i)).h1,(st (p.pos i)).n⟩):=hs
 rw [ho3] at hs
 refine EV ho1 ?_
 rcases hs with ⟨hy,ob,v,h',n',e0,e1,e2⟩ | ⟨hn,e2⟩
 ·have hy':FO ao.g t:=fun y n=>(agA.2 y n).trans (hy y n)
  have hv:(st (p.pos i+1)).t=Du (p.dst i) (st (p.pos i)).t v:=by rw [e2,ho6]
  obtain ⟨ha,hpa,haa,hpo,hba⟩:=r.good.rn i al dd hi hp
  -- the value,read here
  have here:∃ hX,Gam ρ B hX (st l).n φ w ∧ ∃ h'' n'',HU ao.k cf t hX (st l).n KF = .rv v h'' n'':=by
   rcases Nat.lt_or_ge (p.sort i) 1 with h0 | h0
   ·refine ⟨(st l).h0,I.gam,?_⟩
    rw [DN agA.1,YS (k:=ao.k) (by rw [←ho5]; omega) (h':=AJ (El b dd) AS (some ob)) (n':=(st (p.pos i)).n)]
    exact ⟨_,_,e1⟩
   ·have hbk:p.bat l≤p.effs.length:=Jo l
    rcases r.good.read i (p.bat l) hi (by omega) hbk with ⟨e,he,hse,h3 | h3⟩ | ⟨a',d',hq,hle⟩ | ⟨l',x,hbl,hx,hxr⟩
    ·have:=(I.effs e he hse).1 (hanc e he h3.1); omega
    ·have:=(I.effs e he hse).2 h3.2
     rw [hdes e he h3.1] at this; cases this
    ·rw [hp] at hq; cases hq
     have hlp:p.pos i≤p.sk.length:=Nat.le_of_lt (Plot.sk_lt hp)
     rcases r.h1_at hρ h00 (El b dd) hlp with h1 | ⟨i',c',a1,a2,a3,a4,a5,a6,a7⟩
     ·rw [h1,Inv.none_at r hlp ha hpa (by omega)] at e0; cases e0
     ·have hii:al=i':=by
       rcases Nat.decEq al i' with hne | he
       ·exact absurd (KE a5) (r.good.alD al i' dd c' ha a1 hne hpa a2)
       ·exact he
      subst hii
      obtain ⟨bk,tot,ob',k1,k2,k3,k4,k5⟩:=I.kept al dd ha hpa hle a6 (hanc al ha haa)
      have hob:ob'=ob:=by rw [a7,k2] at e0; cases e0; rfl
      subst hob
      refine ⟨_,I.gam.lone k1 k3 k4,?_⟩
      rw [DN agA.1,ZO (by rw [←ho5]; exact hso) (n':=(st (p.pos i)).n)]
      exact ⟨_,_,e1⟩
    ·have hsb:(st l').h0=(st l).h0∧(st l').n=(st l).n:=by
      rcases Nat.le_total l' l with hle | hle
      ·exact r.same_batch hle I.le hbl
      ·obtain ⟨q1,q2⟩:=r.same_batch hle (Nat.le_of_lt (Plot.sk_lt hx)) hbl.symm
       exact ⟨q1.symm,q2.symm⟩
     refine ⟨(st l).h0,I.gam,?_⟩
     cases x with
     | rd i' =>
      simp only [SI.reads,Option.some.injEq] at hxr; subst hxr
      obtain ⟨_,hpl⟩:=r.good.uniq l' _ i' hx rfl
      subst hpl
      rw [hp] at hx; cases hx
     | ck i' =>
      simp only [SI.reads,Option.some.injEq] at hxr; subst hxr
      have agB:=CC (o:=ao) (t:=t) (t':=(st l').t) (fun q hq=>r.agree hR hi hanc hdes (.inr hx) q (by rw [ho7]; exact hq))
      have hc:=(r.step _ _ hx).2
      rw [ho3] at hc
      rcases hc with ⟨_,q,h3,n3,hq,e3⟩ | hn
      ·rw [DN agB.1,←hsb.1,←hsb.2]
       have hpl:=(r.good.ck l' i' hx).2.1
       have hdq:p.dst i'=some q:=by rw [ho6]; exact hq
       have e4:Bo q (st l').t=v:=by
        rw [r.reg_after hi hdq hpl (Nat.le_of_lt (Plot.sk_lt hx)),←r.reg_after hi hdq (l:=p.pos i'+1) (by omega) (by have:=Plot.sk_lt hp; omega),hv,hdq]
        exact Bk _ _ _
       rw [e4] at e3
       exact ⟨_,_,e3⟩
      ·have:=(hy' (.fail "") (.ok .nrm Fi AS b)).symm.trans ((agB.2 _ _).trans (hn _ _))
       cases this
     | _=>cases hxr
  obtain ⟨hX,gX,h'',n'',e3⟩:=here
  have hk:Fx P N o=some ao.k:=by
   rcases (BI ho4).2.2 with hk | ⟨why,hk⟩
   ·exact hk
   ·rw [hk] at e3; cases e3
  obtain ⟨v',e4,hpure⟩:=ML (P:=P) (ρ:=ρ) (B:=B) (N:=N) (cf:=cf) (t:=t) (h:=hX) (n:=(st l).n) hρ hk (by rw [←ho5]; exact hso) KF (by rw [e3]; trivial)
  rw [e3] at e4
  cases e4
  obtain ⟨x,hx,hrx⟩:=hpure φ a w hT gX
  unfold C9
  rw [if_pos ((CO (ρ:=ρ) ho4).1 hy' φ a hT)]
  unfold Oper.wp
  rw [hx]
  refine hK _ w l φ (I.keep1 hi hS hd (by omega) hal ⟨_,r.regS_put hR hi hv,?_⟩)
  rw [ho6]
  exact hT.puts (BI ho4).1 hrx
 ·have hn':PY ao.g t:=fun y n=>(agA.2 y n).trans (hn y n)
  have hv:(st (p.pos i+1)).t=Du (p.dst i) (st (p.pos i)).t Cn:=by rw [e2,ho6]
  unfold C9
  rw [if_neg (by rw [(CO (ρ:=ρ) ho4).2 hn' φ a hT]; simp)]
  refine hK _ w l φ (I.keep1 hi hS hd (by omega) hal ⟨_,r.regS_put hR hi hv,?_⟩)
  rw [ho6]
  exact hT.puts (BI ho4).1 F2
theorem Inv.shown (r:Rn P N ops os p cf b st) (hρ:Bp ρ) (hb0:p.HasAl->b.d = .d0) (hbn:p.HasAl->n.toN≤b.toN) (h00:(st 0).h1=(st 0).h0) (hdom:∀ q x,φ0 q=some x->q.toN<n.toN) {S:Nat->Bool} {a:Act} {w:World} {l:Nat} {φ:Ba} (I:Inv P ρ B N os p b st h φ0 n w0 S a w l φ)
  {l':Nat} (hl':l'≤p.sk.length) (hb:p.bat l'=p.bat l) (hS:∀ i d,i<p.m->p.sk[p.pos i]? = some (.al i d)->p.pos i<l'->p.bat (p.pos i)=p.bat l->S i=true) :
  Gam ρ B (st l').h1 (st l').n φ w∧Fr h (st l').h1 φ0 φ n (st l').n w0 w:=by
 have hsb:(st l').h0=(st l).h0∧(st l').n=(st l).n:=by
  rcases Nat.le_total l' l with hle | hle
  ·exact r.same_batch hle I.le hb
  ·obtain ⟨q1,q2⟩:=r.same_batch hle hl' hb.symm
   exact ⟨q1.symm,q2.symm⟩
 rw [hsb.2]
 refine ⟨I.gam.showAll fun q=>?_,I.fr.show fun q hq=>?_⟩
 ·rcases r.h1_at hρ h00 q hl' with h' | ⟨i,d,a1,a2,a3,a4,a5,a6,a7⟩
  ·exact .inl (h'.trans (by rw [hsb.1]))
  ·subst a5
   obtain ⟨bk,tot,ob,k1,k2,k3,k4,k5⟩:=I.kept i d a1 a2 (by omega) a6 (hS i d a1 a2 a3 (by omega))
   exact .inr ⟨ob,bk,tot,Inv.none_at r I.le a1 a2 (by omega),a7.trans k2,k3,k1,k4,k5⟩
 ·rcases r.h1_at hρ h00 q hl' with h' | ⟨i,d,a1,a2,a3,a4,a5,a6,a7⟩
  ·exact h'.trans (by rw [hsb.1])
  ·subst a5
   cases hx:φ0 (El b d) with
   | none=>exact absurd hx hq
   | some x =>
    have:=hdom _ _ hx
    have hA:p.HasAl:=⟨i,d,a1,a2⟩
    rw [Jh d (hb0 hA)] at this
    have:=hbn hA
    omega
theorem Inv.step_ef (r:Rn P N ops os p cf b st) (hρ:Bp ρ) (hcf:Ea P ρ B cf) (hb0:p.HasAl->b.d = .d0) (hbn:p.HasAl->n.toN≤b.toN) (h00:(st 0).h1=(st 0).h0) (hdom:∀ q x,φ0 q=some x->q.toN<n.toN) {S:Nat->Bool} {a:Act} {w:World} {l:Nat} {φ:Ba} (I:Inv P ρ B N os p b st h φ0 n w0 S a w l φ)
  {i:Nat} (hi:i<p.m) (hS:S i=false) (hd:∀ d∈p.deps i,S d=true) (hp:p.sk[p.pos i]? = some (.ef i)) (hso:p.sort i=3) {K:Act->World->Prop} {Q:Exit->Act->World->Prop} (hK:∀ a' w' l' φ',Inv P ρ B N os p b st h φ0 n w0 (GO S i) a' w' l' φ'->K a' w'):wpOp P ops Q i K a w:=by
 obtain ⟨o,ao,ho1,ho2,ho3,ho4,ho5,ho6,ho7,ho8⟩:=r.get hi
 obtain ⟨t,hR,hT⟩:=I.regs
 have hanc:∀ d,d<p.m->p.anc i d=true->S d=true:=fun d hdm ha=>CR r.good I.closed i d hi hdm hd ha
 have hdes:∀ e,e<p.m->p.anc e i=true->S e=false:=fun e he ha=>by
  cases hSe:S e with
  | false=>rfl
  | true =>
   have:=CR r.good I.closed e i he hi (fun c hc=>I.closed e c he hSe hc) ha
   rw [hS] at this; cases this
 have agA:=CC (o:=ao) (t:=t) (t':=(st (p.pos i)).t) (fun q hq=>r.agree hR hi hanc hdes (.inl rfl) q (by rw [ho7]; exact hq))
 have hpl:=Plot.sk_lt hp
 -- the number of effects done
 have hbat:p.bat (p.pos i)=p.bat l:=by
  rcases Nat.lt_trichotomy (p.bat (p.pos i)) (p.bat l) with h' | h' | h'
  ·have:=(I.effs i hi hso).2 h'; rw [hS] at this; cases this
  ·exact h'
  ·obtain ⟨l1,e,q1,q2,q3⟩:=Rn.ef_at (Nat.le_of_lt hpl) h'
   obtain ⟨hm,hpe⟩:=r.good.uniq l1 _ e q2 rfl
   have hse:p.sort e=3:=by
    rcases r.good.pos e hm with ⟨_,hh⟩ | ⟨j,hh,_⟩ | ⟨hh | ⟨_,_,hh⟩,_⟩
    ·exact hh
    ·rw [hpe,q2] at hh; cases hh
    ·rw [hpe,q2] at hh; cases hh
    ·rw [hpe,q2] at hh; cases hh
   have:=(I.effs e hm hse).1 (hanc e hm (r.good.eff e i hm hi hse hso (by omega)))
   rw [hpe] at this; omega
 have hsucc:p.bat (p.pos i+1)=p.bat l+1:=by rw [Rn.bat_succ hp,hbat]; rfl
 have only:∀ e,e<p.m->p.sort e=3->p.bat (p.pos e)=p.bat l->e=i:=fun e he hse hbe=>by
  have hpe:p.sk[p.pos e]? = some (.ef e):=by
   rcases r.good.pos e he with ⟨hh,_⟩ | ⟨j,_,hh⟩ | ⟨_,hh⟩
   ·exact hh
   ·omega
   ·omega
  rcases Nat.lt_trichotomy (p.pos e) (p.pos i) with h' | h' | h'
  ·have:=(I.effs e he hse).1 (hanc e he (r.good.eff e i he hi hse hso h')); omega
  ·rw [h',hp] at hpe; cases hpe; rfl
  ·have:=Rn.bat_mono (p:=p) (show p.pos i+1≤p.pos e by omega) (Nat.le_of_lt (Plot.sk_lt hpe)); omega
 have hall:∀ j d,j<p.m->p.sk[p.pos j]? = some (.al j d)->p.bat (p.pos j)=p.bat l->S j=true:=fun j d hj hpj hbj=>by
  have hk:p.bat l+1≤p.effs.length:=by rw [←hsucc]; exact Jo _
  obtain ⟨e,he,hse,ha,hlt⟩:=(r.good.al j d hj hpj (p.bat l+1) hk).2 (by omega)
  rcases Nat.lt_or_ge (p.bat (p.pos e)) (p.bat l) with h' | h'
  ·have hSe:=(I.effs e he hse).2 h'
   exact CR r.good I.closed e j he hj (fun c hc=>I.closed e c he hSe hc) ha
  ·have:=only e he hse (by omega)
   subst this
   exact hanc j hj ha
 obtain ⟨g1,f1⟩:=I.shown r hρ hb0 hbn h00 hdom (Nat.le_of_lt hpl) hbat fun j d hj hpj _ hbj=>hall j d hj hpj hbj
 have hnn:(st (p.pos i)).n=(st l).n:=by
  rcases Nat.le_total (p.pos i) l with hle | hle
  ·exact (r.same_batch hle I.le hbat).2
  ·exact (r.same_batch hle (Nat.le_of_lt hpl) hbat.symm).2.symm
 -- what comes then
 have fin:∀ (v:V) (h':Heap) (n':K4) (φ':Ba) (x:Value) (w':World),st (p.pos i+1)=⟨Du (p.dst i) (st (p.pos i)).t v,h',h',n'⟩->Fr (st (p.pos i)).h1 h' φ φ' (st (p.pos i)).n n' w w'->Gam ρ B h' n' φ' w'->AL ρ φ' v x →
   Inv P ρ B N os p b st h φ0 n w0 (GO S i) (a.put o.dst x) w' (p.pos i+1) φ':=fun v h' n' φ' x w' e2 f2 g2 hrx=>by
  have pend:∀ j c,j<p.m->p.sk[p.pos j]? = some (.al j c)->p.bat l+1≤p.bat (p.pos j)->Ar (El b c) (st (p.pos i)).h1=none:=fun j c hj hpj hbj=>by
   rcases r.h1_at hρ h00 (El b c) (Nat.le_of_lt hpl) with h1 | ⟨j',c',a1,a2,a3,a4,a5,a6,a7⟩
   ·rw [h1]
    have hsb:(st (p.pos i)).h0=(st l).h0:=by
     rcases Nat.le_total (p.pos i) l with hle | hle
     ·exact (r.same_batch hle I.le hbat).1
     ·exact (r.same_batch hle (Nat.le_of_lt hpl) hbat.symm).1.symm
    rw [hsb]; exact Inv.none_at r I.le hj hpj (by omega)
   ·by_cases e:j=j'
    ·subst e; omega
    ·exact absurd (KE a5) (r.good.alD j j' c c' hj a1 e hpj a2)
  exact {
   le:=by omega
   closed:=fun j c hj hs hc=>by
    by_cases e:i=j
    ·subst e; have:=hd c hc; unfold GO; rw [this]; rfl
    ·rw [Dj e] at hs; have:=I.closed j c hj hs hc; unfold GO; rw [this]; rfl
   effs:=fun e he hs=>by
    rw [hsucc]
    by_cases e':i=e
    ·subst e'; rw [HL]; simp; omega
    ·rw [Dj e',I.effs e he hs]
     have hne:p.bat (p.pos e)≠p.bat l:=fun hh=>e' (only e he hs hh).symm
     omega
   regs:=⟨_,r.regS_put hR hi (by rw [e2]),by rw [ho6]; exact (hT.mono f2.ext).puts (BI ho4).1 hrx⟩
   gam:=by rw [e2]; exact g2
   fr:=by rw [e2]; exact Fr.trans f1 f2
   room:=fun hA=>by rw [e2]; have:=I.room hA; have:=f2.nn; rw [hnn] at this; show b.toN+16≤n'.toN; omega
   kept:=fun j c hj hpj hbj hyj hs=>by
    rw [hsucc] at hbj
    have e:i≠j:=fun e=>by subst e; rw [hp] at hpj; cases hpj
    rw [Dj e] at hs
    obtain ⟨bk,tot,ob,k1,k2,k3,k4,k5⟩:=I.kept j c hj hpj (by omega) hyj hs
    have hnone:=pend j c hj hpj hbj
    have hbk:=(I.gam.blk _ _ _ _ k1).2
    refine ⟨bk,tot,ob,f2.ext _ _ k1,k2,k3,Ci (f2.old bk hbk fun q s tt hq=>by rw [k5 q s tt hq]; exact hnone) (Eg f2.ext k4),fun q x y hq=>?_⟩
    rcases f2.fresh q bk x y hq with h1 | h1 | ⟨q',s',t',h1,h2⟩
    ·exact k5 q x y h1
    ·omega
    ·rw [k5 q' s' t' h1] at h2; exact absurd hnone h2
   free:=fun j c hj hpj hs=>by
    have e:i≠j:=fun e=>by subst e; rw [hp] at hpj; cases hpj
    rw [Dj e] at hs
    have hn:=I.free j c hj hpj hs
    cases hx:φ' (El b c) with
    | none=>rfl
    | some x =>
     rcases f2.new _ _ hx with h1 | ⟨h1,_⟩
     ·rw [hn] at h1; cases h1
     ·rw [hnn,Jh c (hb0 ⟨j,c,hj,hpj⟩)] at h1
      have:=I.room ⟨j,c,hj,hpj⟩; have:=D.toN_lt c; omega }
 have hs:(FO (os.getD i Cb).g (st (p.pos i)).t ∧ ∃ v h n,HU (os.getD i Cb).k cf (st (p.pos i)).t (st (p.pos i)).h1 (st (p.pos i)).n R.rv = .rv v h n∧st (p.pos i+1)=⟨Du (os.getD i Cb).dst (st (p.pos i)).t v,h,h,n⟩)∨(PY (os.getD i Cb).g (st (p.pos i)).t∧st (p.pos i+1)=⟨Du (os.getD i Cb).dst (st (p.pos i)).t Cn,(st (p.pos i)).h1,(st (p.pos i)).h1,(st (p.pos i)).n⟩):=r.step _ _ hp
 rw [ho3] at hs
 refine EV ho1 ?_
 rcases hs with ⟨hy,v,h',n',e1,e2⟩ | ⟨hn,e2⟩
 ·have hy':FO ao.g t:=fun y n=>(agA.2 y n).trans (hy y n)
  have e3:HU ao.k cf t (st (p.pos i)).h1 (st (p.pos i)).n R.rv = .rv v h' n':=(DN agA.1).trans e1
  have hk:Fx P N o=some ao.k:=by
   rcases (BI ho4).2.2 with hk | ⟨why,hk⟩
   ·exact hk
   ·rw [hk] at e3; cases e3
  obtain ⟨v',h'',n'',e4,hstep⟩:=Ll (P:=P) (ρ:=ρ) (B:=B) (N:=N) (cf:=cf) (t:=t) (h:=(st (p.pos i)).h1) (n:=(st (p.pos i)).n) hρ hcf hk R.rv (by rw [e3]; trivial)
  rw [e3] at e4
  cases e4
  unfold C9
  rw [if_pos ((CO (ρ:=ρ) ho4).1 hy' φ a hT)]
  exact hstep φ a w hT g1 K Q fun φ' x w' f2 g2 hrx=>hK _ _ _ _ (fin v h' n' φ' x w' (by rw [ho6]; exact e2) f2 g2 hrx)
 ·have hn':PY ao.g t:=fun y n=>(agA.2 y n).trans (hn y n)
  unfold C9
  rw [if_neg (by rw [(CO (ρ:=ρ) ho4).2 hn' φ a hT]; simp)]
  exact hK _ _ _ _ (fin Cn _ _ φ undef w (by rw [ho6]; exact e2) (Fr.refl _ φ _ w) g1 F2)
end
end Go.Ev

namespace Go.Ev
set_option linter.unusedVariables false
section
variable {P:Program} {ρ:Env} {B N:Nat} {ops:Array Oper} {os:List AOp} {p:Plot} {b:K4} {cf:CF} {st:Nat->St} {h:Heap} {φ0:Ba} {n:K4} {w0:World}
theorem TR.congr {φ:Ba} {t t':Regs} {a:Act} (hT:TR ρ N φ t a) (h:∀ q,Bo q t=Bo q t'):TR ρ N φ t' a :=
 ⟨hT.size,hT.defers,fun s q hs hq=>by rw [←h q]; exact hT.at_ s q hs hq⟩
theorem Inv.done (r:Rn P N ops os p cf b st) (hρ:Bp ρ) (hb0:p.HasAl->b.d = .d0) (hbn:p.HasAl->n.toN≤b.toN) (h00:(st 0).h1=(st 0).h0) (hdom:∀ q x,φ0 q=some x->q.toN<n.toN) {S:Nat->Bool} {a:Act} {w:World} {l:Nat} {φ:Ba} (I:Inv P ρ B N os p b st h φ0 n w0 S a w l φ)
  (hS:∀ i,i<p.m->S i=true):Gam ρ B (st p.sk.length).h1 (st p.sk.length).n φ w∧Fr h (st p.sk.length).h1 φ0 φ n (st p.sk.length).n w0 w∧TR ρ N φ (st p.sk.length).t a:=by
 have hb:p.bat p.sk.length=p.bat l:=by
  have h1:=Rn.bat_mono (p:=p) I.le (Nat.le_refl _)
  rcases Nat.lt_or_ge (p.bat l) (p.bat p.sk.length) with h' | h'
  ·obtain ⟨l1,e,q1,q2,q3⟩:=Rn.ef_at (p:=p) (Nat.le_refl _) h'
   obtain ⟨hm,hpe⟩:=r.good.uniq l1 _ e q2 rfl
   have hse:p.sort e=3:=by
    rcases r.good.pos e hm with ⟨_,hh⟩ | ⟨j,hh,_⟩ | ⟨hh | ⟨_,_,hh⟩,_⟩
    ·exact hh
    ·rw [hpe,q2] at hh; cases hh
    ·rw [hpe,q2] at hh; cases hh
    ·rw [hpe,q2] at hh; cases hh
   have:=(I.effs e hm hse).1 (hS e hm)
   rw [hpe] at this; omega
  ·omega
 obtain ⟨g1,f1⟩:=I.shown r hρ hb0 hbn h00 hdom (Nat.le_refl _) hb fun j d hj _ _ _=>hS j hj
 obtain ⟨t,hR,hT⟩:=I.regs
 refine ⟨g1,f1,hT.congr fun q=>?_⟩
 by_cases hw:∃ w,w<p.m∧p.dst w=some q
 ·obtain ⟨w,hw,hd⟩:=hw
  exact ((hR q).1 w hw hd).1 (hS w hw)
 ·have hn:∀ w,w<p.m->p.dst w≠some q:=fun w h1 h2=>hw ⟨w,h1,h2⟩
  rw [(hR q).2 hn]
  exact (r.reg_free hn (Nat.le_refl _)).symm
def left (m:Nat) (listed:Array Bool):Nat:=((List.range m).filter fun i=>!listed.getD i true).length
theorem VG {m:Nat} {listed:Array Bool} {i:Nat} (hl:listed.size=m) (hi:i<m) (h:listed.getD i true=false):left m (listed.setIfInBounds i true)<left m listed:=by
 unfold left
 have e:((List.range m).filter fun j=>!(listed.setIfInBounds i true).getD j true)=((List.range m).filter fun j=>!listed.getD j true).filter fun j=>!Nat.beq i j:=by
  rw [List.filter_filter]
  refine List.filter_congr fun j hj=>?_
  by_cases e:i=j
  ·subst e; simp [Array.getD_eq_getD_getElem?,Array.getElem?_setIfInBounds,show i<listed.size by omega]
  ·have hb:Nat.beq i j=false:=by cases hx:Nat.beq i j with
    | false=>rfl
    | true=>exact absurd (Nat.eq_of_beq_eq_true hx) e
   simp [Array.getD_eq_getD_getElem?,Array.getElem?_setIfInBounds,e,hb]
 rw [e]
 refine List.length_filter_lt_length_iff_exists.2 ⟨i,List.mem_filter.2 ⟨List.mem_range.2 hi,by rw [h]; rfl⟩,by simp⟩
theorem Inv.step (r:Rn P N ops os p cf b st) (hρ:Bp ρ) (hcf:Ea P ρ B cf) (hb0:p.HasAl->b.d = .d0) (hbn:p.HasAl->n.toN≤b.toN) (h00:(st 0).h1=(st 0).h0) (hdom:∀ q x,φ0 q=some x->q.toN<n.toN) {S:Nat->Bool} {a:Act} {w:World} {l:Nat} {φ:Ba} (I:Inv P ρ B N os p b st h φ0 n w0 S a w l φ)
  {i:Nat} (hi:i<p.m) (hS:S i=false) (hd:∀ d∈p.deps i,S d=true) {K:Act->World->Prop} {Q:Exit->Act->World->Prop} (hK:∀ a' w' l' φ',Inv P ρ B N os p b st h φ0 n w0 (GO S i) a' w' l' φ'->K a' w'):wpOp P ops Q i K a w:=by
 rcases r.good.pos i hi with ⟨hp,hs⟩ | ⟨d,hp,hs⟩ | ⟨hp | ⟨_,_,hp⟩,hs⟩
 ·exact I.step_ef r hρ hcf hb0 hbn h00 hdom hi hS hd hp hs hK
 ·exact I.step_al r hρ hb0 hbn hi hS hd hp hs hK
 ·exact I.step_rd r hρ hi hS hd hp hs hK
 ·exact I.step_rn r hρ h00 hi hS hd hp hs hK
theorem Inv.congrS {S S':Nat->Bool} {a:Act} {w:World} {l:Nat} {φ:Ba} (I:Inv P ρ B N os p b st h φ0 n w0 S a w l φ) (he:∀ i,S i=S' i):Inv P ρ B N os p b st h φ0 n w0 S' a w l φ:=by
 have:S=S':=funext he
 subst this; exact I
theorem T8 (r:Rn P N ops os p cf b st) (hρ:Bp ρ) (hcf:Ea P ρ B cf) (hb0:p.HasAl->b.d = .d0) (hbn:p.HasAl->n.toN≤b.toN) (h00:(st 0).h1=(st 0).h0) (hdom:∀ q x,φ0 q=some x->q.toN<n.toN) {Q:Exit->Act->World->Prop}
  (hQ:∀ φ' a' w',Fr h (st p.sk.length).h1 φ0 φ' n (st p.sk.length).n w0 w'->Gam ρ B (st p.sk.length).h1 (st p.sk.length).n φ' w'->TR ρ N φ' (st p.sk.length).t a'->Q .normal a' w') :
  ∀ (fuel:Nat) (listed:Array Bool) (a:Act) (w:World) (l:Nat) (φ:Ba),listed.size=p.m->left p.m listed≤fuel->Inv P ρ B N os p b st h φ0 n w0 (fun i=>listed.getD i false) a w l φ->wpAny P .any ops Q fuel listed a w:=by
 have hsz:=r.size
 have rdy:∀ (listed:Array Bool) (i:Nat),listed.size=p.m->i<p.m->listed.getD i false=false->(∀ d∈p.deps i,listed.getD d false=true)->i∈Region.ready .any ops listed:=fun listed i hl hi h1 h2=>by
  obtain ⟨o,ao,ho1,_,_,_,_,_,_,ho8⟩:=r.get hi
  refine mem_ready.2 ⟨by simpa [Array.getD_eq_getD_getElem?,Array.getElem?_eq_getElem (show i<listed.size by omega)] using h1,o,ho1,fun e he hb=>h2 e.on ?_⟩
  rw [ho8]
  exact List.mem_filterMap.2 ⟨e,by simpa using he,by rw [if_pos hb]⟩
 have all:∀ (listed:Array Bool),listed.size=p.m->Region.ready .any ops listed=[]->∀ i,i<p.m->listed.getD i false=true:=fun listed hl hr i=>by
  induction i using Nat.strongRecOn with
  | _ i ih =>
   intro hi
   cases hx:listed.getD i false with
   | true=>rfl
   | false =>
    have:=rdy listed i hl hi hx fun d hd=>ih d (r.good.deps i d hi hd) (by have:=r.good.deps i d hi hd; omega)
    rw [hr] at this; cases this
 intro fuel
 induction fuel with
 | zero =>
  intro listed a w l φ hl hc I
  have hr:Region.ready .any ops listed=[]:=by
   cases hx:Region.ready .any ops listed with
   | nil=>rfl
   | cons i rs =>
    have hi:i∈Region.ready .any ops listed:=by rw [hx]; exact List.mem_cons_self ..
    obtain ⟨h1,o,ho,_⟩:=mem_ready.1 hi
    have hlt:i<p.m:=by rw [hsz]; exact (Array.getElem?_eq_some_iff.1 ho).1
    have:i∈(List.range p.m).filter fun i=>!listed.getD i true:=List.mem_filter.2 ⟨List.mem_range.2 hlt,by rw [h1]; rfl⟩
    have:=List.length_pos_of_mem this
    unfold left at hc; omega
  obtain ⟨g1,f1,T1⟩:=I.done r hρ hb0 hbn h00 hdom fun i hi=>all listed hl hr i hi
  exact ⟨hr,hQ φ a w f1 g1 T1⟩
 | succ fuel ih =>
  intro listed a w l φ hl hc I
  refine ⟨fun hr=>?_,fun i hi=>?_⟩
  ·obtain ⟨g1,f1,T1⟩:=I.done r hρ hb0 hbn h00 hdom fun i hi=>all listed hl hr i hi
   exact hQ φ a w f1 g1 T1
  ·obtain ⟨h1,o,ho,h2⟩:=mem_ready.1 hi
   have hlt:i<p.m:=by rw [hsz]; exact (Array.getElem?_eq_some_iff.1 ho).1
   obtain ⟨o',ao,ho1,_,_,_,_,_,_,ho8⟩:=r.get hlt
   rw [ho] at ho1; cases ho1
   have hil:i<listed.size:=by omega
   have h1':listed.getD i false=false:=by simpa [Array.getD_eq_getD_getElem?,Array.getElem?_eq_getElem hil] using h1
   refine I.step r hρ hcf hb0 hbn h00 hdom hlt h1' (fun d hd=>?_) fun a' w' l' φ' I'=>?_
   ·rw [ho8] at hd
    obtain ⟨e,he,hb⟩:=List.mem_filterMap.1 hd
    split at hb
    ·rename_i hbb; cases hb; exact h2 e (by simpa using he) hbb
    ·cases hb
   ·refine ih (listed.setIfInBounds i true) a' w' l' φ' (by simp [hl]) ?_ (I'.congrS fun j=>?_)
    ·have:=VG hl hlt h1; omega
    ·by_cases e:i=j
     ·subst e; rw [HL]; simp [Array.getD_eq_getD_getElem?,Array.getElem?_setIfInBounds,hil]
     ·rw [Dj e]; simp [Array.getD_eq_getD_getElem?,Array.getElem?_setIfInBounds,e]
theorem Tf (hρ:Bp ρ) (hm:P.follows .mixedOrders=true) (hcf:Ea P ρ B cf) (r:Rn P N ops os p cf b st) {id:Nat} {t:Regs} {n0:K4} (s0:st 0=⟨t,h,h,n0⟩) (hb0:p.HasAl->b.d = .d0) (hbn:p.HasAl->n.toN≤b.toN)
  (hroom:p.HasAl->b.toN+16≤n0.toN) (hn0:n.toN≤n0.toN) {φ:Ba} {a:Act} {w:World} (hT:TR ρ N φ t a) (g:Gam ρ B h n φ w) {Q:Exit->Act->World->Prop}
  (hQ:∀ φ' a' w',Fr h (st p.sk.length).h1 φ φ' n (st p.sk.length).n w w'->Gam ρ B (st p.sk.length).h1 (st p.sk.length).n φ' w'->TR ρ N φ' (st p.sk.length).t a'->Q .normal a' w'):(Code.region id ops true).wp P Q a w:=by
 have hdom:∀ q x,φ q=some x->q.toN<n.toN:=fun q x hq=>g.dom q x hq
 have h00:(st 0).h1=(st 0).h0:=by rw [s0]
 refine wp_region_any hm (T8 (B:=B) (φ0:=φ) (n:=n) (w0:=w) (h:=h) r hρ hcf hb0 hbn h00 hdom (Q:=Q) (fun φ' a' w' f1 g1 T1=>hQ φ' a' w' f1 g1 T1) _ _ a _ 0 φ (by rw [Array.size_replicate,r.size]) ?_ ?_)
 ·unfold left
  refine Nat.le_trans (List.length_filter_le _ _) ?_
  rw [List.length_range,r.size]; exact Nat.le_refl _
 ·have hS:∀ i,(Array.replicate ops.size false).getD i false=false:=fun i=>by
   rw [Array.getD_eq_getD_getElem?,Array.getElem?_replicate]; split <;> rfl
  exact {
   le:=Nat.zero_le _
   closed:=fun i d hi hs _=>by rw [hS] at hs; cases hs
   effs:=fun e he _=>by rw [hS]; simp [Plot.bat]
   regs:=⟨t,fun q=>⟨fun w' _ _=>⟨fun hs=>absurd hs (by show ¬ ((Array.replicate ops.size false).getD w' false=true); rw [hS]; simp),fun _=>(by rw [s0])⟩,fun _=>(by rw [s0])⟩,hT⟩
   gam:=by rw [s0]; exact (g.nx (n':=n0) hn0).drew
   fr:=by
    rw [s0]
    exact ⟨Ba.le_refl φ,fun _ _ h=>.inl h,hn0,rfl,rfl,rfl,Nat.le_refl _,fun _ _ _=>rfl,fun _ _ _ _ h=>.inl h,fun _ _ h=>h⟩
   room:=by rw [s0]; exact hroom
   kept:=fun i d _ _ _ _ hs=>by rw [hS] at hs; cases hs
   free:=fun i d hi hp _=>by
    have hA:p.HasAl:=⟨i,d,hi,hp⟩
    cases hx:φ (El b d) with
    | none=>rfl
    | some x=>have:=hdom _ _ hx; rw [Jh d (hb0 hA)] at this; have:=hbn hA; omega }
theorem SW {n b n0:K4} (hbn:b.toN=(n.a.toN*256+n.b.toN*16+n.c.toN+1)*16) (hb0:b.d = .d0) (hn0:n0.toN=(b.a.toN*256+b.b.toN*16+b.c.toN+1)*16):n.toN≤b.toN∧n0.toN=b.toN+16:=by
 obtain ⟨a1,a2,a3,a4⟩:=n
 obtain ⟨b1,b2,b3,b4⟩:=b
 simp only [K4.toN] at hbn hn0 hb0 ⊢
 subst hb0
 have:=D.toN_lt a4
 simp only [D.toN] at *
 omega
theorem noAl {p:Plot} (hp:p.Good) (h:p.sk.any SI.isAl=false):¬ p.HasAl:=by
 rintro ⟨i,d,_,hx⟩
 have:p.sk.any SI.isAl=true:=List.any_eq_true.2 ⟨_,List.mem_of_getElem? hx,rfl⟩
 rw [h] at this; cases this
end
end Go.Ev

namespace Go.Ev
set_option linter.unusedVariables false
section
variable {P:Program} {ρ:Env}
def Uh:Oper:={ dst:=some 0,op:=.makeMap 0 none,type:=0,pos:="",after:=#[],guard:=none }
theorem HX {f:FuncId} {fn:Func} {c:Code} {xs:Array Value} {w:World} {R:Value->World->Prop} (hf:P.funcs[f]? = some fn) (hb:fn.body=some c) (hn:fn.name ≠ "runtime.NumGoroutine") (h:HR P f xs w R) :
  Calls P f xs w fun | .returned v,w'=>R v w' | _,_=>False:=by
 have:=h Uh { tmps:=#[undef],defers:=[] } (fun a w'=>R (a.tmps.getD 0 undef) w') (fun _ _ _=>False) (fun x w' hr=>by simpa [Uh,Act.put] using hr)
 have hcf:(callFunc f xs).run P w = .ok (.enter f xs) w:=by simp [callFunc,hf,hn,hb]
 rw [hcf] at this
 refine Calls.mono this fun e w' he=>?_
 cases e with
 | returned v=>simpa [Uh,Act.put] using he
 | panicked ch=>exact he
 | outgrown=>obtain ⟨_,_,h⟩:=he; exact h
def VC (ρ:Env) (w:World):Prop:=∀ b c e fr,ρ.gl b=some (c,e,fr)->b<w.heap.size∧w.heap[b]? = some (.cells c e fr)
theorem Mv (w:World) (n:K4) (hg:VC ρ w):Gam ρ w.heap.size AS n (fun _=>none) w where
 base:=Nat.le_refl _
 glob:=hg
 dom:=fun p x h=>by cases h
 blk:=fun p b s t h=>by cases h
 obj:=fun p o b s t _ h=>by cases h
 sep:=fun p q o o' b s t s' t' _ _ _ h=>by cases h
 sup:=fun p q o o' b s t s' t' _ _ _ h=>by cases h
theorem JS {h h1:Heap} {φ':Ba} {n n1:K4} {w w':World} (f:Fr h h1 (fun _=>none) φ' n n1 w w'):Go.RowKit.Below w.heap.size w w' :=
 ⟨f.os,f.tape,f.out,f.size,fun k hk=>f.old k hk fun p s t hp=>by cases hp⟩
end
end Go.Ev

namespace Go.Ev
set_option linter.unusedVariables false
section
variable {P:Program} {ρ:Env} {B:Nat}
structure Bare (P:Program) (f:FuncId) (e:Array Value->Sem Value):Prop where
 ex:∃ fn,P.funcs[f]? = some fn∧(fn.name == "runtime.NumGoroutine")=false∧fn.body.isNone=true∧Extern.findNext fn=none∧Extern.find fn=some e
theorem Bare.run {f:FuncId} {e:Array Value->Sem Value} (b:Bare P f e) {xs:Array Value} {w w':World} {x:Value} (h:(e xs).run P w = .ok x w'):(callFunc f xs).run P w = .ok (.value x) w':=by
 obtain ⟨fn,h1,h2,h3,h4,h5⟩:=b.ex
 have h2':fn.name ≠ "runtime.NumGoroutine":=by simpa using h2
 have h3':fn.body=none:=by simpa using h3
 simp [callFunc,h1,h2',h3',h4,h5,h]
theorem Bare.runs {f:FuncId} {e:Array Value->Sem Value} (b:Bare P f e) {xs:Array Value} {w w':World} {x:Value} (h:(e xs).run P w = .ok x w') {R:Value->World->Prop} (hR:R x w'):HR P f xs w R:=by
 intro o a K Q hK
 rw [b.run h]
 exact hK _ _ hR
section
variable {v:V} {h:Heap} {n:K4}
theorem C3 {c:Bool} {t:R} {s:String} (hx:br c t (.fail s) = .rv v h n):c=true∧t = .rv v h n:=by
 cases c
 ·cases hx
 ·exact ⟨rfl,hx⟩
theorem OQ {x:V} {κ:Nat->Nat->R} (hx:Bd x κ = .rv v h n):∃ m c,x = .str m c∧κ m c = .rv v h n:=by
 cases x with
 | str m c=>exact ⟨m,c,rfl,hx⟩
 | _=>cases hx
theorem Q9 {x:V} {κ:IntKind->Nat->R} (hx:E6 x κ = .rv v h n):∃ k r,x = .int k r∧κ k r = .rv v h n:=by
 cases x with
 | int k r=>exact ⟨k,r,rfl,hx⟩
 | _=>cases hx
end
def Q6 (r:Nat) (m:Nat):Nat->Nat->(Nat->R)->R->R :=
 @Nat.rec (fun _=>Nat->Nat->(Nat->R)->R->R) (fun _ _ _ κn=>κn)
  (fun _ ih c i κ κn=>br (Nat.beq (lo c 1) r) (κ i) (Aj (sh c 1) fun d=>Aj (Nat.succ i) fun j=>ih d j κ κn)) m
theorem VJ (b:UInt8) (l:List UInt8):∀ (i:Nat) (κ:Nat->R) (κn:R),Q6 b.toNat l.length (AV l) i κ κn=if Lib.indexByte l b = -1 then κn else κ (i+(Lib.indexByte l b).toNat):=by
 induction l with
 | nil=>intro i κ κn; rfl
 | cons x l ih =>
  intro i κ κn
  have hx:=x.toNat_lt
  have e0:lo (AV (x::l)) 1=x.toNat:=by rw [DH]; simp only [AV]; omega
  have e1:sh (AV (x::l)) 1=AV l:=by rw [EJ]; simp only [AV]; omega
  have e2:Q6 b.toNat (x::l).length (AV (x::l)) i κ κn=br (Nat.beq x.toNat b.toNat) (κ i) (Q6 b.toNat l.length (AV l) (i+1) κ κn):=by
   have:Q6 b.toNat (x::l).length (AV (x::l)) i κ κn=br (Nat.beq (lo (AV (x::l)) 1) b.toNat) (κ i) (Aj (sh (AV (x::l)) 1) fun d=>Aj (Nat.succ i) fun j=>Q6 b.toNat l.length d j κ κn):=rfl
   rw [this,e0,e1,Ai,Ai]
  rw [e2]
  unfold Lib.indexByte
  by_cases hb:x=b
  ·subst hb
   have:Nat.beq x.toNat x.toNat=true:=Nat.beq_refl _
   rw [this]; simp [br]
  ·have h1:Nat.beq x.toNat b.toNat=false:=by
    cases h:Nat.beq x.toNat b.toNat with
    | false=>rfl
    | true=>exact absurd (UInt8.toNat_inj.1 (Nat.eq_of_beq_eq_true h)) hb
   have h2:(x == b)=false:=by simpa using hb
   rw [h1,AR,ih]
   have hn:=Lib.indexByte_ge l b
   simp only [h2,Bool.false_eq_true,if_false]
   by_cases hm:Lib.indexByte l b = -1
   ·simp [hm]
   ·have h3:(Lib.indexByte l b == -1)=false:=by simpa using hm
    rw [if_neg hm,h3]
    simp only [Bool.false_eq_true,if_false]
    rw [if_neg (by omega)]
    congr 1; omega
def Ed:Gr:=fun args h n =>
 @List.rec V (fun _=>R) (.fail "") (fun x l _=>@List.rec V (fun _=>R) (.fail "") (fun y l _=>@List.rec V (fun _=>R)
  (Bd x fun m c=>E6 y fun k r=>br (Be k .u8) (br (Nat.ble m 1000000000) (Q6 r m c 0 (fun i=>.rv (.int .i64 i) h n) (.rv (.int .i64 18446744073709551615) h n)) (.fail "")) (.fail "")) (C4 "") l) l) args
theorem Fb {f:FuncId} (b:Bare P f Extern.BytealgIndexByte.indexByte):EE P ρ B f Ed:=by
 intro args h n v h1 n1 hx φ w xs g hr
 rcases args with _ | ⟨x,_ | ⟨y,_ | ⟨z,l⟩⟩⟩ <;> try (cases hx; done)
 have hx:(Bd x fun m c=>E6 y fun k r=>br (Be k .u8) (br (Nat.ble m 1000000000) (Q6 r m c 0 (fun i=>.rv (.int .i64 i) h n) (.rv (.int .i64 18446744073709551615) h n)) (.fail "")) (.fail "")) = .rv v h1 n1:=hx
 obtain ⟨m,c,rfl,hx⟩:=OQ hx
 obtain ⟨k,r,rfl,hx⟩:=Q9 hx
 obtain ⟨hk,hx⟩:=C3 hx
 have:=B3.1 hk
 subst this
 obtain ⟨hm,hx⟩:=C3 hx
 obtain ⟨x1,ys,hxs,hr1,hr⟩:=Au.1 hr
 obtain ⟨x2,ys,rfl,hr2,hr⟩:=Au.1 hr
 obtain rfl:=AH.1 hr
 obtain ⟨s,rfl,hsz,hc⟩:=(by simpa only [AL] using hr1:∃ s:ByteArray,x1 = .string s∧s.size=m∧AV s.data.toList=c)
 obtain ⟨hlt,rfl⟩:=(by simpa only [AL] using hr2:r<Mk .u8∧x2 = .int .u8 (BW .u8 r))
 have hlt:r<256:=hlt
 have hdec:BW .u8 r=(r:Int):=Az (by show r<256; exact hlt)
 obtain rfl:xs = #[.string s,.int .u8 (BW .u8 r)]:=by cases xs; simp at hxs; simp [hxs]
 rw [hdec]
 refine b.runs (Lib.run_indexByteString s r w) ⟨φ,?_⟩
 have hb:((r:Int).toNat.toUInt8).toNat=r:=by
  simp only [Int.toNat_natCast]
  exact UInt8.toNat_ofNat_of_lt' (show r<2 ^ 8 from hlt)
 have hl:s.data.toList.length=m:=by rw [←hsz]; rfl
 have key:=VJ ((r:Int).toNat.toUInt8) s.data.toList 0 (fun i=>.rv (.int .i64 i) h n) (.rv (.int .i64 18446744073709551615) h n)
 rw [hb,hl,hc] at key
 rw [key] at hx
 have hge:=Lib.indexByte_ge s.data.toList ((r:Int).toNat.toUInt8)
 have hle:Lib.indexByte s.data.toList ((r:Int).toNat.toUInt8)<(m:Int)∨Lib.indexByte s.data.toList ((r:Int).toNat.toUInt8) = -1:=by
  rw [←hl]
  generalize s.data.toList=l
  generalize ((r:Int).toNat.toUInt8)=b
  induction l with
  | nil=>right; rfl
  | cons x l ih =>
   have:=Lib.indexByte_ge l b
   unfold Lib.indexByte
   simp only [List.length_cons]
   split
   ·left; omega
   ·split
    ·right; rfl
    ·rename_i h1 h2
     have:Lib.indexByte l b ≠ -1:=by simpa using h2
     left; omega
 have hm:=Ao.1 hm
 revert hx
 generalize Lib.indexByte s.data.toList ((r:Int).toNat.toUInt8)=q at hge hle
 intro hx
 by_cases hq:q = -1
 ·rw [if_pos hq] at hx
  simp only [R.rv.injEq] at hx
  obtain ⟨rfl,rfl,rfl⟩:=hx
  refine ⟨Fr.refl _ _ _ _,g,?_⟩
  simp only [AL]
  subst hq
  exact ⟨by decide,by simp [BW,Hk,Mk]⟩
 ·rw [if_neg hq] at hx
  simp only [R.rv.injEq] at hx
  obtain ⟨rfl,rfl,rfl⟩:=hx
  refine ⟨Fr.refl _ _ _ _,g,?_⟩
  simp only [AL]
  have:q<(m:Int):=by
   rcases hle with h | h
   ·exact h
   ·exact absurd h hq
  refine ⟨by simp only [Mk]; omega,?_⟩
  rw [Az (by simp only [Hk]; omega)]
  congr 1; omega
end
end Go.Ev

namespace Go.Ev
open Go.RowKit Go.WideShapes Go.ChangeShapes
set_option linter.unusedVariables false
def XR (v:V):Bool :=
 @V.rec (fun _=>Bool) (fun _=>Unit) (fun _ _=>false) (fun b=>b) (fun _ _=>false) (fun _ _ _ _ _ _=>false) (fun _ _=>false) (fun _ _=>false) (fun _=>false) (fun _=>false) (fun _ _ _=>false) (fun _ _=>false) (fun _=>false) () (fun _ _ _ _=>()) v
def Xk (p:Nat->Bool) (m:Nat):Bool:=@Nat.rec (fun _=>Bool) true (fun i ih=>br (p i) ih false) m
theorem VH {p:Nat->Bool}:∀ {m:Nat},Xk p m=true->∀ i,i<m->p i=true:=by
 intro m
 induction m with
 | zero=>intro _ i hi; omega
 | succ m ih =>
  intro h i hi
  have h:br (p m) (Xk p m) false=true:=h
  cases hp:p m with
  | false=>rw [hp] at h; cases h
  | true =>
   rw [hp] at h
   by_cases e:i=m
   ·subst e; exact hp
   ·exact ih h i (by omega)
def KP:K4:=⟨.d0,.d0,.d0,.d0⟩
theorem M2 {H:Type} {enc:TypeId×Value->H} {P:Program} {f:Func} {s:ChangeSpec} {apart fresh handsOn again:Bool} {W W':World} {args:Array Value} {v:Value} {ds gs:List (DataW H)} {before pa pv:List MemPlace}
  (hW:DataW.Whole enc P f.params.toList s.vars apart W args.toList ds gs before)
  (hres:∀ (b:Nat) (sp:Nat->Bool) (hd:Bool),DataW.TrodAll enc P W' b sp hd f.resultTypes.toList (v.resultList f.resultTypes.size) (s.fn H (ds++gs)).results [])
  (hargs:∀ sp:Nat->Bool,(∀ p∈before,sp p.block=true)->DataW.TrodAll enc P W' 0 sp true f.params.toList args.toList (s.fn H (ds++gs)).args pa)
  (hvars:∀ sp:Nat->Bool,(∀ p∈before,sp p.block=true)->DataW.TrodVars enc P W' sp s.vars (s.fn H (ds++gs)).vars pv)
  (hps:before=pa++pv) (hb:Below W.heap.size W W')
  (hok:∀ (j:Nat) (t:TypeId) (r:Value),f.resultTypes[j]? = some t->(v.resultList f.resultTypes.size)[j]? = some r->Value.okWide P W' .any 0 t r) :
  s.post enc P f apart fresh handsOn again W args v W':=by
 have hlt:=fun p (hp:p∈before)=>hW.lt p hp
 have hold:∀ p∈before,(fun b=>decide (b<W.heap.size)) p.block=true:=fun p hp=>decide_eq_true (hlt p hp)
 refine ⟨ds,gs,before,[],pa,pv,hW,hres _ _ _,hargs _ hold,hvars _ hold,World.keptBut_mono (fun p hp=>⟨hp,Or.inr (by rw [hps] at hp; exact List.mem_append.1 hp)⟩) (hb.frame (· ∈ before)),fun _=>?_⟩
 obtain ⟨_,_,_,_,_,hz,hn⟩:=hW
 refine ⟨hok,_,_,([]++pa)++pv,⟨[]++pa,pv,trodAll_append (hargs _ (fun _ _=>rfl)) (hres _ _ _),hvars _ (fun _ _=>rfl),rfl,fun b off hp=>?_,fun ha=>?_⟩,fun p hp _=>?_⟩
 ·have hin:MemPlace.cell b off∈before:=by rw [hps]; simpa using hp
  rw [hb.frozen (hlt _ hin)]; exact hz b off hin
 ·have:=hn ha; rw [hps] at this; simpa using this
 ·rw [hps]; simpa using hp
end Go.Ev

namespace Go.Ev
set_option linter.unusedVariables false
def kM0 (j:IntKind) (κ:Nat->R):R:=@IntKind.rec (fun _=>R) (κ 256) (.fail "") (.fail "") (.fail "") (.fail "") (.fail "") (.fail "") (.fail "") j
def kM1 (j:IntKind) (κ:Nat->R):R:=@IntKind.rec (fun _=>R) (.fail "") (κ 65536) (.fail "") (.fail "") (.fail "") (.fail "") (.fail "") (.fail "") j
def kM2 (j:IntKind) (κ:Nat->R):R:=@IntKind.rec (fun _=>R) (.fail "") (.fail "") (κ 4294967296) (.fail "") (.fail "") (.fail "") (.fail "") (.fail "") j
def kM3 (j:IntKind) (κ:Nat->R):R:=@IntKind.rec (fun _=>R) (.fail "") (.fail "") (.fail "") (κ 18446744073709551616) (.fail "") (.fail "") (.fail "") (.fail "") j
def kM4 (j:IntKind) (κ:Nat->R):R:=@IntKind.rec (fun _=>R) (.fail "") (.fail "") (.fail "") (.fail "") (κ 256) (.fail "") (.fail "") (.fail "") j
def kM5 (j:IntKind) (κ:Nat->R):R:=@IntKind.rec (fun _=>R) (.fail "") (.fail "") (.fail "") (.fail "") (.fail "") (κ 65536) (.fail "") (.fail "") j
def kM6 (j:IntKind) (κ:Nat->R):R:=@IntKind.rec (fun _=>R) (.fail "") (.fail "") (.fail "") (.fail "") (.fail "") (.fail "") (κ 4294967296) (.fail "") j
def kM7 (j:IntKind) (κ:Nat->R):R:=@IntKind.rec (fun _=>R) (.fail "") (.fail "") (.fail "") (.fail "") (.fail "") (.fail "") (.fail "") (κ 18446744073709551616) j
def kM (k:IntKind):IntKind->(Nat->R)->R:=@IntKind.rec (fun _=>IntKind->(Nat->R)->R) kM0 kM1 kM2 kM3 kM4 kM5 kM6 kM7 k
def kH0 (j:IntKind) (κ:Nat->R):R:=@IntKind.rec (fun _=>R) (κ 128) (.fail "") (.fail "") (.fail "") (.fail "") (.fail "") (.fail "") (.fail "") j
def kH1 (j:IntKind) (κ:Nat->R):R:=@IntKind.rec (fun _=>R) (.fail "") (κ 32768) (.fail "") (.fail "") (.fail "") (.fail "") (.fail "") (.fail "") j
def kH2 (j:IntKind) (κ:Nat->R):R:=@IntKind.rec (fun _=>R) (.fail "") (.fail "") (κ 2147483648) (.fail "") (.fail "") (.fail "") (.fail "") (.fail "") j
def kH3 (j:IntKind) (κ:Nat->R):R:=@IntKind.rec (fun _=>R) (.fail "") (.fail "") (.fail "") (κ 9223372036854775808) (.fail "") (.fail "") (.fail "") (.fail "") j
def kH4 (j:IntKind) (κ:Nat->R):R:=@IntKind.rec (fun _=>R) (.fail "") (.fail "") (.fail "") (.fail "") (κ 256) (.fail "") (.fail "") (.fail "") j
def kH5 (j:IntKind) (κ:Nat->R):R:=@IntKind.rec (fun _=>R) (.fail "") (.fail "") (.fail "") (.fail "") (.fail "") (κ 65536) (.fail "") (.fail "") j
def kH6 (j:IntKind) (κ:Nat->R):R:=@IntKind.rec (fun _=>R) (.fail "") (.fail "") (.fail "") (.fail "") (.fail "") (.fail "") (κ 4294967296) (.fail "") j
def kH7 (j:IntKind) (κ:Nat->R):R:=@IntKind.rec (fun _=>R) (.fail "") (.fail "") (.fail "") (.fail "") (.fail "") (.fail "") (.fail "") (κ 18446744073709551616) j
def kH (k:IntKind):IntKind->(Nat->R)->R:=@IntKind.rec (fun _=>IntKind->(Nat->R)->R) kH0 kH1 kH2 kH3 kH4 kH5 kH6 kH7 k
def Zp (H a b:Nat):Bool:=br (Nat.ble H a) (br (Nat.ble H b) (Nat.ble (Nat.succ a) b) true) (br (Nat.ble H b) false (Nat.ble (Nat.succ a) b))
def Aq (v:V) (a b:R):R:=@V.rec (fun _=>R) (fun _=>Unit) (AT "") (fun q=>@Bool.rec (fun _=>R) b a q) (AT "") (DQ "") (AT "") (AT "") (Bb "") (Bb "") (C4 "") (AT "") (fun o=>@Ot.rec (fun _=>R) (.fail "") (fun _=>(.fail "")) (fun _=>(.fail "")) (.fail "") (fun _ _ _=>(.fail "")) (fun _ _=>(.fail "")) (.both a b) (fun _ _=>(.fail "")) (fun _ _ _ _=>(.fail "")) (fun _ _ _ _=>(.fail "")) (fun _ _ _=>(.fail "")) (fun _ _=>(.fail "")) o) () (fun _ _ _ _=>()) v
def Al (q a b:V) (κ:V->R):R:=@V.rec (fun _=>R) (fun _=>Unit) (AT "") (fun q=>@Bool.rec (fun _=>R) (κ b) (κ a) q) (AT "") (DQ "") (AT "") (AT "") (Bb "") (Bb "") (C4 "") (AT "") (Bb "") () (fun _ _ _ _=>()) q
theorem Uy (q a b:V) (κ:V->R):Al q a b κ=Lk q fun q=>br q (κ a) (κ b):=by cases q <;> rfl
def Ag (u v:V) (κ:V->R):R :=
 @V.rec (fun _=>R) (fun _=>Unit) (fun k a=>@V.rec (fun _=>R) (fun _=>Unit) (fun j b=>kM k j fun M=>Aj (Nat.mod (Nat.add a b) M) fun r=>κ (.int k r)) (Bb "") (AT "") (DQ "") (AT "") (AT "") (Bb "") (Bb "") (C4 "") (AT "") (fun _=>KB .add u v κ) () (fun _ _ _ _=>()) v) (Bb "") (AT "") (DQ "") (fun n c=>Bd v fun m d=>Xb n c m d κ) (AT "") (Bb "") (Bb "") (C4 "") (AT "") (fun _=>Cv .add u v κ) () (fun _ _ _ _=>()) u
def AI (u v:V) (κ:V->R):R :=
 @V.rec (fun _=>R) (fun _=>Unit) (fun k a=>@V.rec (fun _=>R) (fun _=>Unit) (fun j b=>kM k j fun M=>Aj (Nat.mod (Nat.add a (Nat.sub M b)) M) fun r=>κ (.int k r)) (Bb "") (AT "") (DQ "") (AT "") (AT "") (Bb "") (Bb "") (C4 "") (AT "") (fun _=>KB .sub u v κ) () (fun _ _ _ _=>()) v) (Bb "") (AT "") (DQ "") (fun n c=>Bd v fun m d=>.fail "") (AT "") (Bb "") (Bb "") (C4 "") (AT "") (fun _=>Cv .sub u v κ) () (fun _ _ _ _=>()) u
def BS (u v:V) (κ:V->R):R :=
 @V.rec (fun _=>R) (fun _=>Unit) (fun k a=>@V.rec (fun _=>R) (fun _=>Unit) (fun j b=>kM k j fun M=>Aj (Nat.mod (Nat.mul a b) M) fun r=>κ (.int k r)) (Bb "") (AT "") (DQ "") (AT "") (AT "") (Bb "") (Bb "") (C4 "") (AT "") (fun _=>KB .mul u v κ) () (fun _ _ _ _=>()) v) (Bb "") (AT "") (DQ "") (fun n c=>Bd v fun m d=>.fail "") (AT "") (Bb "") (Bb "") (C4 "") (AT "") (fun _=>Cv .mul u v κ) () (fun _ _ _ _=>()) u
def E3 (u v:V) (κ:V->R):R :=
 @V.rec (fun _=>R) (fun _=>Unit) (fun k a=>@V.rec (fun _=>R) (fun _=>Unit) (fun j b=>Sz k a j b κ) (Bb "") (AT "") (DQ "") (AT "") (AT "") (Bb "") (Bb "") (C4 "") (AT "") (fun _=>KB .quo u v κ) () (fun _ _ _ _=>()) v) (Bb "") (AT "") (DQ "") (fun n c=>Bd v fun m d=>.fail "") (AT "") (Bb "") (Bb "") (C4 "") (AT "") (fun _=>Cv .quo u v κ) () (fun _ _ _ _=>()) u
def GL (u v:V) (κ:V->R):R :=
 @V.rec (fun _=>R) (fun _=>Unit) (fun k a=>@V.rec (fun _=>R) (fun _=>Unit) (fun j b=>SE k a j b κ) (Bb "") (AT "") (DQ "") (AT "") (AT "") (Bb "") (Bb "") (C4 "") (AT "") (fun _=>KB .rem u v κ) () (fun _ _ _ _=>()) v) (Bb "") (AT "") (DQ "") (fun n c=>Bd v fun m d=>.fail "") (AT "") (Bb "") (Bb "") (C4 "") (AT "") (fun _=>Cv .rem u v κ) () (fun _ _ _ _=>()) u
def E5 (u v:V) (κ:V->R):R :=
 @V.rec (fun _=>R) (fun _=>Unit) (fun k a=>@V.rec (fun _=>R) (fun _=>Unit) (fun j b=>Vb k a j b κ) (Bb "") (AT "") (DQ "") (AT "") (AT "") (Bb "") (Bb "") (C4 "") (AT "") (fun _=>KB .and u v κ) () (fun _ _ _ _=>()) v) (Bb "") (AT "") (DQ "") (fun n c=>Bd v fun m d=>.fail "") (AT "") (Bb "") (Bb "") (C4 "") (AT "") (fun _=>Cv .and u v κ) () (fun _ _ _ _=>()) u
def NW (u v:V) (κ:V->R):R :=
 @V.rec (fun _=>R) (fun _=>Unit) (fun k a=>@V.rec (fun _=>R) (fun _=>Unit) (fun j b=>YY k a j b κ) (Bb "") (AT "") (DQ "") (AT "") (AT "") (Bb "") (Bb "") (C4 "") (AT "") (fun _=>KB .or u v κ) () (fun _ _ _ _=>()) v) (Bb "") (AT "") (DQ "") (fun n c=>Bd v fun m d=>.fail "") (AT "") (Bb "") (Bb "") (C4 "") (AT "") (fun _=>Cv .or u v κ) () (fun _ _ _ _=>()) u
def C5 (u v:V) (κ:V->R):R :=
 @V.rec (fun _=>R) (fun _=>Unit) (fun k a=>@V.rec (fun _=>R) (fun _=>Unit) (fun j b=>V9 k a j b κ) (Bb "") (AT "") (DQ "") (AT "") (AT "") (Bb "") (Bb "") (C4 "") (AT "") (fun _=>KB .xor u v κ) () (fun _ _ _ _=>()) v) (Bb "") (AT "") (DQ "") (fun n c=>Bd v fun m d=>.fail "") (AT "") (Bb "") (Bb "") (C4 "") (AT "") (fun _=>Cv .xor u v κ) () (fun _ _ _ _=>()) u
def I9 (u v:V) (κ:V->R):R :=
 @V.rec (fun _=>R) (fun _=>Unit) (fun k a=>@V.rec (fun _=>R) (fun _=>Unit) (fun j b=>U0 k a j b κ) (Bb "") (AT "") (DQ "") (AT "") (AT "") (Bb "") (Bb "") (C4 "") (AT "") (fun _=>KB .shl u v κ) () (fun _ _ _ _=>()) v) (Bb "") (AT "") (DQ "") (fun n c=>Bd v fun m d=>.fail "") (AT "") (Bb "") (Bb "") (C4 "") (AT "") (fun _=>Cv .shl u v κ) () (fun _ _ _ _=>()) u
def D4 (u v:V) (κ:V->R):R :=
 @V.rec (fun _=>R) (fun _=>Unit) (fun k a=>@V.rec (fun _=>R) (fun _=>Unit) (fun j b=>Sl k a j b κ) (Bb "") (AT "") (DQ "") (AT "") (AT "") (Bb "") (Bb "") (C4 "") (AT "") (fun _=>KB .shr u v κ) () (fun _ _ _ _=>()) v) (Bb "") (AT "") (DQ "") (fun n c=>Bd v fun m d=>.fail "") (AT "") (Bb "") (Bb "") (C4 "") (AT "") (fun _=>Cv .shr u v κ) () (fun _ _ _ _=>()) u
def UE (u v:V) (κ:V->R):R :=
 @V.rec (fun _=>R) (fun _=>Unit) (fun k a=>@V.rec (fun _=>R) (fun _=>Unit) (fun j b=>Pt k a j b κ) (Bb "") (AT "") (DQ "") (AT "") (AT "") (Bb "") (Bb "") (C4 "") (AT "") (fun _=>KB .andNot u v κ) () (fun _ _ _ _=>()) v) (Bb "") (AT "") (DQ "") (fun n c=>Bd v fun m d=>.fail "") (AT "") (Bb "") (Bb "") (C4 "") (AT "") (fun _=>Cv .andNot u v κ) () (fun _ _ _ _=>()) u
def Aw (u v:V) (κ:V->R):R :=
 @V.rec (fun _=>R) (fun _=>Unit) (fun k a=>@V.rec (fun _=>R) (fun _=>Unit) (fun j b=>kM k j fun _=>Cm (Nat.beq a b) fun r=>κ (.bool r)) (Bb "") (AT "") (DQ "") (AT "") (AT "") (Bb "") (Bb "") (C4 "") (AT "") (fun _=>KB .eql u v κ) () (fun _ _ _ _=>()) v) (Bb "") (AT "") (DQ "") (fun n c=>Bd v fun m d=>WV n c m d κ) (AT "") (Bb "") (Bb "") (C4 "") (AT "") (fun _=>Cv .eql u v κ) () (fun _ _ _ _=>()) u
def AM (u v:V) (κ:V->R):R :=
 @V.rec (fun _=>R) (fun _=>Unit) (fun k a=>@V.rec (fun _=>R) (fun _=>Unit) (fun j b=>kM k j fun _=>br (Nat.beq a b) (κ (.bool false)) (κ (.bool true))) (Bb "") (AT "") (DQ "") (AT "") (AT "") (Bb "") (Bb "") (C4 "") (AT "") (fun _=>KB .neq u v κ) () (fun _ _ _ _=>()) v) (Bb "") (AT "") (DQ "") (fun n c=>Bd v fun m d=>sne n c m d κ) (AT "") (Bb "") (Bb "") (C4 "") (AT "") (fun _=>Cv .neq u v κ) () (fun _ _ _ _=>()) u
def As (u v:V) (κ:V->R):R :=
 @V.rec (fun _=>R) (fun _=>Unit) (fun k a=>@V.rec (fun _=>R) (fun _=>Unit) (fun j b=>kH k j fun H=>Cm (Zp H a b) fun r=>κ (.bool r)) (Bb "") (AT "") (DQ "") (AT "") (AT "") (Bb "") (Bb "") (C4 "") (AT "") (fun _=>KB .lss u v κ) () (fun _ _ _ _=>()) v) (Bb "") (AT "") (DQ "") (fun n c=>Bd v fun m d=>slt n c m d κ) (AT "") (Bb "") (Bb "") (C4 "") (AT "") (fun _=>Cv .lss u v κ) () (fun _ _ _ _=>()) u
def Ca (u v:V) (κ:V->R):R :=
 @V.rec (fun _=>R) (fun _=>Unit) (fun k a=>@V.rec (fun _=>R) (fun _=>Unit) (fun j b=>kH k j fun H=>br (Zp H b a) (κ (.bool false)) (κ (.bool true))) (Bb "") (AT "") (DQ "") (AT "") (AT "") (Bb "") (Bb "") (C4 "") (AT "") (fun _=>KB .leq u v κ) () (fun _ _ _ _=>()) v) (Bb "") (AT "") (DQ "") (fun n c=>Bd v fun m d=>.fail "") (AT "") (Bb "") (Bb "") (C4 "") (AT "") (fun _=>Cv .leq u v κ) () (fun _ _ _ _=>()) u
def B7 (u v:V) (κ:V->R):R :=
 @V.rec (fun _=>R) (fun _=>Unit) (fun k a=>@V.rec (fun _=>R) (fun _=>Unit) (fun j b=>kH k j fun H=>Cm (Zp H b a) fun r=>κ (.bool r)) (Bb "") (AT "") (DQ "") (AT "") (AT "") (Bb "") (Bb "") (C4 "") (AT "") (fun _=>KB .gtr u v κ) () (fun _ _ _ _=>()) v) (Bb "") (AT "") (DQ "") (fun n c=>Bd v fun m d=>.fail "") (AT "") (Bb "") (Bb "") (C4 "") (AT "") (fun _=>Cv .gtr u v κ) () (fun _ _ _ _=>()) u
def Bf (u v:V) (κ:V->R):R :=
 @V.rec (fun _=>R) (fun _=>Unit) (fun k a=>@V.rec (fun _=>R) (fun _=>Unit) (fun j b=>kH k j fun H=>br (Zp H a b) (κ (.bool false)) (κ (.bool true))) (Bb "") (AT "") (DQ "") (AT "") (AT "") (Bb "") (Bb "") (C4 "") (AT "") (fun _=>KB .geq u v κ) () (fun _ _ _ _=>()) v) (Bb "") (AT "") (DQ "") (fun n c=>Bd v fun m d=>sge n c m d κ) (AT "") (Bb "") (Bb "") (C4 "") (AT "") (fun _=>Cv .geq u v κ) () (fun _ _ _ _=>()) u
abbrev WL (op:BinOp):V->V->(V->R)->R:=@BinOp.rec (fun _=>V->V->(V->R)->R) Ag AI BS E3 GL E5 NW C5 I9 D4 UE Aw AM As Ca B7 Bf op
theorem Vh (op:BinOp) (u v:V) (κ:V->R):WL op u v κ=Oo op u v κ:=by
 cases u with
 | int k a =>
  cases v with
  | int j b =>
   cases op
   case add=>cases k <;> cases j <;> rfl
   case sub=>cases k <;> cases j <;> rfl
   case mul=>cases k <;> cases j <;> rfl
   case eql=>cases k <;> cases j <;> rfl
   case neq=>cases k <;> cases j <;> rfl
   case lss=>cases k <;> cases j <;> rfl
   case leq=>cases k <;> cases j <;> rfl
   case gtr=>cases k <;> cases j <;> rfl
   case geq=>cases k <;> cases j <;> rfl
   all_goals rfl
  | _=>cases op <;> rfl
 | str n c=>cases op <;> rfl
 | _=>cases op <;> rfl
def Dy (m:Nat):List V->V->(List V->R)->R :=
 @Nat.rec (fun _=>List V->V->(List V->R)->R) (fun xs v k=>@List.rec V (fun _=>R) (.fail "") (fun _ ys _=>k (v::ys)) xs)
  (fun _ ih xs v k=>@List.rec V (fun _=>R) (.fail "") (fun x ys _=>ih ys v fun zs=>k (x::zs)) xs) m
def RL (off size:Nat) (z:List V) (κ:List V->R) (l:List V):R:=G4 l fun m=>br (Nat.beq m size) (LZ z off l κ) (.fail "")
def BF (off size:Nat) (v:V) (z:List V) (κ:List V->R):R:=Ec v (RL off size z κ)
def A9 (off:Nat) (v:V) (z:List V) (κ:List V->R):R :=
 @V.rec (fun _=>R) (fun _=>Unit) (fun _ _=>Dy off z v κ) (fun _=>Dy off z v κ) (fun _ _=>Dy off z v κ) (fun _ _ _ _ _ _=>Dy off z v κ) (fun _ _=>Dy off z v κ) (fun l _=>RL off 1 z κ l) (fun _=>Dy off z v κ) (fun _=>Dy off z v κ) (fun _ _ _=>Dy off z v κ) (AT "") (fun o=>@Ot.rec (fun _=>R) (.fail "") (fun _=>Dy off z v κ) (Bb "") (.fail "") (fun _ _ _=>Dy off z v κ) (fun _ _=>Dy off z v κ) (Dy off z v κ) (fun _ _=>Dy off z v κ) (fun _ _ _ _=>Dy off z v κ) (fun _ _ _ _=>Dy off z v κ) (fun _ _ _=>Dy off z v κ) (fun _ _=>Dy off z v κ) o) () (fun _ _ _ _=>()) v
theorem Lj (off:Nat):∀ (z:List V) (v:V) (κ:List V->R),Dy off z v κ=LZ z off [v] κ:=by
 induction off with
 | zero=>intro z v κ; cases z <;> rfl
 | succ off ih =>
  intro z v κ
  cases z with
  | nil=>rfl
  | cons x z =>
   have e1:Dy (off+1) (x::z) v κ=Dy off z v fun zs=>κ (x::zs):=rfl
   rw [e1,ih]
   have e2:LZ (x::z) (off+1) [v] κ=Df (off+1) (x::z) fun a=>DS (off+2) (x::z) fun b=>EF [v] b fun t=>EF a t κ:=rfl
   have e3:LZ z off [v] (fun zs=>κ (x::zs))=Df off z fun a=>DS (off+1) z fun b=>EF [v] b fun t=>EF a t fun zs=>κ (x::zs):=rfl
   rw [e2,e3]
   have e4:∀ F:List V->R,Df (off+1) (x::z) F=Df off z fun a=>F (x::a):=fun F=>rfl
   rw [e4]; rfl
theorem PW (off:Nat) (v:V) (z:List V) (κ:List V->R):A9 off v z κ=BF off 1 v z κ:=by
 cases v with
 | agg l=>rfl
 | tup l=>rfl
 | oth o=>cases o with
  | any=>rfl
  | yl p=>rfl
  | no=>rfl
  | _=>exact Lj off z _ κ
 | _=>exact Lj off z _ κ
abbrev IS (off size:Nat) (v:V) (z:List V) (κ:List V->R):R:=@Bool.rec (fun _=>R) (BF off size v z κ) (A9 off v z κ) (Nat.beq size 1)
theorem QG (off size:Nat) (v:V) (z:List V) (κ:List V->R):IS off size v z κ=BF off size v z κ:=by
 unfold IS
 cases hb:Nat.beq size 1 with
 | true=>rw [Nat.eq_of_beq_eq_true hb]; exact PW off v z κ
 | false=>rfl
def HA.selR (d:D):HA->(Cu->R)->R :=
 @D.rec (fun _=>HA->(Cu->R)->R) (fun p k=>@HA.rec (fun _=>R) (fun c0 c1 c2 c3 c4 c5 c6 c7 c8 c9 ca cb cc cd ce cf=>k c0) p) (fun p k=>@HA.rec (fun _=>R) (fun c0 c1 c2 c3 c4 c5 c6 c7 c8 c9 ca cb cc cd ce cf=>k c1) p) (fun p k=>@HA.rec (fun _=>R) (fun c0 c1 c2 c3 c4 c5 c6 c7 c8 c9 ca cb cc cd ce cf=>k c2) p) (fun p k=>@HA.rec (fun _=>R) (fun c0 c1 c2 c3 c4 c5 c6 c7 c8 c9 ca cb cc cd ce cf=>k c3) p) (fun p k=>@HA.rec (fun _=>R) (fun c0 c1 c2 c3 c4 c5 c6 c7 c8 c9 ca cb cc cd ce cf=>k c4) p) (fun p k=>@HA.rec (fun _=>R) (fun c0 c1 c2 c3 c4 c5 c6 c7 c8 c9 ca cb cc cd ce cf=>k c5) p) (fun p k=>@HA.rec (fun _=>R) (fun c0 c1 c2 c3 c4 c5 c6 c7 c8 c9 ca cb cc cd ce cf=>k c6) p) (fun p k=>@HA.rec (fun _=>R) (fun c0 c1 c2 c3 c4 c5 c6 c7 c8 c9 ca cb cc cd ce cf=>k c7) p) (fun p k=>@HA.rec (fun _=>R) (fun c0 c1 c2 c3 c4 c5 c6 c7 c8 c9 ca cb cc cd ce cf=>k c8) p) (fun p k=>@HA.rec (fun _=>R) (fun c0 c1 c2 c3 c4 c5 c6 c7 c8 c9 ca cb cc cd ce cf=>k c9) p) (fun p k=>@HA.rec (fun _=>R) (fun c0 c1 c2 c3 c4 c5 c6 c7 c8 c9 ca cb cc cd ce cf=>k ca) p) (fun p k=>@HA.rec (fun _=>R) (fun c0 c1 c2 c3 c4 c5 c6 c7 c8 c9 ca cb cc cd ce cf=>k cb) p) (fun p k=>@HA.rec (fun _=>R) (fun c0 c1 c2 c3 c4 c5 c6 c7 c8 c9 ca cb cc cd ce cf=>k cc) p) (fun p k=>@HA.rec (fun _=>R) (fun c0 c1 c2 c3 c4 c5 c6 c7 c8 c9 ca cb cc cd ce cf=>k cd) p) (fun p k=>@HA.rec (fun _=>R) (fun c0 c1 c2 c3 c4 c5 c6 c7 c8 c9 ca cb cc cd ce cf=>k ce) p) (fun p k=>@HA.rec (fun _=>R) (fun c0 c1 c2 c3 c4 c5 c6 c7 c8 c9 ca cb cc cd ce cf=>k cf) p) d
theorem HA.selR_eq (d:D) (p:HA) (k:Cu->R):HA.selR d p k=k (HA.sel d p):=by
 cases d <;> cases p <;> rfl
def HA.opR (d:D):HA->(Cu->(Cu->(HA->R)->R)->R)->R :=
 @D.rec (fun _=>HA->(Cu->(Cu->(HA->R)->R)->R)->R) (fun p k=>@HA.rec (fun _=>R) (fun c0 c1 c2 c3 c4 c5 c6 c7 c8 c9 ca cb cc cd ce cf=>k c0 fun v q=>q (.mk v c1 c2 c3 c4 c5 c6 c7 c8 c9 ca cb cc cd ce cf)) p) (fun p k=>@HA.rec (fun _=>R) (fun c0 c1 c2 c3 c4 c5 c6 c7 c8 c9 ca cb cc cd ce cf=>k c1 fun v q=>q (.mk c0 v c2 c3 c4 c5 c6 c7 c8 c9 ca cb cc cd ce cf)) p) (fun p k=>@HA.rec (fun _=>R) (fun c0 c1 c2 c3 c4 c5 c6 c7 c8 c9 ca cb cc cd ce cf=>k c2 fun v q=>q (.mk c0 c1 v c3 c4 c5 c6 c7 c8 c9 ca cb cc cd ce cf)) p) (fun p k=>@HA.rec (fun _=>R) (fun c0 c1 c2 c3 c4 c5 c6 c7 c8 c9 ca cb cc cd ce cf=>k c3 fun v q=>q (.mk c0 c1 c2 v c4 c5 c6 c7 c8 c9 ca cb cc cd ce cf)) p) (fun p k=>@HA.rec (fun _=>R) (fun c0 c1 c2 c3 c4 c5 c6 c7 c8 c9 ca cb cc cd ce cf=>k c4 fun v q=>q (.mk c0 c1 c2 c3 v c5 c6 c7 c8 c9 ca cb cc cd ce cf)) p) (fun p k=>@HA.rec (fun _=>R) (fun c0 c1 c2 c3 c4 c5 c6 c7 c8 c9 ca cb cc cd ce cf=>k c5 fun v q=>q (.mk c0 c1 c2 c3 c4 v c6 c7 c8 c9 ca cb cc cd ce cf)) p) (fun p k=>@HA.rec (fun _=>R) (fun c0 c1 c2 c3 c4 c5 c6 c7 c8 c9 ca cb cc cd ce cf=>k c6 fun v q=>q (.mk c0 c1 c2 c3 c4 c5 v c7 c8 c9 ca cb cc cd ce cf)) p) (fun p k=>@HA.rec (fun _=>R) (fun c0 c1 c2 c3 c4 c5 c6 c7 c8 c9 ca cb cc cd ce cf=>k c7 fun v q=>q (.mk c0 c1 c2 c3 c4 c5 c6 v c8 c9 ca cb cc cd ce cf)) p) (fun p k=>@HA.rec (fun _=>R) (fun c0 c1 c2 c3 c4 c5 c6 c7 c8 c9 ca cb cc cd ce cf=>k c8 fun v q=>q (.mk c0 c1 c2 c3 c4 c5 c6 c7 v c9 ca cb cc cd ce cf)) p) (fun p k=>@HA.rec (fun _=>R) (fun c0 c1 c2 c3 c4 c5 c6 c7 c8 c9 ca cb cc cd ce cf=>k c9 fun v q=>q (.mk c0 c1 c2 c3 c4 c5 c6 c7 c8 v ca cb cc cd ce cf)) p) (fun p k=>@HA.rec (fun _=>R) (fun c0 c1 c2 c3 c4 c5 c6 c7 c8 c9 ca cb cc cd ce cf=>k ca fun v q=>q (.mk c0 c1 c2 c3 c4 c5 c6 c7 c8 c9 v cb cc cd ce cf)) p) (fun p k=>@HA.rec (fun _=>R) (fun c0 c1 c2 c3 c4 c5 c6 c7 c8 c9 ca cb cc cd ce cf=>k cb fun v q=>q (.mk c0 c1 c2 c3 c4 c5 c6 c7 c8 c9 ca v cc cd ce cf)) p) (fun p k=>@HA.rec (fun _=>R) (fun c0 c1 c2 c3 c4 c5 c6 c7 c8 c9 ca cb cc cd ce cf=>k cc fun v q=>q (.mk c0 c1 c2 c3 c4 c5 c6 c7 c8 c9 ca cb v cd ce cf)) p) (fun p k=>@HA.rec (fun _=>R) (fun c0 c1 c2 c3 c4 c5 c6 c7 c8 c9 ca cb cc cd ce cf=>k cd fun v q=>q (.mk c0 c1 c2 c3 c4 c5 c6 c7 c8 c9 ca cb cc v ce cf)) p) (fun p k=>@HA.rec (fun _=>R) (fun c0 c1 c2 c3 c4 c5 c6 c7 c8 c9 ca cb cc cd ce cf=>k ce fun v q=>q (.mk c0 c1 c2 c3 c4 c5 c6 c7 c8 c9 ca cb cc cd v cf)) p) (fun p k=>@HA.rec (fun _=>R) (fun c0 c1 c2 c3 c4 c5 c6 c7 c8 c9 ca cb cc cd ce cf=>k cf fun v q=>q (.mk c0 c1 c2 c3 c4 c5 c6 c7 c8 c9 ca cb cc cd ce v)) p) d
theorem HA.opR_eq (d:D) (p:HA) (k:Cu->(Cu->(HA->R)->R)->R):HA.opR d p k=k (HA.sel d p) fun v q=>q (HA.setS d p v):=by
 cases d <;> cases p <;> rfl
def HB.selR (d:D):HB->(HA->R)->R :=
 @D.rec (fun _=>HB->(HA->R)->R) (fun p k=>@HB.rec (fun _=>R) (fun c0 c1 c2 c3 c4 c5 c6 c7 c8 c9 ca cb cc cd ce cf=>k c0) p) (fun p k=>@HB.rec (fun _=>R) (fun c0 c1 c2 c3 c4 c5 c6 c7 c8 c9 ca cb cc cd ce cf=>k c1) p) (fun p k=>@HB.rec (fun _=>R) (fun c0 c1 c2 c3 c4 c5 c6 c7 c8 c9 ca cb cc cd ce cf=>k c2) p) (fun p k=>@HB.rec (fun _=>R) (fun c0 c1 c2 c3 c4 c5 c6 c7 c8 c9 ca cb cc cd ce cf=>k c3) p) (fun p k=>@HB.rec (fun _=>R) (fun c0 c1 c2 c3 c4 c5 c6 c7 c8 c9 ca cb cc cd ce cf=>k c4) p) (fun p k=>@HB.rec (fun _=>R) (fun c0 c1 c2 c3 c4 c5 c6 c7 c8 c9 ca cb cc cd ce cf=>k c5) p) (fun p k=>@HB.rec (fun _=>R) (fun c0 c1 c2 c3 c4 c5 c6 c7 c8 c9 ca cb cc cd ce cf=>k c6) p) (fun p k=>@HB.rec (fun _=>R) (fun c0 c1 c2 c3 c4 c5 c6 c7 c8 c9 ca cb cc cd ce cf=>k c7) p) (fun p k=>@HB.rec (fun _=>R) (fun c0 c1 c2 c3 c4 c5 c6 c7 c8 c9 ca cb cc cd ce cf=>k c8) p) (fun p k=>@HB.rec (fun _=>R) (fun c0 c1 c2 c3 c4 c5 c6 c7 c8 c9 ca cb cc cd ce cf=>k c9) p) (fun p k=>@HB.rec (fun _=>R) (fun c0 c1 c2 c3 c4 c5 c6 c7 c8 c9 ca cb cc cd ce cf=>k ca) p) (fun p k=>@HB.rec (fun _=>R) (fun c0 c1 c2 c3 c4 c5 c6 c7 c8 c9 ca cb cc cd ce cf=>k cb) p) (fun p k=>@HB.rec (fun _=>R) (fun c0 c1 c2 c3 c4 c5 c6 c7 c8 c9 ca cb cc cd ce cf=>k cc) p) (fun p k=>@HB.rec (fun _=>R) (fun c0 c1 c2 c3 c4 c5 c6 c7 c8 c9 ca cb cc cd ce cf=>k cd) p) (fun p k=>@HB.rec (fun _=>R) (fun c0 c1 c2 c3 c4 c5 c6 c7 c8 c9 ca cb cc cd ce cf=>k ce) p) (fun p k=>@HB.rec (fun _=>R) (fun c0 c1 c2 c3 c4 c5 c6 c7 c8 c9 ca cb cc cd ce cf=>k cf) p) d
theorem HB.selR_eq (d:D) (p:HB) (k:HA->R):HB.selR d p k=k (HB.sel d p):=by
 cases d <;> cases p <;> rfl
def HB.opR (d:D):HB->(HA->(HA->(HB->R)->R)->R)->R :=
 @D.rec (fun _=>HB->(HA->(HA->(HB->R)->R)->R)->R) (fun p k=>@HB.rec (fun _=>R) (fun c0 c1 c2 c3 c4 c5 c6 c7 c8 c9 ca cb cc cd ce cf=>k c0 fun v q=>q (.mk v c1 c2 c3 c4 c5 c6 c7 c8 c9 ca cb cc cd ce cf)) p) (fun p k=>@HB.rec (fun _=>R) (fun c0 c1 c2 c3 c4 c5 c6 c7 c8 c9 ca cb cc cd ce cf=>k c1 fun v q=>q (.mk c0 v c2 c3 c4 c5 c6 c7 c8 c9 ca cb cc cd ce cf)) p) (fun p k=>@HB.rec (fun _=>R) (fun c0 c1 c2 c3 c4 c5 c6 c7 c8 c9 ca cb cc cd ce cf=>k c2 fun v q=>q (.mk c0 c1 v c3 c4 c5 c6 c7 c8 c9 ca cb cc cd ce cf)) p) (fun p k=>@HB.rec (fun _=>R) (fun c0 c1 c2 c3 c4 c5 c6 c7 c8 c9 ca cb cc cd ce cf=>k c3 fun v q=>q (.mk c0 c1 c2 v c4 c5 c6 c7 c8 c9 ca cb cc cd ce cf)) p) (fun p k=>@HB.rec (fun _=>R) (fun c0 c1 c2 c3 c4 c5 c6 c7 c8 c9 ca cb cc cd ce cf=>k c4 fun v q=>q (.mk c0 c1 c2 c3 v c5 c6 c7 c8 c9 ca cb cc cd ce cf)) p) (fun p k=>@HB.rec (fun _=>R) (fun c0 c1 c2 c3 c4 c5 c6 c7 c8 c9 ca cb cc cd ce cf=>k c5 fun v q=>q (.mk c0 c1 c2 c3 c4 v c6 c7 c8 c9 ca cb cc cd ce cf)) p) (fun p k=>@HB.rec (fun _=>R) (fun c0 c1 c2 c3 c4 c5 c6 c7 c8 c9 ca cb cc cd ce cf=>k c6 fun v q=>q (.mk c0 c1 c2 c3 c4 c5 v c7 c8 c9 ca cb cc cd ce cf)) p) (fun p k=>@HB.rec (fun _=>R) (fun c0 c1 c2 c3 c4 c5 c6 c7 c8 c9 ca cb cc cd ce cf=>k c7 fun v q=>q (.mk c0 c1 c2 c3 c4 c5 c6 v c8 c9 ca cb cc cd ce cf)) p) (fun p k=>@HB.rec (fun _=>R) (fun c0 c1 c2 c3 c4 c5 c6 c7 c8 c9 ca cb cc cd ce cf=>k c8 fun v q=>q (.mk c0 c1 c2 c3 c4 c5 c6 c7 v c9 ca cb cc cd ce cf)) p) (fun p k=>@HB.rec (fun _=>R) (fun c0 c1 c2 c3 c4 c5 c6 c7 c8 c9 ca cb cc cd ce cf=>k c9 fun v q=>q (.mk c0 c1 c2 c3 c4 c5 c6 c7 c8 v ca cb cc cd ce cf)) p) (fun p k=>@HB.rec (fun _=>R) (fun c0 c1 c2 c3 c4 c5 c6 c7 c8 c9 ca cb cc cd ce cf=>k ca fun v q=>q (.mk c0 c1 c2 c3 c4 c5 c6 c7 c8 c9 v cb cc cd ce cf)) p) (fun p k=>@HB.rec (fun _=>R) (fun c0 c1 c2 c3 c4 c5 c6 c7 c8 c9 ca cb cc cd ce cf=>k cb fun v q=>q (.mk c0 c1 c2 c3 c4 c5 c6 c7 c8 c9 ca v cc cd ce cf)) p) (fun p k=>@HB.rec (fun _=>R) (fun c0 c1 c2 c3 c4 c5 c6 c7 c8 c9 ca cb cc cd ce cf=>k cc fun v q=>q (.mk c0 c1 c2 c3 c4 c5 c6 c7 c8 c9 ca cb v cd ce cf)) p) (fun p k=>@HB.rec (fun _=>R) (fun c0 c1 c2 c3 c4 c5 c6 c7 c8 c9 ca cb cc cd ce cf=>k cd fun v q=>q (.mk c0 c1 c2 c3 c4 c5 c6 c7 c8 c9 ca cb cc v ce cf)) p) (fun p k=>@HB.rec (fun _=>R) (fun c0 c1 c2 c3 c4 c5 c6 c7 c8 c9 ca cb cc cd ce cf=>k ce fun v q=>q (.mk c0 c1 c2 c3 c4 c5 c6 c7 c8 c9 ca cb cc cd v cf)) p) (fun p k=>@HB.rec (fun _=>R) (fun c0 c1 c2 c3 c4 c5 c6 c7 c8 c9 ca cb cc cd ce cf=>k cf fun v q=>q (.mk c0 c1 c2 c3 c4 c5 c6 c7 c8 c9 ca cb cc cd ce v)) p) d
theorem HB.opR_eq (d:D) (p:HB) (k:HA->(HA->(HB->R)->R)->R):HB.opR d p k=k (HB.sel d p) fun v q=>q (HB.setS d p v):=by
 cases d <;> cases p <;> rfl
def HC.selR (d:D):HC->(HB->R)->R :=
 @D.rec (fun _=>HC->(HB->R)->R) (fun p k=>@HC.rec (fun _=>R) (fun c0 c1 c2 c3 c4 c5 c6 c7 c8 c9 ca cb cc cd ce cf=>k c0) p) (fun p k=>@HC.rec (fun _=>R) (fun c0 c1 c2 c3 c4 c5 c6 c7 c8 c9 ca cb cc cd ce cf=>k c1) p) (fun p k=>@HC.rec (fun _=>R) (fun c0 c1 c2 c3 c4 c5 c6 c7 c8 c9 ca cb cc cd ce cf=>k c2) p) (fun p k=>@HC.rec (fun _=>R) (fun c0 c1 c2 c3 c4 c5 c6 c7 c8 c9 ca cb cc cd ce cf=>k c3) p) (fun p k=>@HC.rec (fun _=>R) (fun c0 c1 c2 c3 c4 c5 c6 c7 c8 c9 ca cb cc cd ce cf=>k c4) p) (fun p k=>@HC.rec (fun _=>R) (fun c0 c1 c2 c3 c4 c5 c6 c7 c8 c9 ca cb cc cd ce cf=>k c5) p) (fun p k=>@HC.rec (fun _=>R) (fun c0 c1 c2 c3 c4 c5 c6 c7 c8 c9 ca cb cc cd ce cf=>k c6) p) (fun p k=>@HC.rec (fun _=>R) (fun c0 c1 c2 c3 c4 c5 c6 c7 c8 c9 ca cb cc cd ce cf=>k c7) p) (fun p k=>@HC.rec (fun _=>R) (fun c0 c1 c2 c3 c4 c5 c6 c7 c8 c9 ca cb cc cd ce cf=>k c8) p) (fun p k=>@HC.rec (fun _=>R) (fun c0 c1 c2 c3 c4 c5 c6 c7 c8 c9 ca cb cc cd ce cf=>k c9) p) (fun p k=>@HC.rec (fun _=>R) (fun c0 c1 c2 c3 c4 c5 c6 c7 c8 c9 ca cb cc cd ce cf=>k ca) p) (fun p k=>@HC.rec (fun _=>R) (fun c0 c1 c2 c3 c4 c5 c6 c7 c8 c9 ca cb cc cd ce cf=>k cb) p) (fun p k=>@HC.rec (fun _=>R) (fun c0 c1 c2 c3 c4 c5 c6 c7 c8 c9 ca cb cc cd ce cf=>k cc) p) (fun p k=>@HC.rec (fun _=>R) (fun c0 c1 c2 c3 c4 c5 c6 c7 c8 c9 ca cb cc cd ce cf=>k cd) p) (fun p k=>@HC.rec (fun _=>R) (fun c0 c1 c2 c3 c4 c5 c6 c7 c8 c9 ca cb cc cd ce cf=>k ce) p) (fun p k=>@HC.rec (fun _=>R) (fun c0 c1 c2 c3 c4 c5 c6 c7 c8 c9 ca cb cc cd ce cf=>k cf) p) d
theorem HC.selR_eq (d:D) (p:HC) (k:HB->R):HC.selR d p k=k (HC.sel d p):=by
 cases d <;> cases p <;> rfl
def HC.opR (d:D):HC->(HB->(HB->(HC->R)->R)->R)->R :=
 @D.rec (fun _=>HC->(HB->(HB->(HC->R)->R)->R)->R) (fun p k=>@HC.rec (fun _=>R) (fun c0 c1 c2 c3 c4 c5 c6 c7 c8 c9 ca cb cc cd ce cf=>k c0 fun v q=>q (.mk v c1 c2 c3 c4 c5 c6 c7 c8 c9 ca cb cc cd ce cf)) p) (fun p k=>@HC.rec (fun _=>R) (fun c0 c1 c2 c3 c4 c5 c6 c7 c8 c9 ca cb cc cd ce cf=>k c1 fun v q=>q (.mk c0 v c2 c3 c4 c5 c6 c7 c8 c9 ca cb cc cd ce cf)) p) (fun p k=>@HC.rec (fun _=>R) (fun c0 c1 c2 c3 c4 c5 c6 c7 c8 c9 ca cb cc cd ce cf=>k c2 fun v q=>q (.mk c0 c1 v c3 c4 c5 c6 c7 c8 c9 ca cb cc cd ce cf)) p) (fun p k=>@HC.rec (fun _=>R) (fun c0 c1 c2 c3 c4 c5 c6 c7 c8 c9 ca cb cc cd ce cf=>k c3 fun v q=>q (.mk c0 c1 c2 v c4 c5 c6 c7 c8 c9 ca cb cc cd ce cf)) p) (fun p k=>@HC.rec (fun _=>R) (fun c0 c1 c2 c3 c4 c5 c6 c7 c8 c9 ca cb cc cd ce cf=>k c4 fun v q=>q (.mk c0 c1 c2 c3 v c5 c6 c7 c8 c9 ca cb cc cd ce cf)) p) (fun p k=>@HC.rec (fun _=>R) (fun c0 c1 c2 c3 c4 c5 c6 c7 c8 c9 ca cb cc cd ce cf=>k c5 fun v q=>q (.mk c0 c1 c2 c3 c4 v c6 c7 c8 c9 ca cb cc cd ce cf)) p) (fun p k=>@HC.rec (fun _=>R) (fun c0 c1 c2 c3 c4 c5 c6 c7 c8 c9 ca cb cc cd ce cf=>k c6 fun v q=>q (.mk c0 c1 c2 c3 c4 c5 v c7 c8 c9 ca cb cc cd ce cf)) p) (fun p k=>@HC.rec (fun _=>R) (fun c0 c1 c2 c3 c4 c5 c6 c7 c8 c9 ca cb cc cd ce cf=>k c7 fun v q=>q (.mk c0 c1 c2 c3 c4 c5 c6 v c8 c9 ca cb cc cd ce cf)) p) (fun p k=>@HC.rec (fun _=>R) (fun c0 c1 c2 c3 c4 c5 c6 c7 c8 c9 ca cb cc cd ce cf=>k c8 fun v q=>q (.mk c0 c1 c2 c3 c4 c5 c6 c7 v c9 ca cb cc cd ce cf)) p) (fun p k=>@HC.rec (fun _=>R) (fun c0 c1 c2 c3 c4 c5 c6 c7 c8 c9 ca cb cc cd ce cf=>k c9 fun v q=>q (.mk c0 c1 c2 c3 c4 c5 c6 c7 c8 v ca cb cc cd ce cf)) p) (fun p k=>@HC.rec (fun _=>R) (fun c0 c1 c2 c3 c4 c5 c6 c7 c8 c9 ca cb cc cd ce cf=>k ca fun v q=>q (.mk c0 c1 c2 c3 c4 c5 c6 c7 c8 c9 v cb cc cd ce cf)) p) (fun p k=>@HC.rec (fun _=>R) (fun c0 c1 c2 c3 c4 c5 c6 c7 c8 c9 ca cb cc cd ce cf=>k cb fun v q=>q (.mk c0 c1 c2 c3 c4 c5 c6 c7 c8 c9 ca v cc cd ce cf)) p) (fun p k=>@HC.rec (fun _=>R) (fun c0 c1 c2 c3 c4 c5 c6 c7 c8 c9 ca cb cc cd ce cf=>k cc fun v q=>q (.mk c0 c1 c2 c3 c4 c5 c6 c7 c8 c9 ca cb v cd ce cf)) p) (fun p k=>@HC.rec (fun _=>R) (fun c0 c1 c2 c3 c4 c5 c6 c7 c8 c9 ca cb cc cd ce cf=>k cd fun v q=>q (.mk c0 c1 c2 c3 c4 c5 c6 c7 c8 c9 ca cb cc v ce cf)) p) (fun p k=>@HC.rec (fun _=>R) (fun c0 c1 c2 c3 c4 c5 c6 c7 c8 c9 ca cb cc cd ce cf=>k ce fun v q=>q (.mk c0 c1 c2 c3 c4 c5 c6 c7 c8 c9 ca cb cc cd v cf)) p) (fun p k=>@HC.rec (fun _=>R) (fun c0 c1 c2 c3 c4 c5 c6 c7 c8 c9 ca cb cc cd ce cf=>k cf fun v q=>q (.mk c0 c1 c2 c3 c4 c5 c6 c7 c8 c9 ca cb cc cd ce v)) p) d
theorem HC.opR_eq (d:D) (p:HC) (k:HB->(HB->(HC->R)->R)->R):HC.opR d p k=k (HC.sel d p) fun v q=>q (HC.setS d p v):=by
 cases d <;> cases p <;> rfl
def Heap.selR (d:D):Heap->(HC->R)->R :=
 @D.rec (fun _=>Heap->(HC->R)->R) (fun p k=>@Heap.rec (fun _=>R) (fun c0 c1 c2 c3 c4 c5 c6 c7 c8 c9 ca cb cc cd ce cf=>k c0) p) (fun p k=>@Heap.rec (fun _=>R) (fun c0 c1 c2 c3 c4 c5 c6 c7 c8 c9 ca cb cc cd ce cf=>k c1) p) (fun p k=>@Heap.rec (fun _=>R) (fun c0 c1 c2 c3 c4 c5 c6 c7 c8 c9 ca cb cc cd ce cf=>k c2) p) (fun p k=>@Heap.rec (fun _=>R) (fun c0 c1 c2 c3 c4 c5 c6 c7 c8 c9 ca cb cc cd ce cf=>k c3) p) (fun p k=>@Heap.rec (fun _=>R) (fun c0 c1 c2 c3 c4 c5 c6 c7 c8 c9 ca cb cc cd ce cf=>k c4) p) (fun p k=>@Heap.rec (fun _=>R) (fun c0 c1 c2 c3 c4 c5 c6 c7 c8 c9 ca cb cc cd ce cf=>k c5) p) (fun p k=>@Heap.rec (fun _=>R) (fun c0 c1 c2 c3 c4 c5 c6 c7 c8 c9 ca cb cc cd ce cf=>k c6) p) (fun p k=>@Heap.rec (fun _=>R) (fun c0 c1 c2 c3 c4 c5 c6 c7 c8 c9 ca cb cc cd ce cf=>k c7) p) (fun p k=>@Heap.rec (fun _=>R) (fun c0 c1 c2 c3 c4 c5 c6 c7 c8 c9 ca cb cc cd ce cf=>k c8) p) (fun p k=>@Heap.rec (fun _=>R) (fun c0 c1 c2 c3 c4 c5 c6 c7 c8 c9 ca cb cc cd ce cf=>k c9) p) (fun p k=>@Heap.rec (fun _=>R) (fun c0 c1 c2 c3 c4 c5 c6 c7 c8 c9 ca cb cc cd ce cf=>k ca) p) (fun p k=>@Heap.rec (fun _=>R) (fun c0 c1 c2 c3 c4 c5 c6 c7 c8 c9 ca cb cc cd ce cf=>k cb) p) (fun p k=>@Heap.rec (fun _=>R) (fun c0 c1 c2 c3 c4 c5 c6 c7 c8 c9 ca cb cc cd ce cf=>k cc) p) (fun p k=>@Heap.rec (fun _=>R) (fun c0 c1 c2 c3 c4 c5 c6 c7 c8 c9 ca cb cc cd ce cf=>k cd) p) (fun p k=>@Heap.rec (fun _=>R) (fun c0 c1 c2 c3 c4 c5 c6 c7 c8 c9 ca cb cc cd ce cf=>k ce) p) (fun p k=>@Heap.rec (fun _=>R) (fun c0 c1 c2 c3 c4 c5 c6 c7 c8 c9 ca cb cc cd ce cf=>k cf) p) d
theorem Heap.selR_eq (d:D) (p:Heap) (k:HC->R):Heap.selR d p k=k (Heap.sel d p):=by
 cases d <;> cases p <;> rfl
def Heap.opR (d:D):Heap->(HC->(HC->(Heap->R)->R)->R)->R :=
 @D.rec (fun _=>Heap->(HC->(HC->(Heap->R)->R)->R)->R) (fun p k=>@Heap.rec (fun _=>R) (fun c0 c1 c2 c3 c4 c5 c6 c7 c8 c9 ca cb cc cd ce cf=>k c0 fun v q=>q (.mk v c1 c2 c3 c4 c5 c6 c7 c8 c9 ca cb cc cd ce cf)) p) (fun p k=>@Heap.rec (fun _=>R) (fun c0 c1 c2 c3 c4 c5 c6 c7 c8 c9 ca cb cc cd ce cf=>k c1 fun v q=>q (.mk c0 v c2 c3 c4 c5 c6 c7 c8 c9 ca cb cc cd ce cf)) p) (fun p k=>@Heap.rec (fun _=>R) (fun c0 c1 c2 c3 c4 c5 c6 c7 c8 c9 ca cb cc cd ce cf=>k c2 fun v q=>q (.mk c0 c1 v c3 c4 c5 c6 c7 c8 c9 ca cb cc cd ce cf)) p) (fun p k=>@Heap.rec (fun _=>R) (fun c0 c1 c2 c3 c4 c5 c6 c7 c8 c9 ca cb cc cd ce cf=>k c3 fun v q=>q (.mk c0 c1 c2 v c4 c5 c6 c7 c8 c9 ca cb cc cd ce cf)) p) (fun p k=>@Heap.rec (fun _=>R) (fun c0 c1 c2 c3 c4 c5 c6 c7 c8 c9 ca cb cc cd ce cf=>k c4 fun v q=>q (.mk c0 c1 c2 c3 v c5 c6 c7 c8 c9 ca cb cc cd ce cf)) p) (fun p k=>@Heap.rec (fun _=>R) (fun c0 c1 c2 c3 c4 c5 c6 c7 c8 c9 ca cb cc cd ce cf=>k c5 fun v q=>q (.mk c0 c1 c2 c3 c4 v c6 c7 c8 c9 ca cb cc cd ce cf)) p) (fun p k=>@Heap.rec (fun _=>R) (fun c0 c1 c2 c3 c4 c5 c6 c7 c8 c9 ca cb cc cd ce cf=>k c6 fun v q=>q (.mk c0 c1 c2 c3 c4 c5 v c7 c8 c9 ca cb cc cd ce cf)) p) (fun p k=>@Heap.rec (fun _=>R) (fun c0 c1 c2 c3 c4 c5 c6 c7 c8 c9 ca cb cc cd ce cf=>k c7 fun v q=>q (.mk c0 c1 c2 c3 c4 c5 c6 v c8 c9 ca cb cc cd ce cf)) p) (fun p k=>@Heap.rec (fun _=>R) (fun c0 c1 c2 c3 c4 c5 c6 c7 c8 c9 ca cb cc cd ce cf=>k c8 fun v q=>q (.mk c0 c1 c2 c3 c4 c5 c6 c7 v c9 ca cb cc cd ce cf)) p) (fun p k=>@Heap.rec (fun _=>R) (fun c0 c1 c2 c3 c4 c5 c6 c7 c8 c9 ca cb cc cd ce cf=>k c9 fun v q=>q (.mk c0 c1 c2 c3 c4 c5 c6 c7 c8 v ca cb cc cd ce cf)) p) (fun p k=>@Heap.rec (fun _=>R) (fun c0 c1 c2 c3 c4 c5 c6 c7 c8 c9 ca cb cc cd ce cf=>k ca fun v q=>q (.mk c0 c1 c2 c3 c4 c5 c6 c7 c8 c9 v cb cc cd ce cf)) p) (fun p k=>@Heap.rec (fun _=>R) (fun c0 c1 c2 c3 c4 c5 c6 c7 c8 c9 ca cb cc cd ce cf=>k cb fun v q=>q (.mk c0 c1 c2 c3 c4 c5 c6 c7 c8 c9 ca v cc cd ce cf)) p) (fun p k=>@Heap.rec (fun _=>R) (fun c0 c1 c2 c3 c4 c5 c6 c7 c8 c9 ca cb cc cd ce cf=>k cc fun v q=>q (.mk c0 c1 c2 c3 c4 c5 c6 c7 c8 c9 ca cb v cd ce cf)) p) (fun p k=>@Heap.rec (fun _=>R) (fun c0 c1 c2 c3 c4 c5 c6 c7 c8 c9 ca cb cc cd ce cf=>k cd fun v q=>q (.mk c0 c1 c2 c3 c4 c5 c6 c7 c8 c9 ca cb cc v ce cf)) p) (fun p k=>@Heap.rec (fun _=>R) (fun c0 c1 c2 c3 c4 c5 c6 c7 c8 c9 ca cb cc cd ce cf=>k ce fun v q=>q (.mk c0 c1 c2 c3 c4 c5 c6 c7 c8 c9 ca cb cc cd v cf)) p) (fun p k=>@Heap.rec (fun _=>R) (fun c0 c1 c2 c3 c4 c5 c6 c7 c8 c9 ca cb cc cd ce cf=>k cf fun v q=>q (.mk c0 c1 c2 c3 c4 c5 c6 c7 c8 c9 ca cb cc cd ce v)) p) d
theorem Heap.opR_eq (d:D) (p:Heap) (k:HC->(HC->(Heap->R)->R)->R):Heap.opR d p k=k (Heap.sel d p) fun v q=>q (Heap.setS d p v):=by
 cases d <;> cases p <;> rfl
def Bu (p:K4) (h:Heap) (κ:Cu->R):R :=
 @K4.rec (fun _=>R) (fun a b c d=>Heap.selR a h fun x=>HC.selR b x fun y=>HB.selR c y fun z=>HA.selR d z κ) p
theorem Bz (p:K4) (h:Heap) (κ:Cu->R):Bu p h κ=κ (Ar p h):=by
 cases p; simp only [Bu,Heap.selR_eq,HC.selR_eq,HB.selR_eq,HA.selR_eq,Ar]
def V3 (p:K4) (h:Heap) (κ:Cu->(Cu->(Heap->R)->R)->R):R :=
 @K4.rec (fun _=>R) (fun a b c d=>Heap.opR a h fun x px=>HC.opR b x fun y py=>HB.opR c y fun z pz=>HA.opR d z fun o po=>κ o fun o k=>po o fun z=>pz z fun y=>py y fun x=>px x k) p
theorem Oy (p:K4) (h:Heap) (κ:Cu->(Cu->(Heap->R)->R)->R):V3 p h κ=κ (Ar p h) fun o k=>k (AJ p h o):=by
 cases p
 simp only [V3,Heap.opR_eq,HC.opR_eq,HB.opR_eq,HA.opR_eq,Ar,AJ,EU,Heap.setK_eq,HC.setK_eq,HB.setK_eq,HA.setK_eq,Heap.selK_eq,HC.selK_eq,HB.selK_eq]
 rfl
def Bx (p:K4) (h:Heap) (o:Cu) (κ:Heap->R):R:=V3 p h fun _ put=>put o κ
theorem C0 (p:K4) (h:Heap) (o:Cu) (κ:Heap->R):Bx p h o κ=EU p h o κ:=by
 rw [Bx,Oy,Bm]
def HH (p:K4) (h:Heap) (κ:Cs->Bool->Option K4->R):R :=
 Bu p h fun o=>@Option.rec Ob (fun _=>R) (.fail "") (fun o=>@Ob.rec (fun _=>R) κ (C4 "") (FQ "") (.fail "") (AT "") o) o
theorem F9:HH=I4:=by
 funext p h κ
 rw [HH,Bz,I4,E1]
def KD (p:K4) (h:Heap) (κ:List (V×V)->List Nat->Nat->R):R :=
 Bu p h fun o=>@Option.rec Ob (fun _=>R) (.fail "") (fun o=>@Ob.rec (fun _=>R) (C4 "") κ (FQ "") (.fail "") (AT "") o) o
theorem Jx:KD=PU:=by
 funext p h κ
 rw [KD,Bz,PU,E1]
def Gg (h:Heap) (n:K4) (o:Ob) (κ:Heap->K4->R):R:=Bx n h (some o) fun h'=>n.nx fun n'=>κ h' n'
theorem Hx:Gg=Dh:=by
 funext h n o κ
 rw [Gg,C0,Dh]
def O3 (h:Heap) (p:K4) (f:Cs->(Cs->R)->R) (κ:Heap->R):R :=
 V3 p h fun o put=>@Option.rec Ob (fun _=>R) (.fail "") (fun o=>@Ob.rec (fun _=>R) (fun cs sup prev=>br sup (.fail "") (f cs fun cs' =>
  @Option.rec K4 (fun _=>R) (put (some (.c cs' false none)) κ) (fun q=>Bx q h none fun h=>Bx p h (some (.c cs' false none)) κ) prev)) (C4 "") (FQ "") (.fail "") (AT "") o) o
theorem Nt (h:Heap) (p:K4) (f:Cs->(Cs->R)->R) (κ:Heap->R):O3 h p f κ=I4 p h fun cs sup prev=>br sup (.fail "") (f cs fun cs'=>Mh prev h fun h=>EU p h (some (.c cs' false none)) κ):=by
 rw [O3,Oy,I4,E1]
 cases Ar p h with
 | none=>rfl
 | some o=>cases o with
  | m es bs c=>rfl
  | it _ _ _ _=>rfl
  | it0=>rfl
  | lp _ _=>rfl
  | c cs sup prev =>
   show br sup _ (f cs fun cs'=>_)=br sup _ (f cs fun cs'=>_)
   congr 2; funext cs'
   cases prev with
   | none=>exact (Bm _ _ _ _).symm
   | some q=>exact (C0 _ _ _ _).trans (congrArg _ (funext fun h=>C0 _ _ _ _))
def FL (h:Heap) (p:K4) (off:Nat) (y:Cs) (κ:Heap->R):R:=O3 h p (fun cs k=>Om cs off y k) κ
theorem Dl:FL=Dq:=by
 funext h p off y κ
 exact Nt _ _ _ _
def Wl (cs:Cs) (off:Nat) (v:V) (κ:Cs->R):R :=
 @Cs.rec (fun _=>R) (fun xs=>Dy off xs v fun zs=>κ (.l zs)) (fun n c=>Nh v (fun r=>PA n c off 1 r κ) (.fail "")) cs
theorem Ut (cs:Cs) (off:Nat) (v:V) (κ:Cs->R):Wl cs off v κ=Om cs off (.l [v]) κ:=by
 cases cs with
 | l xs=>exact Lj off xs v _
 | b n c =>
  show Nh v (fun r=>PA n c off 1 r κ) _=Nh v (fun r=>Aj (Nat.succ 0) fun n'=>Aj (Nat.add r (Nat.mul 256 0)) fun d=>PA n c off n' d κ) _
  congr 1; funext r
  rw [Ai,Ai]; rfl
def FJ (esz eb:Nat) (x:V) (m:Nat) (y:Cs) (h:Heap) (n:K4) (κ:KV):R :=
 CK x
  (br (Nat.beq m 0) (κ (.nil .sl) h n) (br (Nat.ble (Nat.mul (Nat.add (Nat.mul 4 m) 4096) eb) 281474976710656) (Gg h n (.c y false none) fun h' n'=>κ (.sl n 0 m m false esz) h' n') (.fail "")))
  (fun p off len cap ex esz'=>br (Nat.beq esz' esz) (br (Nat.beq m 0) (κ x h n) (Aj (Nat.add len m) fun need =>
   br (Nat.ble need cap)
    (Aj (Nat.add off (Nat.mul len esz)) fun j=>FL h p j y fun h'=>κ (.sl p off need cap ex esz) h' n)
    (br (Nat.ble (Nat.mul (Nat.add (Nat.mul 4 need) 4096) eb) 281474976710656)
     (HH p h fun cs sup prev=>Aj (Nat.mul len esz) fun l=>Bs cs off l fun a=>WI a y fun z =>
      br ex
       (Gg h n (.c z false none) fun h' n'=>κ (.sl n 0 need need false esz) h' n')
       (br sup (.fail "")
        (Aj (Nat.add off l) fun j=>Bs cs 0 j fun old=>Mh prev h fun h=>EU p h (some (.c old true none)) fun h =>
         Gg h n (.c z false (some p)) fun h' n'=>κ (.sl n 0 need need false esz) h' n')))
     (.fail "")))) (.fail ""))
theorem Q3:FJ=En:=by
 funext esz eb x m y h n κ
 rw [FJ,Hx,Dl,F9]; rfl
def AW (v:V) (h:Heap) (n:K4) (κ:KV):R :=
 Ec v fun l=>Gg h n (.c (.l l) false none) fun h' n'=>κ (.ptr n 0) h' n'
def AN (cs:Cs) (h:Heap) (n:K4) (κ:KV):R :=
 Gg h n (.c cs false none) fun h' n'=>κ (.ptr n 0) h' n'
def B4 (u8:Bool) (len esz:Nat) (l:List V) (h:Heap) (n:K4) (κ:KV):R :=
 br u8 (D2 l (fun m c=>Gg h n (.c (.b m c) false none) fun h' n'=>κ (.sl n 0 len len true esz) h' n') (.fail "")) (Gg h n (.c (.l l) false none) fun h' n'=>κ (.sl n 0 len len true esz) h' n')
def Aa (v:V) (h:Heap) (κ:V->R):R :=
 @V.rec (fun _=>R) (fun _=>Unit) (AT "") (Bb "") (fun p off=>HH p h fun cs _ _=>Gd cs off κ) (DQ "") (AT "") (AT "") (Bb "") (Bb "") (C4 "") (AT "") (fun o=>SX o (fun i j m=>br (Nat.ble 1 m) (Xv i j κ) (.fail "")) (.fail "")) () (fun _ _ _ _=>()) v
def AB (m:Nat) (v:V) (h:Heap) (κ:V->R):R :=
 Hy v fun p off=>HH p h fun cs _ _=>Bs cs off m fun y=>E0 y fun l=>κ (.agg l)
def AP (m:Nat) (u v:V) (h:Heap) (κ:Heap->R):R :=
 Hy u fun p off=>Ec v fun l=>G4 l fun k=>br (Nat.beq k m) (FL h p off (.l l) κ) (.fail "")
def N3 (h:Heap) (p:K4) (off:Nat) (v:V) (κ:Heap->R):R :=
 O3 h p (fun cs k=>Wl cs off v k) κ
def Ay (u v:V) (h:Heap) (κ:Heap->R):R :=
 @V.rec (fun _=>R) (fun _=>Unit) (AT "") (Bb "") (fun p off=>@V.rec (fun _=>R) (fun _=>Unit) (fun _ _=>N3 h p off v κ) (fun _=>N3 h p off v κ) (fun _ _=>N3 h p off v κ) (fun _ _ _ _ _ _=>N3 h p off v κ) (fun _ _=>N3 h p off v κ) (fun l _=>G4 l fun k=>br (Nat.beq k 1) (FL h p off (.l l) κ) (.fail "")) (fun _=>N3 h p off v κ) (fun _=>N3 h p off v κ) (fun _ _ _=>N3 h p off v κ) (AT "") (fun o=>@Ot.rec (fun _=>R) (.fail "") (fun _=>N3 h p off v κ) (Bb "") (.fail "") (fun _ _ _=>N3 h p off v κ) (fun _ _=>N3 h p off v κ) (N3 h p off v κ) (fun _ _=>N3 h p off v κ) (fun _ _ _ _=>N3 h p off v κ) (fun _ _ _ _=>N3 h p off v κ) (fun _ _ _=>N3 h p off v κ) (fun _ _=>N3 h p off v κ) o) () (fun _ _ _ _=>()) v) (DQ "") (AT "") (AT "") (Bb "") (Bb "") (C4 "") (AT "") (Bb "") () (fun _ _ _ _=>()) u
theorem QU (h:Heap) (p:K4) (off:Nat) (v:V) (κ:Heap->R):N3 h p off v κ=FL h p off (.l [v]) κ:=by
 rw [Dl,N3,Nt]
 simp only [Ut]; rfl
theorem Uo (u v:V) (h:Heap) (κ:Heap->R):Ay u v h κ=AP 1 u v h κ:=by
 cases u with
 | ptr p off =>
  cases v with
  | agg l=>rfl
  | tup l=>rfl
  | oth o=>cases o with
   | any=>rfl
   | yl p=>rfl
   | no=>rfl
   | _=>exact QU _ _ _ _ _
  | _=>exact QU _ _ _ _ _
 | _=>rfl
abbrev Wo {β:Type} (c:Bool) (t f:β):β:=@Bool.rec (fun _=>β) f t c
abbrev TP (m:Nat) (u v:V) (h:Heap) (κ:Heap->R):R:=Wo (Nat.beq m 1) (Ay u v h κ) (AP m u v h κ)
theorem V4 (m:Nat) (u v:V) (h:Heap) (κ:Heap->R):TP m u v h κ=AP m u v h κ:=by
 unfold TP
 cases hb:Nat.beq m 1 with
 | true=>rw [Nat.eq_of_beq_eq_true hb]; exact Uo u v h κ
 | false=>rfl
def Uw (p:K4) (h:Heap) (f:List (V×V)->List Nat->Nat->(List (V×V)->List Nat->Nat->R)->R) (κ:Heap->R):R :=
 V3 p h fun o put=>@Option.rec Ob (fun _=>R) (.fail "") (fun o=>@Ob.rec (fun _=>R) (C4 "") (fun es bs c=>f es bs c fun es bs c=>put (some (.m es bs c)) κ) (FQ "") (.fail "") (AT "") o) o
theorem Rl (p:K4) (h:Heap) (f:List (V×V)->List Nat->Nat->(List (V×V)->List Nat->Nat->R)->R) (κ:Heap->R):Uw p h f κ=PU p h fun es bs c=>f es bs c fun es bs c=>EU p h (some (.m es bs c)) κ:=by
 rw [Uw,Oy,PU,E1]
 simp only [Bm]
def A8 (v:V) (κ:V->R):R :=
 @V.rec (fun _=>R) (fun _=>Unit) (AT "") (Bb "") (fun p off=>κ v) (DQ "") (AT "") (AT "") (Bb "") (Bb "") (fun f caps _i=>κ v) (AT "") (Bb "") () (fun _ _ _ _=>()) v
def Bi (neg:Bool) (pl:Plan) (u v:V) (κ:V->R):R :=
 Ky pl u v fun r=>br neg (br r (κ (.bool false)) (κ (.bool true))) (κ (.bool r))
def AO (v:V) (κ:V->R):R :=
 @V.rec (fun _=>R) (fun _=>Unit) (AT "") (fun q=>@Bool.rec (fun _=>R) (κ (.bool true)) (κ (.bool false)) q) (AT "") (DQ "") (AT "") (AT "") (Bb "") (Bb "") (C4 "") (AT "") (Bb "") () (fun _ _ _ _=>()) v
def MG (v:V) (κ:V->R):R :=
 E6 v fun k r=>O2 k 0 k r κ
def Px (v:V) (κ:V->R):R :=
 E6 v fun k r=>Aj (Nat.xor (Nat.sub (Mk k) 1) r) fun r=>κ (.int k r)
def B1 (k:IntKind) (v:V) (κ:V->R):R :=
 E6 v fun j r=>br (Nat.ble (Nat.succ r) (Hk j)) (Aj (Nat.mod r (Mk k)) fun r=>κ (.int k r)) (br (Nat.ble (Mk k) (Mk j)) (Aj (Nat.mod r (Mk k)) fun r=>κ (.int k r)) (Aj (Nat.sub (Mk k) (Nat.sub (Mk j) r)) fun r=>κ (.int k r)))
def Dw (v:V) (h:Heap) (κ:V->R):R :=
 CK v (κ (.str 0 0)) (fun p off len cap ex esz=>br (Nat.beq esz 1) (HH p h fun cs _ _=>Bs cs off len fun y=>@Cs.rec (fun _=>R) (fun l=>D2 l (fun m c=>κ (.str m c)) (.fail "")) (fun m c=>κ (.str m c)) y) (.fail ""))
def G8 (v:V) (h:Heap) (n:K4) (κ:KV):R :=
 Bd v fun m c=>Gg h n (.c (.b m c) false none) fun h' n'=>κ (.sl n 0 m m false 1) h' n'
def Yw (v:V) (κ:V->R):R :=
 Bd v fun _ _=>κ v
def QV (v:V) (h:Heap) (κ:V->R):R :=
 CK v (.fail "") (fun p _ _ _ _ _=>HH p h fun _ _ _=>κ v)
def Co (h:Heap) (n:K4) (κ:KV):R :=
 Gg h n (.m [] [] 0) fun h' n'=>κ (.map n) h' n'
def It (eb:Nat) (u8:Bool) (zero:List V) (u v:V) (h:Heap) (n:K4) (κ:KV):R :=
 Jn u fun a=>Jn v fun b=>br (Nat.ble a b) (br (Nat.ble (Nat.mul eb b) 281474976710656) (F4 u8 zero b fun y=>Gg h n (.c y false none) fun h' n'=>G4 zero fun esz=>κ (.sl n 0 a b true esz) h' n') (.fail "")) (.fail "")
def G2 (o:Option V) (d:Nat) (κ:Nat->R):R :=
 @Option.rec V (fun _=>R) (κ d) (fun v=>Jn v κ) o
def BZ (v:V) (lo hi:Option V) (κ:V->R):R :=
 Wd v (fun l0 l1 _ _=>br (br (Em hi) true (Nat.beq l0 l1)) (G2 hi l0 fun b=>G2 lo 0 fun a=>br (Nat.ble a b) (br (Nat.ble b l0) (Aj (Nat.sub b a) fun l=>κ (.oth (.ss l l (Nat.succ l) 0))) (.fail "")) (.fail "")) (.fail ""))<|Bd v fun m c=>G2 hi m fun b=>G2 lo 0 fun a=>br (Nat.ble a b) (br (Nat.ble b m) (Aj (Nat.sub b a) fun l=>Aj (Ev.lo (sh c a) l) fun r=>κ (.str l r)) (.fail "")) (.fail "")
def C1 (esz:Nat) (v:V) (lo hi:Option V) (κ:V->R):R :=
 Z5 v (fun l0 l1=>br (br (Em hi) true (Nat.beq l0 l1)) (G2 hi l0 fun b=>G2 lo 0 fun a=>br (Nat.ble a b) (br (Nat.ble b l0) (Aj (Nat.sub b a) fun l=>κ (.oth (.os l l))) (.fail "")) (.fail "")) (.fail ""))<|CK v (G2 hi 0 fun b=>G2 lo 0 fun a=>br (Nat.beq b 0) (br (Nat.beq a 0) (κ (.nil .sl)) (.fail "")) (.fail "")) (fun p off len cap ex esz'=>G2 hi len fun b=>G2 lo 0 fun a=>br (Nat.beq esz' esz) (br (Nat.ble a b) (br (Nat.ble b cap) (Aj (Nat.sub b a) fun l=>Aj (Nat.sub cap a) fun c=>Aj (Nat.add off (Nat.mul a esz)) fun o=>κ (.sl p o l c ex esz)) (.fail "")) (.fail "")) (.fail ""))
def DR (m esz:Nat) (v:V) (lo hi:Option V) (h:Heap) (κ:V->R):R :=
 Hy v fun p off=>HH p h fun cs _ _=>WZ cs fun z=>br (Nat.ble (Nat.add off (Nat.mul m esz)) z) (G2 hi m fun b=>G2 lo 0 fun a=>br (Nat.ble a b) (br (Nat.ble b m) (Aj (Nat.sub b a) fun l=>Aj (Nat.sub m a) fun c=>Aj (Nat.add off (Nat.mul a esz)) fun o=>κ (.sl p o l c true esz)) (.fail "")) (.fail "")) (.fail "")
def A7 (off:Nat) (v:V) (κ:V->R):R :=
 @V.rec (fun _=>R) (fun _=>Unit) (AT "") (Bb "") (fun p o=>Aj (Nat.add o off) fun o=>κ (.ptr p o)) (DQ "") (AT "") (AT "") (Bb "") (Bb "") (C4 "") (AT "") (fun o=>SX o (fun i j m=>br (Nat.ble (Nat.succ off) m) (Aj (Nat.add j off) fun j=>Aj (Nat.sub m off) fun m=>κ (.oth (.ap i j m))) (.fail "")) (.fail "")) () (fun _ _ _ _=>()) v
def Ng (off size:Nat) (ag:Bool) (v:V) (κ:V->R):R :=
 asAgg v fun l=>br ag (DS off l fun r=>Df size r fun r=>κ (.agg r)) (CL off l κ)
def Av (esz:Nat) (v u:V) (κ:V->R):R :=
 Jn u fun a=>I7 v (.fail "") (fun p off len cap ex esz'=>br (Nat.beq esz' esz) (br (Nat.ble (Nat.succ a) len) (Aj (Nat.add off (Nat.mul a esz)) fun o=>κ (.ptr p o)) (.fail "")) (.fail "")) (fun o=>Qd o (fun i lo hi z=>br (Nat.beq z esz) (br (Nat.ble (Nat.succ a) lo) (Aj (Nat.mul a esz) fun j=>κ (.oth (.ap i j esz))) (.fail "")) (.fail "")) (.fail ""))
def B0 (m esz:Nat) (v u:V) (κ:V->R):R :=
 Jn u fun a=>Hy v fun p off=>br (Nat.ble (Nat.succ a) m) (Aj (Nat.add off (Nat.mul a esz)) fun o=>κ (.ptr p o)) (.fail "")
def B6 (v u:V) (κ:V->R):R :=
 Jn u fun a=>Bd v fun m c=>br (Nat.ble (Nat.succ a) m) (Aj (Ev.lo (sh c a) 1) fun r=>κ (.int .u8 r)) (.fail "")
def Wn (m esz:Nat) (ag:Bool) (v u:V) (κ:V->R):R :=
 Jn u fun a=>asAgg v fun l=>br (Nat.ble (Nat.succ a) m) (Aj (Nat.mul a esz) fun j=>br ag (DS j l fun r=>Df esz r fun r=>κ (.agg r)) (CL j l κ)) (.fail "")
def BQ (pl:Plan) (zero:V) (ok:Bool) (u v:V) (h:Heap) (κ:V->R):R :=
 LD pl v<|D6 u (br ok (κ (.tup [zero,.bool false])) (κ zero)) (fun p=>KD p h fun es _ _=>DM pl v es (fun r=>br ok (κ (.tup [r,.bool true])) (κ r)) (br ok (κ (.tup [zero,.bool false])) (κ zero)))
def H8 (pl:Plan) (u a b:V) (h:Heap) (κ:Heap->R):R :=
 LD pl a<|D6 u (.fail "") (fun p=>Uw p h (fun es bs c k=>Io pl a b es fun es=>WM es bs c fun bs c=>k es bs c) κ)
def MP (pl:Plan) (u a:V) (h:Heap) (κ:Heap->R):R :=
 LD pl a<|D6 u (κ h) (fun p=>Uw p h (fun es bs c k=>M9 pl a es fun es2=>M0 pl a es bs fun bs=>k es2 bs c) κ)
def Ap (i:Nat) (v:V) (κ:V->R):R :=
 KI v fun l=>CL i l κ
def A6 (r:R) (κ:KV):R :=
 @R.rec (fun _=>R) (FQ "") (fun v h n=>κ v h n) (fun w=>.fail w) (FQ "") r
def B8 (v:V) (κ:V->R):R :=
 Wd v (fun l0 l1 _ _=>br (Nat.ble (Nat.succ l1) 9223372036854775808) (κ (.oth (.iv .i64 l0 l1))) (.fail ""))<|Bd v fun m _=>GN m κ
def AA (v:V) (κ:V->R):R :=
 I7 v (κ (.int .i64 0)) (fun p off len cap ex esz=>GN len κ) (fun o=>X2 o (fun l0 l1=>br (Nat.ble (Nat.succ l1) 9223372036854775808) (κ (.oth (.iv .i64 l0 l1))) (.fail "")) (Qd o (fun i l0 l1 z=>br (Nat.ble (Nat.succ l1) 9223372036854775808) (br (Nat.beq l0 l1) (κ (.int .i64 l0)) (κ (.oth (.iv .i64 l0 l1)))) (.fail "")) (.fail "")))
def S0 (v:V) (h:Heap) (κ:V->R):R :=
 D6 v (κ (.int .i64 0)) (fun p=>KD p h fun es _ _=>Va es fun m=>GN m κ)
def JZ (u v:V) (κ:V->R):R:=Xp u v κ
def Jc (u v:V) (κ:V->R):R:=Xt u v κ
def U2 (u v w:V) (κ:V->R):R :=
 E6 u fun k a=>E6 v fun j b=>E6 w fun i c=>br (Be k j) (br (Be k i) (br (Ix k a b) (br (Ix k b c) (κ w) (κ v)) (br (Ix k a c) (κ w) (κ u))) (.fail "")) (.fail "")
def OZ (v:V) (κ:V->R):R :=
 CK v (κ (.int .i64 0)) (fun p off len cap ex esz=>br ex (GN cap κ) (.fail ""))
def TV (u8:Bool) (zero:List V) (v:V) (h:Heap) (κ:Heap->R):R :=
 CK v (κ h) (fun p off len cap ex esz=>G4 zero fun m=>br (Nat.beq m esz) (br (Nat.beq len 0) (κ h) (F4 u8 zero len fun y=>FL h p off y κ)) (.fail ""))
def AZ (esz eb:Nat) (u v:V) (h:Heap) (n:K4) (κ:KV):R :=
 NT esz v h fun m y=>FJ esz eb u m y h n κ
def NO (esz eb:Nat) (u8:Bool) (zero:List V) (u v:V) (h:Heap) (n:K4) (κ:KV):R :=
 Jn v fun m=>br (Nat.ble (Nat.mul eb m) 281474976710656) (F4 u8 zero m fun y=>FJ esz eb u m y h n κ) (.fail "")
def Kl (esz:Nat) (u v:V) (h:Heap) (κ:V->Heap->R):R :=
 NT esz v h fun m y=>CK u (κ (.int .i64 0) h) (fun p off len cap ex esz'=>br (Nat.beq esz' esz) (Aj (@Bool.rec (fun _=>Nat) len m (Nat.ble m len)) fun k=>br (Nat.beq k 0) (κ (.int .i64 0) h) (Aj (Nat.mul k esz) fun j=>Bs y 0 j fun y=>FL h p off y fun h=>GN k fun v=>κ v h)) (.fail ""))
abbrev IK:=Opd->(V->R)->R
abbrev Gc (ε:IK) (l:List Opd):(List V->R)->R :=
 @List.rec Opd (fun _=>(List V->R)->R) (fun κ=>κ []) (fun o _ ih κ=>ε o fun v=>ih fun vs=>κ (v::vs)) l
abbrev G0 (ε:IK) (o:Option Opd) (κ:Option V->R):R:=@Option.rec Opd (fun _=>R) (κ none) (fun x=>ε x fun v=>κ (some v)) o
abbrev L1 (ε:IK) (l:List Part):List V->(List V->R)->R :=
 @List.rec Part (fun _=>List V->(List V->R)->R) (fun z κ=>κ z) (fun p _ ih z κ=>@Part.rec (fun _=>R) (fun off size x=>ε x fun v=>IS off size v z fun z=>ih z κ) p) l
structure K3 where
 a:D
 b:D
 c:D
def B2 (f:Nat):K3:=⟨D.ofN (f / 256),D.ofN (f / 16 % 16),D.ofN (f % 16)⟩
abbrev If:=K3->List V->Heap->K4->R
def IA (cf:If) (v:V) (l:List V) (h:Heap) (n:K4) (κ:KV):R:=Lq v fun f caps=>EF l caps fun l=>A6 (cf (B2 f) l h n) κ
theorem OD (n:Nat):∀ (c:Nat) (κ:Nat->Nat->R) (e:R),EQ n c (fun l=>D2 l κ e)=κ n (c % 256 ^ n):=by
 induction n with
 | zero=>intro c κ e; show κ 0 0=_; rw [Nat.pow_zero,Nat.mod_one]
 | succ n ih =>
  intro c κ e
  have e1:EQ (n+1) c (fun l=>D2 l κ e)=Aj (lo c 1) fun r=>Aj (sh c 1) fun d=>EQ n d fun zs=>D2 (.int .u8 r::zs) κ e:=rfl
  rw [e1,Ai,Ai]
  have hr:lo c 1<256:=by rw [DH]; omega
  have e2:∀ zs,D2 (.int .u8 (lo c 1)::zs) κ e=D2 zs (fun n m=>Aj (Nat.succ n) fun n=>Aj (Nat.add (lo c 1) (Nat.mul 256 m)) fun c=>κ n c) e:=fun zs=>by
   have:D2 (.int .u8 (lo c 1)::zs) κ e=br (Be .u8 .u8) (br (Nat.ble (lo c 1) 255) (D2 zs (fun n m=>Aj (Nat.succ n) fun n=>Aj (Nat.add (lo c 1) (Nat.mul 256 m)) fun c=>κ n c) e) e) e:=rfl
   rw [this,Ao.2 (show lo c 1≤255 by omega)]; rfl
  simp only [e2]
  rw [ih,Ai,Ai]
  have e3:Nat.add (lo c 1) (Nat.mul 256 (sh c 1 % 256 ^ n))=c % 256 ^ (n+1):=by
   rw [DH,EJ,Nat.pow_one,Nat.pow_succ',Nat.mod_mul]; rfl
  rw [e3]
theorem Ui (v:V) (h:Heap) (κ:V->R):Dw v h κ=CK v (κ (.str 0 0)) (fun p off len cap ex esz=>br (Nat.beq esz 1) (I4 p h fun cs _ _=>Bs cs off len fun y=>E0 y fun l=>D2 l (fun m c=>κ (.str m c)) (.fail "")) (.fail "")):=by
 unfold Dw
 rw [F9]
 congr 1
 funext p off len cap ex esz
 congr 1; congr 1
 funext cs sup prev
 cases cs with
 | l xs=>rfl
 | b n c =>
  show br (Nat.ble (Nat.add off len) n) (Aj (lo (sh c off) len) fun r=>κ (.str len r)) (.fail "")=br (Nat.ble (Nat.add off len) n) (Aj (lo (sh c off) len) fun r=>EQ len r fun l=>D2 l (fun m c=>κ (.str m c)) (.fail "")) (.fail "")
  rw [Ai,Ai,OD,DH,Nat.mod_mod]
abbrev Gq (o:AK):If->IK->Heap->K4->KV->R:=@AK.rec (fun _=>If->IK->Heap->K4->KV->R)
 (fun x cf ε h n κ=>ε x fun v=>κ v h n)
 (fun c a b cf ε h n κ=>ε c fun q=>ε a fun x=>ε b fun y=>Al q x y fun v=>κ v h n)
 (fun cs cf ε h n κ=>AN cs h n κ)
 (fun x cf ε h n κ=>ε x fun v=>AW v h n κ)
 (fun zero parts cf ε h n κ=>L1 ε parts zero fun l=>κ (.agg l) h n)
 (fun u8 len esz zero parts cf ε h n κ=>L1 ε parts zero fun l=>B4 u8 len esz l h n κ)
 (fun x cf ε h n κ=>ε x fun v=>Aa v h fun v=>κ v h n)
 (fun m x cf ε h n κ=>ε x fun v=>AB m v h fun v=>κ v h n)
 (fun m a x cf ε h n κ=>ε a fun u=>ε x fun v=>TP m u v h fun h=>κ Cn h n)
 (fun x cf ε h n κ=>ε x fun v=>A8 v fun v=>κ v h n)
 (fun op x y cf ε h n κ=>ε x fun u=>ε y fun v=>WL op u v fun v=>κ v h n)
 (fun neg pl x y cf ε h n κ=>ε x fun u=>ε y fun v=>Bi neg pl u v fun v=>κ v h n)
 (fun x cf ε h n κ=>ε x fun v=>AO v fun v=>κ v h n)
 (fun x cf ε h n κ=>ε x fun v=>MG v fun v=>κ v h n)
 (fun x cf ε h n κ=>ε x fun v=>Px v fun v=>κ v h n)
 (fun k x cf ε h n κ=>ε x fun v=>B1 k v fun v=>κ v h n)
 (fun x cf ε h n κ=>ε x fun v=>Dw v h fun v=>κ v h n)
 (fun x cf ε h n κ=>ε x fun v=>G8 v h n κ)
 (fun x cf ε h n κ=>ε x fun v=>Yw v fun v=>κ v h n)
 (fun x cf ε h n κ=>ε x fun v=>QV v h fun v=>κ v h n)
 (fun f caps cf ε h n κ=>Gc ε caps fun l=>κ (.fn f l) h n)
 (fun  cf ε h n κ=>Co h n κ)
 (fun eb u8 zero l c cf ε h n κ=>ε l fun u=>ε c fun v=>It eb u8 zero u v h n κ)
 (fun x lo hi cf ε h n κ=>ε x fun v=>G0 ε lo fun a=>G0 ε hi fun b=>BZ v a b fun v=>κ v h n)
 (fun esz x lo hi cf ε h n κ=>ε x fun v=>G0 ε lo fun a=>G0 ε hi fun b=>C1 esz v a b fun v=>κ v h n)
 (fun m esz x lo hi cf ε h n κ=>ε x fun v=>G0 ε lo fun a=>G0 ε hi fun b=>DR m esz v a b h fun v=>κ v h n)
 (fun off x cf ε h n κ=>ε x fun v=>A7 off v fun v=>κ v h n)
 (fun off size ag x cf ε h n κ=>ε x fun v=>Ng off size ag v fun v=>κ v h n)
 (fun esz x i cf ε h n κ=>ε x fun v=>ε i fun u=>Av esz v u fun v=>κ v h n)
 (fun m esz x i cf ε h n κ=>ε x fun v=>ε i fun u=>B0 m esz v u fun v=>κ v h n)
 (fun x i cf ε h n κ=>ε x fun v=>ε i fun u=>B6 v u fun v=>κ v h n)
 (fun m esz ag x i cf ε h n κ=>ε x fun v=>ε i fun u=>Wn m esz ag v u fun v=>κ v h n)
 (fun pl zero ok m k cf ε h n κ=>ε m fun u=>ε k fun v=>BQ pl zero ok u v h fun v=>κ v h n)
 (fun pl m k v cf ε h n κ=>ε m fun u=>ε k fun a=>ε v fun b=>H8 pl u a b h fun h=>κ Cn h n)
 (fun pl m k cf ε h n κ=>ε m fun u=>ε k fun a=>MP pl u a h fun h=>κ (.tup []) h n)
 (fun i x cf ε h n κ=>ε x fun v=>Ap i v fun v=>κ v h n)
 (fun f args cf ε h n κ=>Gc ε args fun l=>A6 (cf (B2 f) l h n) κ)
 (fun x args cf ε h n κ=>ε x fun v=>Gc ε args fun l=>IA cf v l h n κ)
 (fun x cf ε h n κ=>ε x fun v=>B8 v fun v=>κ v h n)
 (fun x cf ε h n κ=>ε x fun v=>AA v fun v=>κ v h n)
 (fun x cf ε h n κ=>ε x fun v=>S0 v h fun v=>κ v h n)
 (fun x y cf ε h n κ=>ε x fun u=>ε y fun v=>JZ u v fun v=>κ v h n)
 (fun x y cf ε h n κ=>ε x fun u=>ε y fun v=>Jc u v fun v=>κ v h n)
 (fun esz eb x y cf ε h n κ=>ε x fun u=>ε y fun v=>AZ esz eb u v h n κ)
 (fun esz eb u8 zero x c cf ε h n κ=>ε x fun u=>ε c fun v=>NO esz eb u8 zero u v h n κ)
 (fun esz x y cf ε h n κ=>ε x fun u=>ε y fun v=>Kl esz u v h fun v h=>κ v h n)
 (fun x y z cf ε h n κ=>ε x fun u=>ε y fun v=>ε z fun w=>U2 u v w fun v=>κ v h n)
 (fun x cf ε h n κ=>ε x fun v=>OZ v fun v=>κ v h n)
 (fun u8 zero x cf ε h n κ=>ε x fun v=>TV u8 zero v h fun h=>κ (.tup []) h n)
 (fun why cf ε h n κ=>.fail "")
 o
section
variable {cf:CF} {cf2:If} {ε:IK} {t:Regs} {h:Heap} {n:K4} {κ:KV}
theorem G6 {l:List Opd} {κ:List V->R} (hh:∀ x∈l,∀ κ,ε x κ=κ (ev x t)):Gc ε l κ=κ (l.map (ev · t)):=by
 induction l generalizing κ with
 | nil=>rfl
 | cons o l ih =>
  show ε o (fun v=>Gc ε l fun vs=>κ (v::vs))=_
  rw [hh o (List.mem_cons_self ..),ih fun x hx=>hh x (List.mem_cons_of_mem _ hx)]; rfl
theorem G3 {o:Option Opd} {κ:Option V->R} (hh:∀ x∈o.toList,∀ κ,ε x κ=κ (ev x t)):G0 ε o κ=κ (o.map (ev · t)):=by
 cases o with
 | none=>rfl
 | some x=>exact hh x (by simp) _
theorem OR {l:List Part}:∀ {z:List V} {κ:List V->R},(∀ p∈l,∀ κ,ε p.x κ=κ (ev p.x t))->L1 ε l z κ=Dp l t z κ:=by
 induction l with
 | nil=>intro z κ _; rfl
 | cons p l ih =>
  intro z κ hh
  obtain ⟨off,size,x⟩:=p
  have e1:L1 ε (⟨off,size,x⟩::l) z κ=ε x fun v=>IS off size v z fun z=>L1 ε l z κ:=rfl
  have e2:Dp (⟨off,size,x⟩::l) t z κ=BF off size (ev x t) z fun z=>Dp l t z κ:=AQ x t _
  have e3:ε x (fun v=>IS off size v z fun z=>L1 ε l z κ)=_:=hh ⟨off,size,x⟩ (by simp) _
  rw [e1,e2,e3,QG]
  congr 1; funext z
  exact ih fun p hp=>hh p (by simp [hp])
theorem QZ {o:Option Opd} {d:Nat} {κ:Nat->R}:CM o t d κ=G2 (o.map (ev · t)) d κ:=by
 cases o with
 | none=>rfl
 | some x=>exact AQ x t _
theorem Hr {k:AK} (hh:∀ x∈k.opds,∀ κ,ε x κ=κ (ev x t)) (hcf:∀ f,cf2 (B2 f)=cf f):Gq k cf2 ε h n κ=HU k cf t h n κ:=by
 cases k
 case build z ps=>exact OR fun p hp=>hh p.x (List.mem_map.2 ⟨p,hp,rfl⟩)
 case bslice u8 len esz z ps =>
  have e1:Gq (.bslice u8 len esz z ps) cf2 ε h n κ=L1 ε ps z fun l=>B4 u8 len esz l h n κ:=rfl
  rw [e1,OR fun p hp=>hh p.x (List.mem_map.2 ⟨p,hp,rfl⟩)]
  simp only [B4,Hx]; rfl
 case mkfn f l =>
  show Gc ε l (fun l=>κ (.fn f l) h n)=ON l t fun l=>κ (.fn f l) h n
  rw [G6 (l:=l) (t:=t) hh,Fq]
 case call f l =>
  show Gc ε l (fun l=>A6 (cf2 (B2 f) l h n) κ)=ON l t fun l=>A6 (cf f l h n) κ
  rw [G6 (l:=l) (t:=t) hh,Fq,hcf]
 case calld x l =>
  have h1:∀ κ,ε x κ=κ (ev x t):=hh x (by simp [AK.opds])
  have h2:∀ y∈l,∀ κ,ε y κ=κ (ev y t):=fun y hy=>hh y (by simp [AK.opds,hy])
  show ε x (fun v=>Gc ε l fun l=>IA cf2 v l h n κ)=ET x l cf t h n κ
  rw [h1,G6 h2]
  simp only [ET,AQ,Fq,IA,hcf]; rfl
 case slS x lo hi =>
  have h1:∀ κ,ε x κ=κ (ev x t):=hh x (by simp [AK.opds])
  have h2:∀ y∈lo.toList,∀ κ,ε y κ=κ (ev y t):=fun y hy=>hh y (by simp [AK.opds]; simp at hy; simp [hy])
  have h3:∀ y∈hi.toList,∀ κ,ε y κ=κ (ev y t):=fun y hy=>hh y (by simp [AK.opds]; simp at hy; simp [hy])
  show ε x (fun v=>G0 ε lo fun a=>G0 ε hi fun b=>BZ v a b fun v=>κ v h n)=Jl x lo hi cf t h n κ
  rw [h1,G3 h2,G3 h3]
  simp only [Jl,AQ,QZ]
  cases hi <;> rfl
 case slL e x lo hi =>
  have h1:∀ κ,ε x κ=κ (ev x t):=hh x (by simp [AK.opds])
  have h2:∀ y∈lo.toList,∀ κ,ε y κ=κ (ev y t):=fun y hy=>hh y (by simp [AK.opds]; simp at hy; simp [hy])
  have h3:∀ y∈hi.toList,∀ κ,ε y κ=κ (ev y t):=fun y hy=>hh y (by simp [AK.opds]; simp at hy; simp [hy])
  show ε x (fun v=>G0 ε lo fun a=>G0 ε hi fun b=>C1 e v a b fun v=>κ v h n)=II e x lo hi cf t h n κ
  rw [h1,G3 h2,G3 h3]
  simp only [II,AQ,QZ]
  cases hi <;> rfl
 case slA m e x lo hi =>
  have h1:∀ κ,ε x κ=κ (ev x t):=hh x (by simp [AK.opds])
  have h2:∀ y∈lo.toList,∀ κ,ε y κ=κ (ev y t):=fun y hy=>hh y (by simp [AK.opds]; simp at hy; simp [hy])
  have h3:∀ y∈hi.toList,∀ κ,ε y κ=κ (ev y t):=fun y hy=>hh y (by simp [AK.opds]; simp at hy; simp [hy])
  show ε x (fun v=>G0 ε lo fun a=>G0 ε hi fun b=>DR m e v a b h fun v=>κ v h n)=J1 m e x lo hi cf t h n κ
  rw [h1,G3 h2,G3 h3]
  simp only [J1,AQ,QZ,DR,F9]
 case pick c a b =>
  have h1:∀ κ,ε c κ=κ (ev c t):=hh c (by simp [AK.opds])
  have h2:∀ κ,ε a κ=κ (ev a t):=hh a (by simp [AK.opds])
  have h3:∀ κ,ε b κ=κ (ev b t):=hh b (by simp [AK.opds])
  show ε c (fun q=>ε a fun x=>ε b fun y=>Al q x y fun v=>κ v h n)=Ia c a b cf t h n κ
  rw [h1,h2,h3,Uy]
  simp only [Ia,AQ]
 case b2s x =>
  have h1:∀ κ,ε x κ=κ (ev x t):=hh x (by simp [AK.opds])
  show ε x (fun v=>Dw v h fun v=>κ v h n)=Ko x cf t h n κ
  rw [h1,Ui]
  simp only [Ko,AQ]
 case bin op x y =>
  have h1:∀ κ,ε x κ=κ (ev x t):=hh x (by simp [AK.opds])
  have h2:∀ κ,ε y κ=κ (ev y t):=hh y (by simp [AK.opds])
  show ε x (fun u=>ε y fun v=>WL op u v fun v=>κ v h n)=LM op x y cf t h n κ
  rw [h1,h2,Vh]
  simp only [LM,AQ]
 all_goals
  simp only [AK.opds,List.mem_cons,List.not_mem_nil,or_false,forall_eq_or_imp,forall_eq] at hh
  simp only [Gq,HU,AN,AW,Aa,AB,V4,AP,B4,QV,G8,Co,It,BQ,H8,MP,S0,AZ,NO,Kl,Rl,Hx,F9,Jx,Dl,Q3,Vo,PR,IM,T7,Nk,Ta,Ek,Sq,NG,Mq,Na,MT,Ko,Jj,NE,N2,J0,Gt,Nz,MZ,Ny,Mr,N1,ME,T4,Te,MQ,ND,Nm,Mj,Mp,Nj,MO,NJ,JD,MD,Jt,NK,Mm,TV,Ro,AQ,hh]
  try rfl
end
end Go.Ev

namespace Go.Ev
set_option linter.unusedVariables false
structure SL where
 a:O8
 b:O4
def S.get (s:SL) (t:S):V:=SQ.sel s.b (S.sel s.a t)
def S.put (s:SL) (t:S) (v:V):S:=S.setS s.a t (SQ.setS s.b (S.sel s.a t) v)
theorem S.get_put_same (s:SL) (t:S) (v:V):S.get s (S.put s t v)=v:=by
 simp only [S.get,S.put,S.sel_setS_same,SQ.sel_setS_same]
theorem S.get_put_ne {s s':SL} (t:S) (v:V) (h:s≠s'):S.get s' (S.put s t v)=S.get s' t:=by
 obtain ⟨a,b⟩:=s
 obtain ⟨a',b'⟩:=s'
 simp only [S.get,S.put]
 by_cases ha:a=a'
 ·subst ha
  rw [S.sel_setS_same]
  by_cases hb:b=b'
  ·subst hb; exact absurd rfl h
  ·rw [SQ.sel_setS_ne _ _ hb]
 ·rw [S.sel_setS_ne _ _ ha]
abbrev VL (b:O4) (κ:V->R) (x:SQ):R:=@SQ.rec (fun _=>R) (fun d0 d1 d2 d3=>@O4.rec (fun _=>R) (κ d0) (κ d1) (κ d2) (κ d3) b) x
abbrev W7 (p:SL) (t:S) (κ:V->R):R:=@SL.rec (fun _=>R) (fun a b=>@S.rec (fun _=>R) (fun c0 c1 c2 c3 c4 c5 c6 c7=>@O8.rec (fun _=>R) (VL b κ c0) (VL b κ c1) (VL b κ c2) (VL b κ c3) (VL b κ c4) (VL b κ c5) (VL b κ c6) (VL b κ c7) a) t) p
abbrev Ve (b:O4) (v:V) (x:SQ) (k:SQ->R):R:=@SQ.rec (fun _=>R) (fun d0 d1 d2 d3=>@O4.rec (fun _=>R) (k (.mk v d1 d2 d3)) (k (.mk d0 v d2 d3)) (k (.mk d0 d1 v d3)) (k (.mk d0 d1 d2 v)) b) x
abbrev Vl (p:SL) (t:S) (v:V) (k:S->R):R:=@SL.rec (fun _=>R) (fun a b=>@S.rec (fun _=>R) (fun c0 c1 c2 c3 c4 c5 c6 c7=>@O8.rec (fun _=>R) (Ve b v c0 fun x=>k (.mk x c1 c2 c3 c4 c5 c6 c7)) (Ve b v c1 fun x=>k (.mk c0 x c2 c3 c4 c5 c6 c7)) (Ve b v c2 fun x=>k (.mk c0 c1 x c3 c4 c5 c6 c7)) (Ve b v c3 fun x=>k (.mk c0 c1 c2 x c4 c5 c6 c7)) (Ve b v c4 fun x=>k (.mk c0 c1 c2 c3 x c5 c6 c7)) (Ve b v c5 fun x=>k (.mk c0 c1 c2 c3 c4 x c6 c7)) (Ve b v c6 fun x=>k (.mk c0 c1 c2 c3 c4 c5 x c7)) (Ve b v c7 fun x=>k (.mk c0 c1 c2 c3 c4 c5 c6 x)) a) t) p
theorem WN (b:O4) (κ:V->R) (x:SQ):VL b κ x=κ (SQ.sel b x):=by cases x; cases b <;> rfl
theorem W2 (p:SL) (t:S) (κ:V->R):W7 p t κ=κ (S.get p t):=by
 obtain ⟨a,b⟩:=p
 cases t
 cases a <;> exact WN _ _ _
theorem Ww (b:O4) (v:V) (x:SQ) (k:SQ->R):Ve b v x k=k (SQ.setS b x v):=by cases x; cases b <;> rfl
theorem VZ (p:SL) (t:S) (v:V) (k:S->R):Vl p t v k=k (S.put p t v):=by
 obtain ⟨a,b⟩:=p
 have e1:Vl ⟨a,b⟩ t v k=Ve b v (S.sel a t) fun x=>k (S.setS a t x):=by cases t; cases a <;> rfl
 rw [e1,Ww]; rfl
abbrev SM:=List (K2×SL)
abbrev Il (p:K2) (sm:SM) (κ:SL->R) (e:R):R :=
 @List.rec (K2×SL) (fun _=>R) e (fun x _ ih=>@Prod.rec K2 SL (fun _=>R) (fun q s=>Wo (K2.beq q p) (κ s) ih) x) sm
def Cx (p:K2):SM->Option SL
 | []=>none
 | x::l=>br (K2.beq x.1 p) (some x.2) (Cx p l)
theorem N0 (p:K2) (sm:SM) (κ:SL->R) (e:R):Il p sm κ e=match Cx p sm with | some s=>κ s | none=>e:=by
 induction sm with
 | nil=>rfl
 | cons x l ih =>
  obtain ⟨q,s⟩:=x
  have e1:Il p ((q,s)::l) κ e=Wo (K2.beq q p) (κ s) (Il p l κ e):=rfl
  rw [e1,ih]
  simp only [Cx]
  cases K2.beq q p <;> rfl
def O8.beq (a b:O8):Bool:=Nat.beq (@O8.rec (fun _=>Nat) 0 1 2 3 4 5 6 7 a) (@O8.rec (fun _=>Nat) 0 1 2 3 4 5 6 7 b)
def O4.beq (a b:O4):Bool:=Nat.beq (@O4.rec (fun _=>Nat) 0 1 2 3 a) (@O4.rec (fun _=>Nat) 0 1 2 3 b)
theorem O8.beq_self (a:O8):a.beq a=true:=by cases a <;> rfl
theorem O4.beq_self (a:O4):a.beq a=true:=by cases a <;> rfl
def SL.beq (s s':SL):Bool:=and (s.a.beq s'.a) (s.b.beq s'.b)
def QD:SM->Bool
 | []=>true
 | x::l=>(l.all fun y=>!SL.beq x.2 y.2)&&QD l
theorem HD {p:K2} {s:SL}:∀ {sm:SM},Cx p sm=some s->(p,s)∈sm
 | [],h=>by cases h
 | x::l,h=>by
  simp only [Cx] at h
  cases hb:K2.beq x.1 p with
  | true =>
   rw [hb] at h
   have h:some x.2=some s:=h
   cases h
   rw [←K2.beq_iff.1 hb]
   exact List.mem_cons_self ..
  | false=>rw [hb] at h; exact List.mem_cons_of_mem _ (HD h)
theorem OF:∀ {sm:SM},QD sm=true->∀ {p q:K2} {s:SL},Cx p sm=some s->Cx q sm=some s->p=q
 | [],_,p,q,s,h,_=>by cases h
 | x::l,hok,p,q,s,hp,hq=>by
  simp only [QD,Bool.and_eq_true] at hok
  have no:∀ r,(r,x.2) ∉ l:=fun r hr=>by
   have:=List.all_eq_true.1 hok.1 _ hr
   simp [SL.beq,O8.beq_self,O4.beq_self] at this
  simp only [Cx] at hp hq
  cases hbp:K2.beq x.1 p with
  | true =>
   rw [hbp] at hp
   have hp:some x.2=some s:=hp
   cases hp
   cases hbq:K2.beq x.1 q with
   | true=>rw [←K2.beq_iff.1 hbp,←K2.beq_iff.1 hbq]
   | false=>rw [hbq] at hq; exact absurd (HD hq) (no _)
  | false =>
   rw [hbp] at hp
   cases hbq:K2.beq x.1 q with
   | true =>
    rw [hbq] at hq
    have hq:some x.2=some s:=hq
    cases hq
    exact absurd (HD hp) (no _)
   | false=>rw [hbq] at hq; exact OF hok.2 hp hq
abbrev Ren:=List (K2×V)
abbrev Uu (p:K2) (env:Ren) (κ:V->R) (e:R):R :=
 @List.rec (K2×V) (fun _=>R) e (fun x _ ih=>@Prod.rec K2 V (fun _=>R) (fun q v=>Wo (K2.beq q p) (κ v) ih) x) env
abbrev Bt (sm:SM) (env:Ren) (t:S):IK:=fun o κ=>@Opd.rec (fun _=>R) (fun p=>Uu p env κ (Il p sm (fun s=>W7 s t κ) (.fail ""))) (fun v=>κ v) o
abbrev Do (sm:SM) (d:Option K2) (t:S) (v:V) (κ:S->R):R :=
 @Option.rec K2 (fun _=>R) (κ t) (fun p=>Il p sm (fun s=>Vl s t v κ) (κ t)) d
abbrev BT (d:Option K2) (v:V) (env:Ren):Ren:=@Option.rec K2 (fun _=>Ren) env (fun p=>(p,v)::env) d
def NQ (w:Bool) (v:V) (yes no:R):R :=
 @V.rec (fun _=>R) (fun _=>Unit) (fun _ _=>no) (fun b=>br (Bool.rec (Bool.rec true false b) b w) yes no) (fun _ _=>no) (fun _ _ _ _ _ _=>no) (fun _ _=>no) (fun _ _=>no) (fun _=>no) (fun _=>no) (fun _ _ _=>no) (fun _ _=>no) (fun o=>.fail "") () (fun _ _ _ _=>()) v
def gd (w:Bool) (v:V) (F:KV->R) (κ:KV) (h:Heap) (n:K4):R:=NQ w v (F κ) (κ Cn h n)
def DO (w:Bool) (v:V) (F:(V->R)->R) (κ:V->R):R:=NQ w v (F κ) (κ Cn)
def gd0 (w:Bool) (v:V) (F:R->R) (κ:R):R:=NQ w v (F κ) κ
abbrev Iq (g:Option (K2×Bool)) (ε:IK) (F:KV->R) (κ:KV) (h:Heap) (n:K4):R :=
 @Option.rec (K2×Bool) (fun _=>R) (F κ) (fun p=>@Prod.rec K2 Bool (fun _=>R) (fun r w=>ε (.t r) fun v=>gd w v F κ h n) p) g
abbrev LP (g:Option (K2×Bool)) (ε:IK) (F:(V->R)->R) (κ:V->R):R :=
 @Option.rec (K2×Bool) (fun _=>R) (F κ) (fun p=>@Prod.rec K2 Bool (fun _=>R) (fun r w=>ε (.t r) fun v=>DO w v F κ) p) g
abbrev Q5 (g:Option (K2×Bool)) (ε:IK) (F:R->R) (κ:R):R :=
 @Option.rec (K2×Bool) (fun _=>R) (F κ) (fun p=>@Prod.rec K2 Bool (fun _=>R) (fun r w=>ε (.t r) fun v=>gd0 w v F κ) p) g
abbrev Dx (sm:SM) (cf:If) (l:List AOp):Ren->S->Heap->K4->(Ren->S->Heap->K4->R)->R :=
 @List.rec AOp (fun _=>Ren->S->Heap->K4->(Ren->S->Heap->K4->R)->R) (fun env t h n κ=>κ env t h n)
  (fun o _ ih env t h n κ=>@AOp.rec (fun _=>R) (fun d g k=>Iq g (Bt sm env t) (Gq k cf (Bt sm env t) h n) (fun v h n=>Do sm d t v fun t=>ih (BT d v env) t h n κ) h n) o) l
def Ad (r:R) (κ:V->R):R:=@R.rec (fun _=>R) (FQ "") (fun v h n=>κ v) (fun w=>.fail w) (FQ "") r
abbrev FR (sm:SM) (cf:If) (b:K4) (i:Item) (env:Ren) (t:S) (h0 h1:Heap) (n:K4) (κ:Ren->S->Heap->Heap->K4->R):R :=
 @Item.rec (fun _=>R)
  (fun _ o=>@AOp.rec (fun _=>R) (fun d g k=>LP g (Bt sm env t) (Ad (Gq k cf (Bt sm env t) h0 n KF)) (fun v=>Do sm d t v fun t=>κ (BT d v env) t h0 h1 n)) o)
  (fun _ o=>@AOp.rec (fun _=>R) (fun d g k=>Iq g (Bt sm env t) (B9 (Gq k cf (Bt sm env t) h1 n R.rv)) (fun v h n=>Do sm d t v fun t=>κ (BT d v env) t h h n) h1 n) o)
  (fun _ j o=>@AOp.rec (fun _=>R) (fun d g k=>Iq g (Bt sm env t) (fun κ=>b.at j fun r=>Bu r h1 fun x=>I3 x (B9 (Gq k cf (Bt sm env t) h1 r R.rv) κ)) (fun v h _=>Do sm d t v fun t=>κ (BT d v env) t h0 h n) h1 n) o)
  (fun _ o=>@AOp.rec (fun _=>R) (fun d g k=>Q5 g (Bt sm env t) (fun e=>Uv d fun p=>Ad (Gq k cf (Bt sm env t) h0 n KF) fun v=>Bt sm env t (.t p) fun x=>AF x v e) (κ env t h0 h1 n)) o)
  (fun j=>b.at j fun r=>Bu r h0 fun x=>I3 x (κ env t h0 h1 n))
  (fun _ j o=>@AOp.rec (fun _=>R) (fun d g k=>LP g (Bt sm env t) (fun κ=>b.at j fun r=>Bu r h1 fun x=>Wx x fun ob=>Bx r AS (some ob) fun hx=>Ad (Gq k cf (Bt sm env t) hx n KF) κ) (fun v=>Do sm d t v fun t=>κ (BT d v env) t h0 h1 n)) o) i
abbrev DU (sm:SM) (cf:If) (b:K4) (l:List Item):Ren->S->Heap->Heap->K4->(Ren->S->Heap->Heap->K4->R)->R :=
 @List.rec Item (fun _=>Ren->S->Heap->Heap->K4->(Ren->S->Heap->Heap->K4->R)->R) (fun env t h0 h1 n κ=>κ env t h0 h1 n)
  (fun i _ ih env t h0 h1 n κ=>FR sm cf b i env t h0 h1 n fun env t h0 h1 n=>ih env t h0 h1 n κ) l
def I1 (sm:SM) (p:K2):Bool:=@Option.rec SL (fun _=>Bool) false (fun _=>true) (Cx p sm)
def K9 (sm:SM) (dom:List K2) (p:K2):Bool:=W4 p dom || I1 sm p
def Qz (sm:SM) (dom:List K2) (o:AOp):Bool:=o.slots.all (K9 sm dom)
def GB (d:Option K2) (dom:List K2):List K2:=match d with | none=>dom | some p=>p::dom
def GK (sm:SM):List AOp->List K2->Bool
 | [],_=>true
 | o::l,dom=>Qz sm dom o&&GK sm l (GB o.dst dom)
def D0:List AOp->List K2->List K2
 | [],dom=>dom
 | o::l,dom=>D0 l (GB o.dst dom)
def Item.op:Item->Option AOp
 | .rd _ o=>some o
 | .ef _ o=>some o
 | .al _ _ o=>some o
 | .rn _ _ o=>some o
 | _=>none
def Qn (sm:SM) (dom:List K2):Item->Bool
 | .rd _ o=>Qz sm dom o
 | .ef _ o=>Qz sm dom o
 | .al _ _ o=>Qz sm dom o
 | .rn _ _ o=>Qz sm dom o
 | .ck _ o=>Qz sm dom o&&match o.dst with | some p=>K9 sm dom p | none=>true
 | .no _=>true
def O9 (i:Item) (dom:List K2):List K2:=match i.op with | some o=>GB o.dst dom | none=>dom
def IL (sm:SM):List Item->List K2->Bool
 | [],_=>true
 | i::l,dom=>Qn sm dom i&&IL sm l (O9 i dom)
def Jd:List Item->List K2->List K2
 | [],dom=>dom
 | i::l,dom=>Jd l (O9 i dom)
section
variable {P:Program} {ρ:Env} {B N:Nat} {cf:CF} {cf2:If} {sm:SM}
def Fs (p:K2):Ren->Option V
 | []=>none
 | x::l=>br (K2.beq x.1 p) (some x.2) (Fs p l)
theorem DC {p:K2} {v:V} {env:Ren}:Fs p ((p,v)::env)=some v:=by
 simp only [Fs,K2.beq_iff.2 rfl]; rfl
theorem FY {p q:K2} {v:V} {env:Ren} (h:p≠q):Fs q ((p,v)::env)=Fs q env:=by
 have:K2.beq p q=false:=by
  cases hb:K2.beq p q with
  | false=>rfl
  | true=>exact absurd (K2.beq_iff.1 hb) h
 simp only [Fs,this]; rfl
theorem Vi (p:K2) (env:Ren) (κ:V->R) (e:R):Uu p env κ e=match Fs p env with | some v=>κ v | none=>e:=by
 induction env with
 | nil=>rfl
 | cons x l ih =>
  obtain ⟨q,v⟩:=x
  have e1:Uu p ((q,v)::l) κ e=Wo (K2.beq q p) (κ v) (Uu p l κ e):=rfl
  rw [e1,ih]
  by_cases h:q=p
  ·subst h; rw [DC,K2.beq_iff.2 rfl]
  ·rw [FY h]
   have:K2.beq q p=false:=by
    cases hb:K2.beq q p with
    | false=>rfl
    | true=>exact absurd (K2.beq_iff.1 hb) h
   rw [this]
structure RI (sm:SM) (dom:List K2) (env:Ren) (t:Regs) (t':S):Prop where
 inj:∀ {p q s},Cx p sm=some s->Cx q sm=some s->p=q
 told:∀ p v,Fs p env=some v->Bo p t=v
 dom:∀ p,p∈dom->∃ v,Fs p env=some v
 keep:∀ p s,Cx p sm=some s->S.get s t'=Bo p t
theorem Qt {p:K2} (h:I1 sm p=true):∃ s,Cx p sm=some s:=by
 unfold I1 at h
 cases hf:Cx p sm with
 | none=>rw [hf] at h; cases h
 | some s=>exact ⟨s,rfl⟩
theorem RI.tell {dom:List K2} {env:Ren} {t:Regs} {t':S} (r:RI sm dom env t t') {p:K2} (h:K9 sm dom p=true) (κ:V->R):Bt sm env t' (.t p) κ=κ (Bo p t):=by
 have e1:Bt sm env t' (.t p) κ=Uu p env κ (Il p sm (fun s=>W7 s t' κ) (.fail "")):=rfl
 rw [e1,Vi,N0]
 cases hf:Fs p env with
 | some v=>rw [r.told p v hf]
 | none =>
  have hk:I1 sm p=true:=by
   unfold K9 at h
   rw [Bool.or_eq_true] at h
   rcases h with h | h
   ·obtain ⟨v,hv⟩:=r.dom p (P9.1 h); rw [hf] at hv; cases hv
   ·exact h
  obtain ⟨s,hs⟩:=Qt hk
  rw [hs]
  show W7 s t' κ=_
  rw [W2,r.keep p s hs]
theorem RI.tells {dom:List K2} {env:Ren} {t:Regs} {t':S} (r:RI sm dom env t t') {o:AOp} (h:Qz sm dom o=true):(∀ x∈o.k.opds,∀ κ,Bt sm env t' x κ=κ (ev x t))∧(∀ p w,o.g=some (p,w)->∀ κ,Bt sm env t' (.t p) κ=κ (Bo p t)):=by
 have h:=List.all_eq_true.1 h
 refine ⟨fun x hx κ=>?_,fun p w hg κ=>r.tell (h p ?_) κ⟩
 ·cases x with
  | c v=>rfl
  | t p=>exact r.tell (h p (List.mem_append_left _ (List.mem_filterMap.2 ⟨.t p,hx,rfl⟩))) κ
 ·refine List.mem_append_right _ ?_
  rw [hg]; simp
theorem RI.start (hi:∀ {p q s},Cx p sm=some s->Cx q sm=some s->p=q) {t:Regs} {t':S} (h:∀ p s,Cx p sm=some s->S.get s t'=Bo p t):RI sm [] [] t t' :=
 ⟨hi,fun p v h=>(by simp [Fs] at h),fun p h=>(by simp at h),h⟩
theorem RI.put {dom:List K2} {env:Ren} {t:Regs} {t':S} (r:RI sm dom env t t') (d:Option K2) (v:V) (κ:S->R) :
  ∃ t1',Do sm d t' v κ=κ t1'∧RI sm (GB d dom) (BT d v env) (Du d t v) t1':=by
 cases d with
 | none=>exact ⟨t',rfl,r⟩
 | some p =>
  have e1:Do sm (some p) t' v κ=Il p sm (fun s=>Vl s t' v κ) (κ t'):=rfl
  have e2:BT (some p) v env=(p,v)::env:=rfl
  have told:∀ q u,Fs q ((p,v)::env)=some u->Bo q (Du (some p) t v)=u:=fun q u hq=>by
   by_cases e:p=q
   ·subst e; rw [DC] at hq; cases hq; exact Bk _ _ _
   ·rw [FY e] at hq
    rw [show Bo q (Du (some p) t v)=Bo q t from BE _ _ e]; exact r.told q u hq
  have dm:∀ q,q∈GB (some p) dom->∃ u,Fs q ((p,v)::env)=some u:=fun q hq=>by
   by_cases e:p=q
   ·subst e; exact ⟨v,DC⟩
   ·rw [FY e]
    rcases List.mem_cons.1 hq with h | h
    ·exact absurd h.symm e
    ·exact r.dom q h
  rw [e1,N0]
  cases hk:Cx p sm with
  | some s =>
   refine ⟨S.put s t' v,VZ _ _ _ _,?_⟩
   rw [e2]
   refine ⟨r.inj,told,dm,fun q s' hq=>?_⟩
   show S.get s' (S.put s t' v)=Bo q (EK p t v)
   by_cases e:p=q
   ·subst e
    rw [hk] at hq; cases hq
    rw [Bk,S.get_put_same]
   ·have hs:s≠s':=fun hs=>e (r.inj (hs ▸ hk) hq)
    rw [BE _ _ e,S.get_put_ne _ _ hs]; exact r.keep q s' hq
  | none =>
   refine ⟨t',rfl,?_⟩
   rw [e2]
   refine ⟨r.inj,told,dm,fun q s' hq=>?_⟩
   have e:p≠q:=fun e=>by subst e; rw [hk] at hq; cases hq
   show S.get s' t'=Bo q (EK p t v)
   rw [BE _ _ e]; exact r.keep q s' hq
theorem Jw {p:K2} {w:Bool} {t:Regs} {yes no:R}:NQ w (Bo p t) yes no=CZ (some (p,w)) t yes no:=(CV p t _).symm
theorem JN {g:Option (K2×Bool)} {ε:IK} {t:Regs} {F:KV->R} {κ:KV} {h:Heap} {n:K4} (hh:∀ p w,g=some (p,w)->∀ κ,ε (.t p) κ=κ (Bo p t)):Iq g ε F κ h n=CZ g t (F κ) (κ Cn h n):=by
 cases g with
 | none=>rfl
 | some pw =>
  obtain ⟨p,w⟩:=pw
  exact (hh p w rfl _).trans Jw
theorem Mw {g:Option (K2×Bool)} {ε:IK} {t:Regs} {F:(V->R)->R} {κ:V->R} (hh:∀ p w,g=some (p,w)->∀ κ,ε (.t p) κ=κ (Bo p t)):LP g ε F κ=CZ g t (F κ) (κ Cn):=by
 cases g with
 | none=>rfl
 | some pw =>
  obtain ⟨p,w⟩:=pw
  exact (hh p w rfl _).trans Jw
theorem SB {g:Option (K2×Bool)} {ε:IK} {t:Regs} {F:R->R} {κ:R} (hh:∀ p w,g=some (p,w)->∀ κ,ε (.t p) κ=κ (Bo p t)):Q5 g ε F κ=CZ g t (F κ) κ:=by
 cases g with
 | none=>rfl
 | some pw =>
  obtain ⟨p,w⟩:=pw
  exact (hh p w rfl _).trans Jw
def OH (cf:CF) (o:AOp) (t:Regs) (h:Heap) (n:K4) (κ:KV):R:=CZ o.g t (HU o.k cf t h n κ) (κ Cn h n)
theorem Q4 (hρ:Bp ρ) (hcf:Ea P ρ B cf) {ops:Array Oper} {o:Oper} {ao:AOp} (hc:JT P N ops o=some ao) {t:Regs} {h:Heap} {n:K4} {κ:KV} (hg:(OH cf ao t h n κ).good) :
  ∃ v h1 n1,OH cf ao t h n κ=κ v h1 n1 ∧ ∀ φ a w,TR ρ N φ t a->Gam ρ B h n φ w->∀ (K:Act->World->Prop) (Q:Exit->Act->World->Prop),
   (∀ φ' a' w',Fr h h1 φ φ' n n1 w w'->Gam ρ B h1 n1 φ' w'->TR ρ N φ' (Du ao.dst t v) a'->K a' w')->C9 P ops o a w K Q:=by
 obtain ⟨hd,hgd,hk⟩:=BI hc
 rcases GY (ρ:=ρ) (o:=o) (show R.good (CZ _ _ _ _) from hg) hgd with ⟨e1,hw⟩ | ⟨e1,hw⟩
 ·have e1:OH cf ao t h n κ=_:=e1
  rw [e1] at hg
  have hs:CU P ρ B N o (HU ao.k cf t h n) t h n:=by
   rcases hk with hk | ⟨why,hk⟩
   ·exact Ll hρ hcf hk
   ·rw [hk]; exact Th (cf:=cf) (why:=why)
  obtain ⟨v,h1,n1,e2,hstep⟩:=hs _ hg
  refine ⟨v,h1,n1,e1.trans e2,fun φ a w hT g K Q hK=>?_⟩
  unfold C9
  rw [if_pos (hw φ a hT)]
  exact hstep φ a w hT g K Q fun φ' x w' f1 g1 r1=>hK φ' _ w' f1 g1 ((hT.mono f1.ext).puts hd r1)
 ·have e1:OH cf ao t h n κ=_:=e1
  refine ⟨Cn,h,n,e1,fun φ a w hT g K Q hK=>?_⟩
  unfold C9
  rw [if_neg (by rw [hw φ a hT]; simp)]
  exact hK φ _ w (Fr.refl h φ n w) g (hT.puts hd F2)
def Fv (P:Program) (ops:Array Oper) (Q:Exit->Act->World->Prop) (K:Act->World->Prop):List Oper->Act->World->Prop
 | [],a,w=>K a w
 | o::rest,a,w=>if Region.wanted o (yielded ops a.tmps)=true then o.wp P a w (Fv P ops Q K rest) Q else Fv P ops Q K rest (a.put o.dst undef) w
theorem Gz {ops:Array Oper} {Q:Exit->Act->World->Prop} {r:List Oper}:∀ {l:List Oper} {a:Act} {w:World},Fv P ops Q (wpList P ops Q r) l a w->wpList P ops Q (l++r) a w
 | [],_,_,h=>h
 | o::l,a,w,h=>by
  show wpList P ops Q (o::(l++r)) a w
  simp only [wpList]
  unfold Fv at h
  split
  ·rw [if_pos (by assumption)] at h
   refine .inl ?_
   exact Oper.wp_mono (fun a w h=>Gz h) h
  ·rw [if_neg (by assumption)] at h; exact Gz h
theorem DI (hρ:Bp ρ) (hcf:Ea P ρ B cf) (h2:∀ f,cf2 (B2 f)=cf f) {ops:Array Oper}:∀ {l:List Oper} {al:List AOp} {dom:List K2} {env:Ren} {t:Regs} {t':S} {h:Heap} {n:K4} {κ:Ren->S->Heap->K4->R},
  HP P N ops l=some al->GK sm al dom=true->RI sm dom env t t'->(Dx sm cf2 al env t' h n κ).good →
  ∃ env1 t1 t1' h1 n1,Dx sm cf2 al env t' h n κ=κ env1 t1' h1 n1∧RI sm (D0 al dom) env1 t1 t1' ∧ ∀ φ a w,TR ρ N φ t a->Gam ρ B h n φ w->∀ (Q:Exit->Act->World->Prop) (K:Act->World->Prop),
   (∀ φ' a' w',Fr h h1 φ φ' n n1 w w'->Gam ρ B h1 n1 φ' w'->TR ρ N φ' t1 a'->K a' w')->Fv P ops Q K l a w
 | [],al,dom,env,t,t',h,n,κ,hc,hok,ri,hg=>by
  simp only [HP,Option.some.injEq] at hc; subst hc
  exact ⟨env,t,t',h,n,rfl,ri,fun φ a w hT g Q K hQ=>hQ φ a w (Fr.refl h φ n w) g hT⟩
 | o::l,al,dom,env,t,t',h,n,κ,hc,hok,ri,hg=>by
  simp only [HP] at hc
  split at hc
  ·rename_i ao al' ho hl
   cases hc
   simp only [GK,Bool.and_eq_true] at hok
   have ht:=ri.tells hok.1
   have e0:Dx sm cf2 (ao::al') env t' h n κ=Iq ao.g (Bt sm env t') (Gq ao.k cf2 (Bt sm env t') h n) (fun v h n=>Do sm ao.dst t' v fun t=>Dx sm cf2 al' (BT ao.dst v env) t h n κ) h n:=by cases ao; rfl
   have e1:Dx sm cf2 (ao::al') env t' h n κ=OH cf ao t h n (fun v h n=>Do sm ao.dst t' v fun t=>Dx sm cf2 al' (BT ao.dst v env) t h n κ):=by
    rw [e0,JN ht.2,Hr ht.1 h2]; rfl
   rw [e1] at hg ⊢
   obtain ⟨v,h1,n1,e2,H1⟩:=Q4 (B:=B) hρ hcf ho hg
   rw [e2] at hg ⊢
   obtain ⟨t1',e3,ri1⟩:=ri.put ao.dst v (fun t=>Dx sm cf2 al' (BT ao.dst v env) t h1 n1 κ)
   rw [e3] at hg ⊢
   obtain ⟨env2,t2,t2',hh2,n2,e4,ri2,H2⟩:=DI hρ hcf h2 hl hok.2 ri1 hg
   refine ⟨env2,t2,t2',hh2,n2,e4,ri2,fun φ a w hT g Q K hQ=>?_⟩
   have:=H1 φ a w hT g (Fv P ops Q K l) Q fun φ' a' w' f1 g1 T1=>H2 φ' a' w' T1 g1 Q K fun φ2 a2 w2 f2 g2 T2=>hQ φ2 a2 w2 (Fr.trans f1 f2) g2 T2
   exact this
  ·cases hc
theorem QO (hρ:Bp ρ) (hcf:Ea P ρ B cf) (h2:∀ f,cf2 (B2 f)=cf f) {ops:Array Oper} {l:List Oper} {al:List AOp} {dom:List K2} {env:Ren} {t:Regs} {t':S} {h:Heap} {n:K4} {κ:Ren->S->Heap->K4->R}
  (hc:HP P N ops l=some al) (hok:GK sm al dom=true) (ri:RI sm dom env t t') (hg:(Dx sm cf2 al env t' h n κ).good) :
  ∃ env1 t1 t1' h1 n1,Dx sm cf2 al env t' h n κ=κ env1 t1' h1 n1∧RI sm (D0 al dom) env1 t1 t1' ∧ ∀ φ a w,TR ρ N φ t a->Gam ρ B h n φ w->∀ (Q:Exit->Act->World->Prop),
   (∀ φ' a' w',Fr h h1 φ φ' n n1 w w'->Gam ρ B h1 n1 φ' w'->TR ρ N φ' t1 a'->Q .normal a' w')->wpList P ops Q l a w:=by
 obtain ⟨env1,t1,t1',h1,n1,e1,ri1,H⟩:=DI hρ hcf h2 hc hok ri hg
 exact ⟨env1,t1,t1',h1,n1,e1,ri1,fun φ a w hT g Q hQ=>by have:=Gz (r:=[]) (H φ a w hT g Q (wpList P ops Q []) hQ); rwa [List.append_nil] at this⟩
theorem Lz {r:R} {κ:V->R} (hg:(Ad r κ).good):∃ v h n,r = .rv v h n∧Ad r κ=κ v:=by
 cases r with
 | ok e t h n=>exact hg.elim
 | rv v h n=>exact ⟨v,h,n,rfl,rfl⟩
 | fail w=>exact hg.elim
 | both a b=>exact hg.elim
theorem PK (h2:∀ f,cf2 (B2 f)=cf f) {b:K4} {i:Item} {dom:List K2} {env:Ren} {s:St} {t':S} {κ:Ren->S->Heap->Heap->K4->R} (hok:Qn sm dom i=true) (ri:RI sm dom env s.t t') (hg:(FR sm cf2 b i env t' s.h0 s.h1 s.n κ).good) :
  ∃ s' env1 t1',IV cf b i s s'∧RI sm (O9 i dom) env1 s'.t t1'∧FR sm cf2 b i env t' s.h0 s.h1 s.n κ=κ env1 t1' s'.h0 s'.h1 s'.n:=by
 obtain ⟨t,h0,h1,n⟩:=s
 cases i with
 | rd i o =>
  have ht:=ri.tells hok
  have e0:FR sm cf2 b (.rd i o) env t' h0 h1 n κ=LP o.g (Bt sm env t') (Ad (Gq o.k cf2 (Bt sm env t') h0 n KF)) (fun v=>Do sm o.dst t' v fun t=>κ (BT o.dst v env) t h0 h1 n):=by cases o; rfl
  simp only [e0] at hg ⊢
  rw [Mw ht.2,Hr ht.1 h2] at hg ⊢
  rcases Ff hg with hy | hn
  ·rw [hy] at hg
   obtain ⟨v,h,n',e1,e2⟩:=Lz hg
   obtain ⟨t1',e3,ri1⟩:=ri.put o.dst v (fun t=>κ (BT o.dst v env) t h0 h1 n)
   exact ⟨_,_,_,.inl ⟨hy,v,h,n',e1,rfl⟩,ri1,by rw [hy,e2,e3]⟩
  ·obtain ⟨t1',e3,ri1⟩:=ri.put o.dst Cn (fun t=>κ (BT o.dst Cn env) t h0 h1 n)
   exact ⟨_,_,_,.inr ⟨hn,rfl⟩,ri1,by rw [hn,e3]⟩
 | ef i o =>
  have ht:=ri.tells hok
  have e0:FR sm cf2 b (.ef i o) env t' h0 h1 n κ=Iq o.g (Bt sm env t') (B9 (Gq o.k cf2 (Bt sm env t') h1 n R.rv)) (fun v h n=>Do sm o.dst t' v fun t=>κ (BT o.dst v env) t h h n) h1 n:=by cases o; rfl
  simp only [e0] at hg ⊢
  rw [JN ht.2,Hr ht.1 h2] at hg ⊢
  rcases Ff hg with hy | hn
  ·rw [hy] at hg
   obtain ⟨v,h,n',e1,e2⟩:=Pd hg
   obtain ⟨t1',e3,ri1⟩:=ri.put o.dst v (fun t=>κ (BT o.dst v env) t h h n')
   exact ⟨_,_,_,.inl ⟨hy,v,h,n',e1,rfl⟩,ri1,by rw [hy,e2,e3]⟩
  ·obtain ⟨t1',e3,ri1⟩:=ri.put o.dst Cn (fun t=>κ (BT o.dst Cn env) t h1 h1 n)
   exact ⟨_,_,_,.inr ⟨hn,rfl⟩,ri1,by rw [hn,e3]⟩
 | al i j o =>
  have ht:=ri.tells hok
  have e0:FR sm cf2 b (.al i j o) env t' h0 h1 n κ=Iq o.g (Bt sm env t') (fun κ=>I3 (Ar (El b j) h1) (B9 (Gq o.k cf2 (Bt sm env t') h1 (El b j) R.rv) κ)) (fun v h _=>Do sm o.dst t' v fun t=>κ (BT o.dst v env) t h0 h n) h1 n:=by
   have:∀ κ:KV,(b.at j fun r=>Bu r h1 fun x=>I3 x (B9 (Gq o.k cf2 (Bt sm env t') h1 r R.rv) κ))=I3 (Ar (El b j) h1) (B9 (Gq o.k cf2 (Bt sm env t') h1 (El b j) R.rv) κ):=fun κ=>by
    rw [K4.at_eq,Bz]; rfl
   cases o
   simp only [←this]
  simp only [e0] at hg ⊢
  rw [JN ht.2,Hr ht.1 h2] at hg ⊢
  rcases Ff hg with hy | hn
  ·rw [hy] at hg
   obtain ⟨h3,e3⟩:=LB hg
   rw [e3] at hg
   obtain ⟨v,h,n',e1,e2⟩:=Pd hg
   obtain ⟨t1',e4,ri1⟩:=ri.put o.dst v (fun t=>κ (BT o.dst v env) t h0 h n)
   exact ⟨_,_,_,.inl ⟨hy,h3,v,h,n',e1,rfl⟩,ri1,by rw [hy,e3,e2,e4]⟩
  ·obtain ⟨t1',e3,ri1⟩:=ri.put o.dst Cn (fun t=>κ (BT o.dst Cn env) t h0 h1 n)
   exact ⟨_,_,_,.inr ⟨hn,rfl⟩,ri1,by rw [hn,e3]⟩
 | ck i o =>
  simp only [Qn,Bool.and_eq_true] at hok
  have ht:=ri.tells hok.1
  have e0:FR sm cf2 b (.ck i o) env t' h0 h1 n κ=Q5 o.g (Bt sm env t') (fun e=>Uv o.dst fun p=>Ad (Gq o.k cf2 (Bt sm env t') h0 n KF) fun v=>Bt sm env t' (.t p) fun x=>AF x v e) (κ env t' h0 h1 n):=by cases o; rfl
  simp only [e0] at hg ⊢
  rw [SB ht.2,Hr ht.1 h2] at hg ⊢
  rcases Ff hg with hy | hn
  ·rw [hy] at hg
   cases hd:o.dst with
   | none=>rw [hd] at hg; exact hg.elim
   | some p =>
    have hkn:K9 sm dom p=true:=by have:=hok.2; rw [hd] at this; exact this
    rw [hd] at hg
    have e5:(Uv (some p) fun p=>Ad (HU o.k cf t h0 n KF) fun v=>Bt sm env t' (.t p) fun x=>AF x v (κ env t' h0 h1 n))=Ad (HU o.k cf t h0 n KF) fun v=>AF (Bo p t) v (κ env t' h0 h1 n):=by
     show Ad _ (fun v=>Bt sm env t' (.t p) fun x=>AF x v (κ env t' h0 h1 n))=_
     congr 1; funext v
     exact ri.tell hkn _
    rw [e5] at hg
    obtain ⟨v,h,n',e1,e2⟩:=Lz hg
    rw [e2] at hg
    obtain ⟨e3,e4⟩:=Ef hg
    exact ⟨_,env,t',⟨rfl,.inl ⟨hy,p,h,n',hd,by show HU o.k cf t h0 n KF = .rv (Bo p t) h n'; rw [e3]; exact e1⟩⟩,ri,by rw [hy]; exact e5.trans (e2.trans e4)⟩
  ·exact ⟨_,env,t',⟨rfl,.inr hn⟩,ri,by rw [hn]⟩
 | no j =>
  have e0:FR sm cf2 b (.no j) env t' h0 h1 n κ=I3 (Ar (El b j) h0) (κ env t' h0 h1 n):=by
   show b.at j (fun r=>Bu r h0 _)=_
   rw [K4.at_eq,Bz]; rfl
  simp only [e0] at hg ⊢
  obtain ⟨h3,e3⟩:=LB hg
  exact ⟨_,env,t',⟨rfl,h3⟩,ri,e3⟩
 | rn i j o =>
  have ht:=ri.tells hok
  have e0:FR sm cf2 b (.rn i j o) env t' h0 h1 n κ=LP o.g (Bt sm env t') (fun κ=>Wx (Ar (El b j) h1) fun ob=>Ad (Gq o.k cf2 (Bt sm env t') (AJ (El b j) AS (some ob)) n KF) κ) (fun v=>Do sm o.dst t' v fun t=>κ (BT o.dst v env) t h0 h1 n):=by
   have:∀ κ:V->R,(b.at j fun r=>Bu r h1 fun x=>Wx x fun ob=>Bx r AS (some ob) fun hx=>Ad (Gq o.k cf2 (Bt sm env t') hx n KF) κ)=Wx (Ar (El b j) h1) fun ob=>Ad (Gq o.k cf2 (Bt sm env t') (AJ (El b j) AS (some ob)) n KF) κ:=fun κ=>by
    simp only [K4.at_eq,Bz,C0,Bm]; rfl
   cases o
   simp only [←this]
  simp only [e0] at hg ⊢
  simp only [Hr ht.1 h2] at hg ⊢
  rw [Mw ht.2] at hg ⊢
  rcases Ff hg with hy | hn
  ·rw [hy] at hg
   obtain ⟨ob,h3,e3⟩:=UK hg
   rw [e3] at hg
   obtain ⟨v,h,n',e1,e2⟩:=Lz hg
   obtain ⟨t1',e4,ri1⟩:=ri.put o.dst v (fun t=>κ (BT o.dst v env) t h0 h1 n)
   exact ⟨_,_,_,.inl ⟨hy,ob,v,h,n',h3,e1,rfl⟩,ri1,by rw [hy,e3,e2,e4]⟩
  ·obtain ⟨t1',e3,ri1⟩:=ri.put o.dst Cn (fun t=>κ (BT o.dst Cn env) t h0 h1 n)
   exact ⟨_,_,_,.inr ⟨hn,rfl⟩,ri1,by rw [hn,e3]⟩
theorem Ji (h2:∀ f,cf2 (B2 f)=cf f) {b:K4}:∀ {l:List Item} {dom:List K2} {env:Ren} {s:St} {t':S} {κ:Ren->S->Heap->Heap->K4->R},IL sm l dom=true->RI sm dom env s.t t'->(DU sm cf2 b l env t' s.h0 s.h1 s.n κ).good →
  ∃ (st:Nat->St) (env1:Ren) (t1':S),st 0=s∧(∀ i x,l[i]? = some x->IV cf b x (st i) (st (i+1)))∧RI sm (Jd l dom) env1 (st l.length).t t1'∧DU sm cf2 b l env t' s.h0 s.h1 s.n κ=κ env1 t1' (st l.length).h0 (st l.length).h1 (st l.length).n
 | [],dom,env,s,t',κ,hok,ri,hg=>⟨fun _=>s,env,t',rfl,fun i x hx=>by simp at hx,ri,rfl⟩
 | x::l,dom,env,s,t',κ,hok,ri,hg=>by
  simp only [IL,Bool.and_eq_true] at hok
  have e0:DU sm cf2 b (x::l) env t' s.h0 s.h1 s.n κ=FR sm cf2 b x env t' s.h0 s.h1 s.n fun env t h0 h1 n=>DU sm cf2 b l env t h0 h1 n κ:=rfl
  rw [e0] at hg
  obtain ⟨s',env1,t1',hs,ri1,e1⟩:=PK h2 hok.1 ri hg
  rw [e1] at hg
  obtain ⟨st,env2,t2',h1,h3,ri2,h4⟩:=Ji h2 hok.2 ri1 hg
  refine ⟨fun i=>match i with | 0=>s | i+1=>st i,env2,t2',rfl,fun i y hy=>?_,ri2,?_⟩
  ·cases i with
   | zero=>simp at hy; subst hy; show IV cf b x s (st 0); rw [h1]; exact hs
   | succ i=>exact h3 i y (by simpa using hy)
  ·rw [e0,e1,h4]; rfl
end
end Go.Ev

namespace Go.Ev
open Go.ChangeMaps (setBlock)
set_option linter.unusedVariables false
def R.sat (Φ:R->Prop):R->Prop
 | .fail _=>False
 | .both a b=>a.sat Φ∧b.sat Φ
 | .ok e t h n=>Φ (.ok e t h n)
 | .rv v h n=>Φ (.rv v h n)
theorem R.sat_good {Φ:R->Prop} {r:R} (h:r.sat Φ):r.good:=by cases r <;> first | exact h.elim | trivial
theorem R.sat_mono {Φ Ψ:R->Prop} (H:∀ r,Φ r->Ψ r):∀ {r:R},r.sat Φ->r.sat Ψ
 | .fail _,h=>h.elim
 | .both a b,h=>⟨R.sat_mono H h.1,R.sat_mono H h.2⟩
 | .ok _ _ _ _,h=>H _ h
 | .rv _ _ _,h=>H _ h
def Rw (q:K4) (h:Heap) (κ0:R) (κ:K4->Nat->List Nat->Nat->R):R :=
 Bu q h fun o=>@Option.rec Ob (fun _=>R) (.fail "") (fun o=>@Ob.rec (fun _=>R) (C4 "") (C4 "") κ κ0 (AT "") o) o
def Kp (v:V) (h:Heap) (n:K4) (κ:KV):R :=
 D6 v (Gg h n .it0 fun h' n'=>κ (.ptr n 0) h' n') (fun p=>KD p h fun _ _ c=>Gg h n (.it p c [] c) fun h' n'=>κ (.ptr n 0) h' n')
def G7 (s:Nat) (es:List (V×V)):List Nat->(V->V->R)->R :=
 @List.rec (V×V) (fun _=>List Nat->(V->V->R)->R) (AT "")
  (fun e _ ih bs κ=>@List.rec Nat (fun _=>R) (.fail "") (fun b tl _=>br (Nat.beq b s) (@Prod.rec V V (fun _=>R) κ e) (ih tl κ)) bs) es
def Fy (v:V) (h:Heap) (n:K4) (κ:KV):R :=
 Hy v fun q off=>br (Nat.beq off 0) (Rw q h (.fail "") fun p since seen c=>KD p h fun es bs clk=>br (Nat.beq clk c)
  (@List.rec Nat (fun _=>R) (.fail "") (fun s _ _=>G7 s es bs fun k x=>κ (.tup [k,x]) h n) seen) (.fail "")) (.fail "")
def Hm (since:Nat) (bs:List Nat):Bool:=@List.rec Nat (fun _=>Bool) true (fun b _ ih=>br (Nat.ble (Nat.succ b) since) ih false) bs
def Dd (b:Nat) (l:List Nat):Bool:=@List.rec Nat (fun _=>Bool) false (fun x _ ih=>br (Nat.beq x b) true ih) l
def Rt (q p:K4) (since:Nat) (seen:List Nat) (clk:Nat) (h:Heap) (n:K4) (κ:KV) (e:V×V) (b:Nat):R :=
 Bx q h (some (.it p since (b::seen) clk)) fun h'=>@Prod.rec V V (fun _=>R) (fun k x=>κ (.tup [.bool true,k,x]) h' n) e
def EC (seen:List Nat) (leaf:V×V->Nat->R) (es:List (V×V)):List Nat->R->R :=
 @List.rec (V×V) (fun _=>List Nat->R->R) (fun _ acc=>acc)
  (fun e _ ih bs acc=>@List.rec Nat (fun _=>R) (.fail "") (fun b tl _=>br (Dd b seen) (ih tl acc) (ih tl (.both acc (leaf e b)))) bs) es
def Js (seen:List Nat) (leaf:V×V->Nat->R) (es:List (V×V)):List Nat->R->R :=
 @List.rec (V×V) (fun _=>List Nat->R->R) (fun _ none=>none)
  (fun e es ih bs none=>@List.rec Nat (fun _=>R) (.fail "") (fun b tl _=>br (Dd b seen) (ih tl none) (EC seen leaf es tl (leaf e b))) bs) es
def Ge (v:V) (h:Heap) (n:K4) (κ:KV):R :=
 Hy v fun q off=>br (Nat.beq off 0) (Rw q h (κ (.tup [.bool false]) h n) fun p since seen c=>KD p h fun es bs clk=>br (Hm since bs) (br (Nat.ble since c)
  (Js seen (Rt q p since seen clk h n κ) es bs (κ (.tup [.bool false]) h n)) (.fail "")) (.fail "")) (.fail "")
section
variable {P:Program} {ρ:Env} {B N:Nat} {o:Oper} {t:Regs} {h:Heap} {n:K4}
theorem OX {q:K4} {κ0:R} {κ:K4->Nat->List Nat->Nat->R} (hg:(Rw q h κ0 κ).good) :
  (Ar q h=some .it0∧Rw q h κ0 κ=κ0) ∨ ∃ p s l c,Ar q h=some (.it p s l c)∧Rw q h κ0 κ=κ p s l c:=by
 have e:Rw q h κ0 κ=@Option.rec Ob (fun _=>R) (.fail "") (fun o=>@Ob.rec (fun _=>R) (C4 "") (C4 "") κ κ0 (AT "") o) (Ar q h):=Bz _ _ _
 rw [e] at hg
 cases hx:Ar q h with
 | none=>rw [hx] at hg; exact hg.elim
 | some ob =>
  rw [hx] at hg e
  cases ob with
  | c _ _ _=>exact hg.elim
  | m _ _ _=>exact hg.elim
  | it p s l c=>exact .inr ⟨p,s,l,c,rfl,e⟩
  | it0=>exact .inl ⟨rfl,e⟩
  | lp _ _=>exact hg.elim
def UY (P:Program) (ρ:Env) (B N:Nat) (o:Oper) (t:Regs) (h:Heap) (n:K4) (f:KV->R):Prop :=
 ∀ (κ:KV) (Φ:R->Prop),(f κ).sat Φ->∀ (φ:Ba) (a:Act) (w:World),TR ρ N φ t a->Gam ρ B h n φ w->∀ (K:Act->World->Prop) (Q:Exit->Act->World->Prop),
  (∀ v h1 n1,(κ v h1 n1).sat Φ->∀ φ' x w',Fr h h1 φ φ' n n1 w w'->Gam ρ B h1 n1 φ' w'->AL ρ φ' v x->K (a.put o.dst x) w')->o.wp P a w K Q
theorem CU.sp {f:KV->R} (H:CU P ρ B N o f t h n):UY P ρ B N o t h n f:=fun κ Φ hs φ a w hT g K Q hK=>by
 obtain ⟨v,h1,n1,e,st⟩:=H κ (R.sat_good hs)
 rw [e] at hs
 exact st φ a w hT g K Q fun φ' x w' f1 g1 r1=>hK v h1 n1 hs φ' x w' f1 g1 r1
theorem Td {ty kt e:TypeId} {x:Operand} {x':Opd} (ho:o.op = .range ty x) (hx:AY N x=some x') (ht:P.underlying ty=some (.map kt e)):CU P ρ B N o (Kp (ev x' t) h n) t h n:=by
 intro κ hg
 unfold Kp at hg ⊢
 rw [Hx,Jx] at hg ⊢
 rcases Dg hg with ⟨hv,e1⟩ | ⟨p,hv,e1⟩
 ·rw [e1] at hg
  obtain ⟨n',hn,e2⟩:=Bv hg
  refine ⟨_,_,_,e1.trans e2,.value fun φ a w hT g=>?_⟩
  have g1:=An hx hT
  rw [hv] at g1
  have gx:=BL g1
  refine ⟨_,.pointer (some ⟨w.heap.size,0,none⟩),w.alloc (.mapIter none 0 #[] 0),?_,Fr.alloc g.at_n (by omega) (Nat.le_refl _) (by omega) _ _ 0,g.alloc g.at_n (by omega) (by omega) .it0 rfl _ 0 fun φ' hle w' hw'=>⟨rfl,hw'⟩,De⟩
  simp [execOp,ho,gx,C2,Instr.range,run_underlying ht,run_newObj]
 ·rw [e1] at hg
  obtain ⟨es,bs,c,hpm,e2⟩:=DY hg
  rw [e2] at hg
  obtain ⟨n',hn,e3⟩:=Bv hg
  refine ⟨_,_,_,e1.trans (e2.trans e3),.value fun φ a w hT g=>?_⟩
  have g1:=An hx hT
  rw [hv] at g1
  obtain ⟨b,s,tot,hφ,gx⟩:=ES g1
  obtain ⟨ents,k1,k2,k3⟩:=g.obj p _ b s tot hpm hφ
  have hgo:(getObj b).run P w = .ok (.map ents c) w:=by simp [getObj,Sem.run,k1]
  refine ⟨_,.pointer (some ⟨w.heap.size,0,none⟩),w.alloc (.mapIter (some b) c #[] c),?_,Fr.alloc g.at_n (by omega) (Nat.le_refl _) (by omega) _ _ 0,g.alloc g.at_n (by omega) (by omega) (.it p c [] c) rfl _ 0 fun φ' hle w' hw'=>⟨b,s,tot,hle _ _ hφ,rfl,hw'⟩,De⟩
  simp only [execOp,ho,gx,Instr.range,Sem.run_bind,run_underlying ht,Result.andThen_ok,hgo]
  simp [run_newObj]
theorem KL {s:Nat}:∀ {es:List (V×V)} {bs:List Nat} {κ:V->V->R},(G7 s es bs κ).good->∃ (i:Nat) (e:V×V),es[i]? = some e∧bs[i]? = some s∧(∀ j,j<i->bs[j]? ≠ some s)∧G7 s es bs κ=κ e.1 e.2
 | [],bs,κ,h=>h.elim
 | (k,x)::es,[],κ,h=>h.elim
 | (k,x)::es,b::bs,κ,h=>by
  have h:R.good (br (Nat.beq b s) (κ k x) (G7 s es bs κ)):=h
  cases hb:Nat.beq b s with
  | true =>
   refine ⟨0,(k,x),rfl,by rw [Nat.eq_of_beq_eq_true hb]; rfl,fun j hj=>by omega,?_⟩
   show br (Nat.beq b s) (κ k x) (G7 s es bs κ)=_
   rw [hb]; rfl
  | false =>
   rw [hb] at h
   obtain ⟨i,e,h1,h2,h3,h4⟩:=KL (show R.good (G7 s es bs κ) from h)
   refine ⟨i+1,e,by simpa using h1,by simpa using h2,fun j hj=>?_,?_⟩
   ·cases j with
    | zero=>intro e; simp at e; subst e; simp at hb
    | succ j=>simpa using h3 j (by omega)
   ·show br (Nat.beq b s) (κ k x) (G7 s es bs κ)=_
    rw [hb]; exact h4
theorem Vv {l:List MapEntry} {s:Nat}:∀ {i:Nat} {m:MapEntry},l[i]? = some m->m.born=s->(∀ j,j<i->(l.map (·.born))[j]? ≠ some s)->l.find? (·.born == s)=some m:=by
 induction l with
 | nil=>intro i m h; simp at h
 | cons x l ih =>
  intro i m h hm hj
  cases i with
  | zero=>simp at h; subst h; simp [hm]
  | succ i =>
   have h0:=hj 0 (by omega)
   simp at h0
   rw [List.find?_cons]
   have:(x.born == s)=false:=by simpa using h0
   rw [this]
   exact ih (by simpa using h) hm fun j hj'=>by have:=hj (j+1) (by omega); simpa using this
theorem SC {x:Operand} {x':Opd} (ho:o.op = .entry x) (hx:AY N x=some x'):CU P ρ B N o (Fy (ev x' t) h n) t h n:=by
 intro κ hg
 unfold Fy at hg ⊢
 rw [Jx] at hg ⊢
 obtain ⟨q,off,hv,e1⟩:=CA hg
 rw [e1] at hg
 obtain ⟨h0,e2⟩:=Ak hg
 rw [e2] at hg
 have h0:=Nat.eq_of_beq_eq_true h0
 subst h0
 rcases OX hg with ⟨hq,e3⟩ | ⟨p,since,seen,c,hq,e3⟩
 ·rw [e3] at hg; exact hg.elim
 rw [e3] at hg
 obtain ⟨es,bs,clk,hp,e4⟩:=DY hg
 rw [e4] at hg
 obtain ⟨h5,e5⟩:=Ak hg
 rw [e5] at hg
 have h5:=Nat.eq_of_beq_eq_true h5
 subst h5
 cases seen with
 | nil=>exact hg.elim
 | cons s seen =>
  obtain ⟨i,ee,k1,k2,k3,e6⟩:=KL (show R.good (G7 s es bs fun k x=>κ (.tup [k,x]) h n) from hg)
  refine ⟨_,h,n,e1.trans (e2.trans (e3.trans (e4.trans (e5.trans e6)))),.pure fun φ a w hT g=>?_⟩
  have g1:=An hx hT
  rw [hv] at g1
  obtain ⟨b,sq,tot,hφ,gx⟩:=Cr g1
  have:=g.obj q _ b sq tot hq hφ
  obtain ⟨bm,sm,tm,hφm,hs0,hit⟩:=this
  subst hs0
  obtain ⟨ents,m1,m2,m3⟩:=g.obj p _ bm sm tm hp hφm
  obtain ⟨mm,hmm,hk,hvv⟩:=IJ m2 k1
  have hborn:mm.born=s:=by
   have:(ents.toList.map (·.born))[i]? = some s:=by rw [m3]; exact k2
   rw [List.getElem?_map,hmm] at this
   simpa using this
  have hf:ents.find? (·.born == s)=some mm:=by
   rw [←Array.find?_toList]
   exact Vv hmm hborn fun j hj=>by rw [m3]; exact k3 j hj
  have hgo1:(getObj b).run P w = .ok (.mapIter (some bm) since (s::seen).reverse.toArray clk) w:=by simp [getObj,Sem.run,hit]
  have hgo2:(getObj bm).run P w = .ok (.map ents clk) w:=by simp [getObj,Sem.run,m1]
  have hback:(s::seen).reverse.toArray.back? = some s:=by simp
  refine ⟨.tuple #[mm.key,mm.val],?_,by simp only [AL,BC]; exact ⟨_,rfl,_,_,rfl,hk,_,_,rfl,hvv,rfl⟩⟩
  simp only [execOp,ho,gx,Instr.entry,Nat.zero_add,Sem.run_bind,hgo1,Result.andThen_ok,hback,hgo2]
  simp [hf]
theorem Ox (b:Nat):∀ l:List Nat,Dd b l=l.contains b
 | []=>rfl
 | x::l=>by
  show br (Nat.beq x b) true (Dd b l)=_
  rw [Ox b l,List.contains_cons]
  cases hb:Nat.beq x b with
  | true=>rw [Nat.eq_of_beq_eq_true hb]; simp [br]
  | false =>
   have:(b == x)=false:=by
    cases h:b == x with
    | false=>rfl
    | true=>have:=eq_of_beq h; subst this; rw [Nat.beq_refl] at hb; cases hb
   rw [this]; rfl
theorem Nx {since:Nat}:∀ {bs:List Nat},Hm since bs=true->∀ b∈bs,b<since
 | [],_,b,hb=>by simp at hb
 | x::bs,h,b,hb=>by
  have h:br (Nat.ble (Nat.succ x) since) (Hm since bs) false=true:=h
  cases hx:Nat.ble (Nat.succ x) since with
  | false=>rw [hx] at h; cases h
  | true =>
   rw [hx] at h
   rcases List.mem_cons.1 hb with e | hb
   ·subst e; exact Ao.1 hx
   ·exact Nx (show Hm since bs=true from h) b hb
section
variable {seen:List Nat} {leaf:V×V->Nat->R} {Φ:R->Prop}
theorem Ib:∀ {es:List (V×V)} {bs:List Nat} {acc:R},(EC seen leaf es bs acc).sat Φ->acc.sat Φ ∧ ∀ (i:Nat) (e:V×V) (b:Nat),es[i]? = some e->bs[i]? = some b->Dd b seen=false->(leaf e b).sat Φ
 | [],bs,acc,h=>⟨h,fun i e b he=>by simp at he⟩
 | e0::es,[],acc,h=>h.elim
 | e0::es,b0::bs,acc,h=>by
  have h:(br (Dd b0 seen) (EC seen leaf es bs acc) (EC seen leaf es bs (.both acc (leaf e0 b0)))).sat Φ:=h
  cases hm:Dd b0 seen with
  | true =>
   rw [hm] at h
   obtain ⟨h1,h2⟩:=Ib (show (EC seen leaf es bs acc).sat Φ from h)
   refine ⟨h1,fun i e b he hb hn=>?_⟩
   cases i with
   | zero=>simp at he hb; subst he hb; rw [hm] at hn; cases hn
   | succ i=>exact h2 i e b (by simpa using he) (by simpa using hb) hn
  | false =>
   rw [hm] at h
   obtain ⟨h1,h2⟩:=Ib (show (EC seen leaf es bs (.both acc (leaf e0 b0))).sat Φ from h)
   refine ⟨h1.1,fun i e b he hb hn=>?_⟩
   cases i with
   | zero=>simp at he hb; subst he hb; exact h1.2
   | succ i=>exact h2 i e b (by simpa using he) (by simpa using hb) hn
theorem KW:∀ {es:List (V×V)} {bs:List Nat} {none:R},(Js seen leaf es bs none).sat Φ->((∀ b∈bs,Dd b seen=true)->es.length=bs.length->none.sat Φ) ∧ ∀ (i:Nat) (e:V×V) (b:Nat),es[i]? = some e->bs[i]? = some b->Dd b seen=false->(leaf e b).sat Φ
 | [],bs,acc,h=>⟨fun _ _=>h,fun i e b he=>by simp at he⟩
 | e0::es,[],acc,h=>h.elim
 | e0::es,b0::bs,acc,h=>by
  have h:(br (Dd b0 seen) (Js seen leaf es bs acc) (EC seen leaf es bs (leaf e0 b0))).sat Φ:=h
  cases hm:Dd b0 seen with
  | true =>
   rw [hm] at h
   obtain ⟨h1,h2⟩:=KW (show (Js seen leaf es bs acc).sat Φ from h)
   refine ⟨fun ha hl=>h1 (fun b hb=>ha b (List.mem_cons_of_mem _ hb)) (by simpa using hl),fun i e b he hb hn=>?_⟩
   cases i with
   | zero=>simp at he hb; subst he hb; rw [hm] at hn; cases hn
   | succ i=>exact h2 i e b (by simpa using he) (by simpa using hb) hn
  | false =>
   rw [hm] at h
   obtain ⟨h1,h2⟩:=Ib (show (EC seen leaf es bs (leaf e0 b0)).sat Φ from h)
   refine ⟨fun ha _=>absurd (ha b0 (List.mem_cons_self ..)) (by rw [hm]; simp),fun i e b he hb hn=>?_⟩
   cases i with
   | zero=>simp at he hb; subst he hb; exact h1
   | succ i=>exact h2 i e b (by simpa using he) (by simpa using hb) hn
end
theorem X5 {x:Operand} {x':Opd} (ho:o.op = .next x false) (hx:AY N x=some x'):UY P ρ B N o t h n (Ge (ev x' t) h n):=by
 intro κ Φ hs φ a w hT g K Q hK
 unfold Ge at hs
 rw [Jx] at hs
 obtain ⟨q,off,hv,e1⟩:=CA (R.sat_good hs)
 rw [e1] at hs
 obtain ⟨h0,e2⟩:=Ak (R.sat_good hs)
 rw [e2] at hs
 have h0:=Nat.eq_of_beq_eq_true h0
 subst h0
 have g1:=An hx hT
 rw [hv] at g1
 obtain ⟨b,sq,tot,hφ,gx⟩:=Cr g1
 rcases OX (R.sat_good hs) with ⟨hq,e3⟩ | ⟨p,since,seen,c,hq,e3⟩
 ·rw [e3] at hs
  obtain ⟨hs0,hit⟩:=g.obj q _ b sq tot hq hφ
  subst hs0
  have hgo1:(getObj b).run P w = .ok (.mapIter none 0 #[] 0) w:=by simp [getObj,Sem.run,hit]
  have hrun:(execOp a.eval o).run P w = .ok (.value (.tuple #[.bool false])) w:=by
   simp only [execOp,ho,gx,Instr.next,Nat.zero_add,Sem.run_bind,hgo1,Result.andThen_ok]
   simp
  unfold Oper.wp
  rw [hrun]
  exact hK _ _ _ hs φ _ w (Fr.refl h φ n w) g (by simp only [AL,BC]; exact ⟨_,rfl,_,_,rfl,rfl,rfl⟩)
 ·rw [e3] at hs
  obtain ⟨es,bs,clk,hp,e4⟩:=DY (R.sat_good hs)
  rw [e4] at hs
  obtain ⟨h5,e5⟩:=Ak (R.sat_good hs)
  rw [e5] at hs
  obtain ⟨h6,e6⟩:=Ak (R.sat_good hs)
  rw [e6] at hs
  obtain ⟨c1,c2⟩:=KW hs
  obtain ⟨bm,sm,tm,hφm,hs0,hit⟩:=g.obj q _ b sq tot hq hφ
  subst hs0
  obtain ⟨ents,m1,m2,m3⟩:=g.obj p _ bm sm tm hp hφm
  have hold:∀ x∈ents.toList,x.born<since:=fun x hx=>Nx h5 _ (by rw [←m3]; exact List.mem_map.2 ⟨x,hx,rfl⟩)
  have hlen:es.length=bs.length:=by rw [←FE m2,←m3,List.length_map]
  have hcon:∀ k:Nat,seen.reverse.toArray.contains k=Dd k seen:=fun k=>by rw [Ox]; simp
  rcases run_next_at (P:=P) w o.type b bm since c seen.reverse.toArray ents clk hit m1 hold (Ao.1 h6) with ⟨hz,hrun⟩ | ⟨e,he,w1,hal,hrun⟩
  ·have hall:∀ k∈bs,Dd k seen=true:=fun k hk=>by
    rw [←m3] at hk
    obtain ⟨x,hx,rfl⟩:=List.mem_map.1 hk
    cases hm:Dd x.born seen with
    | true=>rfl
    | false =>
     have:x∈leftOf ents seen.reverse.toArray:=by
      unfold leftOf
      rw [Array.mem_filter]
      exact ⟨by simpa using hx,by rw [hcon,hm]; rfl⟩
     rw [Array.eq_empty_of_size_eq_zero hz] at this
     simp at this
   have hx:(execOp a.eval o).run P w = .ok (.value (.tuple #[.bool false])) w:=by
    simp only [execOp,ho,gx,Nat.zero_add,Sem.run_bind,hrun,Result.andThen_ok]
    simp
   unfold Oper.wp
   rw [hx]
   exact hK _ _ _ (c1 hall hlen) φ _ w (Fr.refl h φ n w) g (by simp only [AL,BC]; exact ⟨_,rfl,_,_,rfl,rfl,rfl⟩)
  ·have he':e∈ents.toList∧Dd e.born seen=false:=by
    unfold leftOf at he
    have he:=Array.mem_filter.1 (Array.mem_toList_iff.1 he)
    refine ⟨by simpa using he.1,?_⟩
    have:=he.2
    rw [hcon] at this
    simpa using this
   obtain ⟨i,hi⟩:=List.getElem?_of_mem he'.1
   have hil:i<es.length:=by rw [←FE m2]; exact (List.getElem?_eq_some_iff.1 hi).1
   obtain ⟨mm,hmm,hk1,hk2⟩:=IJ m2 (List.getElem?_eq_getElem hil)
   rw [hi] at hmm; cases hmm
   have hb:bs[i]? = some e.born:=by rw [←m3,List.getElem?_map,hi]; rfl
   have leaf:=c2 i _ _ (List.getElem?_eq_getElem hil) hb he'.2
   unfold Rt at leaf
   rw [C0,Bm] at leaf
   have g1:Gam ρ B h n φ w1:=by
    rcases hal with e | e
    ·rw [e]; exact g
    ·rw [e]; exact g.drew
   have f1:Fr h h φ φ n n w w1:=by
    rcases hal with e | e
    ·rw [e]; exact Fr.refl h φ n _
    ·rw [e]; exact Fr.drew
   have hw:setBlock w1 b (.mapIter (some bm) since (seen.reverse.toArray.push e.born) clk)=Cc w1 b (.mapIter (some bm) since (e.born::seen).reverse.toArray clk):=by
    have:seen.reverse.toArray.push e.born=(e.born::seen).reverse.toArray:=by simp
    rw [this]; rfl
   rw [hw] at hrun
   have hbl:=(g1.blk q b 0 tot hφ).2
   have g2:Gam ρ B (AJ q h (some (.it p since (e.born::seen) clk))) n φ (Cc w1 b (.mapIter (some bm) since (e.born::seen).reverse.toArray clk)) :=
    g1.write (o:=.it p since seen c) (o':=.it p since (e.born::seen) clk) hq hφ rfl rfl ⟨bm,sm,tm,hφm,rfl,Cg hbl⟩
   have f2:Fr h (AJ q h (some (.it p since (e.born::seen) clk))) φ φ n n w1 (Cc w1 b (.mapIter (some bm) since (e.born::seen).reverse.toArray clk)) :=
    Fr.write (o:=.it p since seen c) hq hφ
   have hx:(execOp a.eval o).run P w = .ok (.value (.tuple #[.bool true,e.key,e.val])) (Cc w1 b (.mapIter (some bm) since (e.born::seen).reverse.toArray clk)):=by
    simp only [execOp,ho,gx,Nat.zero_add,Sem.run_bind,hrun,Result.andThen_ok]
    simp
   unfold Oper.wp
   rw [hx]
   exact hK _ _ _ leaf φ _ _ (Fr.trans f1 f2) g2 (by simp only [AL,BC]; exact ⟨_,rfl,_,_,rfl,rfl,_,_,rfl,hk1,_,_,rfl,hk2,rfl⟩)
end
end Go.Ev

namespace Go.Ev
set_option linter.unusedVariables false
def BY (r:R) (κ:KV):R:=@R.rec (fun _=>R) (FQ "") (fun v h n=>κ v h n) (fun w=>.fail w) (fun _ _ a b=>.both a b) r
def X6 (cf:If) (p:K4) (l:List V) (h:Heap) (n:K4) (κ:KV):R :=
 Bu p h fun o=>@Option.rec Ob (fun _=>R) (.fail "") (fun o=>@Ob.rec (fun _=>R) (C4 "") (C4 "") (FQ "") (.fail "")
  (fun f box=>@List.rec V (fun _=>R) (.fail "") (fun x l _=>@List.rec V (fun _=>R)
   (Bx p h none fun h=>BY (cf (B2 f) [.oth .no,.ptr box 0,x] h n) fun v h n=>Bx p h (some (.lp f box)) fun h=>κ v h n) (C4 "") l) l) o) o
def Iw (cf:If) (v:V) (l:List V) (h:Heap) (n:K4) (κ:KV):R :=
 @V.rec (fun _=>R) (fun _=>Unit) (AT "") (Bb "") (AT "") (DQ "") (AT "") (AT "") (Bb "") (Bb "")
  (fun f caps _=>EF l caps fun l=>BY (cf (B2 f) l h n) κ) (AT "")
  (fun o=>@Ot.rec (fun _=>R) (.fail "") (Bb "") (fun p=>X6 cf p l h n κ) (.fail "") (C4 "") (AT "") (.fail "") (AT "") (FQ "") (FQ "") (C4 "") (AT "") o) () (fun _ _ _ _=>()) v
abbrev Xm (cf:If) (sp:Sp) (ε:IK) (h:Heap) (n:K4) (κ:KV):R :=
 @Sp.rec (fun _=>R) (fun x=>ε x fun v=>Kp v h n κ) (fun x=>ε x fun v=>Ge v h n κ) (fun x=>ε x fun v=>Fy v h n κ)
  (fun f l=>Gc ε l fun l=>BY (cf (B2 f) l h n) κ) (fun x l=>ε x fun v=>Gc ε l fun l=>Iw cf v l h n κ) sp
section
variable {P:Program} {ρ:Env} {B N:Nat}
def Mu:Option Nat->Fence
 | none=>Fence.wide
 | some l=>Fence.wide.inRound l
theorem UJ (l:Option Nat) (f:FuncId):(Mu l).fn f:=by cases l <;> trivial
theorem SY (l:Option Nat):(Mu l).depth=none:=by cases l <;> rfl
theorem PE {l:Option Nat} {n:Nat} {f:FuncId} {args:Array Value} {w:World} {R:Ending->World->Prop} (h:Calls P f args w R):CallsIn (Mu l) n P f args w R:=by
 cases l with
 | none=>exact callsIn_wide.2 h
 | some l=>exact (show CallsIn Fence.wide n P f args w R from callsIn_wide.2 h)
theorem Wa {l:Option Nat} {n:Nat} {o:Oper} {a:Act} {K K':Act->World->Prop} {Q:Exit->Act->World->Prop} (hK:∀ a w,K a w->K' a w):∀ {r:Result Next},o.upon P a K Q r->o.uponIn (Mu l) n P a K' Q r:=by
 have hd:(Mu l).depth.isSome=true->1≤n:=fun h=>by rw [SY] at h; cases h
 intro r h
 cases r with
 | ok x w =>
  cases x with
  | value v=>exact hK _ _ h
  | skip=>exact hK _ _ h
  | defer d=>exact hK _ _ h
  | enter f args =>
   refine ⟨hd,(PE (show Calls P f args w _ from h)).mono fun e w' he=>?_⟩
   cases e with
   | returned v=>exact hK _ _ he
   | panicked c=>exact he
   | outgrown=>exact he
  | row row args =>
   refine ⟨hd,fun c cs _=>?_⟩
   obtain ⟨v,w',hr,hs⟩:=(show Rows P row args w _ from h) c cs
   refine ⟨v,w',hK _ _ hr,?_⟩
   cases l with
   | none=>exact stepsIn_wide.2 hs
   | some l=>exact (show StepsIn (Machine.fenced P Fence.wide) P _ _ from stepsIn_wide.2 hs)
  | _=>exact h.elim
 | halt x w=>cases x <;> first | exact h | exact h.elim
theorem RW {l:Option Nat} {n:Nat} {o:Oper} {a:Act} {w:World} {K K':Act->World->Prop} {Q:Exit->Act->World->Prop} (hd:l=none ∨ ∀ c,o.op ≠ .defer c) (hK:∀ a w,K a w->K' a w) (h:o.wp P a w K Q):o.wpIn (Mu l) n P a w K' Q:=by
 refine ⟨fun f _=>UJ l f,?_⟩
 have e:o.semAt (Mu l).round a.eval=execOp a.eval o:=by
  cases l with
  | none=>rfl
  | some l =>
   rcases hd with h | h
   ·cases h
   ·exact Oper.semAt_eq _ _ _ h
 rw [e]
 exact Wa hK h
theorem Ee {l:Option Nat} {n:Nat} {ops:Array Oper} {Q:Exit->Act->World->Prop} {r:List Oper}:∀ {os:List Oper} {a:Act} {w:World},(l=none ∨ ∀ o∈os,∀ c,o.op ≠ .defer c) →
  Fv P ops Q (wpListIn (Mu l) n P ops Q r) os a w->wpListIn (Mu l) n P ops Q (os++r) a w
 | [],_,_,_,h=>h
 | o::os,a,w,hd,h=>by
  show wpListIn (Mu l) n P ops Q (o::(os++r)) a w
  simp only [wpListIn]
  unfold Fv at h
  have hd1:l=none ∨ ∀ c,o.op ≠ .defer c:=hd.imp id fun h=>h o (List.mem_cons_self ..)
  have hd2:l=none ∨ ∀ o∈os,∀ c,o.op ≠ .defer c:=hd.imp id fun h o ho=>h o (List.mem_cons_of_mem _ ho)
  split
  ·rw [if_pos (by assumption)] at h
   exact RW hd1 (fun a w h=>Ee hd2 h) h
  ·rw [if_neg (by assumption)] at h
   exact ⟨fun f _=>UJ l f,Ee hd2 h⟩
def IY (P:Program) (ρ:Env) (B:Nat) (cf:CF):Prop :=
 ∀ f args h n (Φ:R->Prop),(cf f args h n).sat Φ->∀ φ w (xs:Array Value),Gam ρ B h n φ w->BC ρ φ args xs.toList →
  HR P f xs w fun x w'=>∃ v h1 n1 φ',Φ (.rv v h1 n1)∧Fr h h1 φ φ' n n1 w w'∧Gam ρ B h1 n1 φ' w'∧AL ρ φ' v x
theorem IY.ok {cf:CF} (H:IY P ρ B cf):Ea P ρ B cf:=fun f args h n v h1 n1 hr φ w xs g hx o a K Q hK=>by
 refine H f args h n (fun r=>r = .rv v h1 n1) (by rw [hr]; exact rfl) φ w xs g hx o a K Q fun x w' ⟨v',h',n',φ',e,f1,g1,r1⟩=>hK x w' ?_
 cases e
 exact ⟨φ',f1,g1,r1⟩
def FG (A:ApC) (f:FuncId) (tmps:Array Value) (D:Nat):Loop:={ state:=.ready,pending:=none,fn:=f,tmps,params:=#[A.par],assign:=A.asg,body:=A.bod,defers:=D }
def J5 (P:Program) (ρ:Env) (B:Nat) (cf:CF):Prop :=
 ∀ f A fn,ρ.ap f=some A->∀ box x h n (Φ:R->Prop),(cf f [.oth .no,.ptr box 0,x] h n).sat Φ->∀ φ w (tmps:Array Value) X l D,Gam ρ B h n φ w->w.heap[l]? = some (.loop (FG A fn tmps D)) →
  (∀ q s tot,φ q=some (l,s,tot)->Ar q h=none)->tmps.size=A.ntm->AL ρ φ (.ptr box 0) (tmps.getD A.box undef)->AL ρ φ x X →
  RoundIn Fence.wide 0 P l fn (tmps.setIfInBounds A.par X) A.asg A.bod w fun e w'=>e = .returned (.bool true) ∧
   ∃ v h1 n1 φ',v = .bool true∧Φ (.rv v h1 n1)∧Fr h h1 φ φ' n n1 w w'∧Gam ρ B h1 n1 φ' w'
def WP (P:Program) (ρ:Env) (B N:Nat) (o:Oper) (t:Regs) (h:Heap) (n:K4) (f:KV->R):Prop :=
 ∀ (κ:KV) (Φ:R->Prop),(f κ).sat Φ->∀ (φ:Ba) (a:Act) (w:World),TR ρ N φ t a->Gam ρ B h n φ w->∀ (K:Act->World->Prop) (Q:Exit->Act->World->Prop),
  (∀ v h1 n1,(κ v h1 n1).sat Φ->∀ φ' x w',Fr h h1 φ φ' n n1 w w'->Gam ρ B h1 n1 φ' w'->AL ρ φ' v x->K (a.put o.dst x) w')->o.wpIn (Mu none) 0 P a w K Q
section
variable {o:Oper} {t:Regs} {h:Heap} {n:K4} {cf:CF} {cf2:If}
theorem UY.in_ {f:KV->R} (H:UY P ρ B N o t h n f):WP P ρ B N o t h n f:=fun κ Φ hs φ a w hT g K Q hK=>RW (.inl rfl) (fun _ _ h=>h) (H κ Φ hs φ a w hT g K Q hK)
def Wh (κ:KV) (Φ:R->Prop):R->Prop
 | .rv v h n=>(κ v h n).sat Φ
 | _=>False
theorem Eb {κ:KV} {Φ:R->Prop}:∀ {r:R},(BY r κ).sat Φ->r.sat (Wh κ Φ)
 | .ok _ _ _ _,h=>h.elim
 | .rv _ _ _,h=>h
 | .fail _,h=>h.elim
 | .both a b,h=>⟨Eb (r:=a) h.1,Eb (r:=b) h.2⟩
theorem WC {ct:Call} {f:FuncId} {args:List Opd} (hcf:IY P ρ B cf) (h2:∀ f,cf2 (B2 f)=cf f) (ho:o.op = .call ct) (hc:ct.callee = .value (.func f)) (ha:BD N ct.args.toList=some args) :
  UY P ρ B N o t h n fun κ=>BY (cf2 (B2 f) (args.map (ev · t)) h n) κ:=by
 intro κ Φ hs φ a w hT g K Q hK
 have hs:=Eb hs
 rw [h2] at hs
 have:=hcf f _ h n _ hs φ w (ct.args.map a.eval) g (by rw [Array.toList_map]; exact F0 ha hT) o a K Q (fun x w' ⟨v,h1,n1,φ',hΦ,f1,g1,r1⟩=>hK v h1 n1 hΦ φ' x w' f1 g1 r1)
 unfold Oper.wp
 have e3:(execOp a.eval o).run P w=(callFunc f (ct.args.map a.eval)).run P w:=by
  simp [execOp,ho,resolve,hc,Act.eval,Deferred.ofValue,invoke]
 rw [e3]; exact this
theorem Gam.back {h1:Heap} {n1 p:K4} {φ φ1:Ba} {w w1:World} {ob:Ob} {b s tot:Nat} (g:Gam ρ B h n φ w) (hp:Ar p h=some ob) (hφ:φ p=some (b,s,tot)) (hsup:J4 ob=false) (hprev:BX ob=none)
  (f1:Fr (AJ p h none) h1 φ φ1 n n1 w w1) (g1:Gam ρ B h1 n1 φ1 w1) (hw:w1.heap[b]? = w.heap[b]?) :
  Gam ρ B (AJ p h1 (some ob)) n1 φ1 w1∧Fr h (AJ p h1 (some ob)) φ φ1 n n1 w w1:=by
 have out:∀ q o' s' tot',p≠q->Ar q h1=some o'->φ1 q=some (b,s',tot')->False:=fun q o' s' tot' hne hq hx=>by
  have key:∀ r o2 sr tr,p≠r->Ar r h=some o2->φ r=some (b,sr,tr)->False:=fun r o2 sr tr hpr hr hxr=>by
   rcases g.sep p r ob o2 b s tot sr tr hpr hp hr hφ hxr with e | e
   ·rw [hprev] at e; cases e
   ·have:=g.sup r p o2 ob b sr tr s tot hr e hp hxr hφ
    rw [hsup] at this; cases this
  rcases f1.fresh q b s' tot' hx with e | e | ⟨r,sr,tr,hr,hne'⟩
  ·cases hq':Ar q h with
   | none =>
    have:=f1.dm q (by rw [e]; simp) (by rw [Ah _ _ hne]; exact hq')
    rw [this] at hq; cases hq
   | some o2=>exact key q o2 s' tot' hne hq' e
  ·have:=(g.blk p b s tot hφ).2; omega
  ·by_cases e:p=r
   ·subst e; exact hne' (Am _ _ _)
   ·rw [Ah _ _ e] at hne'
    cases hr':Ar r h with
    | none=>exact hne' hr'
    | some o2=>exact key r o2 sr tr e hr' hr
 have hφ1:=f1.ext _ _ hφ
 refine ⟨⟨g1.base,g1.dom,g1.blk,fun q o' b' s' tot' hq hx=>?_,fun q r o1 o2 b' s1 t1 s2 t2 hne hq hr hx hy=>?_,fun q r o1 o2 b' s1 t1 s2 t2 hq hpr hr hx hy=>?_,g1.glob⟩,
  ⟨f1.ext,f1.new,f1.nn,f1.os,f1.tape,f1.out,f1.size,fun b' hb hn=>f1.old b' hb fun q s' tot' hx=>?_,fun q b' s' tot' hx=>?_,fun q hq hn=>?_⟩⟩
 ·rcases BG hq with ⟨rfl,e⟩ | ⟨hne,hq⟩
  ·cases e
   rw [hφ1] at hx; cases hx
   exact Ci hw (Eg f1.ext (g.obj p _ _ _ _ hp hφ))
  ·exact g1.obj q o' b' s' tot' hq hx
 ·rcases BG hq with ⟨rfl,e⟩ | ⟨hq',hq⟩
  ·rw [hφ1] at hx; cases hx
   rcases BG hr with ⟨e',_⟩ | ⟨hr',hr⟩
   ·exact absurd e' hne
   ·exact (out r o2 s2 t2 hr' hr hy).elim
  ·rcases BG hr with ⟨rfl,e⟩ | ⟨hr',hr⟩
   ·rw [hφ1] at hy; cases hy
    exact (out q o1 s1 t1 hq' hq hx).elim
   ·exact g1.sep q r o1 o2 b' s1 t1 s2 t2 hne hq hr hx hy
 ·rcases BG hq with ⟨rfl,e⟩ | ⟨hq',hq⟩
  ·cases e; rw [hprev] at hpr; cases hpr
  ·rcases BG hr with ⟨rfl,e⟩ | ⟨hr',hr⟩
   ·rw [hφ1] at hy; cases hy
    exact (out q o1 s1 t1 hq' hq hx).elim
   ·exact g1.sup q r o1 o2 b' s1 t1 s2 t2 hq hpr hr hx hy
 ·by_cases e:p=q
  ·subst e; exact Am _ _ _
  ·rw [Ah _ _ e]; exact hn q s' tot' hx
 ·rcases f1.fresh q b' s' tot' hx with e | e | ⟨r,sr,tr,hr,hne'⟩
  ·exact .inl e
  ·exact .inr (.inl e)
  ·refine .inr (.inr ⟨r,sr,tr,hr,fun hn=>hne' ?_⟩)
   by_cases e:p=r
   ·subst e; exact Am _ _ _
   ·rw [Ah _ _ e]; exact hn
 ·have hne:p≠q:=fun e=>by subst e; rw [hp] at hn; cases hn
  rw [Ah _ _ hne]
  exact f1.dm q hq (by rw [Ah _ _ hne]; exact hn)
theorem Gam.aside {p:K4} {φ:Ba} {w:World} (g:Gam ρ B h n φ w):Gam ρ B (AJ p h none) n φ w:=by
 have get:∀ q o,Ar q (AJ p h none)=some o->Ar q h=some o:=fun q o hq=>by
  rcases BG hq with ⟨_,e⟩ | ⟨_,hq⟩
  ·cases e
  ·exact hq
 exact ⟨g.base,g.dom,g.blk,fun q o b s t hq hx=>g.obj q o b s t (get q o hq) hx,fun q r o o' b s t s' t' hne hq hr hx hy=>g.sep q r o o' b s t s' t' hne (get q o hq) (get r o' hr) hx hy,
  fun q r o o' b s t s' t' hq hpr hr hx hy=>g.sup q r o o' b s t s' t' (get q o hq) hpr (get r o' hr) hx hy,g.glob⟩
theorem Xl {ct:Call} {x:Operand} {x':Opd} {args:List Opd} (hcf:IY P ρ B cf) (hR:J5 P ρ B cf) (h2:∀ f,cf2 (B2 f)=cf f) (ho:o.op = .call ct) (hc:ct.callee = .value x) (hx:AY N x=some x') (ha:BD N ct.args.toList=some args) :
  WP P ρ B N o t h n fun κ=>Iw cf2 (ev x' t) (args.map (ev · t)) h n κ:=by
 intro κ Φ hs φ a w hT g K Q hK
 have g1:=An hx hT
 have gargs:=F0 ha hT
 cases hv:ev x' t with
 | fn f caps =>
  rw [hv] at g1 hs
  have hs:(EF (args.map (ev · t)) caps fun l=>BY (cf2 (B2 f) l h n) κ).sat Φ:=hs
  rw [Dz] at hs
  have hs:=Eb hs
  rw [h2] at hs
  obtain ⟨cs,gx,hcs⟩:=Iy g1
  refine RW (.inl rfl) (fun _ _ h=>h) ?_
  have:=hcf f _ h n _ hs φ w (ct.args.map a.eval++cs) g (by rw [Array.toList_append,Array.toList_map]; exact Fw gargs hcs) o a K Q (fun x w' ⟨v,h1,n1,φ',hΦ,f1,g1,r1⟩=>hK v h1 n1 hΦ φ' x w' f1 g1 r1)
  unfold Oper.wp
  have e3:(execOp a.eval o).run P w=(callFunc f (ct.args.map a.eval++cs)).run P w:=by
   simp [execOp,ho,resolve,hc,gx,Deferred.ofValue,invoke]
  rw [e3]; exact this
 | oth ot =>
  rw [hv] at g1 hs
  cases ot with
  | any=>exact hs.elim
  | sym i=>exact hs.elim
  | no=>exact hs.elim
  | iv k lo hi=>exact hs.elim
  | os lo hi=>exact hs.elim
  | bl=>exact hs.elim
  | rs m j=>exact hs.elim
  | ss lo hi n c=>exact hs.elim
  | ro i lo hi z=>exact hs.elim
  | ap i j m=>exact hs.elim
  | sy k i=>exact hs.elim
  | yl p =>
   have hs:(X6 cf2 p (args.map (ev · t)) h n κ).sat Φ:=hs
   unfold X6 at hs
   rw [Bz] at hs
   cases hob:Ar p h with
   | none=>rw [hob] at hs; exact hs.elim
   | some ob =>
    rw [hob] at hs
    cases ob with
    | c _ _ _=>exact hs.elim
    | m _ _ _=>exact hs.elim
    | it _ _ _ _=>exact hs.elim
    | it0=>exact hs.elim
    | lp f box =>
     generalize hal:args.map (ev · t)=al at hs gargs
     match al,hs,gargs,hal with
     | [],hs,_,_=>exact hs.elim
     | _::_::_,hs,_,_=>exact hs.elim
     | [y],hs,gargs,hal =>
      have hs:(Bx p h none fun h=>BY (cf2 (B2 f) [.oth .no,.ptr box 0,y] h n) fun v h n=>Bx p h (some (.lp f box)) fun h=>κ v h n).sat Φ:=hs
      rw [C0,Bm] at hs
      have hs:=Eb hs
      rw [h2] at hs
      have g1:∃ b s tot,φ p=some (b,s,tot)∧a.eval x = .func (.yield b) #[] #[]:=by simpa only [AL] using g1
      obtain ⟨b,s,tot,hφ,gx⟩:=g1
      obtain ⟨hs0,A,fn,tmps,D,hA,hrec,hsz,hbox⟩:=g.obj p _ b s tot hob hφ
      subst hs0
      obtain ⟨X,l0,hX,rX,h0⟩:=Au.1 gargs
      have h0:=AH.1 h0
      subst h0
      have hargs:ct.args.map a.eval = #[X]:=by
       have:(ct.args.map a.eval).toList=[X]:=by rw [Array.toList_map]; exact hX
       cases hh:ct.args.map a.eval with
       | mk l=>rw [hh] at this; simp at this; rw [this]
      have unc:∀ q s tot,φ q=some (b,s,tot)->Ar q (AJ p h none)=none:=fun q s' tot' hq=>by
       by_cases e:p=q
       ·subst e; exact Am _ _ _
       ·rw [Ah _ _ e]
        cases hq':Ar q h with
        | none=>rfl
        | some o2 =>
         rcases g.sep p q _ o2 b 0 tot s' tot' e hob hq' hφ hq with e | e
         ·cases e
         ·have:=g.sup q p o2 _ b s' tot' 0 tot hq' e hob hq hφ; cases this
      have rnd:=hR f A fn hA box y _ n _ hs φ w tmps X b D g.aside hrec unc hsz hbox rX
      refine ⟨fun f _=>trivial,?_⟩
      have e3:(o.semAt (Mu none).round a.eval).run P w = .ok (.round b fn (tmps.setIfInBounds A.par X) A.asg A.bod) w:=by
       have e4:(Instr.yield b #[X]).run P w = .ok (.round b fn (tmps.setIfInBounds A.par X) A.asg A.bod) w:=by
        have:=run_yield (P:=P) (args:=#[X]) hrec rfl
        simpa [FG] using this
       show (execOp a.eval o).run P w=_
       simp [execOp,ho,resolve,hc,gx,Deferred.ofValue,invoke,hargs,e4]
      rw [e3]
      refine ⟨fun h=>(by cases h),rnd.mono fun e w' ⟨he,v,h1,n1,φ',hv,hΦ,f1,g1⟩=>?_⟩
      subst he
      have hΦ:(Bx p h1 (some (.lp f box)) fun h=>κ v h n1).sat Φ:=hΦ
      rw [C0,Bm] at hΦ
      subst hv
      have hbl:=(g.blk p b 0 tot hφ).2
      have hw':w'.heap[b]? = w.heap[b]?:=f1.old b hbl unc
      obtain ⟨g2,f2⟩:=g.back hob hφ rfl rfl f1 g1 hw'
      exact hK _ _ _ hΦ φ' (.bool true) w' f2 g2 (by simp only [AL])
 | _=>rw [hv] at hs; exact hs.elim
end
end
end Go.Ev

namespace Go.Ev
set_option linter.unusedVariables false
abbrev Ov:=Ren->S->Heap->K4->R
abbrev r0:Ov:=fun _ t h n=>.ok .nrm t h n
def AC.ends (c:AC):Bool:=@AC.rec (fun _=>Bool) false (fun _ _ x y=>or x y) (fun _=>false) (fun _ _=>false) (fun _ _ _ x y=>and x y) (fun _ _ _=>false) (fun _ _=>true) (fun _=>true) true (fun _=>true) (fun _ _ _ _=>false) c
def AG (r:R) (κ:S->Heap->K4->R):R :=
 @R.rec (fun _=>R) (fun e t h n=>@Ex.rec (fun _=>R) (κ t h n) (fun id=>.ok (.exit id) t h n) (.ok .ret t h n) e) (C4 "") (fun w=>.fail w) (fun _ _ a b=>.both a b) r
def Ac (id:Nat) (r:R) (κ:S->Heap->K4->R):R :=
 @R.rec (fun _=>R) (fun e t h n=>@Ex.rec (fun _=>R) (κ t h n) (fun j=>br (Nat.beq j id) (κ t h n) (.ok (.exit j) t h n)) (.ok .ret t h n) e) (C4 "") (fun w=>.fail w) (fun _ _ a b=>.both a b) r
def AE (body:S->Heap->K4->R):S->Heap->K4->R:=E2 body 1000000000
def Ct (n:K4) (κ:K4->K4->R):R:=n.nx16 fun b=>b.nx16 fun n=>κ b n
abbrev U3 (al:Bool) (n:K4) (κ:K4->K4->R):R:=Wo al (Ct n κ) (κ n n)
abbrev TQ (ea eb:Bool) (v:V) (a b:Ov->Ov) (rest:Ov) (env:Ren) (t:S) (h:Heap) (n:K4):R :=
 Wo ea (Aq v (a r0 env t h n) (b rest env t h n)) (Wo eb (Aq v (a rest env t h n) (b r0 env t h n)) (AG (Aq v (a r0 env t h n) (b r0 env t h n)) fun t h n=>rest [] t h n))
abbrev HQ (sm:SM) (cf:If) (c:AC):Ov->Ov :=
 @AC.rec (fun _=>Ov->Ov) (fun rest=>rest) (fun _ _ a b rest=>a (b rest)) (fun l rest env t h n=>Dx sm cf l env t h n rest)
  (fun al l rest env t h n=>U3 al n fun b n=>DU sm cf b l env t h h n fun env t _ h n=>rest env t h n)
  (fun c x y a b rest env t h n=>Bt sm env t c fun v=>TQ x.ends y.ends v a b rest env t h n)
  (fun id _ b rest env t h n=>Ac id (b r0 env t h n) fun t h n=>rest [] t h n)
  (fun _ b _ _ t h n=>AE (fun t h n=>b r0 [] t h n) t h n) (fun id _ _ t h n=>.ok (.exit id) t h n) (fun _ _ t h n=>.ok .ret t h n) (DQ "")
  (fun pre sp d post rest env t h n=>Dx sm cf pre env t h n fun env t h n=>Xm cf sp (Bt sm env t) h n fun v h n=>Do sm d t v fun t=>Dx sm cf post (BT d v env) t h n rest) c
def EG (sm:SM) (dom:List K2) (c:Opd):Bool:=@Opd.rec (fun _=>Bool) (fun p=>K9 sm dom p) (fun _=>true) c
def R7 (sm:SM) (dom:List K2) (sp:Sp):Bool:=@Sp.rec (fun _=>Bool) (fun x=>EG sm dom x) (fun x=>EG sm dom x) (fun x=>EG sm dom x) (fun _ l=>l.all (EG sm dom)) (fun x l=>EG sm dom x&&l.all (EG sm dom)) sp
def KC (sm:SM) (c:AC):(List K2->Bool)->List K2->Bool :=
 @AC.rec (fun _=>(List K2->Bool)->List K2->Bool) (fun r=>r) (fun _ _ a b r=>a (b r)) (fun l r dom=>GK sm l dom&&r (D0 l dom))
  (fun al l r dom=>IL sm l dom&&r (Jd l dom))
  (fun c x y a b r dom=>EG sm dom c&&br x.ends (a (fun _=>true) dom&&b r dom) (br y.ends (a r dom&&b (fun _=>true) dom) (a (fun _=>true) dom&&(b (fun _=>true) dom&&r []))))
  (fun id _ b r dom=>b (fun _=>true) dom&&r []) (fun _ b _ _=>b (fun _=>true) []) (fun _ _ _=>true) (fun _ _=>true) (fun _ _ _=>true)
  (fun pre sp d post r dom=>GK sm pre dom&&(R7 sm (D0 pre dom) sp&&(GK sm post (GB d (D0 pre dom))&&r (D0 post (GB d (D0 pre dom)))))) c
section
variable {P:Program} {ρ:Env} {B N:Nat} {cf:CF} {cf2:If} {sm:SM}
def U6 (κ:S->Heap->K4->R) (Φ:R->Prop):R->Prop
 | .ok .nrm t h n=>(κ t h n).sat Φ
 | .ok e t h n=>Φ (.ok e t h n)
 | _=>False
theorem Hv {κ:S->Heap->K4->R} {Φ:R->Prop}:∀ {r:R},(AG r κ).sat Φ->r.sat (U6 κ Φ)
 | .ok e t h n,hs=>by cases e <;> exact hs
 | .rv _ _ _,hs=>hs.elim
 | .fail _,hs=>hs.elim
 | .both a b,hs=>⟨Hv (r:=a) hs.1,Hv (r:=b) hs.2⟩
theorem VN {body:S->Heap->K4->R} {k:Nat} {Φ:R->Prop} {t:S} {h:Heap} {n:K4} (hs:(E2 body (k+1) t h n).sat Φ):(body t h n).sat (U6 (E2 body k) Φ):=by
 have e:E2 body (k+1) t h n=@R.rec (fun _=>R) (fun e t h n=>@Ex.rec (fun _=>R) (E2 body k t h n) (fun id=>.ok (.exit id) t h n) (.ok .ret t h n) e) (C4 "") (fun w=>.fail w) (fun _ _ a b=>.both a b) (body t h n):=rfl
 rw [e] at hs
 generalize body t h n=r at hs
 clear e
 induction r with
 | ok e t h n=>cases e <;> exact hs
 | rv _ _ _=>exact hs.elim
 | fail _=>exact hs.elim
 | both a b iha ihb=>exact ⟨iha hs.1,ihb hs.2⟩
def XP (id:Nat) (κ:S->Heap->K4->R) (Φ:R->Prop):R->Prop
 | .ok .nrm t h n=>(κ t h n).sat Φ
 | .ok (.exit j) t h n=>(j=id∧(κ t h n).sat Φ)∨(j≠id∧Φ (.ok (.exit j) t h n))
 | .ok .ret t h n=>Φ (.ok .ret t h n)
 | _=>False
theorem Ic {id:Nat} {κ:S->Heap->K4->R} {Φ:R->Prop}:∀ {r:R},(Ac id r κ).sat Φ->r.sat (XP id κ Φ)
 | .ok e t h n,hs=>by
  cases e with
  | nrm=>exact hs
  | ret=>exact hs
  | exit j =>
   have hs:(br (Nat.beq j id) (κ t h n) (R.ok (.exit j) t h n)).sat Φ:=hs
   cases hj:Nat.beq j id with
   | true=>rw [hj] at hs; exact .inl ⟨Nat.eq_of_beq_eq_true hj,hs⟩
   | false=>rw [hj] at hs; exact .inr ⟨fun e=>by subst e; simp at hj,hs⟩
 | .rv _ _ _,hs=>hs.elim
 | .fail _,hs=>hs.elim
 | .both a b,hs=>⟨Ic (r:=a) hs.1,Ic (r:=b) hs.2⟩
def Ur (P:Program) (ρ:Env) (B N:Nat) (sm:SM) (C:Code) (t:Regs) (h:Heap) (n:K4) (Φ:R->Prop):Prop :=
 ∀ φ a w,TR ρ N φ t a->Gam ρ B h n φ w->∀ (Q:Exit->Act->World->Prop),
  (∀ e t1 h1 n1,Φ (.ok e t1 h1 n1)->∀ φ' a' w' tf,Fr h h1 φ φ' n n1 w w'->Gam ρ B h1 n1 φ' w'->TR ρ N φ' tf a'->(∀ p s,Cx p sm=some s->S.get s t1=Bo p tf)->Q (Qp e) a' w')->C.wp P Q a w
def US (P:Program) (ρ:Env) (B N:Nat) (sm:SM) (cf2:If) (C:Code):Prop :=
 ∀ (rest:Ov) (rOk:List K2->Bool) (dom:List K2) (env:Ren) (t:Regs) (t':S) (h:Heap) (n:K4) (Φ:R->Prop),
  KC sm (Bl P N C) rOk dom=true->RI sm dom env t t'->(HQ sm cf2 (Bl P N C) rest env t' h n).sat Φ →
  ∀ φ a w,TR ρ N φ t a->Gam ρ B h n φ w->∀ (Q:Exit->Act->World->Prop),
   (∀ e t1 h1 n1,Φ (.ok e t1 h1 n1)->e ≠ .nrm->∀ φ' a' w' tf,Fr h h1 φ φ' n n1 w w'->Gam ρ B h1 n1 φ' w'->TR ρ N φ' tf a'->(∀ p s,Cx p sm=some s->S.get s t1=Bo p tf)->Q (Qp e) a' w') →
   ((Bl P N C).ends=false->∀ dom2 env2 t2 t2' h2 n2,rOk dom2=true->RI sm dom2 env2 t2 t2'->(rest env2 t2' h2 n2).sat Φ->∀ φ2 a2 w2,Fr h h2 φ φ2 n n2 w w2->Gam ρ B h2 n2 φ2 w2->TR ρ N φ2 t2 a2->Q .normal a2 w2) →
   C.wp P Q a w
theorem US.join {C:Code} (H:US P ρ B N sm cf2 C) {dom:List K2} {env:Ren} {t:Regs} {t':S} {h:Heap} {n:K4} {Φ:R->Prop} (hok:KC sm (Bl P N C) (fun _=>true) dom=true) (ri:RI sm dom env t t')
  (hx:(HQ sm cf2 (Bl P N C) r0 env t' h n).sat Φ):Ur P ρ B N sm C t h n Φ:=by
 intro φ a w hT g Q hQ
 refine H r0 _ dom env t t' h n Φ hok ri hx φ a w hT g Q (fun e t1 h1 n1 hΦ _ φ' a' w' tf f1 g1 T1 hk=>hQ e t1 h1 n1 hΦ φ' a' w' tf f1 g1 T1 hk) fun _ dom2 env2 t2 t2' h2 n2 _ ri2 hr φ2 a2 w2 f2 g2 T2=>?_
 have hr:Φ (R.ok .nrm t2' h2 n2):=hr
 exact hQ _ _ _ _ hr φ2 a2 w2 t2 f2 g2 T2 ri2.keep
theorem Vx {o:Oper} {d:Option K2} (h:WG N o=some d):Rb N o.dst d:=by
 unfold WG at h
 cases hd:o.dst with
 | none=>rw [hd] at h; cases h; trivial
 | some s =>
  rw [hd] at h
  obtain ⟨p,hp,rfl⟩:=At h
  exact DD hp
theorem Mg {ops:Array Oper}:∀ {l:List Oper} {pre:List AOp} {sp:Sp} {d:Option K2} {post:List AOp},PN P N ops l=some (pre,sp,d,post) →
  ∃ l1 o l2,l=l1++o::l2∧HP P N ops l1=some pre∧Zf P N o=some sp∧o.guard=none∧Rb N o.dst d∧HP P N ops l2=some post
 | [],pre,sp,d,post,h=>by cases h
 | o::l,pre,sp,d,post,h=>by
  unfold PN at h
  split at h
  ·rename_i sp' hsp
   split at h
   ·rename_i d' post' hg hd hp
    cases h
    exact ⟨[],o,l,rfl,rfl,hsp,hg,Vx hd,hp⟩
   ·cases h
  ·split at h
   ·cases h
   ·rename_i r hr
    split at h
    ·rename_i x hx
     obtain ⟨pre',sp',d',post'⟩:=r
     cases h
     obtain ⟨l1,o',l2,rfl,h1,h2,h3,h4,h5⟩:=Mg hr
     refine ⟨o::l1,o',l2,rfl,?_,h2,h3,h4,h5⟩
     simp only [HP,hx,h1]
    ·cases h
theorem Yq {cf:CF} {cf2:If} (hcf:IY P ρ B cf) (hR:J5 P ρ B cf) (h2:∀ f,cf2 (B2 f)=cf f) {o:Oper} {sp:Sp} (hc:Zf P N o=some sp) {t:Regs} {h:Heap} {n:K4}:WP P ρ B N o t h n (Xm cf2 sp (fun x κ=>κ (ev x t)) h n):=by
 have tl:∀ (l:List Opd) (κ:List V->R),Gc (fun x κ=>κ (ev x t)) l κ=κ (l.map (ev · t)):=fun l κ=>G6 (fun x _ κ=>rfl)
 unfold Zf at hc
 split at hc
 ·rename_i ty x ho
  split at hc
  ·rename_i kt e ht
   obtain ⟨x',hx,rfl⟩:=At hc
   exact (Td ho hx ht).sp.in_
  ·cases hc
 ·rename_i x s ho
  split at hc
  ·cases hc
  ·rename_i hs
   obtain ⟨x',hx,rfl⟩:=At hc
   have:s=false:=by simpa using hs
   subst this
   exact (X5 ho hx).in_
 ·rename_i x ho
  obtain ⟨x',hx,rfl⟩:=At hc
  exact (SC ho hx).sp.in_
 ·rename_i ct ho
  split at hc
  ·rename_i f hcal
   split at hc
   ·obtain ⟨l,hl,rfl⟩:=At hc
    have e:Xm cf2 (.tcl f l) (fun x κ=>κ (ev x t)) h n=fun κ=>BY (cf2 (B2 f) (l.map (ev · t)) h n) κ:=by
     funext κ
     exact tl l _
    rw [e]
    exact (WC hcf h2 ho hcal hl).in_
   ·cases hc
  ·rename_i s hcal
   split at hc
   ·rename_i x l hx hl
    cases hc
    have e:Xm cf2 (.dcl x l) (fun x κ=>κ (ev x t)) h n=fun κ=>Iw cf2 (ev x t) (l.map (ev · t)) h n κ:=by
     funext κ
     exact tl l _
    rw [e]
    exact Xl hcf hR h2 ho hcal hx hl
   ·cases hc
  ·cases hc
 ·cases hc
theorem Xe (hρ:Bp ρ) (hm:P.follows .mixedOrders=true) (hct:IY P ρ B cf) (hR:J5 P ρ B cf) (h2:∀ f,cf2 (B2 f)=cf f):∀ C:Code,US P ρ B N sm cf2 C:=by
 have hcf:=hct.ok
 intro C
 induction C with
 | skip=>intro rest rOk dom env t t' h n Φ hok ri hx φ a w hT g Q hex hre; exact wp_skip (hre rfl dom env t t' h n hok ri hx φ a w (Fr.refl h φ n w) g hT)
 | label l=>intro rest rOk dom env t t' h n Φ hok ri hx φ a w hT g Q hex hre; exact wp_label (hre rfl dom env t t' h n hok ri hx φ a w (Fr.refl h φ n w) g hT)
 | exit id =>
  intro rest rOk dom env t t' h n Φ hok ri hx φ a w hT g Q hex hre
  exact wp_exit (hex _ _ _ _ hx (fun h=>by cases h) φ a w t (Fr.refl h φ n w) g hT ri.keep)
 | ret =>
  intro rest rOk dom env t t' h n Φ hok ri hx φ a w hT g Q hex hre
  exact wp_ret (hex _ _ _ _ hx (fun h=>by cases h) φ a w t (Fr.refl h φ n w) g hT ri.keep)
 | region id ops draw =>
  intro rest rOk dom env t t' h n Φ hok ri hx φ a w hT g Q hex hre
  cases draw with
  | true =>
   have hok:KC sm (CB P N ops true) rOk dom=true:=hok
   have hx:(HQ sm cf2 (CB P N ops true) rest env t' h n).sat Φ:=hx
   have hre:(CB P N ops true).ends=false->_:=hre
   unfold CB at hok hx hre
   split at hx
   ·exact hx.elim
   ·rename_i os hos
    simp only [hos,if_true] at hok hre
    simp only [if_true] at hx
    split at hx
    ·rename_i hpl
     rw [if_pos hpl] at hok hre
     have hre:=hre rfl
     have good:=Plot.good_of_ok hpl
     have hok:(IL sm ((Ce (ops.toList.map D9) os).sk.map (M5 os)) dom&&rOk (Jd ((Ce (ops.toList.map D9) os).sk.map (M5 os)) dom))=true:=hok
     rw [Bool.and_eq_true] at hok
     have run:∀ (b n0:K4),(DU sm cf2 b ((Ce (ops.toList.map D9) os).sk.map (M5 os)) env t' h h n0 (fun env t _ h n=>rest env t h n)).sat Φ →
       ((Ce (ops.toList.map D9) os).HasAl->b.d = .d0)->((Ce (ops.toList.map D9) os).HasAl->n.toN≤b.toN)->((Ce (ops.toList.map D9) os).HasAl->b.toN+16≤n0.toN)->n.toN≤n0.toN->(Code.region id ops true).wp P Q a w:=fun b n0 hx k1 k2 k3 k4=>by
      obtain ⟨st,env1,t1',s0,hst,ri1,e3⟩:=Ji h2 (s:=⟨t,h,h,n0⟩) hok.1 ri (R.sat_good hx)
      have e3:DU sm cf2 b ((Ce (ops.toList.map D9) os).sk.map (M5 os)) env t' h h n0 (fun env t _ h n=>rest env t h n)=_:=e3
      rw [e3,List.length_map] at hx
      rw [List.length_map] at ri1
      have r:Rn P N ops os (Ce (ops.toList.map D9) os) cf b st:=⟨good,hos,rfl,fun l x hlx=>hst l _ (by rw [List.getElem?_map,hlx]; rfl)⟩
      refine Tf (φ:=φ) hρ hm hcf r s0 k1 k2 k3 k4 hT g fun φ' a' w' f1 g1 T1=>?_
      exact hre _ env1 _ t1' _ _ hok.2 ri1 hx φ' a' w' f1 g1 T1
     have hx:(U3 ((Ce (ops.toList.map D9) os).sk.any SI.isAl) n (fun b n=>DU sm cf2 b ((Ce (ops.toList.map D9) os).sk.map (M5 os)) env t' h h n fun env t _ h n=>rest env t h n)).sat Φ:=hx
     cases hal:(Ce (ops.toList.map D9) os).sk.any SI.isAl with
     | false =>
      have hn:=noAl good hal
      rw [hal] at hx
      exact run n n hx (fun h=>absurd h hn) (fun h=>absurd h hn) (fun h=>absurd h hn) (Nat.le_refl _)
     | true =>
      rw [hal] at hx
      have hx:(n.nx16 (fun b=>b.nx16 fun n0=>DU sm cf2 b ((Ce (ops.toList.map D9) os).sk.map (M5 os)) env t' h h n0 fun env t _ h n=>rest env t h n)).sat Φ:=hx
      rcases K4.nx16_eq n (fun b=>b.nx16 fun n0=>DU sm cf2 b ((Ce (ops.toList.map D9) os).sk.map (M5 os)) env t' h h n0 fun env t _ h n=>rest env t h n) with ⟨w',e1⟩ | ⟨b,hbn,hb0,e1⟩
      ·rw [e1] at hx; exact hx.elim
      ·rw [e1] at hx
       rcases K4.nx16_eq b (fun n0=>DU sm cf2 b ((Ce (ops.toList.map D9) os).sk.map (M5 os)) env t' h h n0 fun env t _ h n=>rest env t h n) with ⟨w',e2⟩ | ⟨n0,hn0,_,e2⟩
       ·rw [e2] at hx; exact hx.elim
       ·rw [e2] at hx
        have hbn':=SW hbn hb0 hn0
        exact run b n0 hx (fun _=>hb0) (fun _=>hbn'.1) (fun _=>by omega) (by omega)
    ·exact hx.elim
  | false =>
   have hok:KC sm (match PN P N ops ops.toList with | some r=>.spl r.1 r.2.1 r.2.2.1 r.2.2.2 | none=>CB P N ops false) rOk dom=true:=hok
   have hx:(HQ sm cf2 (match PN P N ops ops.toList with | some r=>.spl r.1 r.2.1 r.2.2.1 r.2.2.2 | none=>CB P N ops false) rest env t' h n).sat Φ:=hx
   have hre:AC.ends (match PN P N ops ops.toList with | some r=>.spl r.1 r.2.1 r.2.2.1 r.2.2.2 | none=>CB P N ops false)=false->_:=hre
   cases hspl:PN P N ops ops.toList with
   | some r =>
    rw [hspl] at hok hx hre
    obtain ⟨pre,sp,d,post⟩:=r
    have hre:=hre rfl
    obtain ⟨l1,o,l2,hl,c1,c2,c3,c4,c5⟩:=Mg hspl
    have hok:(GK sm pre dom&&(R7 sm (D0 pre dom) sp&&(GK sm post (GB d (D0 pre dom))&&rOk (D0 post (GB d (D0 pre dom))))))=true:=hok
    rw [Bool.and_eq_true,Bool.and_eq_true,Bool.and_eq_true] at hok
    obtain ⟨k1,k2,k3,k4⟩:=hok
    have hx:(Dx sm cf2 pre env t' h n fun env t h n=>Xm cf2 sp (Bt sm env t) h n fun v h n=>Do sm d t v fun t=>Dx sm cf2 post (BT d v env) t h n rest).sat Φ:=hx
    obtain ⟨env1,t2,t2',h2',n2,e2,ri1,H⟩:=DI (B:=B) (ops:=ops) hρ hcf h2 c1 k1 ri (R.sat_good hx)
    rw [e2] at hx
    refine (wpIn_wide (n:=0)).1 (wpIn_region_list ?_)
    rw [hl]
    refine Ee (l:=none) (.inl rfl) (H φ a w hT g Q (wpListIn (Mu none) 0 P ops Q (o::l2)) fun φ' a' w' f1 g1 T1=>?_)
    have one:∀ x:Opd,EG sm (D0 pre dom) x=true->∀ κ:V->R,Bt sm env1 t2' x κ=κ (ev x t2):=fun x hk κ=>by
     cases x with
     | c v=>rfl
     | t p=>exact ri1.tell hk κ
    have lst:∀ l:List Opd,l.all (EG sm (D0 pre dom))=true->∀ κ:List V->R,Gc (Bt sm env1 t2') l κ=Gc (fun x κ=>κ (ev x t2)) l κ:=fun l hk κ=>by
     rw [G6 (t:=t2) (fun x hx=>one x (List.all_eq_true.1 hk x hx)),G6 (t:=t2) (fun x _ κ=>rfl)]
    have et:Xm cf2 sp (Bt sm env1 t2') h2' n2=Xm cf2 sp (fun x κ=>κ (ev x t2)) h2' n2:=by
     funext κ
     cases sp with
     | rng x=>exact one x k2 _
     | nxt x=>exact one x k2 _
     | ent x=>exact one x k2 _
     | tcl f l=>exact lst l k2 _
     | dcl x l =>
      have k2:(EG sm (D0 pre dom) x&&l.all (EG sm (D0 pre dom)))=true:=k2
      rw [Bool.and_eq_true] at k2
      exact (one x k2.1 _).trans (lst l k2.2 _)
    rw [et] at hx
    have hw:Region.wanted o (yielded ops a'.tmps)=true:=by simp [Region.wanted,c3]
    have st:=Yq (P:=P) (ρ:=ρ) (B:=B) hct hR h2 c2 _ Φ hx φ' a' w' T1 g1 (wpListIn (Mu none) 0 P ops Q l2) Q fun v h3 n3 hs φ2 x w2 f2 g2 r2=>by
     obtain ⟨t3',e3,ri3⟩:=ri1.put d v (fun t=>Dx sm cf2 post (BT d v env1) t h3 n3 rest)
     have hs:(Do sm d t2' v fun t=>Dx sm cf2 post (BT d v env1) t h3 n3 rest).sat Φ:=hs
     rw [e3] at hs
     obtain ⟨env4,t4,t4',h4,n4,e4,ri4,H4⟩:=DI (B:=B) (ops:=ops) hρ hcf h2 c5 k3 ri3 (R.sat_good hs)
     rw [e4] at hs
     have:=Ee (l:=none) (n:=0) (r:=[]) (.inl rfl) (H4 φ2 _ w2 ((T1.mono f2.ext).puts c4 r2) g2 Q (wpListIn (Mu none) 0 P ops Q []) fun φ3 a3 w3 f3 g3 T3=>hre _ env4 t4 t4' h4 n4 k4 ri4 hs φ3 a3 w3 (Fr.trans f1 (Fr.trans f2 f3)) g3 T3)
     rwa [List.append_nil] at this
    show wpListIn (Mu none) 0 P ops Q (o::l2) a' w'
    simp only [wpListIn]
    rw [if_pos hw]
    exact st
   | none =>
   rw [hspl] at hok hx hre
   have hok:KC sm (CB P N ops false) rOk dom=true:=hok
   have hx:(HQ sm cf2 (CB P N ops false) rest env t' h n).sat Φ:=hx
   have hre:(CB P N ops false).ends=false->_:=hre
   unfold CB at hok hx hre
   split at hx
   ·exact hx.elim
   ·rename_i al hal
    simp only [hal,Bool.false_eq_true,if_false] at hok hre
    simp only [Bool.false_eq_true,if_false] at hx
    have hre:=hre rfl
    have hok:(GK sm al dom&&rOk (D0 al dom))=true:=hok
    rw [Bool.and_eq_true] at hok
    have hx:(Dx sm cf2 al env t' h n rest).sat Φ:=hx
    obtain ⟨env1,t2,t2',h2',n2,e2,ri1,H⟩:=QO (B:=B) (ops:=ops) hρ hcf h2 hal hok.1 ri (R.sat_good hx)
    rw [e2] at hx
    exact wp_region_list (H φ a w hT g Q fun φ' a' w' f1 g1 T1=>hre _ env1 t2 t2' h2' n2 hok.2 ri1 hx φ' a' w' f1 g1 T1)
 | seq x y ihx ihy =>
  intro rest rOk dom env t t' h n Φ hok ri hx φ a w hT g Q hex hre
  have hok:KC sm (Bl P N x) (KC sm (Bl P N y) rOk) dom=true:=hok
  have hx:(HQ sm cf2 (Bl P N x) (HQ sm cf2 (Bl P N y) rest) env t' h n).sat Φ:=hx
  have hre:or (Bl P N x).ends (Bl P N y).ends=false->_:=hre
  refine wp_seq (ihx _ _ dom env t t' h n Φ hok ri hx φ a w hT g _ (fun e t1 h1 n1 hΦ hne φ' a' w' tf f1 g1 T1 hk=>?_) fun he dom2 env2 t2 t2' h2' n2 hok2 ri2 hr φ2 a2 w2 f2 g2 T2=>?_)
  ·have:=hex e t1 h1 n1 hΦ hne φ' a' w' tf f1 g1 T1 hk
   cases e with
   | nrm=>exact absurd rfl hne
   | exit id=>exact this
   | ret=>exact this
  ·exact ihy rest rOk dom2 env2 t2 t2' h2' n2 Φ hok2 ri2 hr φ2 a2 w2 T2 g2 Q (fun e t1 h1 n1 hΦ hne φ' a' w' tf f1 g1 T1 hk=>hex e t1 h1 n1 hΦ hne φ' a' w' tf (Fr.trans f2 f1) g1 T1 hk)
    fun he' dom3 env3 t3 t3' h3 n3 hok3 ri3 hr3 φ3 a3 w3 f3 g3 T3=>hre (by rw [he,he']; rfl) dom3 env3 t3 t3' h3 n3 hok3 ri3 hr3 φ3 a3 w3 (Fr.trans f2 f3) g3 T3
 | cond c x y ihx ihy =>
  intro rest rOk dom env t t' h n Φ hok ri hx φ a w hT g Q hex hre
  have hok:KC sm (match AY N c with | some c=>.cond c (Bl P N x) (Bl P N y) | none=>.bad "a test") rOk dom=true:=hok
  have hx:(HQ sm cf2 (match AY N c with | some c=>.cond c (Bl P N x) (Bl P N y) | none=>.bad "a test") rest env t' h n).sat Φ:=hx
  have hre:AC.ends (match AY N c with | some c=>.cond c (Bl P N x) (Bl P N y) | none=>.bad "a test")=false->_:=hre
  split at hx
  ·rename_i c' hc
   simp only [hc] at hok hre
   have hre:and (Bl P N x).ends (Bl P N y).ends=false->_:=hre
   have hok:(EG sm dom c'&&br (Bl P N x).ends (KC sm (Bl P N x) (fun _=>true) dom&&KC sm (Bl P N y) rOk dom) (br (Bl P N y).ends (KC sm (Bl P N x) rOk dom&&KC sm (Bl P N y) (fun _=>true) dom) (KC sm (Bl P N x) (fun _=>true) dom&&(KC sm (Bl P N y) (fun _=>true) dom&&rOk []))))=true:=hok
   rw [Bool.and_eq_true] at hok
   have hx:(Bt sm env t' c' (fun v=>TQ (Bl P N x).ends (Bl P N y).ends v (HQ sm cf2 (Bl P N x)) (HQ sm cf2 (Bl P N y)) rest env t' h n)).sat Φ:=hx
   have e0:∀ κ:V->R,Bt sm env t' c' κ=κ (ev c' t):=fun κ=>by
    cases c' with
    | c v=>rfl
    | t p=>exact ri.tell hok.1 κ
   rw [e0] at hx
   have g1:=An hc hT
   generalize hv:ev c' t=v at hx g1
   obtain ⟨_,hok⟩:=hok
   unfold TQ at hx
   -- the value is a bool
   have key:∀ (A C:R) (κ:R->R),(∀ s,κ (.fail s) = .fail s)->(∀ x y,κ (.both x y) = .both (κ x) (κ y))->(κ (Aq v A C)).sat Φ->∃ q,a.eval c = .bool q∧(κ (br q A C)).sat Φ:=fun A C κ hκ hb hh=>by
    have no:(κ (.fail "")).sat Φ->∃ q,a.eval c = .bool q∧(κ (br q A C)).sat Φ:=fun hh=>by rw [hκ] at hh; exact hh.elim
    cases v with
    | bool q=>exact ⟨q,Eu g1,by cases q <;> exact hh⟩
    | oth o=>cases o with
     | bl =>
      have g1:=g1
      simp only [AL] at g1
      obtain ⟨q,hq⟩:=g1
      have hh:(κ (.both A C)).sat Φ:=hh
      rw [hb] at hh
      exact ⟨q,hq,by cases q; exact hh.2; exact hh.1⟩
     | _=>exact no hh
    | _=>exact no hh
   cases hex':(Bl P N x).ends with
   | true =>
    rw [hex'] at hx hok hre
    have hok:(KC sm (Bl P N x) (fun _=>true) dom&&KC sm (Bl P N y) rOk dom)=true:=hok
    rw [Bool.and_eq_true] at hok
    obtain ⟨q,hq,hx⟩:=key _ _ id (fun _=>rfl) (fun _ _=>rfl) hx
    refine wp_cond hq ?_
    cases q with
    | true=>exact ihx r0 _ dom env t t' h n Φ hok.1 ri hx φ a w hT g Q hex fun he=>by rw [hex'] at he; cases he
    | false=>exact ihy rest rOk dom env t t' h n Φ hok.2 ri hx φ a w hT g Q hex fun he=>hre (by rw [he]; rfl)
   | false =>
    rw [hex'] at hx hok hre
    have hre:=hre rfl
    cases hey:(Bl P N y).ends with
    | true =>
     rw [hey] at hx hok
     have hok:(KC sm (Bl P N x) rOk dom&&KC sm (Bl P N y) (fun _=>true) dom)=true:=hok
     rw [Bool.and_eq_true] at hok
     obtain ⟨q,hq,hx⟩:=key _ _ id (fun _=>rfl) (fun _ _=>rfl) hx
     refine wp_cond hq ?_
     cases q with
     | true=>exact ihx rest rOk dom env t t' h n Φ hok.1 ri hx φ a w hT g Q hex fun _=>hre
     | false=>exact ihy r0 _ dom env t t' h n Φ hok.2 ri hx φ a w hT g Q hex fun he=>by rw [hey] at he; cases he
    | false =>
     rw [hey] at hx hok
     have hok:(KC sm (Bl P N x) (fun _=>true) dom&&(KC sm (Bl P N y) (fun _=>true) dom&&rOk []))=true:=hok
     rw [Bool.and_eq_true,Bool.and_eq_true] at hok
     obtain ⟨q,hq,hx⟩:=key _ _ (fun r=>AG r fun t h n=>rest [] t h n) (fun _=>rfl) (fun _ _=>rfl) hx
     refine wp_cond hq ?_
     have fin:∀ (Z:Code),Ur P ρ B N sm Z t h n (U6 (fun t h n=>rest [] t h n) Φ)->Z.wp P Q a w:=fun Z HZ=>by
      refine HZ φ a w hT g Q fun e0 t0 h0 n0 hj φ' a' w' tf f1 g1 T1 hk=>?_
      cases e0 with
      | nrm=>exact hre [] [] tf t0 h0 n0 hok.2.2 (RI.start ri.inj hk) hj φ' a' w' f1 g1 T1
      | exit id=>exact hex _ _ _ _ hj (fun h=>by cases h) φ' a' w' tf f1 g1 T1 hk
      | ret=>exact hex _ _ _ _ hj (fun h=>by cases h) φ' a' w' tf f1 g1 T1 hk
     cases q with
     | true=>exact fin x (ihx.join hok.1 ri (Hv hx))
     | false=>exact fin y (ihy.join hok.2.1 ri (Hv hx))
  ·exact hx.elim
 | block id b ih =>
  intro rest rOk dom env t t' h n Φ hok ri hx φ a w hT g Q hex hre
  have hok:(KC sm (Bl P N b) (fun _=>true) dom&&rOk [])=true:=hok
  rw [Bool.and_eq_true] at hok
  have hx:(Ac id (HQ sm cf2 (Bl P N b) r0 env t' h n) (fun t h n=>rest [] t h n)).sat Φ:=hx
  have hre:=hre rfl
  refine wp_block (ih.join hok.1 ri (Ic hx) φ a w hT g _ fun e0 t0 h0 n0 hx φ' a' w' tf f1 g1 T1 hk=>?_)
  cases e0 with
  | nrm=>exact hre [] [] tf t0 h0 n0 hok.2 (RI.start ri.inj hk) hx φ' a' w' f1 g1 T1
  | exit j =>
   show (if j=id then Q .normal a' w' else Q (.exit j) a' w')
   rcases hx with ⟨hj,hx⟩ | ⟨hj,hx⟩
   ·rw [if_pos hj]; exact hre [] [] tf t0 h0 n0 hok.2 (RI.start ri.inj hk) hx φ' a' w' f1 g1 T1
   ·rw [if_neg hj]; exact hex _ _ _ _ hx (fun h=>by cases h) φ' a' w' tf f1 g1 T1 hk
  | ret=>exact hex _ _ _ _ hx (fun h=>by cases h) φ' a' w' tf f1 g1 T1 hk
 | loop b ih =>
  intro rest rOk dom env t t' h n Φ hok ri hx φ a w hT g Q hex hre
  have hok:KC sm (Bl P N b) (fun _=>true) []=true:=hok
  have hx:(E2 (fun t h n=>HQ sm cf2 (Bl P N b) r0 [] t h n) 1000000000 t' h n).sat Φ:=hx
  refine wp_loop_rounds 1000000000 ?_
  have key:∀ (k:Nat) (t:Regs) (t':S) (h:Heap) (n:K4),(∀ p s,Cx p sm=some s->S.get s t'=Bo p t)->(E2 (fun t h n=>HQ sm cf2 (Bl P N b) r0 [] t h n) k t' h n).sat Φ->∀ φ a w,TR ρ N φ t a->Gam ρ B h n φ w →
    (∀ e t1 h1 n1,Φ (.ok e t1 h1 n1)->e ≠ .nrm->∀ φ' a' w' tf,Fr h h1 φ φ' n n1 w w'->Gam ρ B h1 n1 φ' w'->TR ρ N φ' tf a'->(∀ p s,Cx p sm=some s->S.get s t1=Bo p tf)->Q (Qp e) a' w')->Code.rounds P b Q k a w:=by
   intro k
   induction k with
   | zero=>intro t t' h n _ hx; exact hx.elim
   | succ k ihk =>
    intro t t' h n hk0 hx φ a w hT g hQ
    refine ih.join hok (RI.start ri.inj hk0) (VN hx) φ a w hT g _ fun e0 t0 h0 n0 hx φ' a' w' tf f1 g1 T1 hk=>?_
    cases e0 with
    | nrm=>exact ihk tf t0 h0 n0 hk hx φ' a' w' T1 g1 fun e t1 h1 n1 hΦ hne φ2 a2 w2 tf2 f2 g2 T2 hk2=>hQ e t1 h1 n1 hΦ hne φ2 a2 w2 tf2 (Fr.trans f1 f2) g2 T2 hk2
    | exit id=>exact hQ _ _ _ _ hx (fun h=>by cases h) φ' a' w' tf f1 g1 T1 hk
    | ret=>exact hQ _ _ _ _ hx (fun h=>by cases h) φ' a' w' tf f1 g1 T1 hk
  exact key _ t t' h n ri.keep hx φ a w hT g hex
 | rangeFunc _ _ _ _=>intro rest rOk dom env t t' h n Φ hok ri hx; exact hx.elim
 | scope _=>intro rest rOk dom env t t' h n Φ hok ri hx; exact hx.elim
 | goto _=>intro rest rOk dom env t t' h n Φ hok ri hx; exact hx.elim
 | refuse _=>intro rest rOk dom env t t' h n Φ hok ri hx; exact hx.elim
end
end Go.Ev
