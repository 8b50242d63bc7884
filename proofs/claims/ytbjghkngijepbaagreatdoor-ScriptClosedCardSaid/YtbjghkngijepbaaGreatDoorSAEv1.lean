/- AN EVALUATOR OF THE MODEL OF Go, PROVED SOUND, PART 1: what it says of a call holds in every world, on every tape. Conditions: none of its own; each theorem bears its premises. -/
import Derived.Below
import Derived.Laws.Append
import Derived.Laws.Bits
import Derived.Laws.Cells
import Derived.Laws.Entries
import Derived.Laws.Sem
import Derived.Laws.Strings
import Derived.Laws.StructEq
import Derived.Laws.Tables
import Derived.Laws.World
import Derived.Orders
noncomputable section
set_option linter.unusedSimpArgs false
set_option linter.unusedVariables false
namespace Go.Ev
set_option linter.unusedVariables false
inductive D where
 | d0 | d1 | d2 | d3 | d4 | d5 | d6 | d7 | d8 | d9 | d10 | d11 | d12 | d13 | d14 | d15
def D.toN (d:D):Nat:=@D.rec (fun _=>Nat) 0 1 2 3 4 5 6 7 8 9 10 11 12 13 14 15 d
theorem D.toN_lt (d:D):d.toN<16:=by cases d <;> decide
theorem D.toN_inj {a b:D} (h:a.toN=b.toN):a=b:=by
 cases a <;> cases b <;> first | rfl | exact absurd h (by decide)
def D.nx {β:Type} (d:D):(D->β)->β->β :=
 @D.rec (fun _=>(D->β)->β->β) (fun k _=>k .d1) (fun k _=>k .d2) (fun k _=>k .d3) (fun k _=>k .d4) (fun k _=>k .d5) (fun k _=>k .d6) (fun k _=>k .d7) (fun k _=>k .d8) (fun k _=>k .d9) (fun k _=>k .d10) (fun k _=>k .d11) (fun k _=>k .d12) (fun k _=>k .d13) (fun k _=>k .d14) (fun k _=>k .d15) (fun _ c=>c) d
theorem D.nx_eq {β:Type} (d:D) (k:D->β) (c:β):(d.nx k c=c∧d.toN=15)∨(∃ e:D,e.toN=d.toN+1∧d.nx k c=k e):=by
 cases d
 case d0=>exact .inr ⟨.d1,rfl,rfl⟩
 case d1=>exact .inr ⟨.d2,rfl,rfl⟩
 case d2=>exact .inr ⟨.d3,rfl,rfl⟩
 case d3=>exact .inr ⟨.d4,rfl,rfl⟩
 case d4=>exact .inr ⟨.d5,rfl,rfl⟩
 case d5=>exact .inr ⟨.d6,rfl,rfl⟩
 case d6=>exact .inr ⟨.d7,rfl,rfl⟩
 case d7=>exact .inr ⟨.d8,rfl,rfl⟩
 case d8=>exact .inr ⟨.d9,rfl,rfl⟩
 case d9=>exact .inr ⟨.d10,rfl,rfl⟩
 case d10=>exact .inr ⟨.d11,rfl,rfl⟩
 case d11=>exact .inr ⟨.d12,rfl,rfl⟩
 case d12=>exact .inr ⟨.d13,rfl,rfl⟩
 case d13=>exact .inr ⟨.d14,rfl,rfl⟩
 case d14=>exact .inr ⟨.d15,rfl,rfl⟩
 case d15=>exact .inl ⟨rfl,rfl⟩
def D.ofN:Nat->D
 | 0=>.d0 | 1=>.d1 | 2=>.d2 | 3=>.d3 | 4=>.d4 | 5=>.d5 | 6=>.d6 | 7=>.d7 | 8=>.d8 | 9=>.d9 | 10=>.d10 | 11=>.d11 | 12=>.d12 | 13=>.d13 | 14=>.d14 | _=>.d15
theorem D.toN_ofN:∀ n,n<16->(D.ofN n).toN=n
 | 0,_=>rfl | 1,_=>rfl | 2,_=>rfl | 3,_=>rfl | 4,_=>rfl | 5,_=>rfl | 6,_=>rfl | 7,_=>rfl | 8,_=>rfl | 9,_=>rfl | 10,_=>rfl | 11,_=>rfl | 12,_=>rfl | 13,_=>rfl | 14,_=>rfl | 15,_=>rfl
 | n+16,h=>by omega
def D.beq (a b:D):Bool:=Nat.beq a.toN b.toN
theorem D.beq_iff {a b:D}:a.beq b=true ↔ a=b:=by
 unfold D.beq
 exact ⟨fun h=>D.toN_inj (Nat.eq_of_beq_eq_true h),fun h=>by subst h; exact Nat.beq_refl _⟩
structure K4 where
 a:D
 b:D
 c:D
 d:D
inductive Nl where
 | ptr
 | sl
 | map
 | fn
 | iface
inductive Ot where
 | any
 | sym (i:Nat)
 | yl (p:K4)
 | no
 | iv (k:IntKind) (lo hi:Nat)
 | os (lo hi:Nat)
 | bl
 | rs (m j:Nat)
 | ss (lo hi n c:Nat)
 | ro (i lo hi z:Nat)
 | ap (i j m:Nat)
 | sy (k:IntKind) (i:Nat)
inductive V where
 | int (k:IntKind) (r:Nat)
 | bool (b:Bool)
 | ptr (p:K4) (off:Nat)
 | sl (p:K4) (off len cap:Nat) (ex:Bool) (esz:Nat)
 | str (n c:Nat)
 | agg (l:List V)
 | nil (w:Nl)
 | map (p:K4)
 | fn (f:Nat) (caps:List V)
 | tup (l:List V)
 | oth (o:Ot)
inductive Cs where
 | l (xs:List V)
 | b (n c:Nat)
inductive Ob where
 | c (cs:Cs) (sup:Bool) (prev:Option K4)
 | m (es:List (V×V)) (bs:List Nat) (clk:Nat)
 | it (p:K4) (since:Nat) (seen:List Nat) (c:Nat)
 | it0
 | lp (f:Nat) (box:K4)
abbrev C3:=Option Ob
inductive VP where
 | mk (A B C E F G I J L M N O P Q T U:V)
def VP.all (x:V):VP:=.mk x x x x x x x x x x x x x x x x
def VP.sel (d:D) (p:VP):V :=
 @VP.rec (fun _=>V) (fun A B C E F G I J L M N O P Q T U=>@D.rec (fun _=>V) A B C E F G I J L M N O P Q T U d) p
def vs0 {β:Type} (p:VP) (v:V) (k:VP->β):β:=@VP.rec (fun _=>β) (fun A B C E F G I J L M N O P Q T U=>k (.mk v B C E F G I J L M N O P Q T U)) p
def vs1 {β:Type} (p:VP) (v:V) (k:VP->β):β:=@VP.rec (fun _=>β) (fun A B C E F G I J L M N O P Q T U=>k (.mk A v C E F G I J L M N O P Q T U)) p
def vs2 {β:Type} (p:VP) (v:V) (k:VP->β):β:=@VP.rec (fun _=>β) (fun A B C E F G I J L M N O P Q T U=>k (.mk A B v E F G I J L M N O P Q T U)) p
def vs3 {β:Type} (p:VP) (v:V) (k:VP->β):β:=@VP.rec (fun _=>β) (fun A B C E F G I J L M N O P Q T U=>k (.mk A B C v F G I J L M N O P Q T U)) p
def vs4 {β:Type} (p:VP) (v:V) (k:VP->β):β:=@VP.rec (fun _=>β) (fun A B C E F G I J L M N O P Q T U=>k (.mk A B C E v G I J L M N O P Q T U)) p
def vs5 {β:Type} (p:VP) (v:V) (k:VP->β):β:=@VP.rec (fun _=>β) (fun A B C E F G I J L M N O P Q T U=>k (.mk A B C E F v I J L M N O P Q T U)) p
def vs6 {β:Type} (p:VP) (v:V) (k:VP->β):β:=@VP.rec (fun _=>β) (fun A B C E F G I J L M N O P Q T U=>k (.mk A B C E F G v J L M N O P Q T U)) p
def vs7 {β:Type} (p:VP) (v:V) (k:VP->β):β:=@VP.rec (fun _=>β) (fun A B C E F G I J L M N O P Q T U=>k (.mk A B C E F G I v L M N O P Q T U)) p
def vs8 {β:Type} (p:VP) (v:V) (k:VP->β):β:=@VP.rec (fun _=>β) (fun A B C E F G I J L M N O P Q T U=>k (.mk A B C E F G I J v M N O P Q T U)) p
def vs9 {β:Type} (p:VP) (v:V) (k:VP->β):β:=@VP.rec (fun _=>β) (fun A B C E F G I J L M N O P Q T U=>k (.mk A B C E F G I J L v N O P Q T U)) p
def ZY {β:Type} (p:VP) (v:V) (k:VP->β):β:=@VP.rec (fun _=>β) (fun A B C E F G I J L M N O P Q T U=>k (.mk A B C E F G I J L M v O P Q T U)) p
def Abl {β:Type} (p:VP) (v:V) (k:VP->β):β:=@VP.rec (fun _=>β) (fun A B C E F G I J L M N O P Q T U=>k (.mk A B C E F G I J L M N v P Q T U)) p
def Aal {β:Type} (p:VP) (v:V) (k:VP->β):β:=@VP.rec (fun _=>β) (fun A B C E F G I J L M N O P Q T U=>k (.mk A B C E F G I J L M N O v Q T U)) p
def Aa6 {β:Type} (p:VP) (v:V) (k:VP->β):β:=@VP.rec (fun _=>β) (fun A B C E F G I J L M N O P Q T U=>k (.mk A B C E F G I J L M N O P v T U)) p
def Aap {β:Type} (p:VP) (v:V) (k:VP->β):β:=@VP.rec (fun _=>β) (fun A B C E F G I J L M N O P Q T U=>k (.mk A B C E F G I J L M N O P Q v U)) p
def Y8 {β:Type} (p:VP) (v:V) (k:VP->β):β:=@VP.rec (fun _=>β) (fun A B C E F G I J L M N O P Q T U=>k (.mk A B C E F G I J L M N O P Q T v)) p
def vg0 {β:Type} (p:VP) (k:V->β):β:=@VP.rec (fun _=>β) (fun A B C E F G I J L M N O P Q T U=>k A) p
def vg1 {β:Type} (p:VP) (k:V->β):β:=@VP.rec (fun _=>β) (fun A B C E F G I J L M N O P Q T U=>k B) p
def vg2 {β:Type} (p:VP) (k:V->β):β:=@VP.rec (fun _=>β) (fun A B C E F G I J L M N O P Q T U=>k C) p
def vg3 {β:Type} (p:VP) (k:V->β):β:=@VP.rec (fun _=>β) (fun A B C E F G I J L M N O P Q T U=>k E) p
def vg4 {β:Type} (p:VP) (k:V->β):β:=@VP.rec (fun _=>β) (fun A B C E F G I J L M N O P Q T U=>k F) p
def vg5 {β:Type} (p:VP) (k:V->β):β:=@VP.rec (fun _=>β) (fun A B C E F G I J L M N O P Q T U=>k G) p
def vg6 {β:Type} (p:VP) (k:V->β):β:=@VP.rec (fun _=>β) (fun A B C E F G I J L M N O P Q T U=>k I) p
def vg7 {β:Type} (p:VP) (k:V->β):β:=@VP.rec (fun _=>β) (fun A B C E F G I J L M N O P Q T U=>k J) p
def vg8 {β:Type} (p:VP) (k:V->β):β:=@VP.rec (fun _=>β) (fun A B C E F G I J L M N O P Q T U=>k L) p
def vg9 {β:Type} (p:VP) (k:V->β):β:=@VP.rec (fun _=>β) (fun A B C E F G I J L M N O P Q T U=>k M) p
def Aas {β:Type} (p:VP) (k:V->β):β:=@VP.rec (fun _=>β) (fun A B C E F G I J L M N O P Q T U=>k N) p
def Aa8 {β:Type} (p:VP) (k:V->β):β:=@VP.rec (fun _=>β) (fun A B C E F G I J L M N O P Q T U=>k O) p
def ZP {β:Type} (p:VP) (k:V->β):β:=@VP.rec (fun _=>β) (fun A B C E F G I J L M N O P Q T U=>k P) p
def Z4 {β:Type} (p:VP) (k:V->β):β:=@VP.rec (fun _=>β) (fun A B C E F G I J L M N O P Q T U=>k Q) p
def YJ {β:Type} (p:VP) (k:V->β):β:=@VP.rec (fun _=>β) (fun A B C E F G I J L M N O P Q T U=>k T) p
def Zk {β:Type} (p:VP) (k:V->β):β:=@VP.rec (fun _=>β) (fun A B C E F G I J L M N O P Q T U=>k U) p
def VP.selK {β:Type} (d:D):VP->(V->β)->β :=
 @D.rec (fun _=>VP->(V->β)->β) vg0 vg1 vg2 vg3 vg4 vg5 vg6 vg7 vg8 vg9 Aas Aa8 ZP Z4 YJ Zk d
theorem VP.selK_eq {β:Type} (d:D) (p:VP) (k:V->β):VP.selK d p k=k (VP.sel d p):=by
 cases d <;> cases p <;> rfl
def VP.setK {β:Type} (d:D):VP->V->(VP->β)->β :=
 @D.rec (fun _=>VP->V->(VP->β)->β) vs0 vs1 vs2 vs3 vs4 vs5 vs6 vs7 vs8 vs9 ZY Abl Aal Aa6 Aap Y8 d
def VP.setS (d:D) (p:VP) (v:V):VP:=VP.setK d p v id
theorem VP.setK_eq {β:Type} (d:D) (p:VP) (v:V) (k:VP->β):VP.setK d p v k=k (VP.setS d p v):=by
 cases d <;> cases p <;> rfl
theorem VP.sel_setS_same (d:D) (p:VP) (v:V):VP.sel d (VP.setS d p v)=v:=by
 cases d <;> cases p <;> rfl
theorem VP.sel_setS_ne {d e:D} (p:VP) (v:V) (h:d≠e):VP.sel e (VP.setS d p v)=VP.sel e p:=by
 cases p; cases d <;> cases e <;> first | rfl | exact absurd rfl h
theorem VP.sel_all (d:D) (x:V):VP.sel d (VP.all x)=x:=by cases d <;> rfl
inductive Regs where
 | mk (A B C E F G I J L M N O P Q T U:VP)
def Regs.all (x:VP):Regs:=.mk x x x x x x x x x x x x x x x x
def Regs.sel (d:D) (p:Regs):VP :=
 @Regs.rec (fun _=>VP) (fun A B C E F G I J L M N O P Q T U=>@D.rec (fun _=>VP) A B C E F G I J L M N O P Q T U d) p
def qs0 {β:Type} (p:Regs) (v:VP) (k:Regs->β):β:=@Regs.rec (fun _=>β) (fun A B C E F G I J L M N O P Q T U=>k (.mk v B C E F G I J L M N O P Q T U)) p
def qs1 {β:Type} (p:Regs) (v:VP) (k:Regs->β):β:=@Regs.rec (fun _=>β) (fun A B C E F G I J L M N O P Q T U=>k (.mk A v C E F G I J L M N O P Q T U)) p
def qs2 {β:Type} (p:Regs) (v:VP) (k:Regs->β):β:=@Regs.rec (fun _=>β) (fun A B C E F G I J L M N O P Q T U=>k (.mk A B v E F G I J L M N O P Q T U)) p
def qs3 {β:Type} (p:Regs) (v:VP) (k:Regs->β):β:=@Regs.rec (fun _=>β) (fun A B C E F G I J L M N O P Q T U=>k (.mk A B C v F G I J L M N O P Q T U)) p
def qs4 {β:Type} (p:Regs) (v:VP) (k:Regs->β):β:=@Regs.rec (fun _=>β) (fun A B C E F G I J L M N O P Q T U=>k (.mk A B C E v G I J L M N O P Q T U)) p
def qs5 {β:Type} (p:Regs) (v:VP) (k:Regs->β):β:=@Regs.rec (fun _=>β) (fun A B C E F G I J L M N O P Q T U=>k (.mk A B C E F v I J L M N O P Q T U)) p
def qs6 {β:Type} (p:Regs) (v:VP) (k:Regs->β):β:=@Regs.rec (fun _=>β) (fun A B C E F G I J L M N O P Q T U=>k (.mk A B C E F G v J L M N O P Q T U)) p
def qs7 {β:Type} (p:Regs) (v:VP) (k:Regs->β):β:=@Regs.rec (fun _=>β) (fun A B C E F G I J L M N O P Q T U=>k (.mk A B C E F G I v L M N O P Q T U)) p
def qs8 {β:Type} (p:Regs) (v:VP) (k:Regs->β):β:=@Regs.rec (fun _=>β) (fun A B C E F G I J L M N O P Q T U=>k (.mk A B C E F G I J v M N O P Q T U)) p
def qs9 {β:Type} (p:Regs) (v:VP) (k:Regs->β):β:=@Regs.rec (fun _=>β) (fun A B C E F G I J L M N O P Q T U=>k (.mk A B C E F G I J L v N O P Q T U)) p
def Aao {β:Type} (p:Regs) (v:VP) (k:Regs->β):β:=@Regs.rec (fun _=>β) (fun A B C E F G I J L M N O P Q T U=>k (.mk A B C E F G I J L M v O P Q T U)) p
def Yx {β:Type} (p:Regs) (v:VP) (k:Regs->β):β:=@Regs.rec (fun _=>β) (fun A B C E F G I J L M N O P Q T U=>k (.mk A B C E F G I J L M N v P Q T U)) p
def Z0 {β:Type} (p:Regs) (v:VP) (k:Regs->β):β:=@Regs.rec (fun _=>β) (fun A B C E F G I J L M N O P Q T U=>k (.mk A B C E F G I J L M N O v Q T U)) p
def Ze {β:Type} (p:Regs) (v:VP) (k:Regs->β):β:=@Regs.rec (fun _=>β) (fun A B C E F G I J L M N O P Q T U=>k (.mk A B C E F G I J L M N O P v T U)) p
def Zf {β:Type} (p:Regs) (v:VP) (k:Regs->β):β:=@Regs.rec (fun _=>β) (fun A B C E F G I J L M N O P Q T U=>k (.mk A B C E F G I J L M N O P Q v U)) p
def ZF {β:Type} (p:Regs) (v:VP) (k:Regs->β):β:=@Regs.rec (fun _=>β) (fun A B C E F G I J L M N O P Q T U=>k (.mk A B C E F G I J L M N O P Q T v)) p
def qg0 {β:Type} (p:Regs) (k:VP->β):β:=@Regs.rec (fun _=>β) (fun A B C E F G I J L M N O P Q T U=>k A) p
def qg1 {β:Type} (p:Regs) (k:VP->β):β:=@Regs.rec (fun _=>β) (fun A B C E F G I J L M N O P Q T U=>k B) p
def qg2 {β:Type} (p:Regs) (k:VP->β):β:=@Regs.rec (fun _=>β) (fun A B C E F G I J L M N O P Q T U=>k C) p
def qg3 {β:Type} (p:Regs) (k:VP->β):β:=@Regs.rec (fun _=>β) (fun A B C E F G I J L M N O P Q T U=>k E) p
def qg4 {β:Type} (p:Regs) (k:VP->β):β:=@Regs.rec (fun _=>β) (fun A B C E F G I J L M N O P Q T U=>k F) p
def qg5 {β:Type} (p:Regs) (k:VP->β):β:=@Regs.rec (fun _=>β) (fun A B C E F G I J L M N O P Q T U=>k G) p
def qg6 {β:Type} (p:Regs) (k:VP->β):β:=@Regs.rec (fun _=>β) (fun A B C E F G I J L M N O P Q T U=>k I) p
def qg7 {β:Type} (p:Regs) (k:VP->β):β:=@Regs.rec (fun _=>β) (fun A B C E F G I J L M N O P Q T U=>k J) p
def qg8 {β:Type} (p:Regs) (k:VP->β):β:=@Regs.rec (fun _=>β) (fun A B C E F G I J L M N O P Q T U=>k L) p
def qg9 {β:Type} (p:Regs) (k:VP->β):β:=@Regs.rec (fun _=>β) (fun A B C E F G I J L M N O P Q T U=>k M) p
def Aa7 {β:Type} (p:Regs) (k:VP->β):β:=@Regs.rec (fun _=>β) (fun A B C E F G I J L M N O P Q T U=>k N) p
def Aac {β:Type} (p:Regs) (k:VP->β):β:=@Regs.rec (fun _=>β) (fun A B C E F G I J L M N O P Q T U=>k O) p
def ZO {β:Type} (p:Regs) (k:VP->β):β:=@Regs.rec (fun _=>β) (fun A B C E F G I J L M N O P Q T U=>k P) p
def ZW {β:Type} (p:Regs) (k:VP->β):β:=@Regs.rec (fun _=>β) (fun A B C E F G I J L M N O P Q T U=>k Q) p
def ZE {β:Type} (p:Regs) (k:VP->β):β:=@Regs.rec (fun _=>β) (fun A B C E F G I J L M N O P Q T U=>k T) p
def Yg {β:Type} (p:Regs) (k:VP->β):β:=@Regs.rec (fun _=>β) (fun A B C E F G I J L M N O P Q T U=>k U) p
def Regs.selK {β:Type} (d:D):Regs->(VP->β)->β :=
 @D.rec (fun _=>Regs->(VP->β)->β) qg0 qg1 qg2 qg3 qg4 qg5 qg6 qg7 qg8 qg9 Aa7 Aac ZO ZW ZE Yg d
theorem Regs.selK_eq {β:Type} (d:D) (p:Regs) (k:VP->β):Regs.selK d p k=k (Regs.sel d p):=by
 cases d <;> cases p <;> rfl
def Regs.setK {β:Type} (d:D):Regs->VP->(Regs->β)->β :=
 @D.rec (fun _=>Regs->VP->(Regs->β)->β) qs0 qs1 qs2 qs3 qs4 qs5 qs6 qs7 qs8 qs9 Aao Yx Z0 Ze Zf ZF d
def Regs.setS (d:D) (p:Regs) (v:VP):Regs:=Regs.setK d p v id
theorem Regs.setK_eq {β:Type} (d:D) (p:Regs) (v:VP) (k:Regs->β):Regs.setK d p v k=k (Regs.setS d p v):=by
 cases d <;> cases p <;> rfl
theorem Regs.sel_setS_same (d:D) (p:Regs) (v:VP):Regs.sel d (Regs.setS d p v)=v:=by
 cases d <;> cases p <;> rfl
theorem Regs.sel_setS_ne {d e:D} (p:Regs) (v:VP) (h:d≠e):Regs.sel e (Regs.setS d p v)=Regs.sel e p:=by
 cases p; cases d <;> cases e <;> first | rfl | exact absurd rfl h
theorem Regs.sel_all (d:D) (x:VP):Regs.sel d (Regs.all x)=x:=by cases d <;> rfl
inductive HA where
 | mk (A B C E F G I J L M N O P Q T U:C3)
def HA.all (x:C3):HA:=.mk x x x x x x x x x x x x x x x x
def HA.sel (d:D) (p:HA):C3 :=
 @HA.rec (fun _=>C3) (fun A B C E F G I J L M N O P Q T U=>@D.rec (fun _=>C3) A B C E F G I J L M N O P Q T U d) p
def YQ {β:Type} (p:HA) (v:C3) (k:HA->β):β:=@HA.rec (fun _=>β) (fun A B C E F G I J L M N O P Q T U=>k (.mk v B C E F G I J L M N O P Q T U)) p
def Zz {β:Type} (p:HA) (v:C3) (k:HA->β):β:=@HA.rec (fun _=>β) (fun A B C E F G I J L M N O P Q T U=>k (.mk A v C E F G I J L M N O P Q T U)) p
def Abj {β:Type} (p:HA) (v:C3) (k:HA->β):β:=@HA.rec (fun _=>β) (fun A B C E F G I J L M N O P Q T U=>k (.mk A B v E F G I J L M N O P Q T U)) p
def Yk {β:Type} (p:HA) (v:C3) (k:HA->β):β:=@HA.rec (fun _=>β) (fun A B C E F G I J L M N O P Q T U=>k (.mk A B C v F G I J L M N O P Q T U)) p
def Yl {β:Type} (p:HA) (v:C3) (k:HA->β):β:=@HA.rec (fun _=>β) (fun A B C E F G I J L M N O P Q T U=>k (.mk A B C E v G I J L M N O P Q T U)) p
def Aaw {β:Type} (p:HA) (v:C3) (k:HA->β):β:=@HA.rec (fun _=>β) (fun A B C E F G I J L M N O P Q T U=>k (.mk A B C E F v I J L M N O P Q T U)) p
def ZZ {β:Type} (p:HA) (v:C3) (k:HA->β):β:=@HA.rec (fun _=>β) (fun A B C E F G I J L M N O P Q T U=>k (.mk A B C E F G v J L M N O P Q T U)) p
def YD {β:Type} (p:HA) (v:C3) (k:HA->β):β:=@HA.rec (fun _=>β) (fun A B C E F G I J L M N O P Q T U=>k (.mk A B C E F G I v L M N O P Q T U)) p
def Zy {β:Type} (p:HA) (v:C3) (k:HA->β):β:=@HA.rec (fun _=>β) (fun A B C E F G I J L M N O P Q T U=>k (.mk A B C E F G I J v M N O P Q T U)) p
def Aaq {β:Type} (p:HA) (v:C3) (k:HA->β):β:=@HA.rec (fun _=>β) (fun A B C E F G I J L M N O P Q T U=>k (.mk A B C E F G I J L v N O P Q T U)) p
def Xg {β:Type} (p:HA) (v:C3) (k:HA->β):β:=@HA.rec (fun _=>β) (fun A B C E F G I J L M N O P Q T U=>k (.mk A B C E F G I J L M v O P Q T U)) p
def WC {β:Type} (p:HA) (v:C3) (k:HA->β):β:=@HA.rec (fun _=>β) (fun A B C E F G I J L M N O P Q T U=>k (.mk A B C E F G I J L M N v P Q T U)) p
def WW {β:Type} (p:HA) (v:C3) (k:HA->β):β:=@HA.rec (fun _=>β) (fun A B C E F G I J L M N O P Q T U=>k (.mk A B C E F G I J L M N O v Q T U)) p
def X4 {β:Type} (p:HA) (v:C3) (k:HA->β):β:=@HA.rec (fun _=>β) (fun A B C E F G I J L M N O P Q T U=>k (.mk A B C E F G I J L M N O P v T U)) p
def WM {β:Type} (p:HA) (v:C3) (k:HA->β):β:=@HA.rec (fun _=>β) (fun A B C E F G I J L M N O P Q T U=>k (.mk A B C E F G I J L M N O P Q v U)) p
def Wd {β:Type} (p:HA) (v:C3) (k:HA->β):β:=@HA.rec (fun _=>β) (fun A B C E F G I J L M N O P Q T U=>k (.mk A B C E F G I J L M N O P Q T v)) p
def Yd {β:Type} (p:HA) (k:C3->β):β:=@HA.rec (fun _=>β) (fun A B C E F G I J L M N O P Q T U=>k A) p
def YG {β:Type} (p:HA) (k:C3->β):β:=@HA.rec (fun _=>β) (fun A B C E F G I J L M N O P Q T U=>k B) p
def Aay {β:Type} (p:HA) (k:C3->β):β:=@HA.rec (fun _=>β) (fun A B C E F G I J L M N O P Q T U=>k C) p
def Yr {β:Type} (p:HA) (k:C3->β):β:=@HA.rec (fun _=>β) (fun A B C E F G I J L M N O P Q T U=>k E) p
def Z2 {β:Type} (p:HA) (k:C3->β):β:=@HA.rec (fun _=>β) (fun A B C E F G I J L M N O P Q T U=>k F) p
def Aav {β:Type} (p:HA) (k:C3->β):β:=@HA.rec (fun _=>β) (fun A B C E F G I J L M N O P Q T U=>k G) p
def ZT {β:Type} (p:HA) (k:C3->β):β:=@HA.rec (fun _=>β) (fun A B C E F G I J L M N O P Q T U=>k I) p
def ZI {β:Type} (p:HA) (k:C3->β):β:=@HA.rec (fun _=>β) (fun A B C E F G I J L M N O P Q T U=>k J) p
def Zv {β:Type} (p:HA) (k:C3->β):β:=@HA.rec (fun _=>β) (fun A B C E F G I J L M N O P Q T U=>k L) p
def Yu {β:Type} (p:HA) (k:C3->β):β:=@HA.rec (fun _=>β) (fun A B C E F G I J L M N O P Q T U=>k M) p
def We {β:Type} (p:HA) (k:C3->β):β:=@HA.rec (fun _=>β) (fun A B C E F G I J L M N O P Q T U=>k N) p
def WL {β:Type} (p:HA) (k:C3->β):β:=@HA.rec (fun _=>β) (fun A B C E F G I J L M N O P Q T U=>k O) p
def WH {β:Type} (p:HA) (k:C3->β):β:=@HA.rec (fun _=>β) (fun A B C E F G I J L M N O P Q T U=>k P) p
def Wk {β:Type} (p:HA) (k:C3->β):β:=@HA.rec (fun _=>β) (fun A B C E F G I J L M N O P Q T U=>k Q) p
def XD {β:Type} (p:HA) (k:C3->β):β:=@HA.rec (fun _=>β) (fun A B C E F G I J L M N O P Q T U=>k T) p
def X8 {β:Type} (p:HA) (k:C3->β):β:=@HA.rec (fun _=>β) (fun A B C E F G I J L M N O P Q T U=>k U) p
def HA.selK {β:Type} (d:D):HA->(C3->β)->β :=
 @D.rec (fun _=>HA->(C3->β)->β) Yd YG Aay Yr Z2 Aav ZT ZI Zv Yu We WL WH Wk XD X8 d
theorem HA.selK_eq {β:Type} (d:D) (p:HA) (k:C3->β):HA.selK d p k=k (HA.sel d p):=by
 cases d <;> cases p <;> rfl
def HA.setK {β:Type} (d:D):HA->C3->(HA->β)->β :=
 @D.rec (fun _=>HA->C3->(HA->β)->β) YQ Zz Abj Yk Yl Aaw ZZ YD Zy Aaq Xg WC WW X4 WM Wd d
def HA.setS (d:D) (p:HA) (v:C3):HA:=HA.setK d p v id
theorem HA.setK_eq {β:Type} (d:D) (p:HA) (v:C3) (k:HA->β):HA.setK d p v k=k (HA.setS d p v):=by
 cases d <;> cases p <;> rfl
theorem HA.sel_setS_same (d:D) (p:HA) (v:C3):HA.sel d (HA.setS d p v)=v:=by
 cases d <;> cases p <;> rfl
theorem HA.sel_setS_ne {d e:D} (p:HA) (v:C3) (h:d≠e):HA.sel e (HA.setS d p v)=HA.sel e p:=by
 cases p; cases d <;> cases e <;> first | rfl | exact absurd rfl h
theorem HA.sel_all (d:D) (x:C3):HA.sel d (HA.all x)=x:=by cases d <;> rfl
inductive HB where
 | mk (A B C E F G I J L M N O P Q T U:HA)
def HB.all (x:HA):HB:=.mk x x x x x x x x x x x x x x x x
def HB.sel (d:D) (p:HB):HA :=
 @HB.rec (fun _=>HA) (fun A B C E F G I J L M N O P Q T U=>@D.rec (fun _=>HA) A B C E F G I J L M N O P Q T U d) p
def Yf {β:Type} (p:HB) (v:HA) (k:HB->β):β:=@HB.rec (fun _=>β) (fun A B C E F G I J L M N O P Q T U=>k (.mk v B C E F G I J L M N O P Q T U)) p
def Ab0 {β:Type} (p:HB) (v:HA) (k:HB->β):β:=@HB.rec (fun _=>β) (fun A B C E F G I J L M N O P Q T U=>k (.mk A v C E F G I J L M N O P Q T U)) p
def Aad {β:Type} (p:HB) (v:HA) (k:HB->β):β:=@HB.rec (fun _=>β) (fun A B C E F G I J L M N O P Q T U=>k (.mk A B v E F G I J L M N O P Q T U)) p
def Yc {β:Type} (p:HB) (v:HA) (k:HB->β):β:=@HB.rec (fun _=>β) (fun A B C E F G I J L M N O P Q T U=>k (.mk A B C v F G I J L M N O P Q T U)) p
def Abg {β:Type} (p:HB) (v:HA) (k:HB->β):β:=@HB.rec (fun _=>β) (fun A B C E F G I J L M N O P Q T U=>k (.mk A B C E v G I J L M N O P Q T U)) p
def Ab3 {β:Type} (p:HB) (v:HA) (k:HB->β):β:=@HB.rec (fun _=>β) (fun A B C E F G I J L M N O P Q T U=>k (.mk A B C E F v I J L M N O P Q T U)) p
def Aa1 {β:Type} (p:HB) (v:HA) (k:HB->β):β:=@HB.rec (fun _=>β) (fun A B C E F G I J L M N O P Q T U=>k (.mk A B C E F G v J L M N O P Q T U)) p
def ZS {β:Type} (p:HB) (v:HA) (k:HB->β):β:=@HB.rec (fun _=>β) (fun A B C E F G I J L M N O P Q T U=>k (.mk A B C E F G I v L M N O P Q T U)) p
def Aaz {β:Type} (p:HB) (v:HA) (k:HB->β):β:=@HB.rec (fun _=>β) (fun A B C E F G I J L M N O P Q T U=>k (.mk A B C E F G I J v M N O P Q T U)) p
def YP {β:Type} (p:HB) (v:HA) (k:HB->β):β:=@HB.rec (fun _=>β) (fun A B C E F G I J L M N O P Q T U=>k (.mk A B C E F G I J L v N O P Q T U)) p
def XL {β:Type} (p:HB) (v:HA) (k:HB->β):β:=@HB.rec (fun _=>β) (fun A B C E F G I J L M N O P Q T U=>k (.mk A B C E F G I J L M v O P Q T U)) p
def XI {β:Type} (p:HB) (v:HA) (k:HB->β):β:=@HB.rec (fun _=>β) (fun A B C E F G I J L M N O P Q T U=>k (.mk A B C E F G I J L M N v P Q T U)) p
def X3 {β:Type} (p:HB) (v:HA) (k:HB->β):β:=@HB.rec (fun _=>β) (fun A B C E F G I J L M N O P Q T U=>k (.mk A B C E F G I J L M N O v Q T U)) p
def Xz {β:Type} (p:HB) (v:HA) (k:HB->β):β:=@HB.rec (fun _=>β) (fun A B C E F G I J L M N O P Q T U=>k (.mk A B C E F G I J L M N O P v T U)) p
def Ws {β:Type} (p:HB) (v:HA) (k:HB->β):β:=@HB.rec (fun _=>β) (fun A B C E F G I J L M N O P Q T U=>k (.mk A B C E F G I J L M N O P Q v U)) p
def WA {β:Type} (p:HB) (v:HA) (k:HB->β):β:=@HB.rec (fun _=>β) (fun A B C E F G I J L M N O P Q T U=>k (.mk A B C E F G I J L M N O P Q T v)) p
def Ab7 {β:Type} (p:HB) (k:HA->β):β:=@HB.rec (fun _=>β) (fun A B C E F G I J L M N O P Q T U=>k A) p
def Ab6 {β:Type} (p:HB) (k:HA->β):β:=@HB.rec (fun _=>β) (fun A B C E F G I J L M N O P Q T U=>k B) p
def Aaf {β:Type} (p:HB) (k:HA->β):β:=@HB.rec (fun _=>β) (fun A B C E F G I J L M N O P Q T U=>k C) p
def YL {β:Type} (p:HB) (k:HA->β):β:=@HB.rec (fun _=>β) (fun A B C E F G I J L M N O P Q T U=>k E) p
def YI {β:Type} (p:HB) (k:HA->β):β:=@HB.rec (fun _=>β) (fun A B C E F G I J L M N O P Q T U=>k F) p
def Aai {β:Type} (p:HB) (k:HA->β):β:=@HB.rec (fun _=>β) (fun A B C E F G I J L M N O P Q T U=>k G) p
def Aab {β:Type} (p:HB) (k:HA->β):β:=@HB.rec (fun _=>β) (fun A B C E F G I J L M N O P Q T U=>k I) p
def Zd {β:Type} (p:HB) (k:HA->β):β:=@HB.rec (fun _=>β) (fun A B C E F G I J L M N O P Q T U=>k J) p
def YR {β:Type} (p:HB) (k:HA->β):β:=@HB.rec (fun _=>β) (fun A B C E F G I J L M N O P Q T U=>k L) p
def Z5 {β:Type} (p:HB) (k:HA->β):β:=@HB.rec (fun _=>β) (fun A B C E F G I J L M N O P Q T U=>k M) p
def WB {β:Type} (p:HB) (k:HA->β):β:=@HB.rec (fun _=>β) (fun A B C E F G I J L M N O P Q T U=>k N) p
def Wm {β:Type} (p:HB) (k:HA->β):β:=@HB.rec (fun _=>β) (fun A B C E F G I J L M N O P Q T U=>k O) p
def Wf {β:Type} (p:HB) (k:HA->β):β:=@HB.rec (fun _=>β) (fun A B C E F G I J L M N O P Q T U=>k P) p
def Wp {β:Type} (p:HB) (k:HA->β):β:=@HB.rec (fun _=>β) (fun A B C E F G I J L M N O P Q T U=>k Q) p
def Wi {β:Type} (p:HB) (k:HA->β):β:=@HB.rec (fun _=>β) (fun A B C E F G I J L M N O P Q T U=>k T) p
def Wg {β:Type} (p:HB) (k:HA->β):β:=@HB.rec (fun _=>β) (fun A B C E F G I J L M N O P Q T U=>k U) p
def HB.selK {β:Type} (d:D):HB->(HA->β)->β :=
 @D.rec (fun _=>HB->(HA->β)->β) Ab7 Ab6 Aaf YL YI Aai Aab Zd YR Z5 WB Wm Wf Wp Wi Wg d
theorem HB.selK_eq {β:Type} (d:D) (p:HB) (k:HA->β):HB.selK d p k=k (HB.sel d p):=by
 cases d <;> cases p <;> rfl
def HB.setK {β:Type} (d:D):HB->HA->(HB->β)->β :=
 @D.rec (fun _=>HB->HA->(HB->β)->β) Yf Ab0 Aad Yc Abg Ab3 Aa1 ZS Aaz YP XL XI X3 Xz Ws WA d
def HB.setS (d:D) (p:HB) (v:HA):HB:=HB.setK d p v id
theorem HB.setK_eq {β:Type} (d:D) (p:HB) (v:HA) (k:HB->β):HB.setK d p v k=k (HB.setS d p v):=by
 cases d <;> cases p <;> rfl
theorem HB.sel_setS_same (d:D) (p:HB) (v:HA):HB.sel d (HB.setS d p v)=v:=by
 cases d <;> cases p <;> rfl
theorem HB.sel_setS_ne {d e:D} (p:HB) (v:HA) (h:d≠e):HB.sel e (HB.setS d p v)=HB.sel e p:=by
 cases p; cases d <;> cases e <;> first | rfl | exact absurd rfl h
theorem HB.sel_all (d:D) (x:HA):HB.sel d (HB.all x)=x:=by cases d <;> rfl
inductive HC where
 | mk (A B C E F G I J L M N O P Q T U:HB)
def HC.all (x:HB):HC:=.mk x x x x x x x x x x x x x x x x
def HC.sel (d:D) (p:HC):HB :=
 @HC.rec (fun _=>HB) (fun A B C E F G I J L M N O P Q T U=>@D.rec (fun _=>HB) A B C E F G I J L M N O P Q T U d) p
def ZN {β:Type} (p:HC) (v:HB) (k:HC->β):β:=@HC.rec (fun _=>β) (fun A B C E F G I J L M N O P Q T U=>k (.mk v B C E F G I J L M N O P Q T U)) p
def Yt {β:Type} (p:HC) (v:HB) (k:HC->β):β:=@HC.rec (fun _=>β) (fun A B C E F G I J L M N O P Q T U=>k (.mk A v C E F G I J L M N O P Q T U)) p
def Yw {β:Type} (p:HC) (v:HB) (k:HC->β):β:=@HC.rec (fun _=>β) (fun A B C E F G I J L M N O P Q T U=>k (.mk A B v E F G I J L M N O P Q T U)) p
def Aa0 {β:Type} (p:HC) (v:HB) (k:HC->β):β:=@HC.rec (fun _=>β) (fun A B C E F G I J L M N O P Q T U=>k (.mk A B C v F G I J L M N O P Q T U)) p
def Ab4 {β:Type} (p:HC) (v:HB) (k:HC->β):β:=@HC.rec (fun _=>β) (fun A B C E F G I J L M N O P Q T U=>k (.mk A B C E v G I J L M N O P Q T U)) p
def Abh {β:Type} (p:HC) (v:HB) (k:HC->β):β:=@HC.rec (fun _=>β) (fun A B C E F G I J L M N O P Q T U=>k (.mk A B C E F v I J L M N O P Q T U)) p
def Zn {β:Type} (p:HC) (v:HB) (k:HC->β):β:=@HC.rec (fun _=>β) (fun A B C E F G I J L M N O P Q T U=>k (.mk A B C E F G v J L M N O P Q T U)) p
def Aa9 {β:Type} (p:HC) (v:HB) (k:HC->β):β:=@HC.rec (fun _=>β) (fun A B C E F G I J L M N O P Q T U=>k (.mk A B C E F G I v L M N O P Q T U)) p
def Ab2 {β:Type} (p:HC) (v:HB) (k:HC->β):β:=@HC.rec (fun _=>β) (fun A B C E F G I J L M N O P Q T U=>k (.mk A B C E F G I J v M N O P Q T U)) p
def YU {β:Type} (p:HC) (v:HB) (k:HC->β):β:=@HC.rec (fun _=>β) (fun A B C E F G I J L M N O P Q T U=>k (.mk A B C E F G I J L v N O P Q T U)) p
def Xt {β:Type} (p:HC) (v:HB) (k:HC->β):β:=@HC.rec (fun _=>β) (fun A B C E F G I J L M N O P Q T U=>k (.mk A B C E F G I J L M v O P Q T U)) p
def XG {β:Type} (p:HC) (v:HB) (k:HC->β):β:=@HC.rec (fun _=>β) (fun A B C E F G I J L M N O P Q T U=>k (.mk A B C E F G I J L M N v P Q T U)) p
def WS {β:Type} (p:HC) (v:HB) (k:HC->β):β:=@HC.rec (fun _=>β) (fun A B C E F G I J L M N O P Q T U=>k (.mk A B C E F G I J L M N O v Q T U)) p
def W7 {β:Type} (p:HC) (v:HB) (k:HC->β):β:=@HC.rec (fun _=>β) (fun A B C E F G I J L M N O P Q T U=>k (.mk A B C E F G I J L M N O P v T U)) p
def WY {β:Type} (p:HC) (v:HB) (k:HC->β):β:=@HC.rec (fun _=>β) (fun A B C E F G I J L M N O P Q T U=>k (.mk A B C E F G I J L M N O P Q v U)) p
def WU {β:Type} (p:HC) (v:HB) (k:HC->β):β:=@HC.rec (fun _=>β) (fun A B C E F G I J L M N O P Q T U=>k (.mk A B C E F G I J L M N O P Q T v)) p
def Aak {β:Type} (p:HC) (k:HB->β):β:=@HC.rec (fun _=>β) (fun A B C E F G I J L M N O P Q T U=>k A) p
def Z1 {β:Type} (p:HC) (k:HB->β):β:=@HC.rec (fun _=>β) (fun A B C E F G I J L M N O P Q T U=>k B) p
def Aba {β:Type} (p:HC) (k:HB->β):β:=@HC.rec (fun _=>β) (fun A B C E F G I J L M N O P Q T U=>k C) p
def Aam {β:Type} (p:HC) (k:HB->β):β:=@HC.rec (fun _=>β) (fun A B C E F G I J L M N O P Q T U=>k E) p
def ZQ {β:Type} (p:HC) (k:HB->β):β:=@HC.rec (fun _=>β) (fun A B C E F G I J L M N O P Q T U=>k F) p
def YB {β:Type} (p:HC) (k:HB->β):β:=@HC.rec (fun _=>β) (fun A B C E F G I J L M N O P Q T U=>k G) p
def Aae {β:Type} (p:HC) (k:HB->β):β:=@HC.rec (fun _=>β) (fun A B C E F G I J L M N O P Q T U=>k I) p
def Zo {β:Type} (p:HC) (k:HB->β):β:=@HC.rec (fun _=>β) (fun A B C E F G I J L M N O P Q T U=>k J) p
def ZR {β:Type} (p:HC) (k:HB->β):β:=@HC.rec (fun _=>β) (fun A B C E F G I J L M N O P Q T U=>k L) p
def Aax {β:Type} (p:HC) (k:HB->β):β:=@HC.rec (fun _=>β) (fun A B C E F G I J L M N O P Q T U=>k M) p
def Wa {β:Type} (p:HC) (k:HB->β):β:=@HC.rec (fun _=>β) (fun A B C E F G I J L M N O P Q T U=>k N) p
def Xn {β:Type} (p:HC) (k:HB->β):β:=@HC.rec (fun _=>β) (fun A B C E F G I J L M N O P Q T U=>k O) p
def WK {β:Type} (p:HC) (k:HB->β):β:=@HC.rec (fun _=>β) (fun A B C E F G I J L M N O P Q T U=>k P) p
def Wo {β:Type} (p:HC) (k:HB->β):β:=@HC.rec (fun _=>β) (fun A B C E F G I J L M N O P Q T U=>k Q) p
def Xc {β:Type} (p:HC) (k:HB->β):β:=@HC.rec (fun _=>β) (fun A B C E F G I J L M N O P Q T U=>k T) p
def W3 {β:Type} (p:HC) (k:HB->β):β:=@HC.rec (fun _=>β) (fun A B C E F G I J L M N O P Q T U=>k U) p
def HC.selK {β:Type} (d:D):HC->(HB->β)->β :=
 @D.rec (fun _=>HC->(HB->β)->β) Aak Z1 Aba Aam ZQ YB Aae Zo ZR Aax Wa Xn WK Wo Xc W3 d
theorem HC.selK_eq {β:Type} (d:D) (p:HC) (k:HB->β):HC.selK d p k=k (HC.sel d p):=by
 cases d <;> cases p <;> rfl
def HC.setK {β:Type} (d:D):HC->HB->(HC->β)->β :=
 @D.rec (fun _=>HC->HB->(HC->β)->β) ZN Yt Yw Aa0 Ab4 Abh Zn Aa9 Ab2 YU Xt XG WS W7 WY WU d
def HC.setS (d:D) (p:HC) (v:HB):HC:=HC.setK d p v id
theorem HC.setK_eq {β:Type} (d:D) (p:HC) (v:HB) (k:HC->β):HC.setK d p v k=k (HC.setS d p v):=by
 cases d <;> cases p <;> rfl
theorem HC.sel_setS_same (d:D) (p:HC) (v:HB):HC.sel d (HC.setS d p v)=v:=by
 cases d <;> cases p <;> rfl
theorem HC.sel_setS_ne {d e:D} (p:HC) (v:HB) (h:d≠e):HC.sel e (HC.setS d p v)=HC.sel e p:=by
 cases p; cases d <;> cases e <;> first | rfl | exact absurd rfl h
theorem HC.sel_all (d:D) (x:HB):HC.sel d (HC.all x)=x:=by cases d <;> rfl
inductive Heap where
 | mk (A B C E F G I J L M N O P Q T U:HC)
def Heap.all (x:HC):Heap:=.mk x x x x x x x x x x x x x x x x
def Heap.sel (d:D) (p:Heap):HC :=
 @Heap.rec (fun _=>HC) (fun A B C E F G I J L M N O P Q T U=>@D.rec (fun _=>HC) A B C E F G I J L M N O P Q T U d) p
def Ab8 {β:Type} (p:Heap) (v:HC) (k:Heap->β):β:=@Heap.rec (fun _=>β) (fun A B C E F G I J L M N O P Q T U=>k (.mk v B C E F G I J L M N O P Q T U)) p
def Aa4 {β:Type} (p:Heap) (v:HC) (k:Heap->β):β:=@Heap.rec (fun _=>β) (fun A B C E F G I J L M N O P Q T U=>k (.mk A v C E F G I J L M N O P Q T U)) p
def Ye {β:Type} (p:Heap) (v:HC) (k:Heap->β):β:=@Heap.rec (fun _=>β) (fun A B C E F G I J L M N O P Q T U=>k (.mk A B v E F G I J L M N O P Q T U)) p
def Y6 {β:Type} (p:Heap) (v:HC) (k:Heap->β):β:=@Heap.rec (fun _=>β) (fun A B C E F G I J L M N O P Q T U=>k (.mk A B C v F G I J L M N O P Q T U)) p
def Yv {β:Type} (p:Heap) (v:HC) (k:Heap->β):β:=@Heap.rec (fun _=>β) (fun A B C E F G I J L M N O P Q T U=>k (.mk A B C E v G I J L M N O P Q T U)) p
def Yz {β:Type} (p:Heap) (v:HC) (k:Heap->β):β:=@Heap.rec (fun _=>β) (fun A B C E F G I J L M N O P Q T U=>k (.mk A B C E F v I J L M N O P Q T U)) p
def Abb {β:Type} (p:Heap) (v:HC) (k:Heap->β):β:=@Heap.rec (fun _=>β) (fun A B C E F G I J L M N O P Q T U=>k (.mk A B C E F G v J L M N O P Q T U)) p
def YN {β:Type} (p:Heap) (v:HC) (k:Heap->β):β:=@Heap.rec (fun _=>β) (fun A B C E F G I J L M N O P Q T U=>k (.mk A B C E F G I v L M N O P Q T U)) p
def Aaa {β:Type} (p:Heap) (v:HC) (k:Heap->β):β:=@Heap.rec (fun _=>β) (fun A B C E F G I J L M N O P Q T U=>k (.mk A B C E F G I J v M N O P Q T U)) p
def ZH {β:Type} (p:Heap) (v:HC) (k:Heap->β):β:=@Heap.rec (fun _=>β) (fun A B C E F G I J L M N O P Q T U=>k (.mk A B C E F G I J L v N O P Q T U)) p
def Wl {β:Type} (p:Heap) (v:HC) (k:Heap->β):β:=@Heap.rec (fun _=>β) (fun A B C E F G I J L M N O P Q T U=>k (.mk A B C E F G I J L M v O P Q T U)) p
def Xw {β:Type} (p:Heap) (v:HC) (k:Heap->β):β:=@Heap.rec (fun _=>β) (fun A B C E F G I J L M N O P Q T U=>k (.mk A B C E F G I J L M N v P Q T U)) p
def Wr {β:Type} (p:Heap) (v:HC) (k:Heap->β):β:=@Heap.rec (fun _=>β) (fun A B C E F G I J L M N O P Q T U=>k (.mk A B C E F G I J L M N O v Q T U)) p
def XK {β:Type} (p:Heap) (v:HC) (k:Heap->β):β:=@Heap.rec (fun _=>β) (fun A B C E F G I J L M N O P Q T U=>k (.mk A B C E F G I J L M N O P v T U)) p
def Xr {β:Type} (p:Heap) (v:HC) (k:Heap->β):β:=@Heap.rec (fun _=>β) (fun A B C E F G I J L M N O P Q T U=>k (.mk A B C E F G I J L M N O P Q v U)) p
def Wj {β:Type} (p:Heap) (v:HC) (k:Heap->β):β:=@Heap.rec (fun _=>β) (fun A B C E F G I J L M N O P Q T U=>k (.mk A B C E F G I J L M N O P Q T v)) p
def Z6 {β:Type} (p:Heap) (k:HC->β):β:=@Heap.rec (fun _=>β) (fun A B C E F G I J L M N O P Q T U=>k A) p
def Abf {β:Type} (p:Heap) (k:HC->β):β:=@Heap.rec (fun _=>β) (fun A B C E F G I J L M N O P Q T U=>k B) p
def YX {β:Type} (p:Heap) (k:HC->β):β:=@Heap.rec (fun _=>β) (fun A B C E F G I J L M N O P Q T U=>k C) p
def Aan {β:Type} (p:Heap) (k:HC->β):β:=@Heap.rec (fun _=>β) (fun A B C E F G I J L M N O P Q T U=>k E) p
def ZK {β:Type} (p:Heap) (k:HC->β):β:=@Heap.rec (fun _=>β) (fun A B C E F G I J L M N O P Q T U=>k F) p
def YT {β:Type} (p:Heap) (k:HC->β):β:=@Heap.rec (fun _=>β) (fun A B C E F G I J L M N O P Q T U=>k G) p
def Aag {β:Type} (p:Heap) (k:HC->β):β:=@Heap.rec (fun _=>β) (fun A B C E F G I J L M N O P Q T U=>k I) p
def Yb {β:Type} (p:Heap) (k:HC->β):β:=@Heap.rec (fun _=>β) (fun A B C E F G I J L M N O P Q T U=>k J) p
def Abm {β:Type} (p:Heap) (k:HC->β):β:=@Heap.rec (fun _=>β) (fun A B C E F G I J L M N O P Q T U=>k L) p
def Ab1 {β:Type} (p:Heap) (k:HC->β):β:=@Heap.rec (fun _=>β) (fun A B C E F G I J L M N O P Q T U=>k M) p
def WZ {β:Type} (p:Heap) (k:HC->β):β:=@Heap.rec (fun _=>β) (fun A B C E F G I J L M N O P Q T U=>k N) p
def XE {β:Type} (p:Heap) (k:HC->β):β:=@Heap.rec (fun _=>β) (fun A B C E F G I J L M N O P Q T U=>k O) p
def W5 {β:Type} (p:Heap) (k:HC->β):β:=@Heap.rec (fun _=>β) (fun A B C E F G I J L M N O P Q T U=>k P) p
def Xa {β:Type} (p:Heap) (k:HC->β):β:=@Heap.rec (fun _=>β) (fun A B C E F G I J L M N O P Q T U=>k Q) p
def XC {β:Type} (p:Heap) (k:HC->β):β:=@Heap.rec (fun _=>β) (fun A B C E F G I J L M N O P Q T U=>k T) p
def Xq {β:Type} (p:Heap) (k:HC->β):β:=@Heap.rec (fun _=>β) (fun A B C E F G I J L M N O P Q T U=>k U) p
def Heap.selK {β:Type} (d:D):Heap->(HC->β)->β :=
 @D.rec (fun _=>Heap->(HC->β)->β) Z6 Abf YX Aan ZK YT Aag Yb Abm Ab1 WZ XE W5 Xa XC Xq d
theorem Heap.selK_eq {β:Type} (d:D) (p:Heap) (k:HC->β):Heap.selK d p k=k (Heap.sel d p):=by
 cases d <;> cases p <;> rfl
def Heap.setK {β:Type} (d:D):Heap->HC->(Heap->β)->β :=
 @D.rec (fun _=>Heap->HC->(Heap->β)->β) Ab8 Aa4 Ye Y6 Yv Yz Abb YN Aaa ZH Wl Xw Wr XK Xr Wj d
def Heap.setS (d:D) (p:Heap) (v:HC):Heap:=Heap.setK d p v id
theorem Heap.setK_eq {β:Type} (d:D) (p:Heap) (v:HC) (k:Heap->β):Heap.setK d p v k=k (Heap.setS d p v):=by
 cases d <;> cases p <;> rfl
theorem Heap.sel_setS_same (d:D) (p:Heap) (v:HC):Heap.sel d (Heap.setS d p v)=v:=by
 cases d <;> cases p <;> rfl
theorem Heap.sel_setS_ne {d e:D} (p:Heap) (v:HC) (h:d≠e):Heap.sel e (Heap.setS d p v)=Heap.sel e p:=by
 cases p; cases d <;> cases e <;> first | rfl | exact absurd rfl h
theorem Heap.sel_all (d:D) (x:HC):Heap.sel d (Heap.all x)=x:=by cases d <;> rfl
inductive O8 where
 | d0 | d1 | d2 | d3 | d4 | d5 | d6 | d7
inductive O4 where
 | d0 | d1 | d2 | d3
inductive SQ where
 | mk (c0 c1 c2 c3:V)
def SQ.all (x:V):SQ:=.mk x x x x
def SQ.sel (d:O4) (p:SQ):V :=
 @SQ.rec (fun _=>V) (fun c0 c1 c2 c3=>@O4.rec (fun _=>V) c0 c1 c2 c3 d) p
def ZB {β:Type} (p:SQ) (v:V) (k:SQ->β):β:=@SQ.rec (fun _=>β) (fun c0 c1 c2 c3=>k (.mk v c1 c2 c3)) p
def Zu {β:Type} (p:SQ) (v:V) (k:SQ->β):β:=@SQ.rec (fun _=>β) (fun c0 c1 c2 c3=>k (.mk c0 v c2 c3)) p
def YS {β:Type} (p:SQ) (v:V) (k:SQ->β):β:=@SQ.rec (fun _=>β) (fun c0 c1 c2 c3=>k (.mk c0 c1 v c3)) p
def Ym {β:Type} (p:SQ) (v:V) (k:SQ->β):β:=@SQ.rec (fun _=>β) (fun c0 c1 c2 c3=>k (.mk c0 c1 c2 v)) p
def Yj {β:Type} (p:SQ) (k:V->β):β:=@SQ.rec (fun _=>β) (fun c0 c1 c2 c3=>k c0) p
def Abc {β:Type} (p:SQ) (k:V->β):β:=@SQ.rec (fun _=>β) (fun c0 c1 c2 c3=>k c1) p
def ZX {β:Type} (p:SQ) (k:V->β):β:=@SQ.rec (fun _=>β) (fun c0 c1 c2 c3=>k c2) p
def YE {β:Type} (p:SQ) (k:V->β):β:=@SQ.rec (fun _=>β) (fun c0 c1 c2 c3=>k c3) p
def SQ.selK {β:Type} (d:O4):SQ->(V->β)->β :=
 @O4.rec (fun _=>SQ->(V->β)->β) Yj Abc ZX YE d
theorem SQ.selK_eq {β:Type} (d:O4) (p:SQ) (k:V->β):SQ.selK d p k=k (SQ.sel d p):=by
 cases d <;> cases p <;> rfl
def SQ.setK {β:Type} (d:O4):SQ->V->(SQ->β)->β :=
 @O4.rec (fun _=>SQ->V->(SQ->β)->β) ZB Zu YS Ym d
def SQ.setS (d:O4) (p:SQ) (v:V):SQ:=SQ.setK d p v id
theorem SQ.setK_eq {β:Type} (d:O4) (p:SQ) (v:V) (k:SQ->β):SQ.setK d p v k=k (SQ.setS d p v):=by
 cases d <;> cases p <;> rfl
theorem SQ.sel_setS_same (d:O4) (p:SQ) (v:V):SQ.sel d (SQ.setS d p v)=v:=by
 cases d <;> cases p <;> rfl
theorem SQ.sel_setS_ne {d e:O4} (p:SQ) (v:V) (h:d≠e):SQ.sel e (SQ.setS d p v)=SQ.sel e p:=by
 cases p; cases d <;> cases e <;> first | rfl | exact absurd rfl h
theorem SQ.sel_all (d:O4) (x:V):SQ.sel d (SQ.all x)=x:=by cases d <;> rfl
inductive S where
 | mk (c0 c1 c2 c3 c4 c5 c6 c7:SQ)
def S.all (x:SQ):S:=.mk x x x x x x x x
def S.sel (d:O8) (p:S):SQ :=
 @S.rec (fun _=>SQ) (fun c0 c1 c2 c3 c4 c5 c6 c7=>@O8.rec (fun _=>SQ) c0 c1 c2 c3 c4 c5 c6 c7 d) p
def Zw {β:Type} (p:S) (v:SQ) (k:S->β):β:=@S.rec (fun _=>β) (fun c0 c1 c2 c3 c4 c5 c6 c7=>k (.mk v c1 c2 c3 c4 c5 c6 c7)) p
def Zr {β:Type} (p:S) (v:SQ) (k:S->β):β:=@S.rec (fun _=>β) (fun c0 c1 c2 c3 c4 c5 c6 c7=>k (.mk c0 v c2 c3 c4 c5 c6 c7)) p
def Aat {β:Type} (p:S) (v:SQ) (k:S->β):β:=@S.rec (fun _=>β) (fun c0 c1 c2 c3 c4 c5 c6 c7=>k (.mk c0 c1 v c3 c4 c5 c6 c7)) p
def Z8 {β:Type} (p:S) (v:SQ) (k:S->β):β:=@S.rec (fun _=>β) (fun c0 c1 c2 c3 c4 c5 c6 c7=>k (.mk c0 c1 c2 v c4 c5 c6 c7)) p
def Zs {β:Type} (p:S) (v:SQ) (k:S->β):β:=@S.rec (fun _=>β) (fun c0 c1 c2 c3 c4 c5 c6 c7=>k (.mk c0 c1 c2 c3 v c5 c6 c7)) p
def ZC {β:Type} (p:S) (v:SQ) (k:S->β):β:=@S.rec (fun _=>β) (fun c0 c1 c2 c3 c4 c5 c6 c7=>k (.mk c0 c1 c2 c3 c4 v c6 c7)) p
def Abn {β:Type} (p:S) (v:SQ) (k:S->β):β:=@S.rec (fun _=>β) (fun c0 c1 c2 c3 c4 c5 c6 c7=>k (.mk c0 c1 c2 c3 c4 c5 v c7)) p
def YM {β:Type} (p:S) (v:SQ) (k:S->β):β:=@S.rec (fun _=>β) (fun c0 c1 c2 c3 c4 c5 c6 c7=>k (.mk c0 c1 c2 c3 c4 c5 c6 v)) p
def ZD {β:Type} (p:S) (k:SQ->β):β:=@S.rec (fun _=>β) (fun c0 c1 c2 c3 c4 c5 c6 c7=>k c0) p
def Abd {β:Type} (p:S) (k:SQ->β):β:=@S.rec (fun _=>β) (fun c0 c1 c2 c3 c4 c5 c6 c7=>k c1) p
def ZM {β:Type} (p:S) (k:SQ->β):β:=@S.rec (fun _=>β) (fun c0 c1 c2 c3 c4 c5 c6 c7=>k c2) p
def Zm {β:Type} (p:S) (k:SQ->β):β:=@S.rec (fun _=>β) (fun c0 c1 c2 c3 c4 c5 c6 c7=>k c3) p
def Y5 {β:Type} (p:S) (k:SQ->β):β:=@S.rec (fun _=>β) (fun c0 c1 c2 c3 c4 c5 c6 c7=>k c4) p
def Yo {β:Type} (p:S) (k:SQ->β):β:=@S.rec (fun _=>β) (fun c0 c1 c2 c3 c4 c5 c6 c7=>k c5) p
def Zt {β:Type} (p:S) (k:SQ->β):β:=@S.rec (fun _=>β) (fun c0 c1 c2 c3 c4 c5 c6 c7=>k c6) p
def YK {β:Type} (p:S) (k:SQ->β):β:=@S.rec (fun _=>β) (fun c0 c1 c2 c3 c4 c5 c6 c7=>k c7) p
def S.selK {β:Type} (d:O8):S->(SQ->β)->β :=
 @O8.rec (fun _=>S->(SQ->β)->β) ZD Abd ZM Zm Y5 Yo Zt YK d
theorem S.selK_eq {β:Type} (d:O8) (p:S) (k:SQ->β):S.selK d p k=k (S.sel d p):=by
 cases d <;> cases p <;> rfl
def S.setK {β:Type} (d:O8):S->SQ->(S->β)->β :=
 @O8.rec (fun _=>S->SQ->(S->β)->β) Zw Zr Aat Z8 Zs ZC Abn YM d
def S.setS (d:O8) (p:S) (v:SQ):S:=S.setK d p v id
theorem S.setK_eq {β:Type} (d:O8) (p:S) (v:SQ) (k:S->β):S.setK d p v k=k (S.setS d p v):=by
 cases d <;> cases p <;> rfl
theorem S.sel_setS_same (d:O8) (p:S) (v:SQ):S.sel d (S.setS d p v)=v:=by
 cases d <;> cases p <;> rfl
theorem S.sel_setS_ne {d e:O8} (p:S) (v:SQ) (h:d≠e):S.sel e (S.setS d p v)=S.sel e p:=by
 cases p; cases d <;> cases e <;> first | rfl | exact absurd rfl h
theorem S.sel_all (d:O8) (x:SQ):S.sel d (S.all x)=x:=by cases d <;> rfl
end Go.Ev

namespace Go.Ev
set_option linter.unusedVariables false
def K4.toN (p:K4):Nat:=p.a.toN*4096+p.b.toN*256+p.c.toN*16+p.d.toN
theorem K4.toN_inj {p q:K4} (h:p.toN=q.toN):p=q:=by
 obtain ⟨a,b,c,d⟩:=p
 obtain ⟨a',b',c',d'⟩:=q
 simp only [K4.toN] at h
 have:=a.toN_lt; have:=b.toN_lt; have:=c.toN_lt; have:=d.toN_lt
 have:=a'.toN_lt; have:=b'.toN_lt; have:=c'.toN_lt; have:=d'.toN_lt
 have ha:a=a':=D.toN_inj (by omega)
 have hb:b=b':=D.toN_inj (by omega)
 have hc:c=c':=D.toN_inj (by omega)
 have hd:d=d':=D.toN_inj (by omega)
 subst ha hb hc hd; rfl
def K4.beq (p q:K4):Bool:=and (p.d.beq q.d) (and (p.c.beq q.c) (and (p.b.beq q.b) (p.a.beq q.a)))
theorem K4.beq_iff {p q:K4}:p.beq q=true ↔ p=q:=by
 obtain ⟨a,b,c,d⟩:=p
 obtain ⟨a',b',c',d'⟩:=q
 simp only [K4.beq,Bool.and_eq_true,D.beq_iff,K4.mk.injEq]
 constructor
 ·rintro ⟨rfl,rfl,rfl,rfl⟩; exact ⟨rfl,rfl,rfl,rfl⟩
 ·rintro ⟨rfl,rfl,rfl,rfl⟩; exact ⟨rfl,rfl,rfl,rfl⟩
inductive Ex where
 | nrm
 | exit (id:Nat)
 | ret
inductive R where
 | ok (e:Ex) (t:S) (h:Heap) (n:K4)
 | rv (v:V) (h:Heap) (n:K4)
 | fail (why:String)
 | both (a b:R)
abbrev KV:=V->Heap->K4->R
def AG (p:K4) (h:Heap):Option Ob:=HA.sel p.d (HB.sel p.c (HC.sel p.b (Heap.sel p.a h)))
def Qu {β:Type} (p:K4) (h:Heap) (κ:Option Ob->β):β :=
 @K4.rec (fun _=>β) (fun a b c d=>Heap.selK a h fun x=>HC.selK b x fun y=>HB.selK c y fun z=>HA.selK d z κ) p
theorem Dr {β:Type} (p:K4) (h:Heap) (κ:Option Ob->β):Qu p h κ=κ (AG p h):=by
 cases p; simp only [Qu,Heap.selK_eq,HC.selK_eq,HB.selK_eq,HA.selK_eq,AG]
def Fc {β:Type} (p:K4) (h:Heap) (o:Option Ob) (k:Heap->β):β :=
 @K4.rec (fun _=>β) (fun a b c d=>Heap.selK a h fun x=>HC.selK b x fun y=>HB.selK c y fun z =>
  HA.setK d z o fun z=>HB.setK c y z fun y=>HC.setK b x y fun x=>Heap.setK a h x k) p
def B0 (p:K4) (h:Heap) (o:Option Ob):Heap:=Fc p h o id
theorem Bx {β:Type} (p:K4) (h:Heap) (o:Option Ob) (k:Heap->β):Fc p h o k=k (B0 p h o):=by
 cases p; simp only [Fc,B0,Heap.setK_eq,HC.setK_eq,HB.setK_eq,HA.setK_eq,Heap.selK_eq,HC.selK_eq,HB.selK_eq]; rfl
theorem AA (p:K4) (h:Heap) (o:Option Ob):AG p (B0 p h o)=o:=by
 cases p; simp only [AG,B0,Fc,Heap.setK_eq,HC.setK_eq,HB.setK_eq,HA.setK_eq,Heap.selK_eq,HC.selK_eq,HB.selK_eq,HA.selK_eq,id,Heap.sel_setS_same,HC.sel_setS_same,HB.sel_setS_same,HA.sel_setS_same]
theorem An {p q:K4} (h:Heap) (o:Option Ob) (hne:p≠q):AG q (B0 p h o)=AG q h:=by
 obtain ⟨a,b,c,d⟩:=p
 obtain ⟨a',b',c',d'⟩:=q
 simp only [AG,B0,Fc,Heap.setK_eq,HC.setK_eq,HB.setK_eq,HA.setK_eq,Heap.selK_eq,HC.selK_eq,HB.selK_eq,HA.selK_eq,id]
 by_cases ha:a=a'
 ·subst ha
  rw [Heap.sel_setS_same]
  by_cases hb:b=b'
  ·subst hb
   rw [HC.sel_setS_same]
   by_cases hc:c=c'
   ·subst hc
    rw [HB.sel_setS_same]
    by_cases hd:d=d'
    ·subst hd; exact absurd rfl hne
    ·rw [HA.sel_setS_ne _ _ hd]
   ·rw [HB.sel_setS_ne _ _ hc]
  ·rw [HC.sel_setS_ne _ _ hb]
 ·rw [Heap.sel_setS_ne _ _ ha]
def AL:Heap:=Heap.all (HC.all (HB.all (HA.all none)))
theorem Co (p:K4):AG p AL=none:=by simp only [AG,AL,Heap.sel_all,HC.sel_all,HB.sel_all,HA.sel_all]
def K4.nx (p:K4) (k:K4->R):R :=
 @K4.rec (fun _=>R) (fun a b c d=>d.nx (fun d=>k ⟨a,b,c,d⟩)
  (c.nx (fun c=>k ⟨a,b,c,.d0⟩)
   (b.nx (fun b=>k ⟨a,b,.d0,.d0⟩)
    (a.nx (fun a=>k ⟨a,.d0,.d0,.d0⟩) (.fail ""))))) p
theorem K4.nx_eq (p:K4) (k:K4->R):(∃ w,p.nx k = .fail w) ∨ ∃ q:K4,q.toN=p.toN+1∧p.nx k=k q:=by
 obtain ⟨a,b,c,d⟩:=p
 simp only [K4.nx,K4.toN]
 have hd0:D.d0.toN=0:=rfl
 rcases d.nx_eq (fun d=>k ⟨a,b,c,d⟩) (c.nx (fun c=>k ⟨a,b,c,.d0⟩) (b.nx (fun b=>k ⟨a,b,.d0,.d0⟩) (a.nx (fun a=>k ⟨a,.d0,.d0,.d0⟩) (.fail "")))) with ⟨h,hd⟩ | ⟨e,he,h⟩
 ·rw [h]
  rcases c.nx_eq (fun c=>k ⟨a,b,c,.d0⟩) (b.nx (fun b=>k ⟨a,b,.d0,.d0⟩) (a.nx (fun a=>k ⟨a,.d0,.d0,.d0⟩) (.fail ""))) with ⟨h,hc⟩ | ⟨e,he,h⟩
  ·rw [h]
   rcases b.nx_eq (fun b=>k ⟨a,b,.d0,.d0⟩) (a.nx (fun a=>k ⟨a,.d0,.d0,.d0⟩) (.fail "")) with ⟨h,hb⟩ | ⟨e,he,h⟩
   ·rw [h]
    rcases a.nx_eq (fun a=>k ⟨a,.d0,.d0,.d0⟩) (.fail "") with ⟨h,ha⟩ | ⟨e,he,h⟩
    ·exact .inl ⟨_,h⟩
    ·exact .inr ⟨⟨e,.d0,.d0,.d0⟩,by simp only [he]; omega,h⟩
   ·exact .inr ⟨⟨a,e,.d0,.d0⟩,by simp only [he]; omega,h⟩
  ·exact .inr ⟨⟨a,b,e,.d0⟩,by simp only [he]; omega,h⟩
 ·exact .inr ⟨⟨a,b,c,e⟩,by simp only [he]; omega,h⟩
def K4.nx16 (p:K4) (k:K4->R):R :=
 @K4.rec (fun _=>R) (fun a b c d=>c.nx (fun c=>k ⟨a,b,c,.d0⟩)
  (b.nx (fun b=>k ⟨a,b,.d0,.d0⟩)
   (a.nx (fun a=>k ⟨a,.d0,.d0,.d0⟩) (.fail "")))) p
def K4.at (p:K4) (j:D) (k:K4->R):R:=@K4.rec (fun _=>R) (fun a b c _=>k ⟨a,b,c,j⟩) p
theorem K4.at_eq (p:K4) (j:D) (k:K4->R):p.at j k=k ⟨p.a,p.b,p.c,j⟩:=by cases p; rfl
theorem K4.nx16_eq (p:K4) (k:K4->R):(∃ w,p.nx16 k = .fail w) ∨ ∃ q:K4,q.toN=(p.a.toN*256+p.b.toN*16+p.c.toN+1)*16∧q.d = .d0∧p.nx16 k=k q:=by
 obtain ⟨a,b,c,d⟩:=p
 simp only [K4.nx16,K4.toN]
 have hd0:D.d0.toN=0:=rfl
 rcases c.nx_eq (fun c=>k ⟨a,b,c,.d0⟩) (b.nx (fun b=>k ⟨a,b,.d0,.d0⟩) (a.nx (fun a=>k ⟨a,.d0,.d0,.d0⟩) (.fail ""))) with ⟨h,hc⟩ | ⟨e,he,h⟩
 ·rw [h]
  rcases b.nx_eq (fun b=>k ⟨a,b,.d0,.d0⟩) (a.nx (fun a=>k ⟨a,.d0,.d0,.d0⟩) (.fail "")) with ⟨h,hb⟩ | ⟨e,he,h⟩
  ·rw [h]
   rcases a.nx_eq (fun a=>k ⟨a,.d0,.d0,.d0⟩) (.fail "") with ⟨h,ha⟩ | ⟨e,he,h⟩
   ·exact .inl ⟨_,h⟩
   ·exact .inr ⟨⟨e,.d0,.d0,.d0⟩,by simp only [he]; omega,rfl,h⟩
  ·exact .inr ⟨⟨a,e,.d0,.d0⟩,by simp only [he]; omega,rfl,h⟩
 ·exact .inr ⟨⟨a,b,e,.d0⟩,by simp only [he]; omega,rfl,h⟩
structure K2 where
 a:D
 b:D
def Cb:V:=.tup []
def EA:S:=S.all (SQ.all Cb)
def Bc (p:K2) (t:Regs):V:=VP.sel p.b (Regs.sel p.a t)
def GX {β:Type} (p:K2) (t:Regs) (κ:V->β):β :=
 @K2.rec (fun _=>β) (fun a b=>Regs.selK a t fun x=>VP.selK b x κ) p
theorem Cw {β:Type} (p:K2) (t:Regs) (κ:V->β):GX p t κ=κ (Bc p t):=by
 cases p; simp only [GX,Regs.selK_eq,VP.selK_eq,Bc]
def N7 {β:Type} (p:K2) (t:Regs) (v:V) (k:Regs->β):β :=
 @K2.rec (fun _=>β) (fun a b=>Regs.selK a t fun x=>VP.setK b x v fun x=>Regs.setK a t x k) p
def Dz (p:K2) (t:Regs) (v:V):Regs:=N7 p t v id
theorem MN {β:Type} (p:K2) (t:Regs) (v:V) (k:Regs->β):N7 p t v k=k (Dz p t v):=by
 cases p; simp only [N7,Dz,Regs.setK_eq,VP.setK_eq,Regs.selK_eq,VP.selK_eq]; rfl
theorem B7 (p:K2) (t:Regs) (v:V):Bc p (Dz p t v)=v:=by
 cases p; simp only [Bc,Dz,N7,Regs.setK_eq,VP.setK_eq,Regs.selK_eq,VP.selK_eq,id,Regs.sel_setS_same,VP.sel_setS_same]
theorem Bq {p q:K2} (t:Regs) (v:V) (hne:p≠q):Bc q (Dz p t v)=Bc q t:=by
 obtain ⟨a,b⟩:=p
 obtain ⟨a',b'⟩:=q
 simp only [Bc,Dz,N7,Regs.setK_eq,VP.setK_eq,Regs.selK_eq,VP.selK_eq,id]
 by_cases ha:a=a'
 ·subst ha
  rw [Regs.sel_setS_same]
  by_cases hb:b=b'
  ·subst hb; exact absurd rfl hne
  ·rw [VP.sel_setS_ne _ _ hb]
 ·rw [Regs.sel_setS_ne _ _ ha]
def G8:Regs:=Regs.all (VP.all Cb)
theorem Ja (p:K2):Bc p G8=Cb:=by simp only [Bc,G8,Regs.sel_all,VP.sel_all]
def K2.ofN (n:Nat):Option K2:=if n<256 then some ⟨D.ofN (n / 16),D.ofN (n % 16)⟩ else none
theorem K2.ofN_inj {m n:Nat} {p:K2} (h:K2.ofN m=some p) (h':K2.ofN n=some p):m=n:=by
 unfold K2.ofN at h h'
 split at h
 ·split at h'
  ·simp only [Option.some.injEq] at h h'
   rw [←h] at h'
   simp only [K2.mk.injEq] at h'
   have h1:=congrArg D.toN h'.1
   have h2:=congrArg D.toN h'.2
   rw [D.toN_ofN _ (by omega),D.toN_ofN _ (by omega)] at h1
   rw [D.toN_ofN _ (by omega),D.toN_ofN _ (by omega)] at h2
   omega
  ·simp at h'
 ·simp at h
theorem K2.ofN_lt {n:Nat} {p:K2} (h:K2.ofN n=some p):n<256:=by
 unfold K2.ofN at h; split at h
 ·assumption
 ·simp at h
end Go.Ev

namespace Go.Ev
set_option linter.unusedVariables false
def br {β:Type} (c:Bool) (t f:β):β:=@Bool.rec (fun _=>β) f t c
theorem AI {β:Type} (t f:β):br true t f=t:=rfl
theorem AM {β:Type} (t f:β):br false t f=f:=rfl
def Ah {β:Type} (n:Nat) (k:Nat->β):β:=@Nat.rec (fun _=>β) (k 0) (fun m _=>k (Nat.succ m)) n
theorem Af {β:Type} (n:Nat) (k:Nat->β):Ah n k=k n:=by cases n <;> rfl
def CE {β:Type} (b:Bool) (k:Bool->β):β:=@Bool.rec (fun _=>β) (k false) (k true) b
theorem BY {β:Type} (b:Bool) (k:Bool->β):CE b k=k b:=by cases b <;> rfl
def R.good:R->Prop
 | .fail _=>False
 | _=>True
theorem Ak {c:Bool} {t:R} {s:String} (h:(br c t (.fail s)).good):c=true∧br c t (.fail s)=t:=by
 cases c
 ·exact h.elim
 ·exact ⟨rfl,rfl⟩
theorem Fl {c:Bool} {t:R} {s:String} (h:(br c (.fail s) t).good):c=false∧br c (.fail s) t=t:=by
 cases c
 ·exact ⟨rfl,rfl⟩
 ·exact h.elim
def Mk (k:IntKind):Nat:=@IntKind.rec (fun _=>Nat) 256 65536 4294967296 18446744073709551616 256 65536 4294967296 18446744073709551616 k
def Hk (k:IntKind):Nat:=@IntKind.rec (fun _=>Nat) 128 32768 2147483648 9223372036854775808 256 65536 4294967296 18446744073709551616 k
def YW (k:IntKind):Nat:=@IntKind.rec (fun _=>Nat) 0 1 2 3 4 5 6 7 k
def BE (k:IntKind) (r:Nat):Int:=if r<Hk k then (r:Int) else (r:Int) - (Mk k:Int)
def Bk (k j:IntKind):Bool:=Nat.beq (YW k) (YW j)
theorem Bd {k j:IntKind}:Bk k j=true ↔ k=j:=by
 cases k <;> cases j <;> simp [Bk,YW]
theorem E3 (k:IntKind):0<Mk k:=by cases k <;> simp [Mk]
theorem Ga (k:IntKind):Hk k≤Mk k:=by cases k <;> simp [Mk,Hk]
theorem Eg (k:IntKind):Mk k=2 ^ k.bits:=by cases k <;> rfl
theorem FN {k:IntKind} {z:Int} {r:Nat} (h:z % (Mk k:Int)=r):k.wrap z=BE k r:=by
 cases k <;> simp [Mk,BE,Hk,IntKind.wrap,IntKind.bits,IntKind.signed] at h ⊢ <;> (repeat' split) <;> omega
theorem DX (k:IntKind) (a:Nat):BE k a % (Mk k:Int)=((a % Mk k:Nat):Int):=by
 unfold BE
 split
 ·exact (Int.natCast_emod a (Mk k)).symm
 ·rw [Int.sub_emod_right]; exact (Int.natCast_emod a (Mk k)).symm
theorem Au {k:IntKind} {a:Nat} (h:a<Hk k):BE k a=a:=by unfold BE; rw [if_pos h]
theorem Cr {k:IntKind} {a:Nat} (h:¬ a<Hk k):BE k a=a - Mk k:=by unfold BE; rw [if_neg h]
theorem Jv {k:IntKind} {a b:Nat} (ha:a<Mk k) (hb:b<Mk k) (h:BE k a=BE k b):a=b:=by
 have h1:=DX k a
 have h2:=DX k b
 rw [h,h2,Nat.mod_eq_of_lt ha,Nat.mod_eq_of_lt hb] at h1
 omega
def Ht (k:IntKind) (a b:Nat):Bool :=
 br (Nat.ble (Hk k) a) (br (Nat.ble (Hk k) b) (Nat.ble (Nat.succ a) b) true) (br (Nat.ble (Hk k) b) false (Nat.ble (Nat.succ a) b))
theorem Am {a b:Nat}:Nat.ble a b=true ↔ a≤b:=⟨Nat.le_of_ble_eq_true,Nat.ble_eq_true_of_le⟩
theorem Bj {a b:Nat} (h:b<a):Nat.ble a b=false:=Bool.eq_false_iff.2 (fun e=>by have:=Am.1 e; omega)
theorem Hd (a b:Nat):Nat.ble a b=decide (a≤b):=by rw [Bool.eq_iff_iff,Am]; simp
theorem Ef {k:IntKind} {a b:Nat} (ha:a<Mk k) (hb:b<Mk k):Ht k a b=decide (BE k a<BE k b):=by
 have hH:=Ga k
 unfold Ht
 by_cases h1:Hk k≤a
 ·rw [Am.2 h1,AI,Cr (by omega)]
  by_cases h2:Hk k≤b
  ·rw [Am.2 h2,AI,Cr (by omega),Hd]; apply decide_eq_decide.2; omega
  ·rw [Bj (by omega),AM,Au (by omega)]; symm; apply decide_eq_true; omega
 ·rw [Bj (by omega),AM,Au (by omega)]
  by_cases h2:Hk k≤b
  ·rw [Am.2 h2,AI,Cr (by omega)]; symm; apply decide_eq_false; omega
  ·rw [Bj (by omega),AM,Au (by omega),Hd]; apply decide_eq_decide.2; omega
def AZ:List UInt8->Nat
 | []=>0
 | b::l=>b.toNat+256*AZ l
theorem U2 (l:List UInt8):AZ l<256 ^ l.length:=by
 induction l with
 | nil=>simp [AZ]
 | cons b l ih =>
  have:=b.toNat_lt
  simp only [AZ,List.length_cons,Nat.pow_succ]
  omega
theorem Jb (a b:List UInt8):AZ (a++b)=AZ a+256 ^ a.length*AZ b:=by
 induction a with
 | nil=>simp [AZ]
 | cons x a ih=>simp only [List.cons_append,AZ,ih,List.length_cons,Nat.pow_succ,Nat.mul_add,Nat.mul_assoc,Nat.add_assoc]; rw [Nat.mul_left_comm]
theorem Kk {a b:List UInt8} (hl:a.length=b.length) (h:AZ a=AZ b):a=b:=by
 induction a generalizing b with
 | nil=>cases b with
  | nil=>rfl
  | cons=>simp at hl
 | cons x a ih =>
  cases b with
  | nil=>simp at hl
  | cons y b =>
   simp only [AZ] at h
   have hx:=x.toNat_lt; have hy:=y.toNat_lt
   have h1:x.toNat=y.toNat:=by omega
   have h2:AZ a=AZ b:=by omega
   rw [ih (by simpa using hl) h2,UInt8.toNat_inj.1 h1]
theorem Oa (l:List UInt8):∀ n,AZ l / 256 ^ n=AZ (l.drop n):=by
 intro n
 induction n generalizing l with
 | zero=>simp
 | succ n ih =>
  cases l with
  | nil=>simp [AZ]
  | cons b l =>
   have:=b.toNat_lt
   rw [Nat.pow_succ,Nat.mul_comm,←Nat.div_div_eq_div_mul]
   have:AZ (b::l) / 256=AZ l:=by simp only [AZ]; omega
   rw [this,ih,List.drop_succ_cons]
theorem T4 (l:List UInt8):∀ n,AZ l % 256 ^ n=AZ (l.take n):=by
 intro n
 have h:=Jb (l.take n) (l.drop n)
 rw [List.take_append_drop] at h
 have hlt:=U2 (l.take n)
 by_cases hn:n≤l.length
 ·have hlen:(l.take n).length=n:=by simp [hn]
  rw [hlen] at h hlt
  rw [h,Nat.add_mul_mod_self_left,Nat.mod_eq_of_lt hlt]
 ·rw [List.take_of_length_le (by omega)] at hlt ⊢
  exact Nat.mod_eq_of_lt (Nat.lt_of_lt_of_le hlt (Nat.pow_le_pow_right (by omega) (by omega)))
theorem If (l:List UInt8) (i:Nat) (h:i<l.length):(AZ l / 256 ^ i) % 256=l[i].toNat:=by
 rw [Oa,List.drop_eq_getElem_cons h]
 have:=l[i].toNat_lt
 simp only [AZ]; omega
def sh (c i:Nat):Nat:=Nat.shiftRight c (Nat.mul 8 i)
theorem ED (c i:Nat):sh c i=c / 256 ^ i:=by
 show c >>> (8*i)=_
 rw [Nat.shiftRight_eq_div_pow,Nat.pow_mul]
def lo (c i:Nat):Nat:=Nat.mod c (Nat.pow 256 i)
theorem Dw (c i:Nat):lo c i=c % 256 ^ i:=rfl
def up (c i:Nat):Nat:=Nat.shiftLeft c (Nat.mul 8 i)
theorem Sr (c i:Nat):up c i=256 ^ i*c:=by
 show c <<< (8*i)=_
 rw [Nat.shiftLeft_eq,Nat.pow_mul,Nat.mul_comm]
structure ApC where
 asg:Code
 bod:Code
 par:Nat
 box:Nat
 ntm:Nat
structure Env where
 v:Nat->Value
 ap:Nat->Option ApC
 gl:Nat->Option (Array Value×TypeId×(Nat×Nat)):=fun _=>none
abbrev AY:=K4->Option (Nat×Nat×Nat)
def C1:Nl->Value
 | .ptr=>.pointer none
 | .sl=>.slice none 0 0
 | .map=>.map none
 | .fn=>.nilFunc
 | .iface=>.nilIface
def Qx (i j:Nat):Bool:=Nat.beq (Nat.mod (Nat.div (Nat.mod i 4294967296) (Nat.pow 2 j)) 2) 1
def Vk (i:Nat):Nat:=Nat.div (Nat.sub i 73786976294838206464) 281474976710656
def XS (i:Nat):Nat:=Nat.mod (Nat.div (Nat.sub i 73786976294838206464) 1099511627776) 256
def Y3 (i j:Nat):Nat:=Nat.mod (Nat.div (Nat.mod (Nat.sub i 73786976294838206464) 1099511627776) (Nat.pow (Vk i) j)) (Vk i)
def Hv (i:Nat):Nat:=Nat.mod (Nat.div (Nat.sub i 36893488147419103233) 65536) 65536
def VS (i:Nat):Nat:=Nat.div (Nat.sub i 36893488147419103233) 4294967296
def OZ (i:Nat):Nat:=Nat.mod (Nat.sub i 36893488147419103233) 65536
def KM (ρ:Env) (i j:Nat) (y:Value):Prop:=(i=0 ∧ ∃ b,y = .bool b)∨(1≤i∧i<18446744073709551616∧y=ρ.v (i+j) ∧ ∃ r,r<Mk .i64∧y = .int .i64 (BE .i64 r)) ∨
 (18446744073709551616≤i∧i<36893488147419103232 ∧ ∃ b,y = .bool b∧(j<(i - 18446744073709551616) / 4294967296->b=Qx i j))∨(36893488147419103232≤i∧i<73786976294838206464 ∧ ∃ r,r<Mk .i64∧y = .int .i64 (BE .i64 r)∧(36893488147419103232<i->j=VS i->(BE .i64 r).tmod (Hv i:Nat)+(Hv i:Nat)=(OZ i:Nat))) ∨
 (73786976294838206464≤i ∧ ∃ z:Int,y = .int .i64 z ∧ -9223372036854775808≤z∧z<9223372036854775808∧(j<XS i->z.natAbs % Vk i=Y3 i j))
section
variable (ρ:Env) (φ:AY)
mutual
def AD:V->Value->Prop
 | .int k r,x=>r<Mk k∧x = .int k (BE k r)
 | .bool b,x=>x = .bool b
 | .ptr p off,x=>∃ b s tot,φ p=some (b,s,tot)∧x = .pointer (some ⟨b,s+off,none⟩)
 | .sl p off len cap ex esz,x=>∃ b s tot o cap',φ p=some (b,s,tot)∧x = .slice (some ⟨b,o,none⟩) len cap'∧len≤cap∧cap≤cap' ∧
   (ex=true->cap'=cap)∧(0<cap'->o=s+off∧o+cap'*esz≤tot)
 | .str n c,x=>∃ s:ByteArray,x = .string s∧s.size=n∧AZ s.data.toList=c
 | .agg l,x=>∃ cs:Array Value,x = .agg cs∧Bo l cs.toList ∧ ∀ y∈cs.toList,y.oneCell'=true
 | .nil w,x=>x=C1 w
 | .map p,x=>∃ b s tot,φ p=some (b,s,tot)∧x = .map (some b)
 | .fn f caps,x=>∃ cs:Array Value,x = .func (.func f) #[] cs∧Bo caps cs.toList
 | .tup l,x=>∃ cs:Array Value,x = .tuple cs∧Bo l cs.toList
 | .oth o,x=>match o with | .any=>True | .sym i=>x=ρ.v i | .yl p=>(∃ b s tot,φ p=some (b,s,tot)∧x = .func (.yield b) #[] #[]) | .no=>False | .iv k lo hi=>∃ r,lo≤r∧r≤hi∧r<Mk k∧x = .int k (BE k r) | .os lo hi=>∃ p len cap,x = .slice p len cap∧lo≤len∧len≤hi∧len≤cap | .bl=>∃ b,x = .bool b | .rs m j=>∃ z:Int,x = .int .i64 z ∧ -9223372036854775808≤z∧z<9223372036854775808∧(m<36893488147419103232∧z.natAbs % (m % 18446744073709551616)=j∨(36893488147419103232≤m∧j % 18446744073709551616≤z.natAbs % (m % 18446744073709551616)∧z.natAbs % (m % 18446744073709551616)≤j / 18446744073709551616))∧(18446744073709551616≤m->m<36893488147419103232->0≤z)∧(73786976294838206464≤m->z<0) | .ss lo hi n c=>∃ s:ByteArray,x = .string s∧lo≤s.size∧s.size≤hi ∧ ¬ (s.size=n∧AZ s.data.toList=c) | .ro i lo hi z=>∃ b o len cap c e fr,x = .slice (some ⟨b,o,none⟩) len cap∧lo≤len∧len≤hi∧len≤cap∧ρ.gl b=some (c,e,fr) ∧ ∀ j,j<len*z->∃ y,c[o+j]? = some y∧KM ρ i j y | .ap i j m=>∃ b o c e fr,x = .pointer (some ⟨b,o,none⟩)∧ρ.gl b=some (c,e,fr) ∧ ∀ q,q<m->∃ y,c[o+q]? = some y∧KM ρ i (j+q) y | .sy k i=>x=ρ.v i ∧ ∃ r,r<Mk k∧x = .int k (BE k r)
def Bo:List V->List Value->Prop
 | [],l=>l=[]
 | v::vs,l=>∃ y ys,l=y::ys∧AD v y∧Bo vs ys
end
end
end Go.Ev

namespace Go.Ev
abbrev B4 {A0:Sort _} (s:String):A0->R:=fun _=>.fail s
abbrev AR {A0 A1:Sort _} (s:String):A0->A1->R:=fun _ _=>.fail s
abbrev BU {A0 A1 A2:Sort _} (s:String):A0->A1->A2->R:=fun _ _ _=>.fail s
abbrev Fb {A0 A1 A2 A3:Sort _} (s:String):A0->A1->A2->A3->R:=fun _ _ _ _=>.fail s
abbrev fF5 {A0 A1 A2 A3 A4:Sort _} (s:String):A0->A1->A2->A3->A4->R:=fun _ _ _ _ _=>.fail s
abbrev Dm {A0 A1 A2 A3 A4 A5:Sort _} (s:String):A0->A1->A2->A3->A4->A5->R:=fun _ _ _ _ _ _=>.fail s
set_option linter.unusedVariables false
def Dh (m:Nat):List V->(List V->R)->R :=
 @Nat.rec (fun _=>List V->(List V->R)->R) (fun _ k=>k [])
  (fun _ ih xs k=>@List.rec V (fun _=>R) (.fail "") (fun x ys _=>ih ys fun zs=>k (x::zs)) xs) m
def DZ (m:Nat):List V->(List V->R)->R :=
 @Nat.rec (fun _=>List V->(List V->R)->R) (fun xs k=>k xs)
  (fun _ ih xs k=>@List.rec V (fun _=>R) (.fail "") (fun _ ys _=>ih ys k) xs) m
def E2 (m:Nat):List V->(V->R)->R :=
 @Nat.rec (fun _=>List V->(V->R)->R) (fun xs k=>@List.rec V (fun _=>R) (.fail "") (fun x _ _=>k x) xs)
  (fun _ ih xs k=>@List.rec V (fun _=>R) (.fail "") (fun _ ys _=>ih ys k) xs) m
def EM (xs ys:List V):(List V->R)->R :=
 @List.rec V (fun _=>(List V->R)->R) (fun k=>k ys) (fun x _ ih k=>ih fun zs=>k (x::zs)) xs
def Gh (xs:List V):(Nat->R)->R :=
 @List.rec V (fun _=>(Nat->R)->R) (fun k=>k 0) (fun _ _ ih k=>ih fun n=>Ah (Nat.succ n) k) xs
theorem EE {m:Nat} {xs:List V} {k:List V->R} (h:(Dh m xs k).good):m≤xs.length∧Dh m xs k=k (xs.take m):=by
 induction m generalizing xs k with
 | zero=>exact ⟨Nat.zero_le _,rfl⟩
 | succ m ih =>
  cases xs with
  | nil=>exact h.elim
  | cons x xs =>
   have:=ih (xs:=xs) (k:=fun zs=>k (x::zs)) h
   exact ⟨by simpa using this.1,this.2⟩
theorem Ew {m:Nat} {xs:List V} {k:List V->R} (h:(DZ m xs k).good):m≤xs.length∧DZ m xs k=k (xs.drop m):=by
 induction m generalizing xs with
 | zero=>exact ⟨Nat.zero_le _,rfl⟩
 | succ m ih =>
  cases xs with
  | nil=>exact h.elim
  | cons x xs =>
   have:=ih (xs:=xs) h
   exact ⟨by simpa using this.1,this.2⟩
theorem Ek {m:Nat} {xs:List V} {k:V->R} (h:(E2 m xs k).good):∃ v,xs[m]? = some v∧E2 m xs k=k v:=by
 induction m generalizing xs with
 | zero =>
  cases xs with
  | nil=>exact h.elim
  | cons x xs=>exact ⟨x,rfl,rfl⟩
 | succ m ih =>
  cases xs with
  | nil=>exact h.elim
  | cons x xs =>
   obtain ⟨v,h1,h2⟩:=ih (xs:=xs) h
   exact ⟨v,by simpa using h1,h2⟩
theorem Ed (xs ys:List V) (k:List V->R):EM xs ys k=k (xs++ys):=by
 induction xs generalizing k with
 | nil=>rfl
 | cons x xs ih=>exact ih fun zs=>k (x::zs)
theorem Da (xs:List V) (k:Nat->R):Gh xs k=k xs.length:=by
 induction xs generalizing k with
 | nil=>rfl
 | cons x xs ih=>exact (ih fun n=>Ah (Nat.succ n) k).trans (Af _ _)
def FZ (v:V) (κ:IntKind->Nat->R):R :=
 @V.rec (fun _=>R) (fun _=>Unit) (fun k r=>κ k r) (B4 "") (AR "") (Dm "") (AR "") (AR "") (B4 "") (B4 "") (BU "") (AR "") (B4 "") () (fun _ _ _ _=>()) v
def OF (v:V) (κ:Bool->R):R :=
 @V.rec (fun _=>R) (fun _=>Unit) (AR "") (fun b=>κ b) (AR "") (Dm "") (AR "") (AR "") (B4 "") (B4 "") (BU "") (AR "") (B4 "") () (fun _ _ _ _=>()) v
def Iw (v:V) (κ:K4->Nat->R):R :=
 @V.rec (fun _=>R) (fun _=>Unit) (AR "") (B4 "") (fun p off=>κ p off) (Dm "") (AR "") (AR "") (B4 "") (B4 "") (BU "") (AR "") (B4 "") () (fun _ _ _ _=>()) v
def CO (v:V) (κn:R) (κ:K4->Nat->Nat->Nat->Bool->Nat->R):R :=
 @V.rec (fun _=>R) (fun _=>Unit) (AR "") (B4 "") (AR "") (fun p off len cap ex esz=>κ p off len cap ex esz) (AR "") (AR "") (fun w=>@Nl.rec (fun _=>R) (.fail "") κn (.fail "") (.fail "") (.fail "") w) (B4 "") (BU "") (AR "") (B4 "") () (fun _ _ _ _=>()) v
def Bf (v:V) (κ:Nat->Nat->R):R :=
 @V.rec (fun _=>R) (fun _=>Unit) (AR "") (B4 "") (AR "") (Dm "") (fun n c=>κ n c) (AR "") (B4 "") (B4 "") (BU "") (AR "") (B4 "") () (fun _ _ _ _=>()) v
def asAgg (v:V) (κ:List V->R):R :=
 @V.rec (fun _=>R) (fun _=>Unit) (AR "") (B4 "") (AR "") (Dm "") (AR "") (fun l _i=>κ l) (B4 "") (B4 "") (BU "") (AR "") (B4 "") () (fun _ _ _ _=>()) v
def KL (v:V) (κ:List V->R):R :=
 @V.rec (fun _=>R) (fun _=>Unit) (AR "") (B4 "") (AR "") (Dm "") (AR "") (AR "") (B4 "") (B4 "") (BU "") (fun l _i=>κ l) (B4 "") () (fun _ _ _ _=>()) v
def Du (v:V) (κn:R) (κ:K4->R):R :=
 @V.rec (fun _=>R) (fun _=>Unit) (AR "") (B4 "") (AR "") (Dm "") (AR "") (AR "") (fun w=>@Nl.rec (fun _=>R) (.fail "") (.fail "") κn (.fail "") (.fail "") w) (fun p=>κ p) (BU "") (AR "") (B4 "") () (fun _ _ _ _=>()) v
def Po (v:V) (κ:Nat->List V->R):R :=
 @V.rec (fun _=>R) (fun _=>Unit) (AR "") (B4 "") (AR "") (Dm "") (AR "") (AR "") (B4 "") (B4 "") (fun f caps _i=>κ f caps) (AR "") (B4 "") () (fun _ _ _ _=>()) v
def DH (v:V) (κ:List V->R):R :=
 @V.rec (fun _=>R) (fun _=>Unit) (fun _ _=>κ [v]) (fun _=>κ [v]) (fun _ _=>κ [v]) (fun _ _ _ _ _ _=>κ [v]) (fun _ _=>κ [v]) (fun l _i=>κ l) (fun _=>κ [v]) (fun _=>κ [v]) (fun _ _ _=>κ [v]) (fun l _i=>.fail "") (fun o=>@Ot.rec (fun _=>R) (.fail "") (fun _=>κ [v]) (B4 "") (.fail "") (fun _ _ _=>κ [v]) (fun _ _=>κ [v]) (κ [v]) (fun _ _=>κ [v]) (fun _ _ _ _=>κ [v]) (fun _ _ _ _=>κ [v]) (fun _ _ _=>κ [v]) (fun _ _=>κ [v]) o) () (fun _ _ _ _=>()) v
def W4 (v:V) (κ:Nat->Nat->R) (e:R):R :=
 @V.rec (fun _=>R) (fun _=>Unit) (fun _ _=>e) (fun _=>e) (fun _ _=>e) (fun _ _ _ _ _ _=>e) (fun _ _=>e) (fun _ _=>e) (fun _=>e) (fun _=>e) (fun _ _ _=>e) (fun _ _=>e) (fun o=>@Ot.rec (fun _=>R) e (fun _=>e) (fun _=>e) e (fun _ _ _=>e) (fun lo hi=>κ lo hi) e (fun _ _=>e) (fun _ _ _ _=>e) (fun _ _ _ _=>e) (fun _ _ _=>e) (fun _ _=>e) o) () (fun _ _ _ _=>()) v
theorem R8 (v:V) (κ:Nat->Nat->R) (e:R):(∃ lo hi,v = .oth (.os lo hi)∧W4 v κ e=κ lo hi)∨W4 v κ e=e:=by
 cases v with
 | oth o=>cases o with
  | os lo hi=>exact .inl ⟨lo,hi,rfl,rfl⟩
  | _=>exact .inr rfl
 | _=>exact .inr rfl
def ZU (v:V) (κ:Nat->Nat->R) (e:R):R :=
 @V.rec (fun _=>R) (fun _=>Unit) (fun _ _=>e) (fun _=>e) (fun _ _=>e) (fun _ _ _ _ _ _=>e) (fun _ _=>e) (fun _ _=>e) (fun _=>e) (fun _=>e) (fun _ _ _=>e) (fun _ _=>e) (fun o=>@Ot.rec (fun _=>R) e (fun _=>e) (fun _=>e) e (fun _ _ _=>e) (fun _ _=>e) e (fun m j=>κ m j) (fun _ _ _ _=>e) (fun _ _ _ _=>e) (fun _ _ _=>e) (fun _ _=>e) o) () (fun _ _ _ _=>()) v
theorem R5 (v:V) (κ:Nat->Nat->R) (e:R):(∃ m j,v = .oth (.rs m j)∧ZU v κ e=κ m j)∨ZU v κ e=e:=by
 cases v with
 | oth o=>cases o with
  | rs m j=>exact .inl ⟨m,j,rfl,rfl⟩
  | _=>exact .inr rfl
 | _=>exact .inr rfl
def Up (v:V) (κ:Nat->Nat->Nat->Nat->R) (e:R):R :=
 @V.rec (fun _=>R) (fun _=>Unit) (fun _ _=>e) (fun _=>e) (fun _ _=>e) (fun _ _ _ _ _ _=>e) (fun _ _=>e) (fun _ _=>e) (fun _=>e) (fun _=>e) (fun _ _ _=>e) (fun _ _=>e) (fun o=>@Ot.rec (fun _=>R) e (fun _=>e) (fun _=>e) e (fun _ _ _=>e) (fun _ _=>e) e (fun _ _=>e) (fun lo hi n c=>κ lo hi n c) (fun _ _ _ _=>e) (fun _ _ _=>e) (fun _ _=>e) o) () (fun _ _ _ _=>()) v
theorem IG (v:V) (κ:Nat->Nat->Nat->Nat->R) (e:R):(∃ lo hi n c,v = .oth (.ss lo hi n c)∧Up v κ e=κ lo hi n c)∨Up v κ e=e:=by
 cases v with
 | oth o=>cases o with
  | ss lo hi n c=>exact .inl ⟨lo,hi,n,c,rfl,rfl⟩
  | _=>exact .inr rfl
 | _=>exact .inr rfl
def OX (v:V) (κ:K4->Nat->R) (κo:Ot->R):R :=
 @V.rec (fun _=>R) (fun _=>Unit) (AR "") (B4 "") (fun p off=>κ p off) (Dm "") (AR "") (AR "") (B4 "") (B4 "") (BU "") (AR "") (fun o=>κo o) () (fun _ _ _ _=>()) v
def H5 (v:V) (κn:R) (κ:K4->Nat->Nat->Nat->Bool->Nat->R) (κo:Ot->R):R :=
 @V.rec (fun _=>R) (fun _=>Unit) (AR "") (B4 "") (AR "") (fun p off len cap ex esz=>κ p off len cap ex esz) (AR "") (AR "") (fun w=>@Nl.rec (fun _=>R) (.fail "") κn (.fail "") (.fail "") (.fail "") w) (B4 "") (BU "") (AR "") (fun o=>κo o) () (fun _ _ _ _=>()) v
theorem Kp {v:V} {κ:K4->Nat->R} {κo:Ot->R} (h:(OX v κ κo).good):(∃ p off,v = .ptr p off∧OX v κ κo=κ p off)∨(∃ o,v = .oth o∧OX v κ κo=κo o):=by
 cases v with
 | ptr p off=>exact .inl ⟨p,off,rfl,rfl⟩
 | oth o=>exact .inr ⟨o,rfl,rfl⟩
 | _=>exact h.elim
theorem J3 {v:V} {κn:R} {κ:K4->Nat->Nat->Nat->Bool->Nat->R} {κo:Ot->R} (h:(H5 v κn κ κo).good) :
  (v = .nil .sl∧H5 v κn κ κo=κn)∨(∃ p off len cap ex esz,v = .sl p off len cap ex esz∧H5 v κn κ κo=κ p off len cap ex esz)∨(∃ o,v = .oth o∧H5 v κn κ κo=κo o):=by
 cases v with
 | sl p off len cap ex esz=>exact .inr (.inl ⟨p,off,len,cap,ex,esz,rfl,rfl⟩)
 | nil w=>cases w with
  | sl=>exact .inl ⟨rfl,rfl⟩
  | _=>exact h.elim
 | oth o=>exact .inr (.inr ⟨o,rfl,rfl⟩)
 | _=>exact h.elim
def Vz (o:Ot) (κ:Nat->Nat->R) (e:R):R :=
 @Ot.rec (fun _=>R) e (fun _=>e) (fun _=>e) e (fun _ _ _=>e) (fun lo hi=>κ lo hi) e (fun _ _=>e) (fun _ _ _ _=>e) (fun _ _ _ _=>e) (fun _ _ _=>e) (fun _ _=>e) o
def PC (o:Ot) (κ:Nat->Nat->Nat->Nat->R) (e:R):R :=
 @Ot.rec (fun _=>R) e (fun _=>e) (fun _=>e) e (fun _ _ _=>e) (fun _ _=>e) e (fun _ _=>e) (fun _ _ _ _=>e) (fun i lo hi z=>κ i lo hi z) (fun _ _ _=>e) (fun _ _=>e) o
def QG (o:Ot) (κ:Nat->Nat->Nat->R) (e:R):R :=
 @Ot.rec (fun _=>R) e (fun _=>e) (fun _=>e) e (fun _ _ _=>e) (fun _ _=>e) e (fun _ _=>e) (fun _ _ _ _=>e) (fun _ _ _ _=>e) (fun i j m=>κ i j m) (fun _ _=>e) o
def V9 (o:Ot) (κ:IntKind->Nat->R) (e:R):R :=
 @Ot.rec (fun _=>R) e (fun _=>e) (fun _=>e) e (fun _ _ _=>e) (fun _ _=>e) e (fun _ _=>e) (fun _ _ _ _=>e) (fun _ _ _ _=>e) (fun _ _ _=>e) (fun k i=>κ k i) o
theorem P4 (o:Ot) (κ:IntKind->Nat->R) (e:R):(∃ k i,o = .sy k i∧V9 o κ e=κ k i)∨V9 o κ e=e:=by
 cases o with
 | sy k i=>exact .inl ⟨k,i,rfl,rfl⟩
 | _=>exact .inr rfl
def DR {α:Type} (o:Option α):Bool:=@Option.rec α (fun _=>Bool) false (fun _=>true) o
theorem Cf {v:V} {κ:IntKind->Nat->R} (h:(FZ v κ).good):∃ k r,v = .int k r∧FZ v κ=κ k r:=by
 cases v with
 | int k r=>exact ⟨k,r,rfl,rfl⟩
 | _=>exact h.elim
theorem Ey {v:V} {κ:Bool->R} (h:(OF v κ).good):∃ b,v = .bool b∧OF v κ=κ b:=by
 cases v with
 | bool b=>exact ⟨b,rfl,rfl⟩
 | _=>exact h.elim
theorem CL {v:V} {κ:K4->Nat->R} (h:(Iw v κ).good):∃ p off,v = .ptr p off∧Iw v κ=κ p off:=by
 cases v with
 | ptr p off=>exact ⟨p,off,rfl,rfl⟩
 | _=>exact h.elim
theorem Cy {v:V} {κn:R} {κ:K4->Nat->Nat->Nat->Bool->Nat->R} (h:(CO v κn κ).good) :
  (v = .nil .sl∧CO v κn κ=κn) ∨ ∃ p off len cap ex esz,v = .sl p off len cap ex esz∧CO v κn κ=κ p off len cap ex esz:=by
 cases v with
 | sl p off len cap ex esz=>exact .inr ⟨p,off,len,cap,ex,esz,rfl,rfl⟩
 | nil w=>cases w with
  | sl=>exact .inl ⟨rfl,rfl⟩
  | _=>exact h.elim
 | _=>exact h.elim
theorem BR {v:V} {κ:Nat->Nat->R} (h:(Bf v κ).good):∃ n c,v = .str n c∧Bf v κ=κ n c:=by
 cases v with
 | str n c=>exact ⟨n,c,rfl,rfl⟩
 | _=>exact h.elim
theorem Cq {v:V} {κ:List V->R} (h:(asAgg v κ).good):∃ l,v = .agg l∧asAgg v κ=κ l:=by
 cases v with
 | agg l=>exact ⟨l,rfl,rfl⟩
 | _=>exact h.elim
theorem KW {v:V} {κ:List V->R} (h:(KL v κ).good):∃ l,v = .tup l∧KL v κ=κ l:=by
 cases v with
 | tup l=>exact ⟨l,rfl,rfl⟩
 | _=>exact h.elim
theorem Df {v:V} {κn:R} {κ:K4->R} (h:(Du v κn κ).good) :
  (v = .nil .map∧Du v κn κ=κn) ∨ ∃ p,v = .map p∧Du v κn κ=κ p:=by
 cases v with
 | map p=>exact .inr ⟨p,rfl,rfl⟩
 | nil w=>cases w with
  | map=>exact .inl ⟨rfl,rfl⟩
  | _=>exact h.elim
 | _=>exact h.elim
theorem Mm {v:V} {κ:Nat->List V->R} (h:(Po v κ).good):∃ f caps,v = .fn f caps∧Po v κ=κ f caps:=by
 cases v with
 | fn f caps=>exact ⟨f,caps,rfl,rfl⟩
 | _=>exact h.elim
def V.cl:V->List V
 | .agg l=>l
 | v=>[v]
def V.celled:V->Prop
 | .tup _=>False
 | .oth .any=>False
 | .oth (.yl _)=>False
 | .oth .no=>False
 | _=>True
theorem EX {v:V} {κ:List V->R} (h:(DH v κ).good):v.celled∧DH v κ=κ v.cl:=by
 cases v with
 | tup l=>exact h.elim
 | oth o=>cases o with
  | any=>exact h.elim
  | yl p=>exact h.elim
  | no=>exact h.elim
  | _=>exact ⟨trivial,rfl⟩
 | _=>exact ⟨trivial,rfl⟩
def Cs.at (cs:Cs) (i:Nat):Option V :=
 match cs with
 | .l xs=>xs[i]?
 | .b n c=>if i<n then some (.int .u8 (c / 256 ^ i % 256)) else none
def Cs.len:Cs->Nat
 | .l xs=>xs.length
 | .b n _=>n
theorem Cs.at_lt {cs:Cs} {i:Nat} (h:i<cs.len):∃ v,cs.at i=some v:=by
 cases cs with
 | l xs=>exact ⟨xs[i],by simp [Cs.at,List.getElem?_eq_getElem h]⟩
 | b n c=>exact ⟨_,if_pos h⟩
theorem Cs.at_none {cs:Cs} {i:Nat} (h:cs.len≤i):cs.at i=none:=by
 cases cs with
 | l xs=>simp only [Cs.at]; exact List.getElem?_eq_none h
 | b n c=>exact if_neg (Nat.not_lt.2 h)
theorem Cs.lt_of_at {cs:Cs} {i:Nat} {v:V} (h:cs.at i=some v):i<cs.len:=by
 rcases Nat.lt_or_ge i cs.len with h' | h'
 ·exact h'
 ·rw [Cs.at_none h'] at h; exact absurd h (by simp)
def Fy (cs:Cs) (i:Nat) (κ:V->R):R :=
 @Cs.rec (fun _=>R) (fun xs=>E2 i xs κ) (fun n c=>br (Nat.ble (Nat.succ i) n) (Ah (lo (sh c i) 1) fun r=>κ (.int .u8 r)) (.fail "")) cs
theorem UT (c i:Nat):lo (sh c i) 1=c / 256 ^ i % 256:=by rw [Dw,ED]
theorem GD {cs:Cs} {i:Nat} {κ:V->R} (h:(Fy cs i κ).good):∃ v,cs.at i=some v∧Fy cs i κ=κ v:=by
 cases cs with
 | l xs=>exact Ek h
 | b n c =>
  obtain ⟨h1,h2⟩:=Ak (show R.good (br (Nat.ble (Nat.succ i) n) _ (.fail _)) from h)
  refine ⟨.int .u8 (c / 256 ^ i % 256),?_,?_⟩
  ·exact if_pos (show i<n from Am.1 h1)
  ·show br (Nat.ble (Nat.succ i) n) _ _=_
   rw [h2,Af,UT]
theorem Gp (d i m:Nat) (hi:i<m):d % 256 ^ m / 256 ^ i % 256=d / 256 ^ i % 256:=by
 have hm:256 ^ m=256 ^ i*(256*256 ^ (m - i - 1)):=by
  rw [←Nat.pow_succ',←Nat.pow_add]; congr 1; omega
 rw [hm,Nat.mod_mul_right_div_self,Nat.mod_mul_right_mod]
def BQ (cs:Cs) (off m:Nat) (κ:Cs->R):R :=
 @Cs.rec (fun _=>R) (fun xs=>DZ off xs fun ys=>Dh m ys fun zs=>κ (.l zs))
  (fun n c=>br (Nat.ble (Nat.add off m) n) (Ah (lo (sh c off) m) fun r=>κ (.b m r)) (.fail "")) cs
theorem Cm {cs:Cs} {off m:Nat} {κ:Cs->R} (h:(BQ cs off m κ).good) :
  off+m≤cs.len ∧ ∃ y:Cs,y.len=m∧(∀ i,i<m->y.at i=cs.at (off+i))∧BQ cs off m κ=κ y:=by
 cases cs with
 | l xs =>
  obtain ⟨h1,e1⟩:=Ew (h:(DZ off xs _).good)
  have h':(Dh m (xs.drop off) fun zs=>κ (.l zs)).good:=by rw [←e1]; exact h
  obtain ⟨h2,e2⟩:=EE h'
  simp only [List.length_drop] at h2
  refine ⟨by simp only [Cs.len]; omega,.l ((xs.drop off).take m),by simp [Cs.len]; omega,fun i hi=>?_,e1.trans e2⟩
  simp [Cs.at,hi]
 | b n c =>
  obtain ⟨h1,h2⟩:=Ak (show R.good (br (Nat.ble (Nat.add off m) n) _ (.fail _)) from h)
  have h1:off+m≤n:=Am.1 h1
  refine ⟨h1,.b m (c / 256 ^ off % 256 ^ m),rfl,fun i hi=>?_,?_⟩
  ·simp only [Cs.at]
   rw [if_pos hi,if_pos (by omega)]
   congr 2
   rw [Nat.pow_add,←Nat.div_div_eq_div_mul]
   generalize c / 256 ^ off=d
   exact (Gp d i m hi)
  ·show br (Nat.ble (Nat.add off m) n) _ _=_
   rw [h2,Af,Dw,ED]
end Go.Ev

namespace Go.Ev
set_option linter.unusedVariables false
theorem Cs.b_pos {n c i:Nat} (h:i<n):(Cs.b n c).at i=some (.int .u8 (c / 256 ^ i % 256)):=if_pos h
theorem Cs.b_neg {n c i:Nat} (h:¬ i<n):(Cs.b n c).at i=none:=if_neg h
def Mp (v:V) (κ:Nat->R) (e:R):R :=
 @V.rec (fun _=>R) (fun _=>Unit) (fun k r=>br (Bk k .u8) (br (Nat.ble r 255) (κ r) e) e) (fun _=>e) (fun _ _=>e) (fun _ _ _ _ _ _=>e) (fun _ _=>e) (fun _ _=>e) (fun _=>e) (fun _=>e) (fun _ _ _=>e) (fun _ _=>e) (fun _=>e) () (fun _ _ _ _=>()) v
theorem Sj (v:V) (κ:Nat->R) (e:R):Mp v κ e=e ∨ ∃ r,v = .int .u8 r∧r<256∧Mp v κ e=κ r:=by
 cases v with
 | int k r =>
  by_cases hk:Bk k .u8=true
  ·have:=Bd.1 hk
   subst this
   by_cases hr:Nat.ble r 255=true
   ·refine .inr ⟨r,rfl,by have:=Am.1 hr; omega,?_⟩
    show br (Bk .u8 .u8) (br (Nat.ble r 255) (κ r) e) e=_
    rw [hk,hr]; rfl
   ·refine .inl ?_
    show br (Bk .u8 .u8) (br (Nat.ble r 255) (κ r) e) e=_
    rw [hk,Bool.eq_false_iff.2 hr]; rfl
  ·refine .inl ?_
   show br (Bk k .u8) (br (Nat.ble r 255) (κ r) e) e=_
   rw [Bool.eq_false_iff.2 hk]; rfl
 | _=>exact .inl rfl
def CJ (xs:List V):(Nat->Nat->R)->R->R :=
 @List.rec V (fun _=>(Nat->Nat->R)->R->R) (fun κ _=>κ 0 0)
  (fun x _ ih κ e=>Mp x (fun r=>ih (fun n c=>Ah (Nat.succ n) fun n=>Ah (Nat.add r (Nat.mul 256 c)) fun c=>κ n c) e) e) xs
theorem JA (xs:List V):∀ (κ:Nat->Nat->R) (e:R),CJ xs κ e=e ∨ ∃ n c,CJ xs κ e=κ n c∧(Cs.b n c).len=xs.length∧(∀ i,(Cs.b n c).at i=xs[i]?)∧c<256 ^ n:=by
 induction xs with
 | nil=>exact fun κ e=>.inr ⟨0,0,rfl,rfl,fun i=>by simp [Cs.at],by simp⟩
 | cons x xs ih =>
  intro κ e
  rcases Sj x (fun r=>CJ xs (fun n c=>Ah (Nat.succ n) fun n=>Ah (Nat.add r (Nat.mul 256 c)) fun c=>κ n c) e) e with h | ⟨r,rfl,hr,h⟩
  ·exact .inl h
  ·rcases ih (fun n c=>Ah (Nat.succ n) fun n=>Ah (Nat.add r (Nat.mul 256 c)) fun c=>κ n c) e with h' | ⟨n,c,h',hl,hc,hlt⟩
   ·exact .inl (h.trans h')
   ·refine .inr ⟨n+1,r+256*c,?_,?_,fun i=>?_,by rw [Nat.pow_succ]; omega⟩
    ·refine (h.trans h').trans ?_
     rw [Af,Af]; rfl
    ·simp only [Cs.len] at hl ⊢; simp [hl]
    ·cases i with
     | zero =>
      simp only [Cs.at,List.getElem?_cons_zero]
      rw [if_pos (by omega)]
      congr 2
      simp; omega
     | succ i =>
      rw [List.getElem?_cons_succ,←hc i]
      simp only [Cs.at]
      by_cases hi:i<n
      ·rw [if_pos (by omega),if_pos hi]
       congr 2
       rw [Nat.pow_succ,Nat.mul_comm (256 ^ i) 256,←Nat.div_div_eq_div_mul]
       congr 2
       omega
      ·rw [if_neg (by omega),if_neg hi]
def Eb (n:Nat):Nat->(List V->R)->R :=
 @Nat.rec (fun _=>Nat->(List V->R)->R) (fun _ κ=>κ [])
  (fun _ ih c κ=>Ah (lo c 1) fun r=>Ah (sh c 1) fun d=>ih d fun zs=>κ (.int .u8 r::zs)) n
theorem JM (n:Nat):∀ (c:Nat) (κ:List V->R),∃ zs,Eb n c κ=κ zs∧zs.length=n ∧ ∀ i,zs[i]? = (Cs.b n c).at i:=by
 induction n with
 | zero=>exact fun c κ=>⟨[],rfl,rfl,fun i=>by simp [Cs.at]⟩
 | succ n ih =>
  intro c κ
  obtain ⟨zs,h1,h2,h3⟩:=ih (sh c 1) (fun zs=>κ (.int .u8 (lo c 1)::zs))
  refine ⟨.int .u8 (lo c 1)::zs,?_,by simp [h2],fun i=>?_⟩
  ·refine Eq.trans ?_ h1
   exact (Af (lo c 1) (fun r=>Ah (sh c 1) fun d=>Eb n d fun zs=>κ (.int .u8 r::zs))).trans (Af (sh c 1) _)
  ·cases i with
   | zero=>simp [Cs.at,Dw]
   | succ i =>
    rw [List.getElem?_cons_succ,h3]
    simp only [Cs.at,ED]
    by_cases hi:i<n
    ·rw [if_pos hi,if_pos (show i+1<n+1 by omega),Nat.div_div_eq_div_mul,←Nat.pow_add,Nat.add_comm 1 i]
    ·rw [if_neg hi,if_neg (show ¬ i+1<n+1 by omega)]
def E6 (cs:Cs) (κ:List V->R):R:=@Cs.rec (fun _=>R) (fun xs=>κ xs) (fun n c=>Eb n c κ) cs
theorem Fq (cs:Cs) (κ:List V->R):∃ zs,E6 cs κ=κ zs∧zs.length=cs.len ∧ ∀ i,zs[i]? = cs.at i:=by
 cases cs with
 | l xs=>exact ⟨xs,rfl,rfl,fun _=>rfl⟩
 | b n c=>exact JM n c κ
def Vh (cs:Cs) (κ:Nat->R):R:=@Cs.rec (fun _=>R) (fun xs=>Gh xs κ) (fun n _=>κ n) cs
theorem Uw (cs:Cs) (κ:Nat->R):Vh cs κ=κ cs.len:=by
 cases cs with
 | l xs=>exact Da xs κ
 | b n c=>rfl
def NI (n c off m d:Nat) (κ:Cs->R):R :=
 br (Nat.ble (Nat.add off m) n) (Ah (Nat.add (lo c off) (up (Nat.add (lo d m) (up (sh c (Nat.add off m)) m)) off)) fun r=>κ (.b n r)) (.fail "")
def OC (cs:Cs) (off:Nat) (y:Cs) (κ:Cs->R):R :=
 @Cs.rec (fun _=>R)
  (fun xs=>E6 y fun ys=>Dh off xs fun a=>Gh ys fun m=>Ah (Nat.add off m) fun j=>DZ j xs fun b=>EM ys b fun t=>EM a t fun zs=>κ (.l zs))
  (fun n c=>@Cs.rec (fun _=>R) (fun ys=>CJ ys (fun m d=>NI n c off m d κ) (.fail "")) (fun m d=>NI n c off m d κ) y) cs
def PT (cs:Cs) (off:Nat) (y z:Cs):Prop :=
 off+y.len≤cs.len∧z.len=cs.len∧(∀ i,i<off->z.at i=cs.at i)∧(∀ i,i<y.len->z.at (off+i)=y.at i)∧(∀ i,off+y.len≤i->z.at i=cs.at i)
theorem Kt (a b j i:Nat) (hi:i<j):(a % 256 ^ j+256 ^ j*b) / 256 ^ i % 256=a / 256 ^ i % 256:=by
 have h:(a % 256 ^ j+256 ^ j*b) % 256 ^ j=a % 256 ^ j:=by rw [Nat.add_mul_mod_self_left,Nat.mod_mod]
 rw [←Gp _ i j hi,h,Gp _ i j hi]
theorem GG (a b j i:Nat):(a % 256 ^ j+256 ^ j*b) / 256 ^ (j+i) % 256=b / 256 ^ i % 256:=by
 have hp:0<256 ^ j:=Nat.pow_pos (by omega)
 rw [Nat.pow_add,←Nat.div_div_eq_div_mul,Nat.add_mul_div_left _ _ hp,Nat.div_eq_of_lt (Nat.mod_lt _ hp),Nat.zero_add]
theorem MG {n c off m d:Nat} {κ:Cs->R} (h:(NI n c off m d κ).good):∃ z,PT (.b n c) off (.b m d) z∧NI n c off m d κ=κ z:=by
 obtain ⟨h1,h2⟩:=Ak (show R.good (br (Nat.ble (Nat.add off m) n) _ (.fail _)) from h)
 have h1:off+m≤n:=Am.1 h1
 refine ⟨.b n (c % 256 ^ off+256 ^ off*(d % 256 ^ m+256 ^ m*(c / 256 ^ (off+m)))),⟨h1,rfl,fun i hi=>?_,fun i hi=>?_,fun i hi=>?_⟩,?_⟩
 ·simp only [Cs.at]
  rw [Kt _ _ _ _ hi]
 ·simp only [Cs.len] at hi
  simp only [Cs.at]
  rw [if_pos (by omega),if_pos hi,GG,Kt _ _ _ _ hi]
 ·simp only [Cs.len] at hi
  simp only [Cs.at]
  obtain ⟨e,rfl⟩:∃ e,i=off+(m+e):=⟨i - off - m,by omega⟩
  rw [GG,GG,Nat.div_div_eq_div_mul,←Nat.pow_add,Nat.add_assoc]
 ·show br (Nat.ble (Nat.add off m) n) _ _=_
  rw [h2,Af]
  simp only [Dw,Sr,ED]
  rfl
theorem QQ {cs:Cs} {off:Nat} {y:Cs} {κ:Cs->R} (h:(OC cs off y κ).good):∃ z,PT cs off y z∧OC cs off y κ=κ z:=by
 cases cs with
 | l xs =>
  obtain ⟨ys,e0,hyl,hya⟩:=Fq y (fun ys=>Dh off xs fun a=>Gh ys fun m=>Ah (Nat.add off m) fun j=>DZ j xs fun b=>EM ys b fun t=>EM a t fun zs=>κ (.l zs))
  have e0:OC (.l xs) off y κ=_:=e0
  rw [e0] at h
  obtain ⟨h1,e1⟩:=EE h
  rw [e1,Da,Af] at h
  obtain ⟨h2,e2⟩:=Ew h
  simp only [Nat.add_eq] at h2
  have hlen:ys.length=y.len:=hyl
  refine ⟨.l (xs.take off++(ys++xs.drop (off+ys.length))),⟨?_,?_,fun i hi=>?_,fun i hi=>?_,fun i hi=>?_⟩,?_⟩
  ·show off+y.len≤xs.length
   omega
  ·show (xs.take off++(ys++xs.drop (off+ys.length))).length=xs.length
   simp only [List.length_append,List.length_take,List.length_drop]; omega
  ·simp only [Cs.at]
   rw [List.getElem?_append_left (by rw [List.length_take]; omega),List.getElem?_take,if_pos hi]
  ·simp only [Cs.at]
   rw [List.getElem?_append_right (by rw [List.length_take]; omega),List.length_take,Nat.min_eq_left h1,Nat.add_sub_cancel_left,
    List.getElem?_append_left (by omega)]
   exact hya i
  ·simp only [Cs.at]
   rw [List.getElem?_append_right (by rw [List.length_take]; omega),List.length_take,Nat.min_eq_left h1,
    List.getElem?_append_right (by omega),List.getElem?_drop]
   congr 1; omega
  ·rw [e0,e1,Da,Af,e2,Ed,Ed]; rfl
 | b n c =>
  cases y with
  | l ys =>
   rcases JA ys (fun m d=>NI n c off m d κ) (.fail "") with e | ⟨m,d,e,hl,ha,_⟩
   ·have e:OC (.b n c) off (.l ys) κ=_:=e
    rw [e] at h; exact h.elim
   ·have e:OC (.b n c) off (.l ys) κ=_:=e
    rw [e] at h
    obtain ⟨z,⟨g1,g2,g3,g4,g5⟩,e'⟩:=MG h
    refine ⟨z,⟨?_,g2,g3,fun i hi=>?_,fun i hi=>g5 i ?_⟩,e.trans e'⟩
    ·rw [hl] at g1; exact g1
    ·rw [g4 i (by rw [hl]; exact hi)]; exact ha i
    ·rw [hl]; exact hi
  | b m d=>exact MG h
def Tn (n c m d:Nat) (κ:Cs->R):R :=
 Ah (Nat.add n m) fun l=>Ah (Nat.add (lo c n) (up d n)) fun r=>κ (.b l r)
def VQ (x y:Cs) (κ:Cs->R):R :=
 @Cs.rec (fun _=>R) (fun xs=>E6 y fun ys=>EM xs ys fun zs=>κ (.l zs))
  (fun n c=>@Cs.rec (fun _=>R) (fun ys=>CJ ys (fun m d=>Tn n c m d κ) (Eb n c fun xs=>EM xs ys fun zs=>κ (.l zs))) (fun m d=>Tn n c m d κ) y) x
def Qg (x y z:Cs):Prop:=z.len=x.len+y.len∧(∀ i,i<x.len->z.at i=x.at i)∧(∀ i,z.at (x.len+i)=y.at i)
theorem X2 (xs ys:List V) (x y:Cs) (hx:xs.length=x.len) (hxa:∀ i,xs[i]? = x.at i) (hy:ys.length=y.len) (hya:∀ i,ys[i]? = y.at i):Qg x y (.l (xs++ys)):=by
 refine ⟨by simp [Cs.len,hx,hy],fun i hi=>?_,fun i=>?_⟩
 ·simp only [Cs.at]; rw [List.getElem?_append_left (by omega)]; exact hxa i
 ·simp only [Cs.at]; rw [List.getElem?_append_right (by omega),hx,Nat.add_sub_cancel_left]; exact hya i
theorem Qz (n c m d:Nat) (κ:Cs->R):∃ z,Qg (.b n c) (.b m d) z∧Tn n c m d κ=κ z:=by
 refine ⟨.b (n+m) (c % 256 ^ n+256 ^ n*d),⟨rfl,fun i hi=>?_,fun i=>?_⟩,?_⟩
 ·simp only [Cs.len] at hi
  simp only [Cs.at]
  rw [if_pos (by omega),if_pos hi,Kt _ _ _ _ hi]
 ·show (Cs.b (n+m) _).at (n+i)=(Cs.b m d).at i
  by_cases hi:i<m
  ·rw [Cs.b_pos (by omega),Cs.b_pos hi,GG]
  ·rw [Cs.b_neg (by omega),Cs.b_neg hi]
 ·simp only [Tn,Af,Dw,Sr]; rfl
theorem U5 (x y:Cs) (κ:Cs->R):∃ z,Qg x y z∧VQ x y κ=κ z:=by
 cases x with
 | l xs =>
  obtain ⟨ys,e0,hyl,hya⟩:=Fq y (fun ys=>EM xs ys fun zs=>κ (.l zs))
  exact ⟨_,X2 xs ys (.l xs) y rfl (fun _=>rfl) hyl hya,e0.trans (Ed _ _ _)⟩
 | b n c =>
  cases y with
  | l ys =>
   rcases JA ys (fun m d=>Tn n c m d κ) (Eb n c fun xs=>EM xs ys fun zs=>κ (.l zs)) with e | ⟨m,d,e,hl,ha,_⟩
   ·obtain ⟨xs,e1,h2,h3⟩:=JM n c (fun xs=>EM xs ys fun zs=>κ (.l zs))
    exact ⟨_,X2 xs ys (.b n c) (.l ys) h2 h3 rfl (fun _=>rfl),(e.trans e1).trans (Ed _ _ _)⟩
   ·obtain ⟨z,⟨g1,g2,g3⟩,e'⟩:=Qz n c m d κ
    refine ⟨z,⟨by rw [g1,hl]; rfl,g2,fun i=>(g3 i).trans (ha i)⟩,e.trans e'⟩
  | b m d=>exact Qz n c m d κ
def WP (m:Nat):List V->(List V->R)->R :=
 @Nat.rec (fun _=>List V->(List V->R)->R) (fun _ κ=>κ []) (fun _ ih z κ=>ih z fun zs=>EM z zs κ) m
theorem TK (m:Nat) (z:List V) (κ:List V->R):∃ zs,WP m z κ=κ zs∧zs.length=m*z.length ∧ ∀ i,i<m*z.length->zs[i]? = z[i % z.length]?:=by
 induction m generalizing κ with
 | zero=>exact ⟨[],rfl,by simp,fun i hi=>by simp at hi⟩
 | succ m ih =>
  obtain ⟨zs,h1,h2,h3⟩:=ih (fun zs=>EM z zs κ)
  refine ⟨z++zs,h1.trans (Ed _ _ _),by rw [List.length_append,h2,Nat.succ_mul]; omega,fun i hi=>?_⟩
  by_cases hz:i<z.length
  ·rw [List.getElem?_append_left hz,Nat.mod_eq_of_lt hz]
  ·rw [List.getElem?_append_right (by omega),h3 _ (by rw [Nat.succ_mul] at hi; omega)]
   congr 1
   rw [←Nat.mod_eq_sub_mod (by omega)]
def Es (u8:Bool) (z:List V) (m:Nat) (κ:Cs->R):R :=
 br u8 (κ (.b m 0)) (WP m z fun zs=>κ (.l zs))
theorem GN (u8:Bool) (z:List V) (m:Nat) (κ:Cs->R) (hu:u8=true->z=[.int .u8 0]) :
  ∃ y:Cs,Es u8 z m κ=κ y∧y.len=m*z.length ∧ ∀ i,i<m*z.length->y.at i=z[i % z.length]?:=by
 cases u8 with
 | true =>
  rw [hu rfl]
  refine ⟨.b m 0,rfl,by simp [Cs.len],fun i hi=>?_⟩
  simp only [Cs.at]
  rw [if_pos (by simpa using hi)]
  simp [Nat.mod_one]
 | false =>
  obtain ⟨zs,h1,h2,h3⟩:=TK m z (fun zs=>κ (.l zs))
  exact ⟨.l zs,h1,h2,h3⟩
end Go.Ev

namespace Go.Ev
set_option linter.unusedVariables false
inductive Opd where
 | t (p:K2)
 | c (v:V)
inductive Sc where
 | i
 | s
 | b
inductive Plan where
 | sc (k:Sc)
 | st (fs:List (Nat×Sc))
 | ks (l:List Sc)
 | rf (w:Nl)
structure Part where
 off:Nat
 size:Nat
 x:Opd
def CP (o:Opd) (t:Regs) (κ:V->R):R:=@Opd.rec (fun _=>R) (fun p=>GX p t κ) (fun v=>κ v) o
def ev (o:Opd) (t:Regs):V:=match o with | .t p=>Bc p t | .c v=>v
theorem AO (o:Opd) (t:Regs) (κ:V->R):CP o t κ=κ (ev o t):=by
 cases o with
 | t p=>exact Cw p t κ
 | c v=>rfl
def NY (l:List Opd) (t:Regs):(List V->R)->R :=
 @List.rec Opd (fun _=>(List V->R)->R) (fun κ=>κ []) (fun o _ ih κ=>CP o t fun v=>ih fun vs=>κ (v::vs)) l
theorem EW (l:List Opd) (t:Regs) (κ:List V->R):NY l t κ=κ (l.map (ev · t)):=by
 induction l generalizing κ with
 | nil=>rfl
 | cons o l ih =>
  show CP o t _=_
  rw [AO]
  exact ih _
inductive AK where
 | mv (x:Opd)
 | pick (c a b:Opd)
 | alc (cs:Cs)
 | box (x:Opd)
 | build (zero:List V) (parts:List Part)
 | bslice (u8:Bool) (len esz:Nat) (zero:List V) (parts:List Part)
 | ld (x:Opd)
 | ldn (m:Nat) (x:Opd)
 | st (m:Nat) (a x:Opd)
 | nilck (x:Opd)
 | bin (op:BinOp) (x y:Opd)
 | eq (neg:Bool) (pl:Plan) (x y:Opd)
 | not (x:Opd)
 | neg (x:Opd)
 | com (x:Opd)
 | cvi (k:IntKind) (x:Opd)
 | b2s (x:Opd)
 | s2b (x:Opd)
 | idn (x:Opd)
 | bsl (x:Opd)
 | mkfn (f:Nat) (caps:List Opd)
 | mkmap 
 | mksl (eb:Nat) (u8:Bool) (zero:List V) (l c:Opd)
 | slS (x:Opd) (lo hi:Option Opd)
 | slL (esz:Nat) (x:Opd) (lo hi:Option Opd)
 | slA (m esz:Nat) (x:Opd) (lo hi:Option Opd)
 | fad (off:Nat) (x:Opd)
 | fld (off size:Nat) (ag:Bool) (x:Opd)
 | ixS (esz:Nat) (x i:Opd)
 | ixA (m esz:Nat) (x i:Opd)
 | idS (x i:Opd)
 | idA (m esz:Nat) (ag:Bool) (x i:Opd)
 | lk (pl:Plan) (zero:V) (ok:Bool) (m k:Opd)
 | mu (pl:Plan) (m k v:Opd)
 | del (pl:Plan) (m k:Opd)
 | ext (i:Nat) (x:Opd)
 | call (f:Nat) (args:List Opd)
 | calld (x:Opd) (args:List Opd)
 | lnS (x:Opd)
 | lnL (x:Opd)
 | lnM (x:Opd)
 | min (x y:Opd)
 | max (x y:Opd)
 | app (esz eb:Nat) (x y:Opd)
 | appz (esz eb:Nat) (u8:Bool) (zero:List V) (x c:Opd)
 | cpy (esz:Nat) (x y:Opd)
 | max3 (x y z:Opd)
 | cpL (x:Opd)
 | clr (u8:Bool) (zero:List V) (x:Opd)
 | bad (why:String)
def TB (k:IntKind) (a:Nat) (j:IntKind) (b:Nat) (κ:V->R):R:=br (Bk k j) (Ah (Nat.mod (Nat.add a b) (Mk k)) fun r=>κ (.int k r)) (.fail "")
def Nb (k:IntKind) (a:Nat) (j:IntKind) (b:Nat) (κ:V->R):R:=br (Bk k j) (Ah (Nat.mod (Nat.add a (Nat.sub (Mk k) b)) (Mk k)) fun r=>κ (.int k r)) (.fail "")
def Uc (k:IntKind) (a:Nat) (j:IntKind) (b:Nat) (κ:V->R):R:=br (Bk k j) (Ah (Nat.mod (Nat.mul a b) (Mk k)) fun r=>κ (.int k r)) (.fail "")
def OD (k:IntKind) (a:Nat) (j:IntKind) (b:Nat) (κ:R):R :=
 br (Bk k j) (br (Nat.ble (Nat.succ a) (Hk k)) (br (Nat.ble (Nat.succ b) (Hk k)) κ (.fail "")) (.fail "")) (.fail "")
def R2 (k:IntKind) (a:Nat) (j:IntKind) (b:Nat) (κ:V->R):R:=OD k a j b (br (Nat.ble 1 b) (Ah (Nat.div a b) fun r=>κ (.int k r)) (.fail ""))
def RE (k:IntKind) (a:Nat) (j:IntKind) (b:Nat) (κ:V->R):R:=OD k a j b (br (Nat.ble 1 b) (Ah (Nat.mod a b) fun r=>κ (.int k r)) (.fail ""))
def Sd (k:IntKind) (a:Nat) (j:IntKind) (b:Nat) (κ:V->R):R:=br (Bk k j) (Ah (Nat.land a b) fun r=>κ (.int k r)) (.fail "")
def Xf (k:IntKind) (a:Nat) (j:IntKind) (b:Nat) (κ:V->R):R:=br (Bk k j) (Ah (Nat.lor a b) fun r=>κ (.int k r)) (.fail "")
def Tq (k:IntKind) (a:Nat) (j:IntKind) (b:Nat) (κ:V->R):R:=br (Bk k j) (Ah (Nat.xor a b) fun r=>κ (.int k r)) (.fail "")
def Ny (k:IntKind) (a:Nat) (j:IntKind) (b:Nat) (κ:V->R):R:=br (Bk k j) (Ah (Nat.land a (Nat.sub (Nat.sub (Mk k) 1) b)) fun r=>κ (.int k r)) (.fail "")
def SX (k:IntKind) (a:Nat) (j:IntKind) (b:Nat) (κ:V->R):R :=
 br (Nat.ble (Nat.succ b) (Hk j)) (br (Nat.ble b 64) (Ah (Nat.mod (Nat.shiftLeft a b) (Mk k)) fun r=>κ (.int k r)) (κ (.int k 0))) (.fail "")
def QP (k:IntKind) (a:Nat) (j:IntKind) (b:Nat) (κ:V->R):R :=
 br (Nat.ble (Nat.succ b) (Hk j)) (br (Nat.ble (Nat.succ a) (Hk k)) (br (Nat.ble b 64) (Ah (Nat.shiftRight a b) fun r=>κ (.int k r)) (κ (.int k 0))) (.fail "")) (.fail "")
def XR (k:IntKind) (a:Nat) (j:IntKind) (b:Nat) (κ:V->R):R:=br (Bk k j) (CE (Nat.beq a b) fun r=>κ (.bool r)) (.fail "")
def XW (k:IntKind) (a:Nat) (j:IntKind) (b:Nat) (κ:V->R):R:=br (Bk k j) (br (Nat.beq a b) (κ (.bool false)) (κ (.bool true))) (.fail "")
def Y0 (k:IntKind) (a:Nat) (j:IntKind) (b:Nat) (κ:V->R):R:=br (Bk k j) (CE (Ht k a b) fun r=>κ (.bool r)) (.fail "")
def XN (k:IntKind) (a:Nat) (j:IntKind) (b:Nat) (κ:V->R):R:=br (Bk k j) (CE (Ht k b a) fun r=>κ (.bool r)) (.fail "")
def XU (k:IntKind) (a:Nat) (j:IntKind) (b:Nat) (κ:V->R):R:=br (Bk k j) (br (Ht k b a) (κ (.bool false)) (κ (.bool true))) (.fail "")
def XX (k:IntKind) (a:Nat) (j:IntKind) (b:Nat) (κ:V->R):R:=br (Bk k j) (br (Ht k a b) (κ (.bool false)) (κ (.bool true))) (.fail "")
def Le (op:BinOp):IntKind->Nat->IntKind->Nat->(V->R)->R :=
 @BinOp.rec (fun _=>IntKind->Nat->IntKind->Nat->(V->R)->R) TB Nb Uc R2 RE Sd Xf Tq SX QP Ny XR XW Y0 XU XN XX op
def VA (n c m d:Nat) (κ:V->R):R :=
 Ah (Nat.add n m) fun l=>br (Nat.ble l 1000000000) (Ah (Nat.add c (up d n)) fun r=>κ (.str l r)) (.fail "")
def Jl (n c m d:Nat):Bool:=and (Nat.beq n m) (Nat.beq c d)
def OS (n:Nat):Nat->Nat->Nat->Bool :=
 @Nat.rec (fun _=>Nat->Nat->Nat->Bool) (fun _ m _=>Nat.ble 1 m)
  (fun _ ih c m d=>@Nat.rec (fun _=>Bool) false (fun m _=>br (Nat.beq (lo c 1) (lo d 1)) (ih (sh c 1) m (sh d 1)) (Nat.ble (Nat.succ (lo c 1)) (lo d 1))) m) n
def L9 (n c m d:Nat) (κ:V->R):R:=.fail ""
def Vb (n c m d:Nat) (κ:V->R):R:=CE (Jl n c m d) fun r=>κ (.bool r)
def Yn (n c m d:Nat) (κ:V->R):R:=br (Jl n c m d) (κ (.bool false)) (κ (.bool true))
def YC (n c m d:Nat) (κ:V->R):R:=CE (OS n c m d) fun r=>κ (.bool r)
def sgt (n c m d:Nat) (κ:V->R):R:=.fail ""
def sle (n c m d:Nat) (κ:V->R):R:=.fail ""
def Z3 (n c m d:Nat) (κ:V->R):R:=br (OS n c m d) (κ (.bool false)) (κ (.bool true))
def Jm (op:BinOp):Nat->Nat->Nat->Nat->(V->R)->R :=
 @BinOp.rec (fun _=>Nat->Nat->Nat->Nat->(V->R)->R) VA L9 L9 L9 L9 L9 L9 L9 L9 L9 L9 Vb Yn YC sle sgt Z3 op
def Im (v:V) (κ:IntKind->Nat->Nat->R):R :=
 @V.rec (fun _=>R) (fun _=>Unit) (fun k r=>κ k r r) (B4 "") (AR "") (Dm "") (AR "") (AR "") (B4 "") (B4 "") (BU "") (AR "") (fun o=>@Ot.rec (fun _=>R) (.fail "") (fun _=>(.fail "")) (fun _=>(.fail "")) (.fail "") (fun k lo hi=>κ k lo hi) (fun _ _=>(.fail "")) (.fail "") (fun m _=>br (Nat.ble 18446744073709551616 m) (br (Nat.ble (Nat.succ m) 36893488147419103232) (κ .i64 0 9223372036854775807) (.fail "")) (.fail "")) (fun _ _ _ _=>(.fail "")) (fun _ _ _ _=>(.fail "")) (fun _ _ _=>(.fail "")) (fun k _=>κ k 0 (Nat.sub (Mk k) 1)) o) () (fun _ _ _ _=>()) v
def Bt (H M r:Nat):Nat:=br (Nat.ble H r) (Nat.sub r H) (Nat.add r (Nat.sub M H))
def Er (H lo hi:Nat):Bool:=br (Nat.ble (Nat.succ hi) H) true (Nat.ble H lo)
def TP (a b c d:Nat) (κ:V->R):R:=br (Nat.ble (Nat.succ b) c) (κ (.bool true)) (br (Nat.ble d a) (κ (.bool false)) (κ (.oth .bl)))
def Uq (a b c d:Nat) (κ:V->R):R:=br (Nat.ble (Nat.succ b) c) (κ (.bool false)) (br (Nat.ble d a) (κ (.bool true)) (κ (.oth .bl)))
def LI (a b c d:Nat):Bool:=br (Nat.beq a b) (br (Nat.beq b c) (Nat.beq c d) false) false
def Vm (a b c d:Nat) (κ:V->R):R:=br (Nat.ble (Nat.succ b) c) (κ (.bool false)) (br (Nat.ble (Nat.succ d) a) (κ (.bool false)) (br (LI a b c d) (κ (.bool true)) (κ (.oth .bl))))
def Vs (a b c d:Nat) (κ:V->R):R:=br (Nat.ble (Nat.succ b) c) (κ (.bool true)) (br (Nat.ble (Nat.succ d) a) (κ (.bool true)) (br (LI a b c d) (κ (.bool false)) (κ (.oth .bl))))
def Gj (a b c d:Nat) (κ:V->R):R:=.fail ""
def Xk (op:BinOp):Nat->Nat->Nat->Nat->(V->R)->R :=
 @BinOp.rec (fun _=>Nat->Nat->Nat->Nat->(V->R)->R) Gj Gj Gj Gj Gj Gj Gj Gj Gj Gj Gj Vm Vs TP (fun a b c d κ=>Uq c d a b κ) (fun a b c d κ=>TP c d a b κ) Uq op
def GZ (op:BinOp) (κ:V->R):R :=
 @BinOp.rec (fun _=>R) (.fail "") (.fail "") (.fail "") (.fail "") (.fail "") (.fail "") (.fail "") (.fail "") (.fail "") (.fail "") (.fail "") (κ (.oth .bl)) (κ (.oth .bl)) (κ (.oth .bl)) (κ (.oth .bl)) (κ (.oth .bl)) (κ (.oth .bl)) op
def U9 (op:BinOp) (κ:V->R) (e:R):R:=@BinOp.rec (fun _=>R) e e e e e e e e e e e (κ (.bool false)) (κ (.bool true)) e e e e op
def Te (op:BinOp) (a b c d:Nat) (κ:V->R):R:=br (br (Nat.ble (Nat.succ b) c) true (Nat.ble (Nat.succ d) a)) (U9 op κ (GZ op κ)) (GZ op κ)
def G2 (op:BinOp) (x y:V) (κ:V->R):R :=
 Im x fun k a b=>Im y fun j c d=>br (Bk k j) (br (Er (Hk k) a b) (br (Er (Hk k) c d) (Xk op (Bt (Hk k) (Mk k) a) (Bt (Hk k) (Mk k) b) (Bt (Hk k) (Mk k) c) (Bt (Hk k) (Mk k) d) κ) (Te op a b c d κ)) (Te op a b c d κ)) (.fail "")
def Qf (x y:V) (κ:V->R):R :=
 Im x fun k a b=>Im y fun j c d=>br (Bk k j) (Ah (Nat.add a c) fun lo=>Ah (Nat.add b d) fun hi=>br (Nat.ble (Nat.succ hi) (Hk k)) (κ (.oth (.iv k lo hi))) (Ah (Nat.sub (Mk k) 1) fun m=>κ (.oth (.iv k 0 m)))) (.fail "")
def Qq (x y:V) (κ:V->R):R :=
 Im x fun k a b=>Im y fun j c d=>br (Bk k j) (br (Nat.ble d a) (br (Nat.ble (Nat.succ b) (Hk k)) (Ah (Nat.sub a d) fun lo=>Ah (Nat.sub b c) fun hi=>κ (.oth (.iv k lo hi))) (.fail "")) (.fail "")) (.fail "")
def Qh (x y:V) (κ:V->R):R :=
 Im x fun k a b=>FZ y fun j d=>br (Bk k .i64) (br (Bk j .i64) (br (Nat.ble 1 d) (br (Nat.ble (Nat.succ d) 9223372036854775808)
  (br (Nat.ble (Nat.succ b) 9223372036854775808) (Ah (Nat.sub d 1) fun e=>κ (.oth (.iv .i64 0 e))) (κ (.oth (.iv .i64 0 18446744073709551615)))) (.fail "")) (.fail "")) (.fail "")) (.fail "")
def Fe (op:BinOp) (x y:V) (κ:V->R):R :=
 @BinOp.rec (fun _=>R) (Qf x y κ) (Qq x y κ) (G2 op x y κ) (G2 op x y κ) (Qh x y κ) (G2 op x y κ) (G2 op x y κ) (G2 op x y κ) (G2 op x y κ) (G2 op x y κ) (G2 op x y κ) (G2 op x y κ) (G2 op x y κ) (G2 op x y κ) (G2 op x y κ) (G2 op x y κ) (G2 op x y κ) op
def VY (a b c d:Nat) (yes no:R):R:=br (Nat.ble (Nat.succ b) c) yes (br (Nat.ble d a) no (.fail ""))
def VZ (u v:V) (κ:V->R):R :=
 Im u fun k a b=>Im v fun j c d=>br (Bk k j) (br (Er (Hk k) a b) (br (Er (Hk k) c d) (VY (Bt (Hk k) (Mk k) a) (Bt (Hk k) (Mk k) b) (Bt (Hk k) (Mk k) c) (Bt (Hk k) (Mk k) d) (κ v) (κ u)) (.fail "")) (.fail "")) (.fail "")
def VW (u v:V) (κ:V->R):R :=
 Im u fun k a b=>Im v fun j c d=>br (Bk k j) (br (Er (Hk k) a b) (br (Er (Hk k) c d) (VY (Bt (Hk k) (Mk k) c) (Bt (Hk k) (Mk k) d) (Bt (Hk k) (Mk k) a) (Bt (Hk k) (Mk k) b) (κ v) (κ u)) (.fail "")) (.fail "")) (.fail "")
def UR (m j b:Nat) (κ:V->R):R:=br (Nat.beq m (Nat.add 73786976294838206464 b)) (Ah (Nat.mod j 18446744073709551616) fun d=>br (Nat.beq d (Nat.div j 18446744073709551616)) (br (Nat.ble 1 d) (Ah (Nat.sub 18446744073709551616 d) fun r=>κ (.int .i64 r)) (.fail "")) (.fail "")) (.fail "")
def Qb (op:BinOp) (x y:V) (κ:V->R) (e:R):R :=
 @BinOp.rec (fun _=>R) e e e e (ZU x (fun m j=>FZ y fun k b=>br (Bk k .i64) (br (Nat.ble 1 b) (br (Nat.ble (Nat.succ b) 9223372036854775808) (br (Nat.beq m (Nat.add 18446744073709551616 b)) (κ (.int .i64 j)) (br (Nat.beq m b) (br (Nat.beq j 0) (κ (.int .i64 0)) (κ (.oth (.iv .i64 1 18446744073709551615)))) (UR m j b κ))) (.fail "")) (.fail "")) (.fail "")) e) e e e e e e e e e e e e op
def WD (v:V) (κ:IntKind->Nat->R) (e:R):R :=
 @V.rec (fun _=>R) (fun _=>Unit) (fun _ _=>e) (fun _=>e) (fun _ _=>e) (fun _ _ _ _ _ _=>e) (fun _ _=>e) (fun _ _=>e) (fun _=>e) (fun _=>e) (fun _ _ _=>e) (fun _ _=>e) (fun o=>V9 o κ e) () (fun _ _ _ _=>()) v
def Kz (x y:V) (a e:R):R:=WD x (fun k i=>WD y (fun j i'=>br (Bk k j) (br (Nat.beq i i') a e) e) e) e
def Y2 (op:BinOp) (x y:V) (κ:V->R) (e:R):R:=@BinOp.rec (fun _=>R) e e e e e e e e e e e (Kz x y (κ (.bool true)) e) (Kz x y (κ (.bool false)) e) e e e e op
def Jt (op:BinOp) (x y:V) (κ:V->R):R:=Y2 op x y κ (Qb op x y κ (Fe op x y κ))
def PY (op:BinOp) (l0 l1 n c m d:Nat) (κ:V->R):R :=
 br (br (Nat.ble l0 m) (br (Nat.ble m l1) (br (Nat.beq m n) (Nat.beq d c) false) true) true)
  (@BinOp.rec (fun _=>R) (.fail "") (.fail "") (.fail "") (.fail "") (.fail "") (.fail "") (.fail "") (.fail "") (.fail "") (.fail "") (.fail "") (κ (.bool false)) (κ (.bool true)) (.fail "") (.fail "") (.fail "") (.fail "") op) (.fail "")
def Cj (op:BinOp) (x y:V) (κ:V->R):R:=Up x (fun l0 l1 n c=>Bf y fun m d=>PY op l0 l1 n c m d κ) (Jt op x y κ)
def MU (op:BinOp) (x y:V) (κ:V->R):R :=
 @V.rec (fun _=>R) (fun _=>Unit) (fun k r=>@V.rec (fun _=>R) (fun _=>Unit) (fun j b=>Le op k r j b κ) (B4 "") (AR "") (Dm "") (AR "") (AR "") (B4 "") (B4 "") (BU "") (AR "") (fun _=>Jt op x y κ) () (fun _ _ _ _=>()) y) (B4 "") (AR "") (Dm "") (fun n c=>Bf y fun m d=>Jm op n c m d κ) (AR "") (B4 "") (B4 "") (BU "") (AR "") (fun _=>Cj op x y κ) () (fun _ _ _ _=>()) x
def eqI (x y:V) (κ:Bool->R):R:=FZ x fun k a=>FZ y fun j b=>br (Bk k j) (CE (Nat.beq a b) κ) (.fail "")
def eqS (x y:V) (κ:Bool->R):R:=Bf x fun n c=>Bf y fun m d=>CE (Jl n c m d) κ
def eqB (x y:V) (κ:Bool->R):R:=OF x fun b=>OF y fun c=>br b (br c (κ true) (κ false)) (br c (κ false) (κ true))
def L5 (k:Sc):V->V->(Bool->R)->R:=@Sc.rec (fun _=>V->V->(Bool->R)->R) eqI eqS eqB k
def Nl.ix (w:Nl):Nat:=@Nl.rec (fun _=>Nat) 0 1 2 3 4 w
def FV (w:Nl) (v:V) (κn κo:R):R :=
 @V.rec (fun _=>R) (fun _=>Unit) (AR "") (B4 "") (fun p off=>br (Nat.beq w.ix 0) κo (.fail "")) (fun p off len cap ex esz=>br (Nat.beq w.ix 1) κo (.fail "")) (AR "") (AR "") (fun w'=>br (Nat.beq w'.ix w.ix) κn (.fail "")) (fun p=>br (Nat.beq w.ix 2) κo (.fail "")) (fun f caps _i=>br (Nat.beq w.ix 3) κo (.fail "")) (AR "") (B4 "") () (fun _ _ _ _=>()) v
def Jj (w:Nl) (x y:V) (κ:Bool->R):R :=
 FV w x (FV w y (κ true) (κ false)) (FV w y (κ false) (Iw x fun p o=>Iw y fun q o'=>br (K4.beq p q) (CE (Nat.beq o o') κ) (.fail "")))
def IM (fs:List (Nat×Sc)) (x y:List V) (κ:Bool->R):R :=
 @List.rec (Nat×Sc) (fun _=>R) (κ true) (fun f _ ih=>@Prod.rec Nat Sc (fun _=>R) (fun o k=>E2 o x fun u=>E2 o y fun v=>L5 k u v fun r=>br r ih (κ false)) f) fs
def Oe (ks:List Sc):List V->List V->(Bool->R)->R :=
 @List.rec Sc (fun _=>List V->List V->(Bool->R)->R)
  (fun a b κ=>@List.rec V (fun _=>R) (@List.rec V (fun _=>R) (κ true) (BU "") b) (BU "") a)
  (fun k _ ih a b κ=>@List.rec V (fun _=>R) (.fail "") (fun u a _=>@List.rec V (fun _=>R) (.fail "") (fun v b _=>L5 k u v fun r=>br r (ih a b κ) (κ false)) b) a) ks
def KX (pl:Plan) (x y:V) (κ:Bool->R):R :=
 @Plan.rec (fun _=>R) (fun k=>L5 k x y κ) (fun fs=>asAgg x fun a=>asAgg y fun b=>IM fs a b κ) (fun l=>asAgg x fun a=>asAgg y fun b=>Oe l a b κ) (fun w=>Jj w x y κ) pl
def Nu (ks:List Sc):List V->R->R :=
 @List.rec Sc (fun _=>List V->R->R) (fun a κ=>@List.rec V (fun _=>R) κ (BU "") a) (fun _ _ ih a κ=>@List.rec V (fun _=>R) (.fail "") (fun _ l _=>ih l κ) a) ks
def JU (pl:Plan) (v:V) (κ:R):R :=
 @Plan.rec (fun _=>R) (fun k=>@Sc.rec (fun _=>R) (FZ v fun _ _=>κ) (Bf v fun _ _=>κ) (OF v fun _=>κ) k) (B4 "") (fun l=>asAgg v fun a=>Nu l a κ) (B4 "") pl
def H3 (pl:Plan) (k:V) (es:List (V×V)) (κf:V->R) (κn:R):R :=
 @List.rec (V×V) (fun _=>R) κn (fun e _ ih=>@Prod.rec V V (fun _=>R) (fun a b=>KX pl k a fun r=>br r (κf b) ih) e) es
def Hm (pl:Plan) (k v:V) (es:List (V×V)):(List (V×V)->R)->R :=
 @List.rec (V×V) (fun _=>(List (V×V)->R)->R) (fun κ=>κ [(k,v)])
  (fun e tl ih κ=>@Prod.rec V V (fun _=>R) (fun a _=>KX pl k a fun r=>br r (κ ((k,v)::tl)) (ih fun l=>κ (e::l))) e) es
def KY (pl:Plan) (k:V) (es:List (V×V)):(List (V×V)->R)->R :=
 @List.rec (V×V) (fun _=>(List (V×V)->R)->R) (fun κ=>κ [])
  (fun e tl ih κ=>@Prod.rec V V (fun _=>R) (fun a _=>KX pl k a fun r=>br r (κ tl) (ih fun l=>κ (e::l))) e) es
def Hi (es:List (V×V)):List Nat->Bool :=
 @List.rec (V×V) (fun _=>List Nat->Bool) (fun bs=>@List.rec Nat (fun _=>Bool) true (fun _ _ _=>false) bs) (fun _ _ ih bs=>@List.rec Nat (fun _=>Bool) false (fun _ bs _=>ih bs) bs) es
def SK (bs:List Nat) (c:Nat):(List Nat->R)->R :=
 @List.rec Nat (fun _=>(List Nat->R)->R) (fun κ=>κ [c]) (fun b _ ih κ=>ih fun l=>κ (b::l)) bs
def Vj (es:List (V×V)) (bs:List Nat) (c:Nat) (κ:List Nat->Nat->R):R :=
 br (Hi es bs) (κ bs c) (SK bs c fun bs=>Ah (Nat.succ c) fun c=>κ bs c)
def Lf (pl:Plan) (k:V) (es:List (V×V)):List Nat->(List Nat->R)->R :=
 @List.rec (V×V) (fun _=>List Nat->(List Nat->R)->R) (fun bs κ=>κ bs)
  (fun e _ ih bs κ=>@List.rec Nat (fun _=>R) (.fail "") (fun b tl _=>@Prod.rec V V (fun _=>R) (fun a _=>KX pl k a fun r=>br r (κ tl) (ih tl fun l=>κ (b::l))) e) bs) es
def VB (es:List (V×V)):(Nat->R)->R :=
 @List.rec (V×V) (fun _=>(Nat->R)->R) (fun κ=>κ 0) (fun _ _ ih κ=>ih fun n=>Ah (Nat.succ n) κ) es
def IK (p:K4) (h:Heap) (κ:Cs->Bool->Option K4->R):R :=
 Qu p h fun o=>@Option.rec Ob (fun _=>R) (.fail "") (fun o=>@Ob.rec (fun _=>R) κ (BU "") (Fb "") (.fail "") (AR "") o) o
def OH (p:K4) (h:Heap) (κ:List (V×V)->List Nat->Nat->R):R :=
 Qu p h fun o=>@Option.rec Ob (fun _=>R) (.fail "") (fun o=>@Ob.rec (fun _=>R) (BU "") κ (Fb "") (.fail "") (AR "") o) o
def CW (h:Heap) (n:K4) (o:Ob) (κ:Heap->K4->R):R:=Fc n h (some o) fun h'=>n.nx fun n'=>κ h' n'
def Lz (prev:Option K4) (h:Heap) (κ:Heap->R):R:=@Option.rec K4 (fun _=>R) (κ h) (fun q=>Fc q h none κ) prev
def E4 (h:Heap) (p:K4) (off:Nat) (y:Cs) (κ:Heap->R):R :=
 IK p h fun cs sup prev=>br sup (.fail "") (OC cs off y fun cs'=>Lz prev h fun h=>Fc p h (some (.c cs' false none)) κ)
def Ik (v:V) (κ:Nat->R):R:=FZ v fun k r=>br (Nat.ble (Nat.succ r) (Hk k)) (κ r) (.fail "")
def Ck (o:Option Opd) (t:Regs) (d:Nat) (κ:Nat->R):R:=@Option.rec Opd (fun _=>R) (κ d) (fun x=>CP x t fun v=>Ik v κ) o
def G1 (n:Nat) (κ:V->R):R:=br (Nat.ble (Nat.succ n) 9223372036854775808) (κ (.int .i64 n)) (.fail "")
def La (xs:List V) (off:Nat) (ys:List V) (κ:List V->R):R :=
 Dh off xs fun a=>Gh ys fun m=>Ah (Nat.add off m) fun j=>DZ j xs fun b=>EM ys b fun t=>EM a t κ
def CZ (parts:List Part) (t:Regs):List V->(List V->R)->R :=
 @List.rec Part (fun _=>List V->(List V->R)->R) (fun z κ=>κ z)
  (fun p _ ih z κ=>@Part.rec (fun _=>R) (fun off size x=>CP x t fun v=>DH v fun l=>Gh l fun m=>br (Nat.beq m size) (La z off l fun z=>ih z κ) (.fail "")) p) parts
def Wh (i j:Nat) (κ:V->R):R:=br (Nat.ble (Nat.succ j) (XS i)) (Ah (Vk i) fun m=>br (Nat.ble (Nat.succ m) 18446744073709551616) (Ah (Y3 i j) fun d=>κ (.oth (.rs m d))) (.fail "")) (κ (.oth (.iv .i64 0 18446744073709551615)))
def Wq (i j:Nat) (κ:V->R):R:=br (Nat.ble i 36893488147419103232) (κ (.oth (.iv .i64 0 18446744073709551615))) (br (Nat.beq j (VS i))
 (Ah (Hv i) fun m=>Ah (OZ i) fun t=>br (Nat.ble (Nat.succ m) t) (Ah (Nat.sub t m) fun d=>κ (.oth (.rs (Nat.add 18446744073709551616 m) d)))
  (br (Nat.beq t m) (br (Nat.ble 1 m) (κ (.oth (.rs m 0))) (.fail "")) (Ah (Nat.sub m t) fun d=>κ (.oth (.rs (Nat.add 73786976294838206464 m) (Nat.add (Nat.mul d 18446744073709551616) d))))))
 (κ (.oth (.iv .i64 0 18446744073709551615))))
def UY (i j:Nat) (κ:V->R):R:=br (Nat.beq i 0) (κ (.oth .bl)) (br (Nat.ble i 18446744073709551615) (Ah (Nat.add i j) fun q=>κ (.oth (.sy .i64 q)))
 (br (Nat.ble i 36893488147419103231) (br (Nat.ble (Nat.succ j) (Nat.div (Nat.sub i 18446744073709551616) 4294967296)) (br (Qx i j) (κ (.bool true)) (κ (.bool false))) (κ (.oth .bl))) (br (Nat.ble i 73786976294838206463) (Wq i j κ) (Wh i j κ))))
def Jd (m:Nat):Nat->List V:=@Nat.rec (fun _=>Nat->List V) (fun _=>[]) (fun _ ih i=>.oth (.sy .i64 i)::ih (Nat.succ i)) m
def Ni (esz:Nat) (v:V) (h:Heap) (κ:Nat->Cs->R):R :=
 @V.rec (fun _=>R) (fun _=>Unit) (AR "") (B4 "") (AR "") (fun p off len cap ex esz'=>br (Nat.beq esz' esz) (IK p h fun cs _ _=>Ah (Nat.mul len esz) fun m=>BQ cs off m fun y=>κ len y) (.fail "")) (fun n c=>br (Nat.beq esz 1) (κ n (.b n c)) (.fail "")) (AR "") (fun w=>@Nl.rec (fun _=>R) (.fail "") (κ 0 (.l [])) (.fail "") (.fail "") (.fail "") w) (B4 "") (BU "") (AR "") (fun o=>PC o (fun i l0 l1 z=>br (Nat.beq z esz) (br (Nat.beq l0 l1) (br (and (Nat.ble 1 i) (Nat.ble i 18446744073709551615)) (Ah (Nat.mul l0 esz) fun m=>κ l0 (.l (Jd m i))) (.fail "")) (.fail "")) (.fail "")) (.fail "")) () (fun _ _ _ _=>()) v
def DS (esz eb:Nat) (x:V) (m:Nat) (y:Cs) (h:Heap) (n:K4) (κ:KV):R :=
 CO x
  (br (Nat.beq m 0) (κ (.nil .sl) h n) (br (Nat.ble (Nat.mul (Nat.add (Nat.mul 4 m) 4096) eb) 281474976710656) (CW h n (.c y false none) fun h' n'=>κ (.sl n 0 m m false esz) h' n') (.fail "")))
  (fun p off len cap ex esz'=>br (Nat.beq esz' esz) (br (Nat.beq m 0) (κ x h n) (Ah (Nat.add len m) fun need =>
   br (Nat.ble need cap)
    (Ah (Nat.add off (Nat.mul len esz)) fun j=>E4 h p j y fun h'=>κ (.sl p off need cap ex esz) h' n)
    (br (Nat.ble (Nat.mul (Nat.add (Nat.mul 4 need) 4096) eb) 281474976710656)
     (IK p h fun cs sup prev=>Ah (Nat.mul len esz) fun l=>BQ cs off l fun a=>VQ a y fun z =>
      br ex
       (CW h n (.c z false none) fun h' n'=>κ (.sl n 0 need need false esz) h' n')
       (br sup (.fail "")
        (Ah (Nat.add off l) fun j=>BQ cs 0 j fun old=>Lz prev h fun h=>Fc p h (some (.c old true none)) fun h =>
         CW h n (.c z false (some p)) fun h' n'=>κ (.sl n 0 need need false esz) h' n')))
     (.fail "")))) (.fail ""))
abbrev CF:=Nat->List V->Heap->K4->R
def TY (x:Opd) (cf:CF) (t:Regs) (h:Heap) (n:K4) (κ:KV):R :=
 CP x t fun v=>κ v h n
def Hl (c a b:Opd) (cf:CF) (t:Regs) (h:Heap) (n:K4) (κ:KV):R :=
 CP c t fun v=>OF v fun q=>br q (CP a t fun v=>κ v h n) (CP b t fun v=>κ v h n)
def O2 (cs:Cs) (cf:CF) (t:Regs) (h:Heap) (n:K4) (κ:KV):R :=
 CW h n (.c cs false none) fun h' n'=>κ (.ptr n 0) h' n'
def I6 (x:Opd) (cf:CF) (t:Regs) (h:Heap) (n:K4) (κ:KV):R :=
 CP x t fun v=>DH v fun l=>CW h n (.c (.l l) false none) fun h' n'=>κ (.ptr n 0) h' n'
def Q2 (zero:List V) (parts:List Part) (cf:CF) (t:Regs) (h:Heap) (n:K4) (κ:KV):R :=
 CZ parts t zero fun l=>κ (.agg l) h n
def Gf (u8:Bool) (len esz:Nat) (zero:List V) (parts:List Part) (cf:CF) (t:Regs) (h:Heap) (n:K4) (κ:KV):R :=
 CZ parts t zero fun l=>br u8 (CJ l (fun m c=>CW h n (.c (.b m c) false none) fun h' n'=>κ (.sl n 0 len len true esz) h' n') (.fail "")) (CW h n (.c (.l l) false none) fun h' n'=>κ (.sl n 0 len len true esz) h' n')
def Rq (x:Opd) (cf:CF) (t:Regs) (h:Heap) (n:K4) (κ:KV):R :=
 CP x t fun v=>OX v (fun p off=>IK p h fun cs _ _=>Fy cs off fun v=>κ v h n) (fun o=>QG o (fun i j m=>br (Nat.ble 1 m) (UY i j fun v=>κ v h n) (.fail "")) (.fail ""))
def LW (m:Nat) (x:Opd) (cf:CF) (t:Regs) (h:Heap) (n:K4) (κ:KV):R :=
 CP x t fun v=>Iw v fun p off=>IK p h fun cs _ _=>BQ cs off m fun y=>E6 y fun l=>κ (.agg l) h n
def R0 (m:Nat) (a x:Opd) (cf:CF) (t:Regs) (h:Heap) (n:K4) (κ:KV):R :=
 CP a t fun u=>Iw u fun p off=>CP x t fun v=>DH v fun l=>Gh l fun k=>br (Nat.beq k m) (E4 h p off (.l l) fun h'=>κ Cb h' n) (.fail "")
def DV (x:Opd) (cf:CF) (t:Regs) (h:Heap) (n:K4) (κ:KV):R :=
 CP x t fun v=>@V.rec (fun _=>R) (fun _=>Unit) (AR "") (B4 "") (fun p off=>κ v h n) (Dm "") (AR "") (AR "") (B4 "") (B4 "") (fun f caps _i=>κ v h n) (AR "") (B4 "") () (fun _ _ _ _=>()) v
def K0 (op:BinOp) (x y:Opd) (cf:CF) (t:Regs) (h:Heap) (n:K4) (κ:KV):R :=
 CP x t fun u=>CP y t fun v=>MU op u v fun r=>κ r h n
def QZ (neg:Bool) (pl:Plan) (x y:Opd) (cf:CF) (t:Regs) (h:Heap) (n:K4) (κ:KV):R :=
 CP x t fun u=>CP y t fun v=>KX pl u v fun r=>br neg (br r (κ (.bool false) h n) (κ (.bool true) h n)) (κ (.bool r) h n)
def Mr (x:Opd) (cf:CF) (t:Regs) (h:Heap) (n:K4) (κ:KV):R :=
 CP x t fun v=>OF v fun q=>br q (κ (.bool false) h n) (κ (.bool true) h n)
def LM (x:Opd) (cf:CF) (t:Regs) (h:Heap) (n:K4) (κ:KV):R :=
 CP x t fun v=>FZ v fun k r=>Nb k 0 k r fun v=>κ v h n
def MJ (x:Opd) (cf:CF) (t:Regs) (h:Heap) (n:K4) (κ:KV):R :=
 CP x t fun v=>FZ v fun k r=>Ah (Nat.xor (Nat.sub (Mk k) 1) r) fun r=>κ (.int k r) h n
def Ln (k:IntKind) (x:Opd) (cf:CF) (t:Regs) (h:Heap) (n:K4) (κ:KV):R :=
 CP x t fun v=>FZ v fun j r=>br (Nat.ble (Nat.succ r) (Hk j)) (Ah (Nat.mod r (Mk k)) fun r=>κ (.int k r) h n) (br (Nat.ble (Mk k) (Mk j)) (Ah (Nat.mod r (Mk k)) fun r=>κ (.int k r) h n) (Ah (Nat.sub (Mk k) (Nat.sub (Mk j) r)) fun r=>κ (.int k r) h n))
def Jc (x:Opd) (cf:CF) (t:Regs) (h:Heap) (n:K4) (κ:KV):R :=
 CP x t fun v=>CO v (κ (.str 0 0) h n) (fun p off len cap ex esz=>br (Nat.beq esz 1) (IK p h fun cs _ _=>BQ cs off len fun y=>E6 y fun l=>CJ l (fun m c=>κ (.str m c) h n) (.fail "")) (.fail ""))
def HQ (x:Opd) (cf:CF) (t:Regs) (h:Heap) (n:K4) (κ:KV):R :=
 CP x t fun v=>Bf v fun m c=>CW h n (.c (.b m c) false none) fun h' n'=>κ (.sl n 0 m m false 1) h' n'
def M8 (x:Opd) (cf:CF) (t:Regs) (h:Heap) (n:K4) (κ:KV):R :=
 CP x t fun v=>Bf v fun _ _=>κ v h n
def Ly (x:Opd) (cf:CF) (t:Regs) (h:Heap) (n:K4) (κ:KV):R :=
 CP x t fun v=>CO v (.fail "") (fun p _ _ _ _ _=>IK p h fun _ _ _=>κ v h n)
def Pn (f:Nat) (caps:List Opd) (cf:CF) (t:Regs) (h:Heap) (n:K4) (κ:KV):R :=
 NY caps t fun l=>κ (.fn f l) h n
def Ic  (cf:CF) (t:Regs) (h:Heap) (n:K4) (κ:KV):R :=
 CW h n (.m [] [] 0) fun h' n'=>κ (.map n) h' n'
def FD (eb:Nat) (u8:Bool) (zero:List V) (l c:Opd) (cf:CF) (t:Regs) (h:Heap) (n:K4) (κ:KV):R :=
 CP l t fun u=>Ik u fun a=>CP c t fun v=>Ik v fun b=>br (Nat.ble a b) (br (Nat.ble (Nat.mul eb b) 281474976710656) (Es u8 zero b fun y=>CW h n (.c y false none) fun h' n'=>Gh zero fun esz=>κ (.sl n 0 a b true esz) h' n') (.fail "")) (.fail "")
def I2 (x:Opd) (lo hi:Option Opd) (cf:CF) (t:Regs) (h:Heap) (n:K4) (κ:KV):R :=
 CP x t fun v=>Up v (fun l0 l1 _ _=>br (br (DR hi) true (Nat.beq l0 l1)) (Ck hi t l0 fun b=>Ck lo t 0 fun a=>br (Nat.ble a b) (br (Nat.ble b l0) (Ah (Nat.sub b a) fun l=>κ (.oth (.ss l l (Nat.succ l) 0)) h n) (.fail "")) (.fail "")) (.fail ""))<|Bf v fun m c=>Ck hi t m fun b=>Ck lo t 0 fun a=>br (Nat.ble a b) (br (Nat.ble b m) (Ah (Nat.sub b a) fun l=>Ah (Ev.lo (sh c a) l) fun r=>κ (.str l r) h n) (.fail "")) (.fail "")
def HD (esz:Nat) (x:Opd) (lo hi:Option Opd) (cf:CF) (t:Regs) (h:Heap) (n:K4) (κ:KV):R :=
 CP x t fun v=>W4 v (fun l0 l1=>br (br (DR hi) true (Nat.beq l0 l1)) (Ck hi t l0 fun b=>Ck lo t 0 fun a=>br (Nat.ble a b) (br (Nat.ble b l0) (Ah (Nat.sub b a) fun l=>κ (.oth (.os l l)) h n) (.fail "")) (.fail "")) (.fail ""))<|CO v (Ck hi t 0 fun b=>Ck lo t 0 fun a=>br (Nat.beq b 0) (br (Nat.beq a 0) (κ (.nil .sl) h n) (.fail "")) (.fail "")) (fun p off len cap ex esz'=>Ck hi t len fun b=>Ck lo t 0 fun a=>br (Nat.beq esz' esz) (br (Nat.ble a b) (br (Nat.ble b cap) (Ah (Nat.sub b a) fun l=>Ah (Nat.sub cap a) fun c=>Ah (Nat.add off (Nat.mul a esz)) fun o=>κ (.sl p o l c ex esz) h n) (.fail "")) (.fail "")) (.fail ""))
def I3 (m esz:Nat) (x:Opd) (lo hi:Option Opd) (cf:CF) (t:Regs) (h:Heap) (n:K4) (κ:KV):R :=
 CP x t fun v=>Iw v fun p off=>IK p h fun cs _ _=>Vh cs fun z=>br (Nat.ble (Nat.add off (Nat.mul m esz)) z) (Ck hi t m fun b=>Ck lo t 0 fun a=>br (Nat.ble a b) (br (Nat.ble b m) (Ah (Nat.sub b a) fun l=>Ah (Nat.sub m a) fun c=>Ah (Nat.add off (Nat.mul a esz)) fun o=>κ (.sl p o l c true esz) h n) (.fail "")) (.fail "")) (.fail "")
def ME (off:Nat) (x:Opd) (cf:CF) (t:Regs) (h:Heap) (n:K4) (κ:KV):R :=
 CP x t fun v=>OX v (fun p o=>Ah (Nat.add o off) fun o=>κ (.ptr p o) h n) (fun o=>QG o (fun i j m=>br (Nat.ble (Nat.succ off) m) (Ah (Nat.add j off) fun j=>Ah (Nat.sub m off) fun m=>κ (.oth (.ap i j m)) h n) (.fail "")) (.fail ""))
def Lv (off size:Nat) (ag:Bool) (x:Opd) (cf:CF) (t:Regs) (h:Heap) (n:K4) (κ:KV):R :=
 CP x t fun v=>asAgg v fun l=>br ag (DZ off l fun r=>Dh size r fun r=>κ (.agg r) h n) (E2 off l fun v=>κ v h n)
def LY (esz:Nat) (x i:Opd) (cf:CF) (t:Regs) (h:Heap) (n:K4) (κ:KV):R :=
 CP x t fun v=>CP i t fun u=>Ik u fun a=>H5 v (.fail "") (fun p off len cap ex esz'=>br (Nat.beq esz' esz) (br (Nat.ble (Nat.succ a) len) (Ah (Nat.add off (Nat.mul a esz)) fun o=>κ (.ptr p o) h n) (.fail "")) (.fail "")) (fun o=>PC o (fun i lo hi z=>br (Nat.beq z esz) (br (Nat.ble (Nat.succ a) lo) (Ah (Nat.mul a esz) fun j=>κ (.oth (.ap i j esz)) h n) (.fail "")) (.fail "")) (.fail ""))
def LV (m esz:Nat) (x i:Opd) (cf:CF) (t:Regs) (h:Heap) (n:K4) (κ:KV):R :=
 CP x t fun v=>CP i t fun u=>Ik u fun a=>Iw v fun p off=>br (Nat.ble (Nat.succ a) m) (Ah (Nat.add off (Nat.mul a esz)) fun o=>κ (.ptr p o) h n) (.fail "")
def Ll (x i:Opd) (cf:CF) (t:Regs) (h:Heap) (n:K4) (κ:KV):R :=
 CP x t fun v=>CP i t fun u=>Ik u fun a=>Bf v fun m c=>br (Nat.ble (Nat.succ a) m) (Ah (Ev.lo (sh c a) 1) fun r=>κ (.int .u8 r) h n) (.fail "")
def LG (m esz:Nat) (ag:Bool) (x i:Opd) (cf:CF) (t:Regs) (h:Heap) (n:K4) (κ:KV):R :=
 CP x t fun v=>CP i t fun u=>Ik u fun a=>asAgg v fun l=>br (Nat.ble (Nat.succ a) m) (Ah (Nat.mul a esz) fun j=>br ag (DZ j l fun r=>Dh esz r fun r=>κ (.agg r) h n) (E2 j l fun v=>κ v h n)) (.fail "")
def QO (pl:Plan) (zero:V) (ok:Bool) (m k:Opd) (cf:CF) (t:Regs) (h:Heap) (n:K4) (κ:KV):R :=
 CP m t fun u=>CP k t fun v=>JU pl v<|Du u (br ok (κ (.tup [zero,.bool false]) h n) (κ zero h n)) (fun p=>OH p h fun es _ _=>H3 pl v es (fun r=>br ok (κ (.tup [r,.bool true]) h n) (κ r h n)) (br ok (κ (.tup [zero,.bool false]) h n) (κ zero h n)))
def QU (pl:Plan) (m k v:Opd) (cf:CF) (t:Regs) (h:Heap) (n:K4) (κ:KV):R :=
 CP m t fun u=>CP k t fun a=>CP v t fun b=>JU pl a<|Du u (.fail "") (fun p=>OH p h fun es bs c=>Hm pl a b es fun es=>Vj es bs c fun bs c=>Fc p h (some (.m es bs c)) fun h'=>κ Cb h' n)
def MB (pl:Plan) (m k:Opd) (cf:CF) (t:Regs) (h:Heap) (n:K4) (κ:KV):R :=
 CP m t fun u=>CP k t fun a=>JU pl a<|Du u (κ (.tup []) h n) (fun p=>OH p h fun es bs c=>KY pl a es fun es'=>Lf pl a es bs fun bs=>Fc p h (some (.m es' bs c)) fun h'=>κ (.tup []) h' n)
def Lm (i:Nat) (x:Opd) (cf:CF) (t:Regs) (h:Heap) (n:K4) (κ:KV):R :=
 CP x t fun v=>KL v fun l=>E2 i l fun v=>κ v h n
def Ng (f:Nat) (args:List Opd) (cf:CF) (t:Regs) (h:Heap) (n:K4) (κ:KV):R :=
 NY args t fun l=>@R.rec (fun _=>R) (Fb "") (fun v h n=>κ v h n) (fun w=>.fail w) (Fb "") (cf f l h n)
def E9 (x:Opd) (args:List Opd) (cf:CF) (t:Regs) (h:Heap) (n:K4) (κ:KV):R :=
 CP x t fun v=>Po v fun f caps=>NY args t fun l=>EM l caps fun l=>@R.rec (fun _=>R) (Fb "") (fun v h n=>κ v h n) (fun w=>.fail w) (Fb "") (cf f l h n)
def LB (x:Opd) (cf:CF) (t:Regs) (h:Heap) (n:K4) (κ:KV):R :=
 CP x t fun v=>Up v (fun l0 l1 _ _=>br (Nat.ble (Nat.succ l1) 9223372036854775808) (κ (.oth (.iv .i64 l0 l1)) h n) (.fail ""))<|Bf v fun m _=>G1 m fun v=>κ v h n
def M3 (x:Opd) (cf:CF) (t:Regs) (h:Heap) (n:K4) (κ:KV):R :=
 CP x t fun v=>H5 v (κ (.int .i64 0) h n) (fun p off len cap ex esz=>G1 len fun v=>κ v h n) (fun o=>Vz o (fun l0 l1=>br (Nat.ble (Nat.succ l1) 9223372036854775808) (κ (.oth (.iv .i64 l0 l1)) h n) (.fail "")) (PC o (fun i l0 l1 z=>br (Nat.ble (Nat.succ l1) 9223372036854775808) (br (Nat.beq l0 l1) (κ (.int .i64 l0) h n) (κ (.oth (.iv .i64 l0 l1)) h n)) (.fail "")) (.fail "")))
def LK (x:Opd) (cf:CF) (t:Regs) (h:Heap) (n:K4) (κ:KV):R :=
 CP x t fun v=>Du v (κ (.int .i64 0) h n) (fun p=>OH p h fun es _ _=>VB es fun m=>G1 m fun v=>κ v h n)
def Mt (x y:Opd) (cf:CF) (t:Regs) (h:Heap) (n:K4) (κ:KV):R :=
 CP x t fun u=>CP y t fun v=>VW u v fun v=>κ v h n
def Me (x y:Opd) (cf:CF) (t:Regs) (h:Heap) (n:K4) (κ:KV):R :=
 CP x t fun u=>CP y t fun v=>VZ u v fun v=>κ v h n
def Mi (esz eb:Nat) (x y:Opd) (cf:CF) (t:Regs) (h:Heap) (n:K4) (κ:KV):R :=
 CP x t fun u=>CP y t fun v=>Ni esz v h fun m y=>DS esz eb u m y h n κ
def IR (esz eb:Nat) (u8:Bool) (zero:List V) (x c:Opd) (cf:CF) (t:Regs) (h:Heap) (n:K4) (κ:KV):R :=
 CP x t fun u=>CP c t fun v=>Ik v fun m=>br (Nat.ble (Nat.mul eb m) 281474976710656) (Es u8 zero m fun y=>DS esz eb u m y h n κ) (.fail "")
def Mu (esz:Nat) (x y:Opd) (cf:CF) (t:Regs) (h:Heap) (n:K4) (κ:KV):R :=
 CP x t fun u=>CP y t fun v=>Ni esz v h fun m y=>CO u (κ (.int .i64 0) h n) (fun p off len cap ex esz'=>br (Nat.beq esz' esz) (Ah (@Bool.rec (fun _=>Nat) len m (Nat.ble m len)) fun k=>br (Nat.beq k 0) (κ (.int .i64 0) h n) (Ah (Nat.mul k esz) fun j=>BQ y 0 j fun y=>E4 h p off y fun h=>G1 k fun v=>κ v h n)) (.fail ""))
def II (x y z:Opd) (cf:CF) (t:Regs) (h:Heap) (n:K4) (κ:KV):R :=
 CP x t fun u=>CP y t fun v=>CP z t fun w=>FZ u fun k a=>FZ v fun j b=>FZ w fun i c=>br (Bk k j) (br (Bk k i) (br (Ht k a b) (br (Ht k b c) (κ w h n) (κ v h n)) (br (Ht k a c) (κ w h n) (κ u h n))) (.fail "")) (.fail "")
def LE (x:Opd) (cf:CF) (t:Regs) (h:Heap) (n:K4) (κ:KV):R :=
 CP x t fun v=>CO v (κ (.int .i64 0) h n) (fun p off len cap ex esz=>br ex (G1 cap fun v=>κ v h n) (.fail ""))
def MF (u8:Bool) (zero:List V) (x:Opd) (cf:CF) (t:Regs) (h:Heap) (n:K4) (κ:KV):R :=
 CP x t fun v=>CO v (κ (.tup []) h n) (fun p off len cap ex esz=>Gh zero fun m=>br (Nat.beq m esz) (br (Nat.beq len 0) (κ (.tup []) h n) (Es u8 zero len fun y=>E4 h p off y fun h=>κ (.tup []) h n)) (.fail ""))
def Qn (why:String) (cf:CF) (t:Regs) (h:Heap) (n:K4) (κ:KV):R :=
 .fail ""
def GS (o:AK):CF->Regs->Heap->K4->KV->R :=
 @AK.rec (fun _=>CF->Regs->Heap->K4->KV->R) TY Hl O2 I6 Q2 Gf Rq LW R0 DV K0 QZ Mr LM MJ Ln Jc HQ M8 Ly Pn Ic FD I2 HD I3 ME Lv LY LV Ll LG QO QU MB Lm Ng E9 LB M3 LK Mt Me Mi IR Mu II LE MF Qn o
end Go.Ev

namespace Go.Ev
set_option linter.unusedVariables false
structure AOp where
 dst:Option K2
 g:Option (K2×Bool)
 k:AK
inductive Item where
 | rd (i:Nat) (o:AOp)
 | ef (i:Nat) (o:AOp)
 | al (i:Nat) (j:D) (o:AOp)
 | ck (i:Nat) (o:AOp)
 | no (j:D)
 | rn (i:Nat) (j:D) (o:AOp)
inductive Sp where
 | rng (x:Opd)
 | nxt (x:Opd)
 | ent (x:Opd)
 | tcl (f:Nat) (l:List Opd)
 | dcl (x:Opd) (l:List Opd)
inductive AC where
 | skip
 | seq (a b:AC)
 | ops (l:List AOp)
 | drawn (al:Bool) (l:List Item)
 | cond (c:Opd) (a b:AC)
 | block (id:Nat) (b:AC)
 | loop (b:AC)
 | exit (id:Nat)
 | ret
 | bad (why:String)
 | spl (pre:List AOp) (sp:Sp) (d:Option K2) (post:List AOp)
inductive ARes where
 | tmp (p:K2)
 | cel (p:K2) (m:Option Nat)
structure AFn where
 ps:List K2
 code:AC
 rs:List ARes
abbrev IH:=List V->Heap->K4->R
def CD (g:Option (K2×Bool)) (t:Regs) (yes no:R):R :=
 @Option.rec (K2×Bool) (fun _=>R) yes (fun p=>@Prod.rec K2 Bool (fun _=>R) (fun r want=>GX r t fun v =>
  @V.rec (fun _=>R) (fun _=>Unit) (fun _ _=>no) (fun b=>br (Bool.rec (Bool.rec true false b) b want) yes no) (fun _ _=>no) (fun _ _ _ _ _ _=>no) (fun _ _=>no) (fun _ _=>no) (fun _=>no) (fun _=>no) (fun _ _ _=>no) (fun _ _=>no) (fun o=>.fail "") () (fun _ _ _ _=>()) v) p) g
def asO (v:V) (κ:Ot->R):R :=
 @V.rec (fun _=>R) (fun _=>Unit) (fun _ _=>(.fail "")) (fun _=>(.fail "")) (fun _ _=>(.fail "")) (fun _ _ _ _ _ _=>(.fail "")) (fun _ _=>(.fail "")) (fun _ _=>(.fail "")) (fun _=>(.fail "")) (fun _=>(.fail "")) (fun _ _ _=>(.fail "")) (fun _ _=>(.fail "")) (fun o=>κ o) () (fun _ _ _ _=>()) v
def X6 (u:Ot) (κ:R):R:=@Ot.rec (fun _=>R) κ (fun _=>(.fail "")) (fun _=>(.fail "")) (.fail "") (fun _ _ _=>(.fail "")) (fun _ _=>(.fail "")) (.fail "") (fun _ _=>(.fail "")) (fun _ _ _ _=>(.fail "")) (fun _ _ _ _=>(.fail "")) (fun _ _ _=>(.fail "")) (fun _ _=>(.fail "")) u
def Zp (u:Ot) (κ:R):R:=@Ot.rec (fun _=>R) (.fail "") (fun _=>(.fail "")) (fun _=>(.fail "")) (.fail "") (fun _ _ _=>(.fail "")) (fun _ _=>(.fail "")) κ (fun _ _=>(.fail "")) (fun _ _ _ _=>(.fail "")) (fun _ _ _ _=>(.fail "")) (fun _ _ _=>(.fail "")) (fun _ _=>(.fail "")) u
def Zh (u:Ot) (κ:IntKind->Nat->Nat->R):R:=@Ot.rec (fun _=>R) (.fail "") (fun _=>(.fail "")) (fun _=>(.fail "")) (.fail "") (fun k lo hi=>κ k lo hi) (fun _ _=>(.fail "")) (.fail "") (fun _ _=>(.fail "")) (fun _ _ _ _=>(.fail "")) (fun _ _ _ _=>(.fail "")) (fun _ _ _=>(.fail "")) (fun _ _=>(.fail "")) u
def Vl (o u:Ot) (κ:R):R :=
 @Ot.rec (fun _=>R) (X6 u κ) (fun _=>(.fail "")) (fun _=>(.fail "")) (.fail "") (fun k lo hi=>Zh u fun k' lo' hi'=>br (Bk k k') (br (Nat.beq lo lo') (br (Nat.beq hi hi') κ (.fail "")) (.fail "")) (.fail "")) (fun _ _=>(.fail "")) (Zp u κ) (fun _ _=>(.fail "")) (fun _ _ _ _=>(.fail "")) (fun _ _ _ _=>(.fail "")) (fun _ _ _=>(.fail "")) (fun _ _=>(.fail "")) o
def Az (x:V):V->R->R :=
 @V.rec (fun _=>V->R->R) (fun _=>List V->R->R)
  (fun k r y κ=>FZ y fun j b=>br (Bk k j) (br (Nat.beq r b) κ (.fail "")) (.fail ""))
  (fun b y κ=>OF y fun c=>br (Bool.rec (Bool.rec true false b) b c) κ (.fail ""))
  (fun p off y κ=>Iw y fun q o=>br (K4.beq p q) (br (Nat.beq off o) κ (.fail "")) (.fail ""))
  (fun p off len cap ex esz y κ=>CO y (.fail "") fun q o l c e z=>br (K4.beq p q) (br (and (Nat.beq off o) (and (Nat.beq len l) (and (Nat.beq cap c) (and (Bool.rec (Bool.rec true false ex) ex e) (Nat.beq esz z))))) κ (.fail "")) (.fail ""))
  (fun n c y κ=>Bf y fun m d=>br (Jl n c m d) κ (.fail ""))
  (fun _ ih y κ=>asAgg y fun l=>ih l κ)
  (fun w y κ=>@V.rec (fun _=>R) (fun _=>Unit) (AR "") (B4 "") (AR "") (Dm "") (AR "") (AR "")
   (fun u=>br (Nat.beq (@Nl.rec (fun _=>Nat) 0 1 2 3 4 w) (@Nl.rec (fun _=>Nat) 0 1 2 3 4 u)) κ (.fail "")) (B4 "") (BU "") (AR "") (B4 "") () (fun _ _ _ _=>()) y)
  (fun p y κ=>Du y (.fail "") fun q=>br (K4.beq p q) κ (.fail ""))
  (fun f _ ih y κ=>Po y fun g l=>br (Nat.beq f g) (ih l κ) (.fail ""))
  (fun _ ih y κ=>KL y fun l=>ih l κ)
  (fun o y κ=>asO y fun u=>Vl o u κ)
  (fun l κ=>@List.rec V (fun _=>R) κ (BU "") l)
  (fun _ _ ihx ihl l κ=>@List.rec V (fun _=>R) (.fail "") (fun y ys _=>ihx y (ihl ys κ)) l) x
def Jy:KV:=fun v _ _=>.rv v AL ⟨.d0,.d0,.d0,.d0⟩
def B3 (r:R) (κ:V->Heap->K4->R):R:=@R.rec (fun _=>R) (Fb "") (fun v h n=>κ v h n) (fun w=>.fail w) (Fb "") r
def GW (o:Option Ob) (κ:R):R:=@Option.rec Ob (fun _=>R) κ (B4 "") o
def VI (o:Option Ob) (κ:Ob->R):R:=@Option.rec Ob (fun _=>R) (.fail "") κ o
def SB (d:Option K2) (κ:K2->R):R:=@Option.rec K2 (fun _=>R) (.fail "") κ d
def En (body:S->Heap->K4->R) (m:Nat):S->Heap->K4->R :=
 @Nat.rec (fun _=>S->Heap->K4->R) (BU "")
  (fun _ rec t h n=>@R.rec (fun _=>R) (fun e t h n=>@Ex.rec (fun _=>R) (rec t h n) (fun id=>.ok (.exit id) t h n) (.ok .ret t h n) e) (BU "") (fun w=>.fail w) (fun _ _ a b=>.both a b) (body t h n)) m
def Rc (args:List V):List K2->Regs->(Regs->R)->R :=
 @List.rec V (fun _=>List K2->Regs->(Regs->R)->R) (fun ps t κ=>@List.rec K2 (fun _=>R) (κ t) (BU "") ps)
  (fun v _ ih ps t κ=>@List.rec K2 (fun _=>R) (.fail "") (fun p qs _=>N7 p t v fun t=>ih qs t κ) ps) args
def Ki (r:ARes) (t:Regs) (h:Heap) (κ:V->R):R :=
 @ARes.rec (fun _=>R) (fun p=>GX p t κ) (fun p m=>GX p t fun v=>Iw v fun q off=>IK q h fun cs _ _ =>
  @Option.rec Nat (fun _=>R) (Fy cs off κ) (fun m=>BQ cs off m fun y=>E6 y fun l=>κ (.agg l)) m) r
def Jo (rs:List ARes) (t:Regs) (h:Heap):(List V->R)->R :=
 @List.rec ARes (fun _=>(List V->R)->R) (fun κ=>κ []) (fun r _ ih κ=>Ki r t h fun v=>ih fun vs=>κ (v::vs)) rs
def P9 (rs:List ARes) (t:Regs) (h:Heap) (n:K4):R :=
 Jo rs t h fun l=>@List.rec V (fun _=>R) (.rv (.tup []) h n) (fun v vs _=>@List.rec V (fun _=>R) (.rv v h n) (fun _ _ _=>.rv (.tup l) h n) vs) l
end Go.Ev

namespace Go.Ev
set_option linter.unusedVariables false
def Js (v:Value):Option V :=
 match v with
 | .bool b=>some (.bool b)
 | .int k n=>match n with
  | .ofNat m=>if Nat.ble (Nat.succ m) (Hk k) then some (.int k m) else none
  | .negSucc m=>if Nat.ble (Nat.add (Hk k) (Nat.succ m)) (Mk k) then some (.int k (Nat.sub (Mk k) (Nat.succ m))) else none
 | .string s=>some (.str s.size (AZ s.data.toList))
 | .pointer none=>some (.nil .ptr)
 | .slice none 0 0=>some (.nil .sl)
 | .map none=>some (.nil .map)
 | .nilFunc=>some (.nil .fn)
 | .nilIface=>some (.nil .iface)
 | _=>none
def GY:List Value->Option (List V)
 | []=>some []
 | v::l=>match Js v,GY l with
  | some x,some xs=>some (x::xs)
  | _,_=>none
def Io (v:Value):Option V :=
 match v with
 | .agg cs=>(GY cs.toList).map .agg
 | .tuple cs=>if cs.toList.isEmpty then some (.tup []) else none
 | .func (.func f) first caps=>if first.toList.isEmpty&&caps.toList.isEmpty then some (.fn f []) else none
 | v=>Js v
section
variable (P:Program) (N:Nat)
def FT (t:Nat):Option K2:=if t<N then K2.ofN t else none
def AT:Operand->Option Opd
 | .tmp t=>(FT N t).map .t
 | .const v=>(Io v).map .c
 | .func f=>some (.c (.fn f []))
 | .global _=>none
def Bw:List Operand->Option (List Opd)
 | []=>some []
 | o::l=>match AT N o,Bw l with
  | some x,some xs=>some (x::xs)
  | _,_=>none
def Fg:Option Operand->Option (Option Opd)
 | none=>some none
 | some o=>(AT N o).map some
def D5 (t:TypeId):Option (List V):=((P.info? t).bind (·.zero)).bind fun z=>GY z.cells.toList
def Bs (t:TypeId):Option Nat:=(P.info? t).map (·.size)
def EI (t:TypeId):Option Nat:=(P.info? t).map (·.bytes)
def KQ (t:TypeId):Option Bool:=(P.underlying t).map fun d=>match d with | .struct _ | .array _ _=>true | _=>false
def W2 (t:TypeId):Bool:=match P.underlying t with | some (.int .u8)=>true | _=>false
def OI (t:TypeId):Option Sc :=
 match P.underlying t with
 | some (.int _)=>some .i
 | some .string=>some .s
 | some .bool=>some .b
 | _=>none
def Gt:List Field->Option (List (Nat×Sc))
 | []=>some []
 | f::l=>if f.name ≠ "_" then
   match OI P f.type,Gt l with
   | some k,some r=>some ((f.offset,k)::r)
   | _,_=>none
  else none
def KT (t:TypeId):Option Plan :=
 match P.underlying t with
 | some .bool=>some (.sc .b)
 | some (.struct fs)=>if P.stoodInHeld t then none else (Gt P fs.toList).map .st
 | some (.pointer e)=>match Bs P e with
  | some (_+1)=>some (.rf .ptr)
  | _=>none
 | some (.slice _)=>some (.rf .sl)
 | some (.map _ _)=>some (.rf .map)
 | some (.func _ _ _)=>some (.rf .fn)
 | _=>none
def GT (t:TypeId):Option Plan :=
 match P.underlying t with
 | some (.struct fs) =>
  if P.stoodInHeld t then none else
  match Gt P fs.toList with
  | some offs=>if offs.map (·.1)=List.range offs.length then some (.ks (offs.map (·.2))) else none
  | none=>none
 | _=>(OI P t).map .sc
def F6 (place:Nat->Option (Nat×Nat)):List (Nat×Operand)->Option (List Part)
 | []=>some []
 | (i,o)::l=>match place i,AT N o,F6 place l with
  | some (off,size),some x,some xs=>some (⟨off,size,x⟩::xs)
  | _,_,_=>none
def DD (z:List V):Nat->List V
 | 0=>[]
 | n+1=>z++DD z n
def L3:List V->Bool
 | [.int .u8 0]=>true
 | _=>false
def EG (b:Builtin) (argTypes:Array TypeId) (args:List Opd):Option AK :=
 match b,argTypes.toList,args with
 | .len,t::_,x::_ =>
  match P.underlying t with
  | some .string=>some (.lnS x)
  | some (.slice _)=>some (.lnL x)
  | some (.map _ _)=>some (.lnM x)
  | _=>none
 | .min,_,[x,y]=>some (.min x y)
 | .max,_,[x,y]=>some (.max x y)
 | .max,_,[x,y,z]=>some (.max3 x y z)
 | .append,[t,u],[x,y] =>
  match P.underlying t,P.underlying u with
  | some (.slice e),some (.int _) =>
   match Bs P e,EI P e,D5 P e with
   | some s,some b,some z=>if s == z.length&&0<s&&0<b then some (.appz s b (L3 z) z x y) else none
   | _,_,_=>none
  | some (.slice e),some _ =>
   match Bs P e,EI P e,D5 P e with
   | some s,some b,some z=>if s == z.length&&0<s&&0<b then some (.app s b x y) else none
   | _,_,_=>none
  | _,_=>none
 | .copy,t::_,[x,y] =>
  match P.underlying t with
  | some (.slice e)=>match Bs P e with
   | some s=>if 0<s then some (.cpy s x y) else none
   | none=>none
  | _=>none
 | .delete,t::_,[m,k] =>
  match P.underlying t with
  | some (.map kt _)=>(GT P kt).map fun pl=>.del pl m k
  | _=>none
 | .cap,t::_,x::_ =>
  match P.underlying t with
  | some (.slice _)=>some (.cpL x)
  | _=>none
 | .clear,t::_,x::_ =>
  match P.underlying t with
  | some (.slice e)=>match Bs P e,D5 P e with
   | some s,some z=>if s == z.length&&0<s then some (.clr (L3 z) z x) else none
   | _,_=>none
  | _=>none
 | _,_,_=>none
def ET (o:Oper):Option AK :=
 match o.op with
 | .move x | .assign x=>(AT N x).map .mv
 | .pick c a b=>match AT N c,AT N a,AT N b with
  | some c,some a,some b=>some (.pick c a b)
  | _,_,_=>none
 | .alloc e=>(D5 P e).map fun z=>.alc (.l z)
 | .box _ x=>(AT N x).map .box
 | .build t parts =>
  match P.underlying t,D5 P t with
  | some (.struct fs),some z=>(fs.toList.mapM fun f=>(P.info? f.type).map fun i=>(f.offset,i.size)).bind fun places=>(F6 N (places.toArray[·]?) parts.toList).map fun ps=>.build z ps
  | some (.array _ e),some z=>(Bs P e).bind fun s=>(F6 N (fun i=>some (i*s,s)) parts.toList).map fun ps=>.build z ps
  | _,_=>none
 | .buildSlice t len parts =>
  match P.underlying t with
  | some (.slice e) =>
   match Bs P e,D5 P e with
   | some s,some z=>if s == z.length&&0<s&&len*s≤2 ^ 24 then
     (F6 N (fun i=>some (i*s,s)) parts.toList).map fun ps=>.bslice (W2 P e&&s == 1) len s (DD z len) ps else none
   | _,_=>none
  | _=>none
 | .load t a=>match KQ P t,Bs P t,AT N a with
  | some true,some s,some a=>some (.ldn s a)
  | some false,_,some a=>some (.ld a)
  | _,_,_=>none
 | .store t a x=>match Bs P t,AT N a,AT N x with
  | some s,some a,some x=>some (.st s a x)
  | _,_,_=>none
 | .nilCheck x=>(AT N x).map .nilck
 | .binOp op t x y _ =>
  match AT N x,AT N y with
  | some a,some b =>
   match op,P.underlying t with
   | .eql,some (.int _) | .eql,some .string=>some (.bin .eql a b)
   | .neq,some (.int _) | .neq,some .string=>some (.bin .neq a b)
   | .eql,_=>if P.eqGuardType P.depth t then none else (KT P t).map fun pl=>.eq false pl a b
   | .neq,_=>if P.eqGuardType P.depth t then none else (KT P t).map fun pl=>.eq true pl a b
   | op,_=>some (.bin op a b)
  | _,_=>none
 | .unOp op _ x =>
  match op,AT N x with
  | .not,some x=>some (.not x)
  | .neg,some x=>some (.neg x)
  | .xor,some x=>some (.com x)
  | _,_=>none
 | .convert src dst x =>
  match P.underlying src,P.underlying dst,AT N x with
  | some (.int _),some (.int k),some x=>some (.cvi k x)
  | some .string,some .string,some x=>some (.idn x)
  | some .string,some (.slice e),some x=>if W2 P e then some (.s2b x) else none
  | some (.slice e),some .string,some x=>if W2 P e then some (.b2s x) else none
  | some (.slice _),some (.slice e),some x=>if src == dst&&W2 P e then some (.bsl x) else none
  | _,_,_=>none
 | .makeFunc fn first caps =>
  match fn,first.toList,Bw N caps.toList with
  | .func f,[],some l=>some (.mkfn f l)
  | _,_,_=>none
 | .makeMap _ none=>some .mkmap
 | .makeSlice t l c =>
  match P.underlying t,AT N l,AT N c with
  | some (.slice e),some l,some c =>
   match Bs P e,EI P e,D5 P e with
   | some s,some b,some z=>if s == z.length&&0<s&&0<b then some (.mksl b (L3 z) z l c) else none
   | _,_,_=>none
  | _,_,_=>none
 | .slice t x lo hi none =>
  match P.underlying t,AT N x,Fg N lo,Fg N hi with
  | some .string,some x,some lo,some hi=>some (.slS x lo hi)
  | some (.slice e),some x,some lo,some hi=>(Bs P e).map fun s=>.slL s x lo hi
  | some (.array m e),some x,some lo,some hi=>(Bs P e).map fun s=>.slA m s x lo hi
  | _,_,_,_=>none
 | .fieldAddr s x f =>
  match P.underlying s,AT N x with
  | some (.struct fs),some x=>(fs[f]?).bind fun f=>match Bs P f.type with
   | some (_+1)=>some (.fad f.offset x)
   | _=>none
  | _,_=>none
 | .field s x f =>
  match P.underlying s,AT N x with
  | some (.struct fs),some x=>(fs[f]?).bind fun f=>match KQ P f.type,Bs P f.type with
   | some ag,some sz=>some (.fld f.offset sz ag x)
   | _,_=>none
  | _,_=>none
 | .indexAddr t x i =>
  match P.underlying t,AT N x,AT N i with
  | some (.slice e),some x,some i=>(Bs P e).map fun s=>.ixS s x i
  | some (.array m e),some x,some i=>(Bs P e).map fun s=>.ixA m s x i
  | _,_,_=>none
 | .index t x i =>
  match P.underlying t,AT N x,AT N i with
  | some .string,some x,some i=>some (.idS x i)
  | some (.array m e),some x,some i=>match KQ P e,Bs P e with
   | some ag,some s=>some (.idA m s ag x i)
   | _,_=>none
  | _,_,_=>none
 | .lookup t m k ok =>
  match P.underlying t,AT N m,AT N k with
  | some (.map kt e),some m,some k =>
   match GT P kt,(P.info? e).bind (·.zero) with
   | some pl,some z=>(Io z).map fun z=>.lk pl z ok m k
   | _,_=>none
  | _,_,_=>none
 | .mapUpdate t m k v | .insert t m k v =>
  match P.underlying t,AT N m,AT N k,AT N v with
  | some (.map kt _),some m,some k,some v=>(GT P kt).map fun pl=>.mu pl m k v
  | _,_,_,_=>none
 | .extract x i=>(AT N x).map fun x=>.ext i x
 | .call c =>
  match c.callee,Bw N c.args.toList with
  | .builtin b,some args=>EG P b c.argTypes args
  | .value (.func f),some args=>some (.call f args)
  | .value x,some args=>(AT N x).map fun x=>.calld x args
  | _,_=>none
 | _=>none
def IU (ops:Array Oper) (o:Oper):Option AOp :=
 match (match o.dst with | none=>some none | some d=>(FT N d).map some:Option (Option K2)),
  (match o.guard with | none=>some none | some (j,w)=>((ops[j]?).bind (·.dst)).bind fun d=>(FT N d).map fun s=>some (s,w):Option (Option (K2×Bool))) with
 | some d,some g=>some ⟨d,g,(ET P N o).getD (.bad o.pos)⟩
 | _,_=>none
def Gl (ops:Array Oper):List Oper->Option (List AOp)
 | []=>some []
 | o::l=>match IU P N ops o,Gl ops l with
  | some x,some xs=>some (x::xs)
  | _,_=>none
def AK.sort:AK->Nat
 | .ld _ | .ldn _ _ | .b2s _ | .slA _ _ _ _ _ | .lk _ _ _ _ _ | .lnM _=>1
 | .alc _ | .box _ | .bslice _ _ _ _ _ | .s2b _ | .mkmap | .mksl _ _ _ _ _=>2
 | .st _ _ _ | .mu _ _ _ _ | .del _ _ _ | .call _ _ | .calld _ _ | .app _ _ _ _ | .appz _ _ _ _ _ _ | .cpy _ _ _ | .clr _ _ _ | .bsl _ | .bad _=>3
 | _=>0
def Ci (o:Oper):List Nat:=o.after.toList.filterMap fun e=>if Region.binds .any e then some e.on else none
def Y7 (deps:List (List Nat)):List Nat :=
 deps.foldl (fun acc ds=>acc++[ds.foldl (fun s d=>s ||| 2 ^ d ||| acc.getD d 0) 0]) []
def AK.opds:AK->List Opd
 | .mv x | .box x | .ld x | .ldn _ x | .nilck x | .not x | .neg x | .com x | .cvi _ x | .b2s x | .s2b x | .idn x | .bsl x | .fad _ x | .fld _ _ _ x | .ext _ x | .lnS x | .lnL x | .lnM x | .cpL x | .clr _ _ x=>[x]
 | .pick c a b | .max3 c a b=>[c,a,b]
 | .alc _ | .mkmap | .bad _=>[]
 | .build _ ps | .bslice _ _ _ _ ps=>ps.map (·.x)
 | .st _ a x | .bin _ a x | .eq _ _ a x | .ixS _ a x | .ixA _ _ a x | .idS a x | .idA _ _ _ a x | .lk _ _ _ a x | .del _ a x | .min a x | .max a x | .app _ _ a x | .appz _ _ _ _ a x | .cpy _ a x
 | .mksl _ _ _ a x=>[a,x]
 | .mu _ m k v=>[m,k,v]
 | .mkfn _ l | .call _ l=>l
 | .calld x l=>x::l
 | .slS x lo hi | .slL _ x lo hi | .slA _ _ x lo hi=>x::(lo.toList++hi.toList)
def K2.beq (p q:K2):Bool:=and (p.b.beq q.b) (p.a.beq q.a)
def TC (p:K2) (l:List K2):Bool:=l.any (K2.beq p)
def AOp.slots (o:AOp):List K2 :=
 (o.k.opds.filterMap fun x=>match x with | .t p=>some p | .c _=>none)++(match o.g with | some (p,_)=>[p] | none=>[])
inductive SI where
 | rd (i:Nat)
 | ef (i:Nat)
 | al (i:Nat) (j:D)
 | ck (i:Nat)
 | no (j:D)
 | rn (i a:Nat) (j:D)
def SI.ix:SI->Option Nat
 | .rd i=>some i
 | .ef i=>some i
 | .al i _=>some i
 | .rn i _ _=>some i
 | _=>none
def SI.isEf:SI->Bool
 | .ef _=>true
 | _=>false
def SI.isAl:SI->Bool
 | .al _ _=>true
 | _=>false
def SI.reads:SI->Option Nat
 | .rd i=>some i
 | .ck i=>some i
 | _=>none
def SI.isCk (i:Nat):SI->Bool
 | .ck j=>Nat.beq i j
 | _=>false
def BZ:AOp:=⟨none,none,.bad "no such operation"⟩
def JJ (os:List AOp):SI->Item
 | .rd i=>.rd i (os.getD i BZ)
 | .ef i=>.ef i (os.getD i BZ)
 | .al i j=>.al i j (os.getD i BZ)
 | .ck i=>.ck i (os.getD i BZ)
 | .no j=>.no j
 | .rn i _ j=>.rn i j (os.getD i BZ)
structure Plot where
 so:List Nat
 ds:List (Option K2)
 sl:List (List K2)
 de:List (List Nat)
 an:List Nat
 sk:List SI
namespace Plot
variable (p:Plot)
def m:Nat:=p.so.length
def sort (i:Nat):Nat:=p.so.getD i 9
def dst (i:Nat):Option K2:=p.ds.getD i none
def slots (i:Nat):List K2:=p.sl.getD i []
def deps (i:Nat):List Nat:=p.de.getD i []
def anc (i d:Nat):Bool:=(p.an.getD i 0).testBit d
def pos (i:Nat):Nat:=p.sk.findIdx fun x=>match x.ix with | some j=>Nat.beq i j | none=>false
def bat (l:Nat):Nat:=((p.sk.take l).filter SI.isEf).length
def effs:List Nat:=p.sk.filterMap fun x=>match x with | .ef i=>some i | _=>none
def all (f:Nat->Bool):Bool:=(List.range p.m).all f
structure Tab where
 po:List Nat
 ba:List Nat
 ef:List Nat
def tab:Tab:=⟨(List.range p.m).map p.pos,(List.range (p.sk.length+1)).map p.bat,p.effs⟩
def writes (w:Nat) (l:List K2):Bool:=match p.dst w with | some d=>TC d l | none=>false
def okDst:Bool:=p.all fun i=>p.all fun j=>Nat.beq i j || match p.dst i with | some d=>!(match p.dst j with | some e=>d.beq e | none=>false) | none=>true
def okDeps:Bool:=p.all fun i=>(p.deps i).all fun d=>Nat.blt d i
def okAnc:Bool:=p.all fun i=>p.all fun d=>!p.anc i d || (p.deps i).any fun c=>Nat.beq c d || p.anc c d
def okPos (t:Tab):Bool:=p.all fun i=>match p.sk[t.po.getD i 0]? with
 | some (.ef j)=>Nat.beq i j&&Nat.beq (p.sort i) 3
 | some (.al j _)=>Nat.beq i j&&Nat.beq (p.sort i) 2
 | some (.rd j)=>Nat.beq i j&&Nat.ble (p.sort i) 1
 | some (.rn j a d)=>Nat.beq i j&&(Nat.ble (p.sort i) 1&&(Nat.blt a p.m&&(p.anc i a&&(Nat.blt (t.po.getD a 0) (t.po.getD i 0)&&(Nat.beq (t.ba.getD (t.po.getD a 0) 0) (t.ba.getD (t.po.getD i 0) 0) &&
   match p.sk[t.po.getD a 0]? with | some (.al a' d')=>Nat.beq a a'&&d.beq d' | _=>false)))))
 | _=>false
def okUniq (t:Tab):Bool:=(List.range p.sk.length).all fun l=>match p.sk[l]? with
 | some x=>match x.ix with
  | some i=>Nat.blt i p.m&&Nat.beq (t.po.getD i 0) l
  | none=>match x with
   | .ck i=>Nat.blt i p.m&&Nat.blt (t.po.getD i 0) l&&Nat.ble (p.sort i) 1
   | _=>true
 | none=>false
def okSlots (t:Tab):Bool:=p.all fun i=>p.all fun w=>!p.writes w (p.slots i) || (!Nat.beq i w&&((p.anc i w&&Nat.blt (t.po.getD w 0) (t.po.getD i 0)) ||
 (p.anc w i&&Nat.blt (t.po.getD i 0) (t.po.getD w 0)&&(List.range p.sk.length).all fun l=>match p.sk[l]? with | some x=>!x.isCk i || Nat.blt l (t.po.getD w 0) | none=>true)))
def okEff (t:Tab):Bool:=t.ef.all fun i=>t.ef.all fun j=>!Nat.blt (t.po.getD i 0) (t.po.getD j 0) || p.anc j i
def never (t:Tab) (i j:Nat):Bool:=t.ef.any fun e=>(p.anc i e&&Nat.ble j (t.ba.getD (t.po.getD e 0) 0)) || (p.anc e i&&Nat.blt (t.ba.getD (t.po.getD e 0) 0) j)
def fresh (t:Tab) (i j:Nat):Bool:=match p.sk[t.po.getD i 0]? with | some (.rn _ a _)=>Nat.ble j (t.ba.getD (t.po.getD a 0) 0) | _=>false
def okRead (t:Tab):Bool:=p.all fun i=>!Nat.beq (p.sort i) 1 || (List.range (t.ef.length+1)).all fun j=>p.never t i j || p.fresh t i j ||
 (List.range p.sk.length).any fun l=>Nat.beq (t.ba.getD l 0) j&&match p.sk[l]? with | some x=>(match x.reads with | some i'=>Nat.beq i i' | none=>false) | none=>false
def okAl (t:Tab):Bool:=p.all fun i=>!Nat.beq (p.sort i) 2 || match p.sk[t.po.getD i 0]? with
 | some (.al _ d)=>((List.range (t.ef.length+1)).all fun j=>if Nat.ble j (t.ba.getD (t.po.getD i 0) 0) then
    (List.range p.sk.length).any fun l=>Nat.beq (t.ba.getD l 0) j&&match p.sk[l]? with | some (.no d')=>d.beq d' | _=>false
   else t.ef.any fun e=>p.anc e i&&Nat.blt (t.ba.getD (t.po.getD e 0) 0) j) &&
  p.all fun i'=>Nat.beq i i' || match p.sk[t.po.getD i' 0]? with | some (.al _ d')=>!d.beq d' | _=>true
 | _=>false
def ok:Bool :=
 let t:=p.tab
 p.okDst&&(p.okDeps&&(p.okAnc&&(p.okPos t&&(p.okUniq t&&(p.okSlots t&&(p.okEff t&&(p.okRead t&&p.okAl t)))))))
end Plot
def Wn (effs:List Nat) (anc:Nat):Nat:=(effs.filter (anc.testBit ·)).length
def WF (effs:List (Nat×Nat)) (i:Nat):Nat:=(effs.takeWhile fun e=>!e.2.testBit i).length
def Ql (effs:List (Nat×Nat)):List (Nat×List Nat×Nat×Nat)->List Nat->List Nat
 | [],acc=>acc
 | (i,deps,anc,sort)::l,acc =>
  let b:=deps.foldl (fun m d=>max m (acc.getD d 0)) 0
  let b:=match sort with
   | 1=>max b (Wn (effs.map (·.1)) anc)
   | 2=>max b (WF effs i)
   | 3=>Wn (effs.map (·.1)) anc+1
   | _=>b
  Ql effs l (acc++[b])
def VE (so:List Nat) (de:List (List Nat)) (an:List Nat) (ro:List (Option Nat)):List SI :=
 let idx:=List.range so.length
 let ef:=(idx.filter fun i=>so.getD i 0 == 3).map fun i=>(i,an.getD i 0)
 let ba:=Ql ef (idx.map fun i=>(i,de.getD i [],an.getD i 0,so.getD i 0)) []
 let al:=idx.filter fun i=>so.getD i 0 == 2
 let dig:=fun i=>D.ofN (al.takeWhile (· != i)).length
 let item:=fun i=>if so.getD i 0 == 2 then SI.al i (dig i) else match ro.getD i none with
  | some a=>if so.getD i 0 == 1&&ba.getD i 0 == ba.getD a 0 then SI.rn i a (dig a) else SI.rd i
  | none=>SI.rd i
 (List.range (ef.length+1)).flatMap fun j =>
  ((idx.filter fun i=>so.getD i 0 == 3&&ba.getD i 0 == j).map SI.ef) ++
  ((al.filter fun i=>Nat.ble j (ba.getD i 0)).map fun i=>SI.no (dig i)) ++
  ((idx.filter fun i=>so.getD i 0 != 3&&ba.getD i 0 == j).map item) ++
  ((idx.filter fun i=>so.getD i 0 == 1&&Nat.blt (ba.getD i 0) j&&Nat.ble j (WF ef i)).map SI.ck)
def AK.base:AK->Option K2
 | .ld (.t p) | .ldn _ (.t p) | .b2s (.t p) | .slA _ _ (.t p) _ _ | .lk _ _ _ (.t p) _ | .lnM (.t p) | .ixS _ (.t p) _ | .ixA _ _ (.t p) _ | .fad _ (.t p) | .slL _ (.t p) _ _ | .nilck (.t p) | .idn (.t p)=>some p
 | _=>none
def RO (os:List AOp):Nat->Nat->Option Nat
 | 0,_=>none
 | fuel+1,i=>match os[i]? with
  | some o=>match o.k.base with
   | some q =>
    let j:=os.findIdx fun x=>match x.dst with | some d=>d.beq q | none=>false
    match os[j]? with
    | some x=>if x.k.sort == 2 then some j else if Nat.blt j i then RO os fuel j else none
    | none=>none
   | none=>none
  | none=>none
def BP (deps:List (List Nat)) (os:List AOp):Plot :=
 let so:=os.map (·.k.sort)
 let an:=Y7 deps
 ⟨so,os.map (·.dst),os.map AOp.slots,deps,an,VE so deps an ((List.range so.length).map fun i=>if so.getD i 0 == 1 then RO os 6 i else none)⟩
def BS (ops:Array Oper) (draw:Bool):AC :=
 match Gl P N ops ops.toList with
 | none=>.bad "a region of it registers"
 | some os =>
  if draw then
   let p:=BP (ops.toList.map Ci) os
   if p.ok then .drawn (p.sk.any SI.isAl) (p.sk.map (JJ os)) else .bad "a region of it order"
  else .ops os
def Vr (f:FuncId):Bool:=match P.funcs[f]? with
 | some fn=>fn.origin == "slices.Collect" || fn.origin == "slices.AppendSeq" || fn.name == "stillroom/stillroomtop.small"
 | none=>false
def XY (o:Oper):Option Sp:=match o.op with
 | .range ty x=>match P.underlying ty with | some (.map _ _)=>(AT N x).map .rng | _=>none
 | .next x s=>if s then none else (AT N x).map .nxt
 | .entry x=>(AT N x).map .ent
 | .call ct=>match ct.callee with
  | .value (.func f)=>if Vr P f then (Bw N ct.args.toList).map (.tcl f) else none
  | .value (.tmp s)=>match AT N (.tmp s),Bw N ct.args.toList with
   | some x,some l=>some (.dcl x l)
   | _,_=>none
  | _=>none
 | _=>none
def VD (o:Oper):Option (Option K2):=match o.dst with | none=>some none | some d=>(FT N d).map some
def L6 (ops:Array Oper):List Oper->Option (List AOp×Sp×Option K2×List AOp)
 | []=>none
 | o::l=>match XY P N o with
  | some sp=>match o.guard,VD N o,Gl P N ops l with
   | none,some d,some post=>some ([],sp,d,post)
   | _,_,_=>none
  | none=>match L6 ops l with
   | none=>none
   | some r=>match IU P N ops o with
    | some x=>some (x::r.1,r.2)
    | none=>none
def N6 (ops:Array Oper) (draw:Bool):AC :=
 if draw then BS P N ops true else match L6 P N ops ops.toList with
 | some r=>.spl r.1 r.2.1 r.2.2.1 r.2.2.2
 | none=>BS P N ops false
def AH:Code->AC
 | .skip=>.skip
 | .region _ ops draw=>N6 P N ops draw
 | .seq a b=>.seq (AH a) (AH b)
 | .cond c a b=>match AT N c with
  | some c=>.cond c (AH a) (AH b)
  | none=>.bad "a test"
 | .block id b=>.block id (AH b)
 | .loop b=>.loop (AH b)
 | .exit id=>.exit id
 | .label _=>.skip
 | .ret=>.ret
 | .rangeFunc _ _ _ _=>.bad "a range over a function"
 | .scope _=>.bad "a scope"
 | .goto _=>.bad "a goto"
 | .refuse why=>.bad why
def F9:List Nat->Option (List K2)
 | []=>some []
 | t::l=>match FT N t,F9 l with
  | some x,some xs=>some (x::xs)
  | _,_=>none
def Cg:List ResultVar->Option (List ARes)
 | []=>some []
 | .tmp t::l=>match FT N t,Cg l with
  | some x,some xs=>some (.tmp x::xs)
  | _,_=>none
 | .cell t ty::l=>match FT N t,KQ P ty,Bs P ty,Cg l with
  | some x,some ag,some m,some xs=>some (.cel x (if ag then some m else none)::xs)
  | _,_,_,_=>none
end
def FW (P:Program) (f:FuncId):Option AFn :=
 match P.funcs[f]? with
 | some fn =>
  match fn.body,F9 fn.ntmps (List.range (fn.params.size+fn.nfree)),Cg P fn.ntmps fn.results.toList with
  | some c,some ps,some rs=>if fn.name == "runtime.NumGoroutine" then none else some ⟨ps,AH P fn.ntmps c,rs⟩
  | _,_,_=>none
 | none=>none
end Go.Ev

namespace Go.Ev
set_option linter.unusedVariables false
section
variable {ρ:Env}
def AY.le (φ φ':AY):Prop:=∀ p x,φ p=some x->φ' p=some x
theorem AY.le_refl (φ:AY):AY.le φ φ:=fun _ _ h=>h
theorem AY.le_trans {a b c:AY} (h:AY.le a b) (k:AY.le b c):AY.le a c:=fun p x hx=>k p x (h p x hx)
mutual
theorem Et {φ φ':AY} (h:AY.le φ φ'):∀ {v:V} {x:Value},AD ρ φ v x->AD ρ φ' v x
 | .int _ _,_,r=>by simpa only [AD] using r
 | .bool _,_,r=>by simpa only [AD] using r
 | .ptr _ _,_,r=>by
  simp only [AD] at r ⊢
  obtain ⟨b,s,tot,hp,e⟩:=r
  exact ⟨b,s,tot,h _ _ hp,e⟩
 | .sl _ _ _ _ _ _,_,r=>by
  simp only [AD] at r ⊢
  obtain ⟨b,s,tot,o,c,hp,e⟩:=r
  exact ⟨b,s,tot,o,c,h _ _ hp,e⟩
 | .str _ _,_,r=>by simpa only [AD] using r
 | .agg l,_,r=>by
  simp only [AD] at r ⊢
  obtain ⟨cs,e,hl,ho⟩:=r
  exact ⟨cs,e,Fk h hl,ho⟩
 | .nil _,_,r=>by simpa only [AD] using r
 | .map _,_,r=>by
  simp only [AD] at r ⊢
  obtain ⟨b,s,tot,hp,e⟩:=r
  exact ⟨b,s,tot,h _ _ hp,e⟩
 | .fn _ l,_,r=>by
  simp only [AD] at r ⊢
  obtain ⟨cs,e,hl⟩:=r
  exact ⟨cs,e,Fk h hl⟩
 | .tup l,_,r=>by
  simp only [AD] at r ⊢
  obtain ⟨cs,e,hl⟩:=r
  exact ⟨cs,e,Fk h hl⟩
 | .oth o,_,r=>by
  cases o with
  | yl p =>
   simp only [AD] at r ⊢
   obtain ⟨b,s,tot,hp,e⟩:=r
   exact ⟨b,s,tot,h _ _ hp,e⟩
  | _=>simp only [AD] at r ⊢ <;> exact r
theorem Fk {φ φ':AY} (h:AY.le φ φ'):∀ {l:List V} {xs:List Value},Bo ρ φ l xs->Bo ρ φ' l xs
 | [],_,r=>by simpa only [Bo] using r
 | v::l,_,r=>by
  simp only [Bo] at r ⊢
  obtain ⟨y,ys,e,hy,hys⟩:=r
  exact ⟨y,ys,e,Et h hy,Fk h hys⟩
end
theorem AN {φ:AY} {xs:List Value}:Bo ρ φ [] xs ↔ xs=[]:=by simp only [Bo]
theorem AF {φ:AY} {v:V} {l:List V} {xs:List Value}:Bo ρ φ (v::l) xs ↔ ∃ y ys,xs=y::ys∧AD ρ φ v y∧Bo ρ φ l ys:=by simp only [Bo]
theorem B8 {φ:AY} {l:List V}:∀ {xs:List Value},Bo ρ φ l xs->xs.length=l.length:=by
 induction l with
 | nil=>intro xs h; rw [AN] at h; rw [h]; rfl
 | cons v l ih=>intro xs h; obtain ⟨y,ys,rfl,_,h⟩:=AF.1 h; simp [ih h]
theorem C7 {φ:AY} {l:List V}:∀ {xs:List Value},Bo ρ φ l xs ↔ xs.length=l.length ∧ ∀ (i:Nat) (v:V),l[i]? = some v->∃ x,xs[i]? = some x∧AD ρ φ v x:=by
 induction l with
 | nil =>
  intro xs; rw [AN]; constructor
  ·rintro rfl; exact ⟨rfl,fun i v h=>by simp at h⟩
  ·rintro ⟨h,_⟩; exact List.eq_nil_of_length_eq_zero h
 | cons v l ih =>
  intro xs
  rw [AF]
  constructor
  ·rintro ⟨y,ys,rfl,hy,hys⟩
   obtain ⟨h1,h2⟩:=ih.1 hys
   refine ⟨by simp [h1],fun i u hu=>?_⟩
   cases i with
   | zero=>simp at hu; subst hu; exact ⟨y,rfl,hy⟩
   | succ i=>simpa using h2 i u (by simpa using hu)
  ·rintro ⟨h1,h2⟩
   cases xs with
   | nil=>simp at h1
   | cons y ys =>
    obtain ⟨x,hx,hr⟩:=h2 0 v rfl
    simp at hx; subst hx
    exact ⟨y,ys,rfl,hr,ih.2 ⟨by simpa using h1,fun i u hu=>by simpa using h2 (i+1) u (by simpa using hu)⟩⟩
theorem EV {φ:AY} {a b:List V} {xs ys:List Value} (h:Bo ρ φ a xs) (k:Bo ρ φ b ys):Bo ρ φ (a++b) (xs++ys):=by
 induction a generalizing xs with
 | nil=>rw [AN] at h; subst h; exact k
 | cons v a ih=>obtain ⟨y,zs,rfl,hy,h⟩:=AF.1 h; exact AF.2 ⟨y,zs++ys,rfl,hy,ih h⟩
theorem IJ {φ:AY} {a:List V} {xs:List Value} (h:Bo ρ φ a xs) (k:Nat):Bo ρ φ (a.drop k) (xs.drop k):=by
 induction k generalizing a xs with
 | zero=>simpa using h
 | succ k ih=>cases a with
  | nil=>rw [AN] at h; subst h; simpa using AN.2 rfl
  | cons v a=>obtain ⟨y,zs,rfl,hy,h⟩:=AF.1 h; simpa using ih h
theorem ID {φ:AY} {a:List V} {xs:List Value} (h:Bo ρ φ a xs) (k:Nat):Bo ρ φ (a.take k) (xs.take k):=by
 induction k generalizing a xs with
 | zero=>simpa using AN.2 rfl
 | succ k ih=>cases a with
  | nil=>rw [AN] at h; subst h; simpa using AN.2 rfl
  | cons v a=>obtain ⟨y,zs,rfl,hy,h⟩:=AF.1 h; simpa using AF.2 ⟨y,zs.take k,rfl,hy,ih h⟩
def Bh (ρ:Env):Prop:=∀ i,(ρ.v i).oneCell'=true
theorem GO {φ:AY} (hρ:Bh ρ) {v:V} (hv:v.celled) {x:Value} (h:AD ρ φ v x) :
  Bo ρ φ v.cl x.cells.toList ∧ ∀ y∈x.cells.toList,y.oneCell'=true:=by
 cases v with
 | agg l =>
  simp only [AD] at h
  obtain ⟨cs,rfl,hl,ho⟩:=h
  exact ⟨hl,ho⟩
 | tup l=>exact hv.elim
 | int k r =>
  have h':=h; simp only [AD] at h'; obtain ⟨_,rfl⟩:=h'
  exact ⟨AF.2 ⟨_,[],rfl,h,AN.2 rfl⟩,by simp [Value.cells,Value.oneCell']⟩
 | bool b =>
  have h':=h; simp only [AD] at h'; subst h'
  exact ⟨AF.2 ⟨_,[],rfl,h,AN.2 rfl⟩,by simp [Value.cells,Value.oneCell']⟩
 | ptr p o =>
  have h':=h; simp only [AD] at h'; obtain ⟨_,_,_,_,rfl⟩:=h'
  exact ⟨AF.2 ⟨_,[],rfl,h,AN.2 rfl⟩,by simp [Value.cells,Value.oneCell']⟩
 | sl p o l c e z =>
  have h':=h; simp only [AD] at h'; obtain ⟨_,_,_,_,_,_,rfl,_⟩:=h'
  exact ⟨AF.2 ⟨_,[],rfl,h,AN.2 rfl⟩,by simp [Value.cells,Value.oneCell']⟩
 | str n c =>
  have h':=h; simp only [AD] at h'; obtain ⟨_,rfl,_⟩:=h'
  exact ⟨AF.2 ⟨_,[],rfl,h,AN.2 rfl⟩,by simp [Value.cells,Value.oneCell']⟩
 | nil w =>
  have h':=h; simp only [AD] at h'; subst h'
  exact ⟨AF.2 ⟨_,[],by cases w <;> rfl,h,AN.2 rfl⟩,by cases w <;> simp [C1,Value.cells,Value.oneCell']⟩
 | map p =>
  have h':=h; simp only [AD] at h'; obtain ⟨_,_,_,_,rfl⟩:=h'
  exact ⟨AF.2 ⟨_,[],rfl,h,AN.2 rfl⟩,by simp [Value.cells,Value.oneCell']⟩
 | fn f l =>
  have h':=h; simp only [AD] at h'; obtain ⟨_,rfl,_⟩:=h'
  exact ⟨AF.2 ⟨_,[],rfl,h,AN.2 rfl⟩,by simp [Value.cells,Value.oneCell']⟩
 | oth o =>
  cases o with
  | any=>exact hv.elim
  | yl p=>exact hv.elim
  | no=>exact hv.elim
  | sym i =>
   have h':=h; simp only [AD] at h'; subst h'
   have hone:=hρ i
   have hc:(ρ.v i).cells = #[ρ.v i]:=by
    cases hx:ρ.v i <;> first | rfl | (rw [hx] at hone; simp [Value.oneCell'] at hone)
   rw [hc]
   exact ⟨AF.2 ⟨_,[],rfl,h,AN.2 rfl⟩,by simpa using hone⟩
  | iv k lo hi =>
   have h':=h; simp only [AD] at h'; obtain ⟨_,_,_,_,rfl⟩:=h'
   exact ⟨AF.2 ⟨_,[],rfl,h,AN.2 rfl⟩,by simp [Value.cells,Value.oneCell']⟩
  | os lo hi =>
   have h':=h; simp only [AD] at h'; obtain ⟨_,_,_,rfl,_⟩:=h'
   exact ⟨AF.2 ⟨_,[],rfl,h,AN.2 rfl⟩,by simp [Value.cells,Value.oneCell']⟩
  | bl =>
   have h':=h; simp only [AD] at h'; obtain ⟨_,rfl⟩:=h'
   exact ⟨AF.2 ⟨_,[],rfl,h,AN.2 rfl⟩,by simp [Value.cells,Value.oneCell']⟩
  | rs m j =>
   have h':=h; simp only [AD] at h'; obtain ⟨_,rfl,_⟩:=h'
   exact ⟨AF.2 ⟨_,[],rfl,h,AN.2 rfl⟩,by simp [Value.cells,Value.oneCell']⟩
  | ss lo hi n c =>
   have h':=h; simp only [AD] at h'; obtain ⟨_,rfl,_⟩:=h'
   exact ⟨AF.2 ⟨_,[],rfl,h,AN.2 rfl⟩,by simp [Value.cells,Value.oneCell']⟩
  | ro i lo hi z =>
   have h':=h; simp only [AD] at h'; obtain ⟨_,_,_,_,_,_,_,rfl,_⟩:=h'
   exact ⟨AF.2 ⟨_,[],rfl,h,AN.2 rfl⟩,by simp [Value.cells,Value.oneCell']⟩
  | ap i j m =>
   have h':=h; simp only [AD] at h'; obtain ⟨_,_,_,_,_,rfl,_⟩:=h'
   exact ⟨AF.2 ⟨_,[],rfl,h,AN.2 rfl⟩,by simp [Value.cells,Value.oneCell']⟩
  | sy k i =>
   have h':=h; simp only [AD] at h'; obtain ⟨_,_,_,rfl⟩:=h'
   exact ⟨AF.2 ⟨_,[],rfl,h,AN.2 rfl⟩,by simp [Value.cells,Value.oneCell']⟩
def BK:Ob->Option K4
 | .c _ _ p=>p
 | _=>none
def HU:Ob->Bool
 | .c _ s _=>s
 | _=>false
def Vg (fr:Nat×Nat) (tot:Nat):Prop:=fr.1=fr.2∨tot≤fr.1
def FM (ρ:Env) (φ:AY):List (V×V)->List MapEntry->Prop
 | [],l=>l=[]
 | e::es,l=>∃ y ys,l=y::ys∧AD ρ φ e.1 y.key∧AD ρ φ e.2 y.val∧FM ρ φ es ys
def Eh (ρ:Env) (φ:AY) (cs:Cs) (f:Nat->Option Value):Prop :=
 ∀ i v,cs.at i=some v->∃ x,f i=some x∧AD ρ φ v x∧x.oneCell'=true
def F4 (ρ:Env) (φ:AY) (w:World) (o:Ob) (b s tot:Nat):Prop :=
 match o with
 | .c cs _ _=>∃ c e fr,w.heap[b]? = some (.cells c e fr)∧c.size=tot∧s+cs.len≤tot∧Vg fr tot∧Eh ρ φ cs fun i=>c[s+i]?
 | .m es bs clk=>∃ ents,w.heap[b]? = some (.map ents clk)∧FM ρ φ es ents.toList∧ents.toList.map (·.born)=bs
 | .it p since seen c=>∃ bm sm tm,φ p=some (bm,sm,tm)∧s=0∧w.heap[b]? = some (.mapIter (some bm) since seen.reverse.toArray c)
 | .it0=>s=0∧w.heap[b]? = some (.mapIter none 0 #[] 0)
 | .lp f box=>s=0 ∧ ∃ (A:ApC) (fn:FuncId) (tmps:Array Value) (D:Nat),ρ.ap f=some A∧w.heap[b]? = some (.loop { state:=.ready,pending:=none,fn,tmps,params:=#[A.par],assign:=A.asg,body:=A.bod,defers:=D }) ∧
   tmps.size=A.ntm∧AD ρ φ (.ptr box 0) (tmps.getD A.box undef)
theorem LQ {φ φ':AY} (h:AY.le φ φ') {es:List (V×V)}:∀ {l:List MapEntry},FM ρ φ es l->FM ρ φ' es l:=by
 induction es with
 | nil=>exact fun h=>h
 | cons e es ih=>rintro l ⟨y,ys,rfl,h1,h2,h3⟩; exact ⟨y,ys,rfl,Et h h1,Et h h2,ih h3⟩
theorem Fh {φ φ':AY} (h:AY.le φ φ') {cs:Cs} {f:Nat->Option Value} (k:Eh ρ φ cs f):Eh ρ φ' cs f :=
 fun i v hv=>let ⟨x,h1,h2,h3⟩:=k i v hv; ⟨x,h1,Et h h2,h3⟩
theorem DG {φ φ':AY} (h:AY.le φ φ') {w:World} {o:Ob} {b s tot:Nat} (k:F4 ρ φ w o b s tot):F4 ρ φ' w o b s tot:=by
 cases o with
 | c cs sup prev =>
  obtain ⟨c,e,fr,h1,h2,h3,h4,h5⟩:=k
  exact ⟨c,e,fr,h1,h2,h3,h4,Fh h h5⟩
 | m es bs clk =>
  obtain ⟨ents,h1,h2,h3⟩:=k
  exact ⟨ents,h1,LQ h h2,h3⟩
 | it p since seen c =>
  obtain ⟨bm,sm,tm,h1,h2,h3⟩:=k
  exact ⟨bm,sm,tm,h _ _ h1,h2,h3⟩
 | it0=>exact k
 | lp f box =>
  obtain ⟨h0,A,fn,tmps,D,h1,h2,h3,h4⟩:=k
  exact ⟨h0,A,fn,tmps,D,h1,h2,h3,Et h h4⟩
theorem C5 {φ:AY} {w w':World} {o:Ob} {b s tot:Nat} (h:w'.heap[b]? = w.heap[b]?) (k:F4 ρ φ w o b s tot):F4 ρ φ w' o b s tot:=by
 cases o with
 | c cs sup prev=>obtain ⟨c,e,fr,h1,h2⟩:=k; exact ⟨c,e,fr,h.trans h1,h2⟩
 | m es bs clk=>obtain ⟨ents,h1,h2⟩:=k; exact ⟨ents,h.trans h1,h2⟩
 | it p since seen c=>obtain ⟨bm,sm,tm,h1,h2,h3⟩:=k; exact ⟨bm,sm,tm,h1,h2,h.trans h3⟩
 | it0=>exact ⟨k.1,h.trans k.2⟩
 | lp f box=>obtain ⟨h0,A,fn,tmps,D,h1,h2,h3⟩:=k; exact ⟨h0,A,fn,tmps,D,h1,h.trans h2,h3⟩
structure Gam (ρ:Env) (B:Nat) (h:Heap) (n:K4) (φ:AY) (w:World):Prop where
 base:B≤w.heap.size
 dom:∀ p x,φ p=some x->p.toN<n.toN
 blk:∀ p b s tot,φ p=some (b,s,tot)->B≤b∧b<w.heap.size
 obj:∀ p o b s tot,AG p h=some o->φ p=some (b,s,tot)->F4 ρ φ w o b s tot
 sep:∀ p q o o' b s tot s' tot',p≠q->AG p h=some o->AG q h=some o'->φ p=some (b,s,tot)->φ q=some (b,s',tot')->BK o=some q∨BK o'=some p
 sup:∀ p q o o' b s tot s' tot',AG p h=some o->BK o=some q->AG q h=some o'->φ p=some (b,s,tot)->φ q=some (b,s',tot')->HU o'=true
 glob:∀ b c e fr,ρ.gl b=some (c,e,fr)->b<B∧w.heap[b]? = some (.cells c e fr)
structure Fr (h h':Heap) (φ φ':AY) (n n':K4) (w w':World):Prop where
 ext:AY.le φ φ'
 new:∀ p x,φ' p=some x->φ p=some x∨(n.toN≤p.toN∧p.toN<n'.toN)
 nn:n.toN≤n'.toN
 os:w'.os=w.os
 tape:w'.tape=w.tape
 out:w'.output=w.output
 size:w.heap.size≤w'.heap.size
 old:∀ b,b<w.heap.size->(∀ p s tot,φ p=some (b,s,tot)->AG p h=none)->w'.heap[b]? = w.heap[b]?
 fresh:∀ p b s tot,φ' p=some (b,s,tot)->φ p=some (b,s,tot)∨w.heap.size≤b ∨ ∃ q s' tot',φ q=some (b,s',tot')∧AG q h≠none
 dm:∀ p,φ p≠none->AG p h=none->AG p h'=none
theorem Fr.refl (h:Heap) (φ:AY) (n:K4) (w:World):Fr h h φ φ n n w w :=
 ⟨AY.le_refl φ,fun _ _ h=>.inl h,Nat.le_refl _,rfl,rfl,rfl,Nat.le_refl _,fun _ _ _=>rfl,fun _ _ _ _ h=>.inl h,fun _ _ h=>h⟩
theorem Fr.trans {h h1 h2:Heap} {φ φ1 φ2:AY} {n n1 n2:K4} {w w1 w2:World} (a:Fr h h1 φ φ1 n n1 w w1) (c:Fr h1 h2 φ1 φ2 n1 n2 w1 w2):Fr h h2 φ φ2 n n2 w w2 where
 ext:=AY.le_trans a.ext c.ext
 new:=fun p x hx=>by
  rcases c.new p x hx with h' | ⟨h1,h2⟩
  ·rcases a.new p x h' with h' | ⟨h1,h2⟩
   ·exact .inl h'
   ·exact .inr ⟨h1,Nat.lt_of_lt_of_le h2 c.nn⟩
  ·exact .inr ⟨Nat.le_trans a.nn h1,h2⟩
 nn:=Nat.le_trans a.nn c.nn
 os:=c.os.trans a.os
 tape:=c.tape.trans a.tape
 out:=c.out.trans a.out
 size:=Nat.le_trans a.size c.size
 old:=fun b hb hn=>by
  rw [←a.old b hb hn]
  refine c.old b (Nat.lt_of_lt_of_le hb a.size) fun p s tot hp=>?_
  rcases a.fresh p b s tot hp with h' | h' | ⟨q,s',tot',hq,hne⟩
  ·exact a.dm p (by rw [h']; simp) (hn p s tot h')
  ·omega
  ·exact absurd (hn q s' tot' hq) hne
 fresh:=fun p b s tot hp=>by
  rcases c.fresh p b s tot hp with h' | h' | ⟨q,s',tot',hq,hne⟩
  ·exact a.fresh p b s tot h'
  ·exact .inr (.inl (Nat.le_trans a.size h'))
  ·rcases a.fresh q b s' tot' hq with h' | h' | h'
   ·refine .inr (.inr ⟨q,s',tot',h',fun hn=>hne (a.dm q (by rw [h']; simp) hn)⟩)
   ·exact .inr (.inl h')
   ·exact .inr (.inr h')
 dm:=fun p hp hn=>c.dm p (by
  cases hx:φ p with
  | none=>exact absurd hx hp
  | some x=>rw [a.ext p x hx]; simp) (a.dm p hp hn)
theorem Fr.drew {h:Heap} {φ:AY} {n:K4} {w:World}:Fr h h φ φ n n w w.drew :=
 ⟨AY.le_refl φ,fun _ _ h=>.inl h,Nat.le_refl _,rfl,rfl,rfl,Nat.le_refl _,fun _ _ _=>rfl,fun _ _ _ _ h=>.inl h,fun _ _ h=>h⟩
theorem Gam.drew {B:Nat} {h:Heap} {φ:AY} {n:K4} {w:World} (g:Gam ρ B h n φ w):Gam ρ B h n φ w.drew :=
 ⟨g.base,g.dom,g.blk,fun p o b s tot h1 h2=>C5 (w:=w) rfl (g.obj p o b s tot h1 h2),g.sep,g.sup,g.glob⟩
theorem Gam.nx {B:Nat} {h:Heap} {φ:AY} {n n':K4} {w:World} (g:Gam ρ B h n φ w) (hn:n.toN≤n'.toN):Gam ρ B h n' φ w :=
 ⟨g.base,fun p x hx=>Nat.lt_of_lt_of_le (g.dom p x hx) hn,g.blk,g.obj,g.sep,g.sup,g.glob⟩
def DW (φ:AY) (p:K4) (x:Nat×Nat×Nat):AY:=fun q=>if p.beq q then some x else φ q
theorem BL (φ:AY) (p:K4) (x:Nat×Nat×Nat):DW φ p x p=some x:=if_pos (K4.beq_iff.2 rfl)
theorem GK {φ:AY} {p q:K4} {x:Nat×Nat×Nat} (h:p≠q):DW φ p x q=φ q:=if_neg fun e=>h (K4.beq_iff.1 e)
theorem CH {φ:AY} {p:K4} {x:Nat×Nat×Nat} (h:φ p=none):AY.le φ (DW φ p x):=fun q y hy=>by
 rw [GK fun e=>by rw [e,hy] at h; cases h]; exact hy
theorem AS {φ:AY} {p q:K4} {x y:Nat×Nat×Nat} (h:DW φ p x q=some y):(p=q∧x=y)∨(p≠q∧φ q=some y):=by
 by_cases e:p=q
 ·subst e; rw [BL] at h; exact .inl ⟨rfl,by simpa using h⟩
 ·rw [GK e] at h; exact .inr ⟨e,h⟩
theorem Bu {h:Heap} {p q:K4} {o:Option Ob} {x:Ob} (k:AG q (B0 p h o)=some x):(p=q∧o=some x)∨(p≠q∧AG q h=some x):=by
 by_cases e:p=q
 ·subst e; rw [AA] at k; exact .inl ⟨rfl,k⟩
 ·rw [An _ _ e] at k; exact .inr ⟨e,k⟩
theorem Gam.alloc {B:Nat} {h:Heap} {φ:AY} {n n' p:K4} {w:World} (g:Gam ρ B h n φ w) (hp:φ p=none) (hpn:p.toN<n'.toN) (hn:n.toN≤n'.toN)
  (o:Ob) (ho:BK o=none) (O:Obj) (tot:Nat)
  (hok:∀ φ':AY,AY.le φ φ'->∀ w':World,w'.heap[w.heap.size]? = some O->F4 ρ φ' w' o w.heap.size 0 tot) :
  Gam ρ B (B0 p h (some o)) n' (DW φ p (w.heap.size,0,tot)) (w.alloc O) where
 base:=by have:=g.base; rw [World.size_alloc]; omega
 glob:=fun b c e fr hb=>⟨(g.glob b c e fr hb).1,by rw [Go.RowKit.Below.heap_alloc w O b (by have:=(g.glob b c e fr hb).1; have:=g.base; omega)]; exact (g.glob b c e fr hb).2⟩
 dom:=fun q x hx=>by
  rcases AS hx with ⟨rfl,_⟩ | ⟨_,hx⟩
  ·exact hpn
  ·exact Nat.lt_of_lt_of_le (g.dom q x hx) hn
 blk:=fun q b s t hx=>by
  rw [World.size_alloc]
  rcases AS hx with ⟨rfl,e⟩ | ⟨_,hx⟩
  ·simp only [Prod.mk.injEq] at e; have:=g.base; omega
  ·have:=g.blk q b s t hx; omega
 obj:=fun q o' b s t hq hx=>by
  rcases AS hx with ⟨rfl,e⟩ | ⟨hne,hx⟩
  ·rw [AA] at hq
   simp only [Prod.mk.injEq] at e
   obtain ⟨rfl,rfl,rfl⟩:=e
   cases hq
   exact hok _ (CH hp) _ (by show (w.heap.push O)[w.heap.size]? = some O; simp)
  ·rw [An _ _ hne] at hq
   have hb:=(g.blk q b s t hx).2
   refine C5 (w:=w) ?_ (DG (CH hp) (g.obj q o' b s t hq hx))
   exact Go.RowKit.Below.heap_alloc w O b hb
 sep:=fun q r o1 o2 b s t s' t' hne hq hr hx hy=>by
  rcases AS hx with ⟨rfl,e⟩ | ⟨hpq,hx⟩
  ·rcases AS hy with ⟨rfl,_⟩ | ⟨_,hy⟩
   ·exact absurd rfl hne
   ·simp only [Prod.mk.injEq] at e
    have:=(g.blk r b s' t' hy).2; omega
  ·rcases AS hy with ⟨rfl,e⟩ | ⟨hpr,hy⟩
   ·simp only [Prod.mk.injEq] at e
    have:=(g.blk q b s t hx).2; omega
   ·rw [An _ _ hpq] at hq
    rw [An _ _ hpr] at hr
    exact g.sep q r o1 o2 b s t s' t' hne hq hr hx hy
 sup:=fun q r o1 o2 b s t s' t' hq hpr hr hx hy=>by
  rcases AS hx with ⟨rfl,e⟩ | ⟨hpq,hx⟩
  ·rw [AA] at hq; cases hq; rw [ho] at hpr; cases hpr
  ·rcases AS hy with ⟨rfl,e⟩ | ⟨hpr',hy⟩
   ·simp only [Prod.mk.injEq] at e; have:=(g.blk q b s t hx).2; omega
   ·rw [An _ _ hpq] at hq
    rw [An _ _ hpr'] at hr
    exact g.sup q r o1 o2 b s t s' t' hq hpr hr hx hy
theorem Fr.alloc {h:Heap} {φ:AY} {n n' p:K4} {w:World} (hp:φ p=none) (hn:n.toN≤n'.toN) (h1:n.toN≤p.toN) (h2:p.toN<n'.toN)
  (o:Option Ob) (O:Obj) (tot:Nat):Fr h (B0 p h o) φ (DW φ p (w.heap.size,0,tot)) n n' w (w.alloc O) where
 ext:=CH hp
 new:=fun q x hx=>by
  rcases AS hx with ⟨rfl,_⟩ | ⟨_,hx⟩
  ·exact .inr ⟨h1,h2⟩
  ·exact .inl hx
 nn:=hn
 os:=rfl
 tape:=rfl
 out:=rfl
 size:=by rw [World.size_alloc]; omega
 old:=fun b hb _=>Go.RowKit.Below.heap_alloc w O b hb
 fresh:=fun q b s t hx=>by
  rcases AS hx with ⟨rfl,e⟩ | ⟨_,hx⟩
  ·simp only [Prod.mk.injEq] at e; exact .inr (.inl (by omega))
  ·exact .inl hx
 dm:=fun q hq hn=>by
  have hne:p≠q:=fun e=>hq (e ▸ hp)
  rw [An _ _ hne]; exact hn
def FY (prev:Option K4) (h:Heap):Heap:=match prev with | none=>h | some q=>B0 q h none
theorem JB (prev:Option K4) (h:Heap) (κ:Heap->R):Lz prev h κ=κ (FY prev h):=by
 cases prev with
 | none=>rfl
 | some q=>exact Bx q h none κ
theorem CX {prev:Option K4} {h:Heap} {q:K4} {x:Ob} (k:AG q (FY prev h)=some x):prev≠some q∧AG q h=some x:=by
 cases prev with
 | none=>exact ⟨by simp,k⟩
 | some r =>
  rcases Bu k with ⟨_,h⟩ | ⟨hne,h⟩
  ·cases h
  ·exact ⟨fun e=>hne (by simpa using e),h⟩
theorem PB {prev:Option K4} {h:Heap} {q:K4} (k:AG q h=none):AG q (FY prev h)=none:=by
 cases hx:AG q (FY prev h) with
 | none=>rfl
 | some x=>rw [(CX hx).2] at k; cases k
def CK (w:World) (b:Nat) (O:Obj):World:={ w with heap:=w.heap.setIfInBounds b O }
theorem Dk {w:World} {b:Nat} {O:Obj} (h:b<w.heap.size):(CK w b O).heap[b]? = some O:=by
 simp [CK,h]
theorem GJ {w:World} {b k:Nat} {O:Obj} (h:b≠k):(CK w b O).heap[k]? = w.heap[k]?:=by
 simp [CK,Array.getElem?_setIfInBounds_ne h]
theorem DC {w:World} {b:Nat} {O:Obj}:(CK w b O).heap.size=w.heap.size:=by simp [CK]
theorem Gam.write {B:Nat} {h:Heap} {φ:AY} {n p:K4} {w:World} {o o':Ob} {b s tot:Nat} {O:Obj} (g:Gam ρ B h n φ w) (hp:AG p h=some o) (hφ:φ p=some (b,s,tot))
  (hs:HU o=false) (ho':BK o'=none) (hok:F4 ρ φ (CK w b O) o' b s tot) :
  Gam ρ B (B0 p (FY (BK o) h) (some o')) n φ (CK w b O) where
 base:=by rw [DC]; exact g.base
 glob:=fun k c e fr hk=>⟨(g.glob k c e fr hk).1,by rw [GJ (by have:=(g.glob k c e fr hk).1; have:=(g.blk p b s tot hφ).1; omega)]; exact (g.glob k c e fr hk).2⟩
 dom:=g.dom
 blk:=fun q b s t hx=>by rw [DC]; exact g.blk q b s t hx
 obj:=fun q o1 b1 s1 t1 hq hx=>by
  rcases Bu hq with ⟨rfl,e⟩ | ⟨hne,hq⟩
  ·rw [hφ] at hx; simp only [Option.some.injEq,Prod.mk.injEq] at hx e
   obtain ⟨rfl,rfl,rfl⟩:=hx; subst e; exact hok
  ·obtain ⟨hk,hq⟩:=CX hq
   have hb:b≠b1:=fun e=>by
    subst e
    rcases g.sep p q o o1 b s tot s1 t1 hne hp hq hφ hx with h' | h'
    ·exact hk h'
    ·have:=g.sup q p o1 o b s1 t1 s tot hq h' hp hx hφ
     rw [this] at hs; cases hs
   exact C5 (GJ hb) (g.obj q o1 b1 s1 t1 hq hx)
 sep:=fun q r o1 o2 b1 s1 t1 s2 t2 hne hq hr hx hy=>by
  rcases Bu hq with ⟨rfl,e⟩ | ⟨hpq,hq⟩
  ·rcases Bu hr with ⟨rfl,e'⟩ | ⟨hpr,hr⟩
   ·exact absurd rfl hne
   ·obtain ⟨hk,hr⟩:=CX hr
    rcases g.sep p r o o2 b1 s1 t1 s2 t2 hne hp hr hx hy with h' | h'
    ·exact absurd h' hk
    ·exact .inr h'
  ·obtain ⟨hk,hq⟩:=CX hq
   rcases Bu hr with ⟨rfl,e'⟩ | ⟨hpr,hr⟩
   ·rcases g.sep q p o1 o b1 s1 t1 s2 t2 hne hq hp hx hy with h' | h'
    ·exact .inl h'
    ·exact absurd h' hk
   ·obtain ⟨_,hr⟩:=CX hr
    exact g.sep q r o1 o2 b1 s1 t1 s2 t2 hne hq hr hx hy
 sup:=fun q r o1 o2 b1 s1 t1 s2 t2 hq hpr hr hx hy=>by
  rcases Bu hq with ⟨rfl,e⟩ | ⟨hpq,hq⟩
  ·simp only [Option.some.injEq] at e; subst e; rw [ho'] at hpr; cases hpr
  ·obtain ⟨hk,hq⟩:=CX hq
   rcases Bu hr with ⟨rfl,e⟩ | ⟨_,hr⟩
   ·have:=g.sup q p o1 o b1 s1 t1 s2 t2 hq hpr hp hx hy
    rw [this] at hs; cases hs
   ·exact g.sup q r o1 o2 b1 s1 t1 s2 t2 hq hpr (CX hr).2 hx hy
theorem Fr.write {h:Heap} {φ:AY} {n p:K4} {w:World} {o:Ob} {o':Option Ob} {b s tot:Nat} {O:Obj} (hp:AG p h=some o) (hφ:φ p=some (b,s,tot)) :
  Fr h (B0 p (FY (BK o) h) o') φ φ n n w (CK w b O) where
 ext:=AY.le_refl φ
 new:=fun _ _ h=>.inl h
 nn:=Nat.le_refl _
 os:=rfl
 tape:=rfl
 out:=rfl
 size:=by rw [DC]; exact Nat.le_refl _
 old:=fun k hk hn=>GJ fun e=>by
  subst e
  have:=hn p s tot hφ; rw [hp] at this; cases this
 fresh:=fun _ _ _ _ h=>.inl h
 dm:=fun q hq hn=>by
  by_cases e:p=q
  ·subst e; rw [hp] at hn; cases hn
  ·rw [An _ _ e]; exact PB hn
end
end Go.Ev

namespace Go.Ev
set_option linter.unusedVariables false
theorem kb {k j:IntKind} {t:R} {s:String} (h:(br (Bk k j) t (.fail s)).good):k=j∧br (Bk k j) t (.fail s)=t:=by
 obtain ⟨h1,h2⟩:=Ak h
 exact ⟨Bd.1 h1,h2⟩
theorem BN {a b:Nat} (h:Nat.ble (Nat.succ a) b=true):a<b:=Am.1 h
def Dv (op:BinOp) (x y:Value) (v:V):Prop :=
 ∃ r:Value,(∀ (P:Program) (t:TypeId) (w:World),(Go.binOp op t x y).run P w = .ok r w) ∧ ∀ (ρ:Env) (φ:AY),AD ρ φ v r
theorem E8 (k:IntKind) (r:Nat) (hr:r<Mk k) (ρ:Env) (φ:AY):AD ρ φ (.int k r) (.int k (BE k r)):=by
 simp [AD,hr]
theorem BB (b:Bool) (ρ:Env) (φ:AY):AD ρ φ (.bool b) (.bool b):=by simp only [AD]
theorem T9 (k:IntKind) (a b:Nat):k.wrap (BE k a+BE k b)=BE k ((a+b) % Mk k):=by
 apply FN
 rw [Int.add_emod,DX,DX,←Int.natCast_add,←Int.natCast_emod,Nat.add_mod]; simp
theorem Nz (k:IntKind) (a b:Nat) (hb:b<Mk k):k.wrap (BE k a - BE k b)=BE k ((a+(Mk k - b)) % Mk k):=by
 apply FN
 unfold BE
 cases k <;> simp only [Mk,Hk] at * <;> (repeat' split) <;> omega
theorem SZ (k:IntKind) (a b:Nat):k.wrap (BE k a*BE k b)=BE k (a*b % Mk k):=by
 apply FN
 rw [Int.mul_emod,DX,DX,←Int.natCast_mul,←Int.natCast_emod,Nat.mul_mod]; simp
theorem M9 {k j:IntKind} {a b:Nat} {κ:R} (h:(OD k a j b κ).good):k=j∧a<Hk k∧b<Hk k∧OD k a j b κ=κ:=by
 obtain ⟨rfl,e1⟩:=kb h
 have e1:OD k a k b κ=_:=e1
 rw [e1] at h
 obtain ⟨h2,e2⟩:=Ak h
 rw [e2] at h
 obtain ⟨h3,e3⟩:=Ak h
 exact ⟨rfl,BN h2,BN h3,e1.trans (e2.trans e3)⟩
theorem bv (k:IntKind) (a:Nat) (ha:a<Mk k):(BitVec.ofInt k.bits (BE k a)).toNat=a:=by
 rw [BitVec.toNat_ofInt]
 have h:=DX k a
 have e:((2 ^ k.bits:Nat):Int)=(Mk k:Int):=by rw [Eg]
 rw [e,h,Nat.mod_eq_of_lt ha]; simp
theorem Ez (k:IntKind) (r:Nat) (hr:r<Mk k):k.wrap (r:Int)=BE k r :=
 FN (by rw [←Int.natCast_emod,Nat.mod_eq_of_lt hr])
theorem RT (a b m:Nat) (h:a<m):Nat.land a b<m:=Nat.lt_of_le_of_lt Nat.and_le_left h
theorem Xm (k:IntKind) (a b:Nat) (ha:a<Mk k) (hb:b<Mk k):Nat.lor a b<Mk k:=by
 rw [Eg] at *; exact Nat.or_lt_two_pow ha hb
theorem SE (k:IntKind) (a b:Nat) (ha:a<Mk k) (hb:b<Mk k):Nat.xor a b<Mk k:=by
 rw [Eg] at *; exact Nat.xor_lt_two_pow ha hb
theorem Fm (op:BinOp) (k:IntKind) (a:Nat) (j:IntKind) (b:Nat) (κ:V->R) (ha:a<Mk k) (hb:b<Mk j) (h:(Le op k a j b κ).good) :
  ∃ v,Le op k a j b κ=κ v∧Dv op (.int k (BE k a)) (.int j (BE j b)) v:=by
 cases op with
 | add =>
  obtain ⟨rfl,e⟩:=kb (show R.good (TB k a j b κ) from h)
  refine ⟨_,(show TB k a k b κ=_ from e).trans (Af _ _),.int k (BE k ((a+b) % Mk k)),fun P t w=>?_,E8 k _ (Nat.mod_lt _ (E3 k))⟩
  simp only [binOp_add,Op.intArith,T9,Sem.run_pure]
 | sub =>
  obtain ⟨rfl,e⟩:=kb (show R.good (Nb k a j b κ) from h)
  refine ⟨_,(show Nb k a k b κ=_ from e).trans (Af _ _),.int k (BE k ((a+(Mk k - b)) % Mk k)),fun P t w=>?_,E8 k _ (Nat.mod_lt _ (E3 k))⟩
  simp only [binOp_sub,Op.intArith,Nz _ _ _ hb,Sem.run_pure]
 | mul =>
  obtain ⟨rfl,e⟩:=kb (show R.good (Uc k a j b κ) from h)
  refine ⟨_,(show Uc k a k b κ=_ from e).trans (Af _ _),.int k (BE k (a*b % Mk k)),fun P t w=>?_,E8 k _ (Nat.mod_lt _ (E3 k))⟩
  simp only [binOp_mul,Op.intArith,SZ,Sem.run_pure]
 | quo =>
  obtain ⟨rfl,h1,h2,e⟩:=M9 (show R.good (R2 k a j b κ) from h)
  have e:R2 k a k b κ=_:=e
  have h:(R2 k a k b κ).good:=h
  rw [e] at h
  obtain ⟨h3,e3⟩:=Ak h
  have h3:=Am.1 h3
  refine ⟨_,e.trans (e3.trans (Af _ _)),.int k (BE k (a / b)),fun P t w=>?_,E8 k _ (Nat.lt_of_le_of_lt (Nat.div_le_self a b) ha)⟩
  have hd:a / b<Hk k:=Nat.lt_of_le_of_lt (Nat.div_le_self a b) h1
  rw [binOp_quo,Au h1,Au h2,Au hd]
  have hw:k.wrap ((a / b:Nat):Int)=((a / b:Nat):Int):=by
   rw [Ez k _ (Nat.lt_of_lt_of_le hd (Ga k)),Au hd]
  simp only [Op.intDiv]
  rw [if_neg (by omega)]
  simp only [Sem.run_pure]
  rw [←hw,Int.ofNat_tdiv]
 | rem =>
  obtain ⟨rfl,h1,h2,e⟩:=M9 (show R.good (RE k a j b κ) from h)
  have e:RE k a k b κ=_:=e
  have h:(RE k a k b κ).good:=h
  rw [e] at h
  obtain ⟨h3,e3⟩:=Ak h
  have h3:=Am.1 h3
  have hd:a % b<Hk k:=Nat.lt_of_le_of_lt (Nat.mod_le a b) h1
  refine ⟨_,e.trans (e3.trans (Af _ _)),.int k (BE k (a % b)),fun P t w=>?_,E8 k _ (Nat.lt_of_lt_of_le hd (Ga k))⟩
  rw [binOp_rem,Au h1,Au h2,Au hd]
  simp only [Op.intDiv]
  rw [if_neg (by omega)]
  simp only [Sem.run_pure]
  rw [←Int.ofNat_tmod]
 | and =>
  obtain ⟨rfl,e⟩:=kb (show R.good (Sd k a j b κ) from h)
  have hl:Nat.land a b<Mk k:=RT a b _ ha
  refine ⟨_,(show Sd k a k b κ=_ from e).trans (Af _ _),.int k (BE k (Nat.land a b)),fun P t w=>?_,E8 k _ hl⟩
  simp only [binOp_and,Op.intBits,BitVec.toNat_and,bv _ _ ha,bv _ _ hb,Sem.run_pure]
  rw [Ez k (a &&& b) hl]; rfl
 | or =>
  obtain ⟨rfl,e⟩:=kb (show R.good (Xf k a j b κ) from h)
  have hl:Nat.lor a b<Mk k:=Xm k a b ha hb
  refine ⟨_,(show Xf k a k b κ=_ from e).trans (Af _ _),.int k (BE k (Nat.lor a b)),fun P t w=>?_,E8 k _ hl⟩
  simp only [binOp_or,Op.intBits,BitVec.toNat_or,bv _ _ ha,bv _ _ hb,Sem.run_pure]
  rw [Ez k (a ||| b) hl]; rfl
 | xor =>
  obtain ⟨rfl,e⟩:=kb (show R.good (Tq k a j b κ) from h)
  have hl:Nat.xor a b<Mk k:=SE k a b ha hb
  refine ⟨_,(show Tq k a k b κ=_ from e).trans (Af _ _),.int k (BE k (Nat.xor a b)),fun P t w=>?_,E8 k _ hl⟩
  simp only [binOp_xor,Op.intBits,BitVec.toNat_xor,bv _ _ ha,bv _ _ hb,Sem.run_pure]
  rw [Ez k (a ^^^ b) hl]; rfl
 | shl =>
  obtain ⟨h1,e1⟩:=Ak (show R.good (SX k a j b κ) from h)
  have e1:SX k a j b κ=_:=e1
  have h1:=BN h1
  have hr:∀ P t w,(Go.binOp .shl t (.int k (BE k a)) (.int j (BE j b))).run P w = .ok (.int k (k.wrap (BE k a*2 ^ min b k.bits))) w:=fun P t w=>by
   rw [binOp_shl,Op.shift,Au h1,if_neg (by omega)]; simp
  by_cases hb64:b≤64
  ·refine ⟨_,e1.trans ((by rw [Am.2 hb64,AI]:br (Nat.ble b 64) _ _=_).trans (Af _ _)),.int k (BE k ((a <<< b) % Mk k)),fun P t w=>?_,E8 k _ (Nat.mod_lt _ (E3 k))⟩
   rw [hr]
   congr 2
   apply FN
   rw [Nat.shiftLeft_eq]
   by_cases hbb:b≤k.bits
   ·have e2:((2:Int) ^ b)=((2 ^ b:Nat):Int):=by simp
    rw [Nat.min_eq_left hbb,Int.mul_emod,DX,e2,←Int.natCast_emod,←Int.natCast_mul,←Int.natCast_emod,←Nat.mul_mod]
   ·rw [Nat.min_eq_right (by omega),Int.mul_emod]
    have h0:((2:Int) ^ k.bits) % (Mk k:Int)=0:=by rw [Eg]; simp
    have h0':a*2 ^ b % Mk k=0:=by
     rw [Eg,show b=k.bits+(b - k.bits) by omega,Nat.pow_add,←Nat.mul_assoc,Nat.mul_right_comm]; exact Nat.mul_mod_left _ _
    rw [h0,h0']; simp
  ·refine ⟨_,e1.trans (by rw [Bj (by omega),AM]:br (Nat.ble b 64) _ _=_),.int k (BE k 0),fun P t w=>?_,E8 k _ (E3 k)⟩
   rw [hr]
   congr 2
   apply FN
   have hbits:k.bits≤64:=by cases k <;> simp [IntKind.bits]
   rw [Nat.min_eq_right (by omega),Int.mul_emod]
   have h0:((2:Int) ^ k.bits) % (Mk k:Int)=0:=by rw [Eg]; simp
   rw [h0]; simp
 | shr =>
  obtain ⟨h1,e1⟩:=Ak (show R.good (QP k a j b κ) from h)
  have e1:QP k a j b κ=_:=e1
  have h1:=BN h1
  have h:(QP k a j b κ).good:=h
  rw [e1] at h
  obtain ⟨h2,e2⟩:=Ak h
  have h2:=BN h2
  have hr:∀ P t w,(Go.binOp .shr t (.int k (BE k a)) (.int j (BE j b))).run P w = .ok (.int k ((a:Int).fdiv (2 ^ min b k.bits))) w:=fun P t w=>by
   rw [binOp_shr,Op.shift,Au h1,Au h2,if_neg (by omega)]; simp
  have hf:∀ n:Nat,(a:Int).fdiv (2 ^ n)=((a / 2 ^ n:Nat):Int):=fun n=>by
   rw [Int.fdiv_eq_ediv_of_nonneg _ (by exact Int.le_of_lt (Int.pow_pos (by omega)))]; simp
  have hlt:∀ n:Nat,a / 2 ^ n<Hk k:=fun n=>Nat.lt_of_le_of_lt (Nat.div_le_self _ _) h2
  by_cases hb64:b≤64
  ·refine ⟨_,e1.trans (e2.trans ((by rw [Am.2 hb64,AI]:br (Nat.ble b 64) _ _=_).trans (Af _ _))),.int k (BE k (a >>> b)),fun P t w=>?_,E8 k _ ?_⟩
   ·rw [hr,hf,Nat.shiftRight_eq_div_pow,Au (hlt b)]
    congr 3
    by_cases hbb:b≤k.bits
    ·rw [Nat.min_eq_left hbb]
    ·rw [Nat.min_eq_right (by omega)]
     have ha':a<2 ^ k.bits:=by rw [←Eg]; exact ha
     rw [Nat.div_eq_of_lt ha',Nat.div_eq_of_lt (Nat.lt_of_lt_of_le ha' (Nat.pow_le_pow_right (by omega) (by omega)))]
   ·show a >>> b<Mk k
    rw [Nat.shiftRight_eq_div_pow]; exact Nat.lt_of_lt_of_le (hlt b) (Ga k)
  ·refine ⟨_,e1.trans (e2.trans (by rw [Bj (by omega),AM]:br (Nat.ble b 64) _ _=_)),.int k (BE k 0),fun P t w=>?_,E8 k _ (E3 k)⟩
   have hbits:k.bits≤64:=by cases k <;> simp [IntKind.bits]
   have ha':a<2 ^ k.bits:=by rw [←Eg]; exact ha
   rw [hr,hf,Nat.min_eq_right (by omega),Nat.div_eq_of_lt ha',Au (by have:=Hk k; cases k <;> simp [Hk])]
 | andNot =>
  obtain ⟨rfl,e⟩:=kb (show R.good (Ny k a j b κ) from h)
  have hl:Nat.land a (Mk k - 1 - b)<Mk k:=RT a _ _ ha
  refine ⟨_,(show Ny k a k b κ=_ from e).trans (Af _ _),.int k (BE k (Nat.land a (Mk k - 1 - b))),fun P t w=>?_,E8 k _ hl⟩
  simp only [binOp_andNot,Op.intBits,BitVec.toNat_and,BitVec.toNat_not,bv _ _ ha,bv _ _ hb,Sem.run_pure,←Eg]
  rw [Ez k (a &&& (Mk k - 1 - b)) hl]; rfl
 | eql =>
  obtain ⟨rfl,e⟩:=kb (show R.good (XR k a j b κ) from h)
  refine ⟨_,(show XR k a k b κ=_ from e).trans (BY _ _),.bool (Nat.beq a b),fun P t w=>?_,BB _⟩
  rw [binOp_eql,Sem.run_pure]
  congr 2
  rw [Bool.eq_iff_iff,beq_iff_eq]
  exact ⟨fun h=>by have:=Jv ha hb h; subst this; exact Nat.beq_refl _,fun h=>by rw [Nat.eq_of_beq_eq_true h]⟩
 | neq =>
  obtain ⟨rfl,e⟩:=kb (show R.good (XW k a j b κ) from h)
  have e:XW k a k b κ=_:=e
  by_cases hab:a=b
  ·subst hab
   refine ⟨_,e.trans (by rw [Nat.beq_refl,AI]:br (Nat.beq a a) _ _=_),.bool false,fun P t w=>?_,BB _⟩
   rw [binOp_neq,Sem.run_pure]; simp
  ·have hf:Nat.beq a b=false:=Bool.eq_false_iff.2 fun h=>hab (Nat.eq_of_beq_eq_true h)
   refine ⟨_,e.trans (by rw [hf,AM]:br (Nat.beq a b) _ _=_),.bool true,fun P t w=>?_,BB _⟩
   rw [binOp_neq,Sem.run_pure]
   congr 2
   rw [bne_iff_ne]
   exact fun h=>hab (Jv ha hb h)
 | lss =>
  obtain ⟨rfl,e⟩:=kb (show R.good (Y0 k a j b κ) from h)
  refine ⟨_,(show Y0 k a k b κ=_ from e).trans (BY _ _),.bool (Ht k a b),fun P t w=>?_,BB _⟩
  rw [binOp_lss,Sem.run_pure,Ef ha hb]
 | gtr =>
  obtain ⟨rfl,e⟩:=kb (show R.good (XN k a j b κ) from h)
  refine ⟨_,(show XN k a k b κ=_ from e).trans (BY _ _),.bool (Ht k b a),fun P t w=>?_,BB _⟩
  rw [binOp_gtr,Sem.run_pure,Ef hb ha]
 | leq =>
  obtain ⟨rfl,e⟩:=kb (show R.good (XU k a j b κ) from h)
  have e:XU k a k b κ=_:=e
  cases hlt:Ht k b a with
  | true =>
   refine ⟨_,e.trans (by rw [hlt,AI]),.bool false,fun P t w=>?_,BB _⟩
   rw [Ef hb ha] at hlt
   rw [binOp_leq,Sem.run_pure]
   congr 2
   exact decide_eq_false (by have:=of_decide_eq_true hlt; omega)
  | false =>
   refine ⟨_,e.trans (by rw [hlt,AM]),.bool true,fun P t w=>?_,BB _⟩
   rw [Ef hb ha] at hlt
   rw [binOp_leq,Sem.run_pure]
   congr 2
   exact decide_eq_true (by have:=of_decide_eq_false hlt; omega)
 | geq =>
  obtain ⟨rfl,e⟩:=kb (show R.good (XX k a j b κ) from h)
  have e:XX k a k b κ=_:=e
  cases hlt:Ht k a b with
  | true =>
   refine ⟨_,e.trans (by rw [hlt,AI]),.bool false,fun P t w=>?_,BB _⟩
   rw [Ef ha hb] at hlt
   rw [binOp_geq,Sem.run_pure]
   congr 2
   exact decide_eq_false (by have:=of_decide_eq_true hlt; omega)
  | false =>
   refine ⟨_,e.trans (by rw [hlt,AM]),.bool true,fun P t w=>?_,BB _⟩
   rw [Ef ha hb] at hlt
   rw [binOp_geq,Sem.run_pure]
   congr 2
   exact decide_eq_true (by have:=of_decide_eq_false hlt; omega)
theorem Qt (s:ByteArray) (ρ:Env) (φ:AY):AD ρ φ (.str s.size (AZ s.data.toList)) (.string s):=by
 simp only [AD]; exact ⟨s,rfl,rfl,rfl⟩
theorem BD (s:ByteArray):s.data.toList.length=s.size:=by simp
theorem Kx (x y:ByteArray):Jl x.size (AZ x.data.toList) y.size (AZ y.data.toList)=(x.toList == y.toList):=by
 rw [ByteArray.toList_eq,ByteArray.toList_eq,Bool.eq_iff_iff,beq_iff_eq]
 simp only [Jl,Bool.and_eq_true]
 constructor
 ·rintro ⟨h1,h2⟩
  exact Kk (by rw [BD,BD]; exact Nat.eq_of_beq_eq_true h1) (Nat.eq_of_beq_eq_true h2)
 ·intro h
  refine ⟨?_,by rw [h]; exact Nat.beq_refl _⟩
  rw [←BD,←BD,h]; exact Nat.beq_refl _
theorem SF (x y:List UInt8):OS x.length (AZ x) y.length (AZ y)=Op.bytesLess x y:=by
 induction x generalizing y with
 | nil=>cases y with
  | nil=>rfl
  | cons b y=>rfl
 | cons a x ih =>
  cases y with
  | nil=>rfl
  | cons b y =>
   show br (Nat.beq (lo (AZ (a::x)) 1) (lo (AZ (b::y)) 1)) (OS x.length (sh (AZ (a::x)) 1) y.length (sh (AZ (b::y)) 1)) (Nat.ble (Nat.succ (lo (AZ (a::x)) 1)) (lo (AZ (b::y)) 1))=_
   have ha:=a.toNat_lt; have hb:=b.toNat_lt
   have l1:lo (AZ (a::x)) 1=a.toNat:=by rw [Dw]; simp only [AZ]; omega
   have l2:lo (AZ (b::y)) 1=b.toNat:=by rw [Dw]; simp only [AZ]; omega
   have s1:sh (AZ (a::x)) 1=AZ x:=by rw [ED]; simp only [AZ]; omega
   have s2:sh (AZ (b::y)) 1=AZ y:=by rw [ED]; simp only [AZ]; omega
   rw [l1,l2,s1,s2,ih,Op.bytesLess]
   by_cases hab:a=b
   ·subst hab
    rw [Nat.beq_refl,AI]; simp
   ·have hne:a.toNat≠b.toNat:=fun h=>hab (UInt8.toNat_inj.1 h)
    rw [Bool.eq_false_iff.2 fun h=>hne (Nat.eq_of_beq_eq_true h),AM,Hd]
    have:(a == b)=false:=by simpa using hab
    rw [this]; simp [UInt8.lt_iff_toNat_lt]; rfl
theorem QY (op:BinOp) (x y:ByteArray) (κ:V->R) (h:(Jm op x.size (AZ x.data.toList) y.size (AZ y.data.toList) κ).good) :
  ∃ v,Jm op x.size (AZ x.data.toList) y.size (AZ y.data.toList) κ=κ v∧Dv op (.string x) (.string y) v:=by
 have hlt:=fun (x y:ByteArray)=>(by
  have:=SF x.data.toList y.data.toList
  rw [BD,BD,←ByteArray.toList_eq,←ByteArray.toList_eq] at this
  rw [←ByteArray.toList_eq,←ByteArray.toList_eq]; exact this:OS x.size (AZ x.data.toList) y.size (AZ y.data.toList)=Op.bytesLess x.toList y.toList)
 have hrun:∀ P t w,(Go.binOp op t (.string x) (.string y)).run P w=(Op.stringOp op x y).run P w:=fun P t w=>by cases op <;> rfl
 cases op with
 | add =>
  have e:Jm .add x.size (AZ x.data.toList) y.size (AZ y.data.toList) κ=_:=Af (Nat.add x.size y.size) (fun l=>br (Nat.ble l 1000000000) (Ah (Nat.add (AZ x.data.toList) (up (AZ y.data.toList) x.size)) fun r=>κ (.str l r)) (.fail ""))
  rw [e] at h
  obtain ⟨h1,e1⟩:=Ak h
  have h1:x.size+y.size≤1000000000:=Am.1 h1
  refine ⟨_,e.trans (e1.trans (Af _ _)),.string (x++y),fun P t w=>?_,fun ρ φ=>?_⟩
  ·rw [hrun,Op.stringOp]
   rw [if_neg (by rw [IntKind.max_i64]; omega),Sem.run_pure]
  ·have:=Qt (x++y) ρ φ
   have e2:(x++y).data.toList=x.data.toList++y.data.toList:=by simp
   rw [e2,Jb,BD,ByteArray.size_append] at this
   rw [Sr]; exact this
 | eql =>
  refine ⟨_,(BY (Jl x.size (AZ x.data.toList) y.size (AZ y.data.toList)) (fun r=>κ (.bool r)):Jm .eql x.size (AZ x.data.toList) y.size (AZ y.data.toList) κ=_),.bool (x.toList == y.toList),fun P t w=>by rw [hrun]; rfl,fun ρ φ=>?_⟩
  rw [Kx]; exact BB _ ρ φ
 | neq =>
  have e:Jm .neq x.size (AZ x.data.toList) y.size (AZ y.data.toList) κ=br (x.toList == y.toList) (κ (.bool false)) (κ (.bool true)):=by rw [←Kx]; rfl
  refine ⟨.bool !(x.toList == y.toList),?_,.bool !(x.toList == y.toList),fun P t w=>by rw [hrun]; rfl,fun ρ φ=>BB _ ρ φ⟩
  rw [e]; cases (x.toList == y.toList) <;> rfl
 | lss =>
  refine ⟨_,(BY (OS x.size (AZ x.data.toList) y.size (AZ y.data.toList)) (fun r=>κ (.bool r)):Jm .lss x.size (AZ x.data.toList) y.size (AZ y.data.toList) κ=_),.bool (Op.bytesLess x.toList y.toList),fun P t w=>by rw [hrun]; rfl,fun ρ φ=>?_⟩
  rw [hlt]; exact BB _ ρ φ
 | geq =>
  have e:Jm .geq x.size (AZ x.data.toList) y.size (AZ y.data.toList) κ=br (Op.bytesLess x.toList y.toList) (κ (.bool false)) (κ (.bool true)):=by rw [←hlt]; rfl
  refine ⟨.bool !(Op.bytesLess x.toList y.toList),?_,.bool !(Op.bytesLess x.toList y.toList),fun P t w=>by rw [hrun]; rfl,fun ρ φ=>BB _ ρ φ⟩
  rw [e]; cases (Op.bytesLess x.toList y.toList) <;> rfl
 | leq=>exact h.elim
 | gtr=>exact h.elim
 | _=>exact h.elim
end Go.Ev

namespace Go.Ev
set_option linter.unusedVariables false
section
variable {P:Program} {ρ:Env} {φ:AY} {w:World}
theorem CQ (b off i:Nat):(⟨b,off,none⟩:Addr).add i=⟨b,off+i,none⟩:=by
 unfold Addr.add; split
 ·simp_all
 ·rfl
theorem GQ {b i:Nat} {c:Array Value} {e:TypeId} {fr:Nat×Nat} {x:Value} (h:w.heap[b]? = some (.cells c e fr)) (hx:c[i]? = some x):w.cell? ⟨b,i,none⟩=some x:=by
 simp [World.cell?,h,hx]
theorem Rx {b i:Nat} {c:Array Value} {e:TypeId} {fr:Nat×Nat} (h:w.heap[b]? = some (.cells c e fr)) (hf:Vg fr c.size) (hi:i<c.size):w.frozen? ⟨b,i,none⟩=false:=by
 obtain ⟨lo,hi'⟩:=fr
 simp only [World.frozen?,h,Bool.and_eq_false_iff,decide_eq_false_iff_not]
 rcases hf with hf | hf <;> simp at hf <;> omega
theorem PO {b:Nat} {O:Obj} (h:w.heap[b]? = some O):CK w b O=w:=by
 obtain ⟨hb,e⟩:=Array.getElem?_eq_some_iff.1 h
 unfold CK
 cases w with
 | mk heap tape drawn os output =>
  simp only [World.mk.injEq,and_true]
  apply Array.ext_getElem?
  intro k
  rw [Array.getElem?_setIfInBounds]
  by_cases hk:b=k
  ·subst hk; rw [if_pos rfl,if_pos hb]; exact h.symm
  ·rw [if_neg hk]
theorem RJ {b:Nat} {O O':Obj}:CK (CK w b O) b O'=CK w b O':=by
 simp [CK]
theorem Nj {b i:Nat} {c:Array Value} {e:TypeId} {fr:Nat×Nat} {v:Value} (h:w.heap[b]? = some (.cells c e fr)) :
  w.setCell ⟨b,i,none⟩ v=CK w b (.cells (c.setIfInBounds i v) e fr):=by
 obtain ⟨hb,e'⟩:=Array.getElem?_eq_some_iff.1 h
 unfold World.setCell CK
 cases w with
 | mk heap tape drawn os output =>
  congr 1
  apply Array.ext_getElem?
  intro k
  rw [Array.getElem?_modify,Array.getElem?_setIfInBounds]
  by_cases hk:b=k
  ·subst hk; simp [hb,e']
  ·simp [hk]
theorem Gr {b off:Nat} {c:Array Value} {e:TypeId} {fr:Nat×Nat} (h:w.heap[b]? = some (.cells c e fr)) :
  w.freeze { block:=b,off:=off } 1=CK w b (.cells c e (if fr.1 == fr.2 then (off,off+1) else (min fr.1 off,max fr.2 (off+1)))):=by
 obtain ⟨hb,e'⟩:=Array.getElem?_eq_some_iff.1 h
 unfold World.freeze CK
 cases w with
 | mk heap tape drawn os output =>
  simp only [Nat.one_ne_zero,if_false]
  congr 1
  apply Array.ext_getElem?
  intro k
  rw [Array.getElem?_modify,Array.getElem?_setIfInBounds]
  by_cases hk:b=k
  ·subst hk; simp only at e'; simp [hb,e']
  ·simp [hk]
theorem Kw {O O':Obj}:CK (w.alloc O) w.heap.size O'=w.alloc O':=by
 unfold CK World.alloc
 congr 1
 apply Array.ext_getElem?
 intro k
 rw [Array.getElem?_setIfInBounds]
 by_cases hk:w.heap.size=k
 ·subst hk; simp
 ·simp [hk,Array.getElem?_push,Ne.symm hk]
theorem HL {O:Obj}:(w.alloc O).heap[w.heap.size]? = some O:=by show (w.heap.push O)[w.heap.size]? = _; simp
theorem Gs (vs:List Value):∀ (w:World) (b off i:Nat) (c:Array Value) (e:TypeId) (fr:Nat×Nat),w.heap[b]? = some (.cells c e fr)->off+i+vs.length≤c.size->Vg fr c.size →
  (∀ v∈vs,v.oneCell'=true)->∃ c':Array Value,c'.size=c.size∧(∀ j,(j<off+i∨off+i+vs.length≤j)->c'[j]? = c[j]?)∧(∀ (j:Nat) (v:Value),vs[j]? = some v->c'[off+i+j]? = some v) ∧
   (storeCells ⟨b,off,none⟩ vs i).run P w = .ok () (CK w b (.cells c' e fr)):=by
 induction vs with
 | nil=>intro w b off i c e fr h _ _ _; exact ⟨c,rfl,fun _ _=>rfl,fun j v hv=>by simp at hv,by rw [PO h]; rfl⟩
 | cons v vs ih =>
  intro w b off i c e fr h hl hf h1
  simp only [List.length_cons] at hl
  have hi:off+i<c.size:=by omega
  have hst:(store ((⟨b,off,none⟩:Addr).add i) v).run P w = .ok () (CK w b (.cells (c.setIfInBounds (off+i) v) e fr)):=by
   rw [CQ,run_store P w _ v _ (h1 v (by simp)),GQ h (Array.getElem?_eq_getElem hi)]
   simp only [Rx h hf hi,Bool.false_eq_true,if_false]
   rw [Nj h]
  have hb:b<w.heap.size:=(Array.getElem?_eq_some_iff.1 h).1
  obtain ⟨c',g1,g2,g3,g4⟩:=ih (CK w b (.cells (c.setIfInBounds (off+i) v) e fr)) b off (i+1) (c.setIfInBounds (off+i) v) e fr (Dk hb)
   (by simp; omega) (by simpa using hf) (fun x hx=>h1 x (by simp [hx]))
  refine ⟨c',by simpa using g1,fun j hj=>?_,fun j u hu=>?_,?_⟩
  ·rw [g2 j (by simp only [List.length_cons] at hj; omega)]
   rw [Array.getElem?_setIfInBounds,if_neg (by simp only [List.length_cons] at hj; omega)]
  ·cases j with
   | zero =>
    simp at hu; subst hu
    rw [g2 (off+i+0) (by omega),Array.getElem?_setIfInBounds]; simp [hi]
   | succ j =>
    have:=g3 j u (by simpa using hu)
    rw [←this]; congr 1; omega
  ·rw [storeCells]
   simp only [Sem.run_bind,hst,Result.andThen_ok,g4,RJ]
theorem Fx {b off:Nat} {c:Array Value} {e:TypeId} {fr:Nat×Nat} (vs:List Value) (h:w.heap[b]? = some (.cells c e fr)) (hv:∀ (j:Nat) (v:Value),vs[j]? = some v->c[off+j]? = some v) :
  (loadCells ⟨b,off,none⟩ vs.length).run P w = .ok vs.toArray w :=
 run_loadCells_list w _ vs fun j v hj=>by rw [CQ]; exact GQ h (hv j v hj)
theorem I9 {cs:Cs} {f:Nat->Option Value} (h:Eh ρ φ cs f):∃ vs:List Value,vs.length=cs.len∧(∀ (j:Nat) (v:Value),vs[j]? = some v->f j=some v)∧(∀ v∈vs,v.oneCell'=true) ∧
  (∀ l:List V,l.length=cs.len->(∀ i:Nat,l[i]? = cs.at i)->Bo ρ φ l vs):=by
 have key:∀ m,m≤cs.len->∃ vs:List Value,vs.length=m ∧ ∀ (j:Nat) (v:Value),vs[j]? = some v->f j=some v∧v.oneCell'=true ∧ ∀ u,cs.at j=some u->AD ρ φ u v:=by
  intro m
  induction m with
  | zero=>exact fun _=>⟨[],rfl,fun j v hv=>by simp at hv⟩
  | succ m ih =>
   intro hm
   obtain ⟨vs,h1,h2⟩:=ih (by omega)
   obtain ⟨u,hu⟩:=Cs.at_lt (cs:=cs) (i:=m) (by omega)
   obtain ⟨x,hx,hr,ho⟩:=h m u hu
   refine ⟨vs++[x],by simp [h1],fun j v hv=>?_⟩
   by_cases hj:j<m
   ·rw [List.getElem?_append_left (by omega)] at hv; exact h2 j v hv
   ·rw [List.getElem?_append_right (by omega),h1] at hv
    have hjm:j=m:=by
     rcases Nat.eq_or_lt_of_le (Nat.le_of_not_lt hj) with e | e
     ·exact e.symm
     ·rw [List.getElem?_eq_none (by simp; omega)] at hv; cases hv
    subst hjm
    simp at hv; subst hv
    exact ⟨hx,ho,fun u' hu'=>by rw [hu] at hu'; cases hu'; exact hr⟩
 obtain ⟨vs,h1,h2⟩:=key cs.len (Nat.le_refl _)
 refine ⟨vs,h1,fun j v hv=>(h2 j v hv).1,fun v hv=>?_,fun l hl hla=>?_⟩
 ·obtain ⟨j,hj,rfl⟩:=List.getElem_of_mem hv
  exact (h2 j _ (List.getElem?_eq_getElem hj)).2.1
 ·refine C7.2 ⟨by omega,fun i u hu=>?_⟩
  have hi:i<vs.length:=by
   rcases Nat.lt_or_ge i vs.length with h' | h'
   ·exact h'
   ·rw [List.getElem?_eq_none (by omega)] at hu; cases hu
  exact ⟨vs[i],List.getElem?_eq_getElem hi,(h2 i _ (List.getElem?_eq_getElem hi)).2.2 u (by rw [←hla i]; exact hu)⟩
theorem Gu {cs y:Cs} {off m:Nat} {f:Nat->Option Value} (h:Eh ρ φ cs f) (hl:y.len=m) (ha:∀ i,i<m->y.at i=cs.at (off+i)):Eh ρ φ y fun i=>f (off+i):=fun i v hv=>by
 have hi:=Cs.lt_of_at hv
 rw [ha i (by omega)] at hv
 exact h (off+i) v hv
end
structure TR (ρ:Env) (N:Nat) (φ:AY) (t:Regs) (a:Act):Prop where
 size:a.tmps.size=N
 defers:a.defers=[]
 at_:∀ s p,s<N->K2.ofN s=some p->AD ρ φ (Bc p t) (a.tmps.getD s undef)
theorem TR.mono {ρ:Env} {N:Nat} {φ φ':AY} {t:Regs} {a:Act} (h:TR ρ N φ t a) (hle:AY.le φ φ'):TR ρ N φ' t a :=
 ⟨h.size,h.defers,fun s p h1 h2=>Et hle (h.at_ s p h1 h2)⟩
section
variable (P:Program) (ρ:Env) (B N:Nat)
def Gq (o:Oper) (t:Regs) (h:Heap) (n:K4) (v:V) (h1:Heap) (n1:K4):Prop :=
 ∀ (φ:AY) (a:Act) (w:World),TR ρ N φ t a->Gam ρ B h n φ w->∀ (K:Act->World->Prop) (Q:Exit->Act->World->Prop),
  (∀ φ' x w',Fr h h1 φ φ' n n1 w w'->Gam ρ B h1 n1 φ' w'->AD ρ φ' v x->K (a.put o.dst x) w')->o.wp P a w K Q
def Cv (o:Oper) (f:KV->R) (t:Regs) (h:Heap) (n:K4):Prop :=
 ∀ κ:KV,(f κ).good->∃ v h1 n1,f κ=κ v h1 n1∧Gq P ρ B N o t h n v h1 n1
def Sk (o:Oper) (t:Regs) (h:Heap) (n:K4) (v:V):Prop :=
 ∀ φ a w,TR ρ N φ t a->Gam ρ B h n φ w->∃ x,(execOp a.eval o).run P w = .ok (.value x) w∧AD ρ φ v x
def Bi (o:Oper) (f:KV->R) (t:Regs) (h:Heap) (n:K4):Prop :=
 ∀ κ:KV,(f κ).good->∃ v,f κ=κ v h n∧Sk P ρ B N o t h n v
end
section
variable {P:Program} {ρ:Env} {B N:Nat}
theorem Gq.value {o:Oper} {t:Regs} {h h1:Heap} {n n1:K4} {v:V}
  (H:∀ φ a w,TR ρ N φ t a->Gam ρ B h n φ w->∃ φ' x w',(execOp a.eval o).run P w = .ok (.value x) w'∧Fr h h1 φ φ' n n1 w w'∧Gam ρ B h1 n1 φ' w'∧AD ρ φ' v x):Gq P ρ B N o t h n v h1 n1:=by
 intro φ a w ht hg K Q hK
 obtain ⟨φ',x,w',e,h1,h2,h3⟩:=H φ a w ht hg
 unfold Oper.wp
 rw [e]
 exact hK φ' x w' h1 h2 h3
theorem Gq.skip {o:Oper} {t:Regs} {h h1:Heap} {n n1:K4}
  (H:∀ φ a w,TR ρ N φ t a->Gam ρ B h n φ w->∃ φ' w',(execOp a.eval o).run P w = .ok .skip w'∧Fr h h1 φ φ' n n1 w w'∧Gam ρ B h1 n1 φ' w'):Gq P ρ B N o t h n Cb h1 n1:=by
 intro φ a w ht hg K Q hK
 obtain ⟨φ',w',e,h1,h2⟩:=H φ a w ht hg
 unfold Oper.wp
 rw [e]
 exact hK φ' undef w' h1 h2 (by simp only [Cb,AD,undef]; exact ⟨#[],rfl,by simp only [Bo]⟩)
theorem Gq.pure {o:Oper} {t:Regs} {h:Heap} {n:K4} {v:V}
  (H:∀ φ a w,TR ρ N φ t a->Gam ρ B h n φ w->∃ x,(execOp a.eval o).run P w = .ok (.value x) w∧AD ρ φ v x):Gq P ρ B N o t h n v h n :=
 .value fun φ a w ht hg=>let ⟨x,e,hr⟩:=H φ a w ht hg; ⟨φ,x,w,e,.refl h φ n w,hg,hr⟩
theorem Bi.sound {o:Oper} {f:KV->R} {t:Regs} {h:Heap} {n:K4} (H:Bi P ρ B N o f t h n):Cv P ρ B N o f t h n:=fun κ hg =>
 let ⟨v,e,hp⟩:=H κ hg
 ⟨v,h,n,e,.pure hp⟩
theorem IY {v:Value} {c:V} (h:Js v=some c) (φ:AY):AD ρ φ c v∧v.oneCell'=true:=by
 unfold Js at h
 split at h
 ·cases h; exact ⟨by simp only [AD],rfl⟩
 ·rename_i k n
  split at h
  ·split at h
   ·rename_i m hm
    cases h
    have:=BN hm
    refine ⟨?_,rfl⟩
    simp only [AD]
    exact ⟨Nat.lt_of_lt_of_le this (Ga k),by rw [Au this]; rfl⟩
   ·cases h
  ·split at h
   ·rename_i m hm
    cases h
    have:=Am.1 hm
    simp only [Nat.add_eq] at this
    refine ⟨?_,rfl⟩
    simp only [AD]
    have hH:=E3 k
    refine ⟨by show Mk k - (m+1)<Mk k; omega,?_⟩
    rw [show Nat.sub (Mk k) (Nat.succ m)=Mk k - (m+1) from rfl,Cr (by omega)]
    congr 1
    omega
   ·cases h
 all_goals first
  | (cases h; exact ⟨Qt _ ρ φ,rfl⟩)
  | (cases h; exact ⟨by simp only [AD,C1],rfl⟩)
  | (simp at h)
theorem Ej:∀ {vs:List Value} {l:List V},GY vs=some l->∀ φ:AY,Bo ρ φ l vs ∧ ∀ v∈vs,v.oneCell'=true
 | [],l,h,φ=>by simp only [GY,Option.some.injEq] at h; subst h; exact ⟨AN.2 rfl,by simp⟩
 | v::vs,l,h,φ=>by
  simp only [GY] at h
  split at h
  ·rename_i x xs hx hxs
   cases h
   obtain ⟨h1,h2⟩:=Ej hxs φ
   obtain ⟨h3,h4⟩:=IY (ρ:=ρ) hx φ
   exact ⟨AF.2 ⟨v,vs,rfl,h3,h1⟩,by simpa using ⟨h4,h2⟩⟩
  ·cases h
theorem KA {v:Value} {c:V} (h:Io v=some c) (φ:AY):AD ρ φ c v:=by
 unfold Io at h
 split at h
 ·rename_i cs
  cases hl:GY cs.toList with
  | none=>rw [hl] at h; cases h
  | some l =>
   rw [hl] at h; cases h
   simp only [AD]
   exact ⟨cs,rfl,(Ej hl φ).1,(Ej (ρ:=ρ) hl φ).2⟩
 ·rename_i cs
  split at h
  ·cases h
   rename_i he
   simp only [AD]
   exact ⟨cs,rfl,AN.2 (by simpa using he)⟩
  ·cases h
 ·rename_i f first caps
  split at h
  ·cases h
   rename_i he
   simp at he
   simp only [AD]
   exact ⟨#[],by rw [he.1,he.2],by simp only [Bo]⟩
  ·cases h
 ·exact (IY h φ).1
theorem Aj {o:Operand} {x:Opd} (h:AT N o=some x) {φ:AY} {t:Regs} {a:Act} (ht:TR ρ N φ t a):AD ρ φ (ev x t) (a.eval o):=by
 unfold AT at h
 split at h
 ·rename_i s
  unfold FT at h
  split at h
  ·rename_i hs
   cases hk:K2.ofN s with
   | none=>rw [hk] at h; cases h
   | some p=>rw [hk] at h; cases h; exact ht.at_ s p hs hk
  ·cases h
 ·rename_i v
  cases hc:Io v with
  | none=>rw [hc] at h; cases h
  | some c=>rw [hc] at h; cases h; exact KA hc φ
 ·cases h
  simp only [ev,Act.eval,AD]
  exact ⟨#[],rfl,by simp only [Bo]⟩
 ·cases h
theorem Ei:∀ {os:List Operand} {xs:List Opd},Bw N os=some xs->∀ {φ:AY} {t:Regs} {a:Act},TR ρ N φ t a->Bo ρ φ (xs.map (ev · t)) (os.map a.eval)
 | [],xs,h,φ,t,a,ht=>by simp only [Bw,Option.some.injEq] at h; subst h; exact AN.2 rfl
 | o::os,xs,h,φ,t,a,ht=>by
  simp only [Bw] at h
  split at h
  ·rename_i x ys hx hys
   cases h
   exact AF.2 ⟨_,_,rfl,Aj hx ht,Ei hys ht⟩
  ·cases h
theorem B9 {t:TypeId} {s:Nat} (h:Bs P t=some s) (w:World):(sizeOf t).run P w = .ok s w:=by
 unfold Bs at h
 cases hi:P.info? t with
 | none=>rw [hi] at h; cases h
 | some i=>rw [hi] at h; cases h; simp [sizeOf,typeInfo,hi]
theorem Cx {t:TypeId} {b:Bool} (h:KQ P t=some b) (w:World):(isAgg t).run P w = .ok b w:=by
 unfold KQ at h
 cases hi:P.underlying t with
 | none=>rw [hi] at h; cases h
 | some d =>
  rw [hi] at h; cases h
  unfold isAgg
  cases d <;> simp [run_underlying hi]
theorem D4 {t:TypeId} {z:Value} (h:(P.info? t).bind (·.zero)=some z) (w:World):(zeroValue t).run P w = .ok z w:=by
 cases hi:P.info? t with
 | none=>rw [hi] at h; cases h
 | some i =>
  rw [hi] at h
  simp only [Option.bind_some] at h
  simp [zeroValue,typeInfo,hi,h]
end
end Go.Ev

namespace Go.Ev
set_option linter.unusedVariables false
section
variable {P:Program} {ρ:Env} {φ:AY} {w:World}
theorem C8 {k:IntKind} {r:Nat} {x:Value} (h:AD ρ φ (.int k r) x):r<Mk k∧x = .int k (BE k r):=by simpa only [AD] using h
theorem Ds {b:Bool} {x:Value} (h:AD ρ φ (.bool b) x):x = .bool b:=by simpa only [AD] using h
theorem Cc {n c:Nat} {x:Value} (h:AD ρ φ (.str n c) x):∃ s:ByteArray,x = .string s∧s.size=n∧AZ s.data.toList=c:=by simpa only [AD] using h
theorem DT {l:List V} {x:Value} (h:AD ρ φ (.agg l) x):∃ cs:Array Value,x = .agg cs∧Bo ρ φ l cs.toList ∧ ∀ y∈cs.toList,y.oneCell'=true:=by simpa only [AD] using h
theorem Q3 {l:List V} {x:Value} (h:AD ρ φ (.tup l) x):∃ cs:Array Value,x = .tuple cs∧Bo ρ φ l cs.toList:=by simpa only [AD] using h
theorem BM {u:Nl} {x:Value} (h:AD ρ φ (.nil u) x):x=C1 u:=by simpa only [AD] using h
theorem CG {p:K4} {off:Nat} {x:Value} (h:AD ρ φ (.ptr p off) x):∃ b s tot,φ p=some (b,s,tot)∧x = .pointer (some ⟨b,s+off,none⟩):=by simpa only [AD] using h
theorem EP {p:K4} {x:Value} (h:AD ρ φ (.map p) x):∃ b s tot,φ p=some (b,s,tot)∧x = .map (some b):=by simpa only [AD] using h
theorem Ix {f:Nat} {l:List V} {x:Value} (h:AD ρ φ (.fn f l) x):∃ cs:Array Value,x = .func (.func f) #[] cs∧Bo ρ φ l cs.toList:=by simpa only [AD] using h
theorem CB {p:K4} {off len cap:Nat} {ex:Bool} {esz:Nat} {x:Value} (h:AD ρ φ (.sl p off len cap ex esz) x) :
  ∃ b s tot o cap',φ p=some (b,s,tot)∧x = .slice (some ⟨b,o,none⟩) len cap'∧len≤cap∧cap≤cap'∧(ex=true->cap'=cap)∧(0<cap'->o=s+off∧o+cap'*esz≤tot):=by simpa only [AD] using h
def TW (k:Sc) (X Y:Value) (r:Bool):Prop :=
 match k with
 | .i=>∃ kd a b,X = .int kd a∧Y = .int kd b∧r=(a == b)
 | .s=>∃ s u,X = .string s∧Y = .string u∧r=(s.toList == u.toList)
 | .b=>∃ a b,X = .bool a∧Y = .bool b∧r=(a == b)
theorem GL {k:Sc} {x y:V} {κ:Bool->R} (h:(L5 k x y κ).good) :
  ∃ r,(∀ κ',L5 k x y κ'=κ' r) ∧ ∀ X Y,AD ρ φ x X->AD ρ φ y Y->TW k X Y r:=by
 cases k with
 | i =>
  obtain ⟨kd,a,rfl,e⟩:=Cf (show R.good (FZ x _) from h)
  have h:R.good (FZ y _):=h
  obtain ⟨j,b,rfl,e'⟩:=Cf h
  have h:R.good (br (Bk kd j) (CE (Nat.beq a b) κ) (.fail "")):=h
  obtain ⟨rfl,_⟩:=kb h
  have hk:Bk kd kd=true:=Bd.2 rfl
  refine ⟨Nat.beq a b,fun κ'=>?_,fun X Y hx hy=>?_⟩
  ·show br (Bk kd kd) (CE (Nat.beq a b) κ') (.fail "")=_
   rw [hk,AI,BY]
  ·obtain ⟨ha,rfl⟩:=C8 hx
   obtain ⟨hb,rfl⟩:=C8 hy
   refine ⟨kd,_,_,rfl,rfl,?_⟩
   rw [Bool.eq_iff_iff,beq_iff_eq]
   exact ⟨fun h=>by rw [Nat.eq_of_beq_eq_true h],fun h=>by have:=Jv ha hb h; subst this; exact Nat.beq_refl _⟩
 | s =>
  obtain ⟨n,c,rfl,e⟩:=BR (show R.good (Bf x _) from h)
  have h:R.good (Bf y _):=h
  obtain ⟨m,d,rfl,e'⟩:=BR h
  refine ⟨Jl n c m d,fun κ'=>BY _ _,fun X Y hx hy=>?_⟩
  obtain ⟨s,rfl,rfl,rfl⟩:=Cc hx
  obtain ⟨u,rfl,rfl,rfl⟩:=Cc hy
  exact ⟨s,u,rfl,rfl,Kx s u⟩
 | b =>
  obtain ⟨b,rfl,e⟩:=Ey (show R.good (OF x _) from h)
  have h:R.good (OF y _):=h
  obtain ⟨c,rfl,e'⟩:=Ey h
  refine ⟨b == c,fun κ'=>by cases b <;> cases c <;> rfl,fun X Y hx hy=>?_⟩
  exact ⟨b,c,Ds hx,Ds hy,rfl⟩
theorem Gw {k:Sc} {t:TypeId} (hk:OI P t=some k) {X Y:Value} {r:Bool} (h:TW k X Y r) (d:Nat):(Op.equalIn (d+1) t X Y).run P w = .ok r w:=by
 unfold OI at hk
 split at hk
 ·cases hk
  rename_i kd hu
  obtain ⟨kd',a,b,rfl,rfl,rfl⟩:=h
  simp [Op.equalIn,run_underlying hu]
 ·cases hk
  rename_i hu
  obtain ⟨s,u,rfl,rfl,rfl⟩:=h
  simp [Op.equalIn,run_underlying hu,beq_toListBytes]
 ·cases hk
  rename_i hu
  obtain ⟨s,u,rfl,rfl,rfl⟩:=h
  simp [Op.equalIn,run_underlying hu]
 ·cases hk
theorem S4 {k:Sc} {t:TypeId} (hk:OI P t=some k):(isAgg t).run P w = .ok false w:=by
 unfold OI at hk
 split at hk
 ·rename_i hu; simp [isAgg,run_underlying hu]
 ·rename_i hu; simp [isAgg,run_underlying hu]
 ·rename_i hu; simp [isAgg,run_underlying hu]
 ·cases hk
theorem G9 {k:Sc} {t:TypeId} (hk:OI P t=some k) {cs:Array Value} {off:Nat} {v:Value} (h:cs[off]? = some v):(part t cs off).run P w = .ok v w:=by
 simp [part,S4 hk,h]
theorem MI:∀ {fs:List Field} {offs:List (Nat×Sc)},Gt P fs=some offs->∀ {a b:List V} {κ:Bool->R},(IM offs a b κ).good →
  ∃ r,(∀ κ',IM offs a b κ'=κ' r) ∧ ∀ (xs ys:Array Value) (d:Nat) (w:World),Bo ρ φ a xs.toList->Bo ρ φ b ys.toList->(Op.eqFields (d+1) xs ys fs).run P w = .ok r w
 | [],offs,ho,a,b,κ,h=>by
  simp only [Gt,Option.some.injEq] at ho; subst ho
  exact ⟨true,fun _=>rfl,fun xs ys d w _ _=>rfl⟩
 | f::fs,offs,ho,a,b,κ,h=>by
  simp only [Gt] at ho
  split at ho
  ·rename_i hn
   split at ho
   ·rename_i k r hk hr
    cases ho
    obtain ⟨u,hu,e1⟩:=Ek (show R.good (E2 f.offset a _) from h)
    have h:R.good (E2 f.offset a _):=h
    rw [e1] at h
    obtain ⟨v,hv,e2⟩:=Ek h
    rw [e2] at h
    obtain ⟨q,e3,hq⟩:=GL (ρ:=ρ) (φ:=φ) h
    rw [e3] at h
    have unf:∀ κ',IM ((f.offset,k)::r) a b κ'=br q (IM r a b κ') (κ' false):=fun κ'=>by
     show E2 f.offset a (fun u=>E2 f.offset b fun v=>L5 k u v fun q=>br q (IM r a b κ') (κ' false))=_
     have n1:∀ (l:List V) (i:Nat) (x:V) (κ:V->R),l[i]? = some x->E2 i l κ=κ x:=fun l i=>by
      induction i generalizing l with
      | zero=>intro x κ hx; cases l with
       | nil=>simp at hx
       | cons y l=>simp at hx; subst hx; rfl
      | succ i ih=>intro x κ hx; cases l with
       | nil=>simp at hx
       | cons y l=>exact ih l x κ (by simpa using hx)
     rw [n1 _ _ _ _ hu,n1 _ _ _ _ hv,e3]
    have hrun:∀ (xs ys:Array Value) (d:Nat) (w:World),Bo ρ φ a xs.toList->Bo ρ φ b ys.toList →
      (Op.eqFields (d+1) xs ys (f::fs)).run P w=if q then (Op.eqFields (d+1) xs ys fs).run P w else .ok false w:=fun xs ys d w hxs hys=>by
     obtain ⟨X,hX,hrX⟩:=(C7.1 hxs).2 _ _ hu
     obtain ⟨Y,hY,hrY⟩:=(C7.1 hys).2 _ _ hv
     have:=hq X Y hrX hrY
     simp only [Op.eqFields,hn,ne_eq,not_false_eq_true,if_true,Sem.run_bind,G9 hk (show xs[f.offset]? = some X by simpa using hX),
      G9 hk (show ys[f.offset]? = some Y by simpa using hY),Result.andThen_ok,Gw hk this]
     cases q <;> simp
    cases q with
    | true =>
     have h:(IM r a b κ).good:=h
     obtain ⟨r',g1,g2⟩:=MI hr h
     exact ⟨r',fun κ'=>(unf κ').trans (g1 κ'),fun xs ys d w hxs hys=>(hrun xs ys d w hxs hys).trans (g2 xs ys d w hxs hys)⟩
    | false=>exact ⟨false,fun κ'=>unf κ',fun xs ys d w hxs hys=>hrun xs ys d w hxs hys⟩
   ·cases ho
  ·cases ho
theorem FJ {u:Nl} {v:V} {κn κo:R} (h:(FV u v κn κo).good) :
  (v = .nil u ∧ ∀ a b:R,FV u v a b=a)∨((∀ a b:R,FV u v a b=b) ∧ ∀ X,AD ρ φ v X->match u with
   | .ptr=>∃ a,X = .pointer (some a) | .sl=>∃ a n c,X = .slice (some a) n c | .map=>∃ b,X = .map (some b) | .fn=>∃ f a c,X = .func f a c | .iface=>False):=by
 cases v with
 | nil w' =>
  left
  have h:R.good (br (Nat.beq w'.ix u.ix) κn (.fail "")):=h
  obtain ⟨h1,_⟩:=Ak h
  have:w'=u:=by cases w' <;> cases u <;> first | rfl | exact absurd h1 (by decide)
  subst this
  exact ⟨rfl,fun a b=>by cases w' <;> rfl⟩
 | ptr p o =>
  right
  cases u <;> first | exact h.elim | skip
  exact ⟨fun a b=>rfl,fun X hX=>by obtain ⟨_,_,_,_,rfl⟩:=CG hX; exact ⟨_,rfl⟩⟩
 | sl p o l c e z =>
  right
  cases u <;> first | exact h.elim | skip
  exact ⟨fun a b=>rfl,fun X hX=>by obtain ⟨_,_,_,_,_,_,rfl,_⟩:=CB hX; exact ⟨_,_,_,rfl⟩⟩
 | map p =>
  right
  cases u <;> first | exact h.elim | skip
  exact ⟨fun a b=>rfl,fun X hX=>by obtain ⟨_,_,_,_,rfl⟩:=EP hX; exact ⟨_,rfl⟩⟩
 | fn f l =>
  right
  cases u <;> first | exact h.elim | skip
  exact ⟨fun a b=>rfl,fun X hX=>by obtain ⟨_,rfl,_⟩:=Ix hX; exact ⟨_,_,_,rfl⟩⟩
 | _=>exact h.elim
def Xp (P:Program) (u:Nl) (t:TypeId):Prop :=
 match u with
 | .ptr=>∃ e s,P.underlying t=some (.pointer e)∧Bs P e=some (s+1)
 | .sl=>∃ e,P.underlying t=some (.slice e)
 | .map=>∃ k e,P.underlying t=some (.map k e)
 | .fn=>∃ a b c,P.underlying t=some (.func a b c)
 | .iface=>False
theorem GC {u:Nl} {t:TypeId} (ht:Xp P u t) {x y:V} {κ:Bool->R} (h:(Jj u x y κ).good) :
  ∃ r,(∀ κ',Jj u x y κ'=κ' r) ∧ ∀ X Y d w,AD ρ φ x X->AD ρ φ y Y->(Op.equalIn (d+1) t X Y).run P w = .ok r w:=by
 rcases FJ (ρ:=ρ) (φ:=φ) (show R.good (FV u x _ _) from h) with ⟨rfl,e1⟩ | ⟨e1,hx⟩
 ·have h:R.good (FV u (.nil u) (FV u y (κ true) (κ false)) _):=h
  rw [e1] at h
  rcases FJ (ρ:=ρ) (φ:=φ) h with ⟨rfl,e2⟩ | ⟨e2,hy⟩
  ·refine ⟨true,fun κ'=>by unfold Jj; rw [e1,e1],fun X Y d w hX hY=>?_⟩
   rw [BM hX,BM hY]
   cases u with
   | ptr=>obtain ⟨e,s,hu,hs⟩:=ht; simp [Op.equalIn,run_underlying hu,C1]
   | sl=>obtain ⟨e,hu⟩:=ht; simp [Op.equalIn,run_underlying hu,C1]
   | map=>obtain ⟨k,e,hu⟩:=ht; simp [Op.equalIn,run_underlying hu,C1]
   | fn=>obtain ⟨a,b,c,hu⟩:=ht; simp [Op.equalIn,run_underlying hu,C1]
   | iface=>exact ht.elim
  ·refine ⟨false,fun κ'=>by unfold Jj; rw [e1,e2],fun X Y d w hX hY=>?_⟩
   rw [BM hX]
   have hy:=hy Y hY
   cases u with
   | ptr=>obtain ⟨e,s,hu,hs⟩:=ht; obtain ⟨a,rfl⟩:=hy; simp [Op.equalIn,run_underlying hu,C1]
   | sl=>obtain ⟨e,hu⟩:=ht; obtain ⟨a,n,c,rfl⟩:=hy; simp [Op.equalIn,run_underlying hu,C1]
   | map=>obtain ⟨k,e,hu⟩:=ht; obtain ⟨a,rfl⟩:=hy; simp [Op.equalIn,run_underlying hu,C1]
   | fn=>obtain ⟨a,b,c,hu⟩:=ht; obtain ⟨f,n,c,rfl⟩:=hy; simp [Op.equalIn,run_underlying hu,C1]
   | iface=>exact ht.elim
 ·have h:R.good (FV u x _ (FV u y (κ false) (Iw x fun p o=>Iw y fun q o'=>br (K4.beq p q) (CE (Nat.beq o o') κ) (.fail "")))):=h
  rw [e1] at h
  rcases FJ (ρ:=ρ) (φ:=φ) h with ⟨rfl,e2⟩ | ⟨e2,hy⟩
  ·refine ⟨false,fun κ'=>by unfold Jj; rw [e1,e2],fun X Y d w hX hY=>?_⟩
   rw [BM hY]
   have hx:=hx X hX
   cases u with
   | ptr=>obtain ⟨e,s,hu,hs⟩:=ht; obtain ⟨a,rfl⟩:=hx; simp [Op.equalIn,run_underlying hu,C1]
   | sl=>obtain ⟨e,hu⟩:=ht; obtain ⟨a,n,c,rfl⟩:=hx; simp [Op.equalIn,run_underlying hu,C1]
   | map=>obtain ⟨k,e,hu⟩:=ht; obtain ⟨a,rfl⟩:=hx; simp [Op.equalIn,run_underlying hu,C1]
   | fn=>obtain ⟨a,b,c,hu⟩:=ht; obtain ⟨f,n,c,rfl⟩:=hx; simp [Op.equalIn,run_underlying hu,C1]
   | iface=>exact ht.elim
  ·rw [e2] at h
   obtain ⟨p,o,rfl,e3⟩:=CL h
   rw [e3] at h
   obtain ⟨q,o',rfl,e4⟩:=CL h
   rw [e4] at h
   obtain ⟨h5,e5⟩:=Ak h
   have:=K4.beq_iff.1 h5
   subst this
   refine ⟨Nat.beq o o',fun κ'=>by unfold Jj; rw [e1,e2]; show br (K4.beq p p) _ _=_; rw [h5,AI,BY],fun X Y d w hX hY=>?_⟩
   have hx:=hx X hX
   obtain ⟨b,s,tot,hp,rfl⟩:=CG hX
   obtain ⟨b',s',tot',hp',rfl⟩:=CG hY
   rw [hp] at hp'; cases hp'
   cases u with
   | ptr =>
    obtain ⟨e,sz,hu,hs⟩:=ht
    simp only [Op.equalIn,Sem.run_bind,run_underlying hu,Result.andThen_ok,B9 hs,ne_eq,Nat.add_eq_zero_iff,Nat.one_ne_zero,and_false,not_false_eq_true,if_true,sameAddr,beq_self_eq_true]
    simp only [Sem.run_pure]
    congr 1
    rw [Bool.eq_iff_iff,beq_iff_eq]
    constructor
    ·intro h; simp at h; rw [h]; exact Nat.beq_refl _
    ·intro h; rw [Nat.eq_of_beq_eq_true h]
   | sl=>obtain ⟨a,n,c,h⟩:=hx; cases h
   | map=>obtain ⟨a,h⟩:=hx; cases h
   | fn=>obtain ⟨f,n,c,h⟩:=hx; cases h
   | iface=>exact ht.elim
end
end Go.Ev

namespace Go.Ev
set_option linter.unusedVariables false
section
variable {P:Program} {ρ:Env} {φ:AY} {w:World}
theorem NM {t:TypeId} {fs:Array Field} (h:P.underlying t=some (.struct fs)):P.underlying t=some (.struct (P.fieldsOf t)):=by
 unfold Program.fieldsOf; rw [h]
theorem Mh {t:TypeId} {fs:Array Field} {offs:List (Nat×Sc)} (ht:P.underlying t=some (.struct fs)) (hs:P.stoodInHeld t=false) (ho:Gt P fs.toList=some offs)
  {x y:V} {κ:Bool->R} (h:(KX (.st offs) x y κ).good) :
  ∃ r,(∀ κ',KX (.st offs) x y κ'=κ' r) ∧ ∀ X Y d w,AD ρ φ x X->AD ρ φ y Y->(Op.equalIn (d+2) t X Y).run P w = .ok r w ∧ ∃ a b,X = .agg a∧Y = .agg b:=by
 obtain ⟨a,rfl,e⟩:=Cq (show R.good (asAgg x _) from h)
 obtain ⟨b,rfl,e'⟩:=Cq (show R.good (asAgg y _) from h)
 obtain ⟨r,g1,g2⟩:=MI (ρ:=ρ) (φ:=φ) ho (show R.good (IM offs a b κ) from h)
 refine ⟨r,fun κ'=>g1 κ',fun X Y d w hX hY=>?_⟩
 obtain ⟨xs,rfl,hx,_⟩:=DT hX
 obtain ⟨ys,rfl,hy,_⟩:=DT hY
 refine ⟨?_,xs,ys,rfl,rfl⟩
 have hf:P.fieldsOf t=fs:=by unfold Program.fieldsOf; rw [ht]
 rw [run_equalIn_struct w (d+1) t xs ys (NM ht) hs,hf]
 exact g2 xs ys d w hx hy
theorem J9 {t:TypeId} {pl:Plan} (hp:KT P t=some pl) {x y:V} {κ:Bool->R} (h:(KX pl x y κ).good) :
  ∃ r,(∀ κ',KX pl x y κ'=κ' r) ∧ ∀ X Y w,AD ρ φ x X->AD ρ φ y Y->(Op.equal t X Y).run P w = .ok r w:=by
 unfold KT at hp
 split at hp
 ·cases hp
  rename_i hu
  obtain ⟨r,g1,g2⟩:=GL (ρ:=ρ) (φ:=φ) (show R.good (L5 .b x y κ) from h)
  exact ⟨r,fun κ'=>g1 κ',fun X Y w hX hY=>Gw (by unfold OI; rw [hu]) (g2 X Y hX hY) 9999⟩
 ·rename_i fs hu
  split at hp
  ·cases hp
  ·rename_i hs
   cases ho:Gt P fs.toList with
   | none=>rw [ho] at hp; cases hp
   | some offs =>
    rw [ho] at hp; cases hp
    obtain ⟨r,g1,g2⟩:=Mh (ρ:=ρ) (φ:=φ) hu (by simpa using hs) ho h
    exact ⟨r,g1,fun X Y w hX hY=>(g2 X Y 9998 w hX hY).1⟩
 ·rename_i e hu
  split at hp
  ·rename_i s hs
   cases hp
   obtain ⟨r,g1,g2⟩:=GC (P:=P) (ρ:=ρ) (φ:=φ) (u:=.ptr) (t:=t) ⟨e,s,hu,hs⟩ (show R.good (Jj .ptr x y κ) from h)
   exact ⟨r,fun κ'=>g1 κ',fun X Y w hX hY=>g2 X Y 9999 w hX hY⟩
  ·cases hp
 ·rename_i e hu
  cases hp
  obtain ⟨r,g1,g2⟩:=GC (P:=P) (ρ:=ρ) (φ:=φ) (u:=.sl) (t:=t) ⟨e,hu⟩ (show R.good (Jj .sl x y κ) from h)
  exact ⟨r,fun κ'=>g1 κ',fun X Y w hX hY=>g2 X Y 9999 w hX hY⟩
 ·rename_i k e hu
  cases hp
  obtain ⟨r,g1,g2⟩:=GC (P:=P) (ρ:=ρ) (φ:=φ) (u:=.map) (t:=t) ⟨k,e,hu⟩ (show R.good (Jj .map x y κ) from h)
  exact ⟨r,fun κ'=>g1 κ',fun X Y w hX hY=>g2 X Y 9999 w hX hY⟩
 ·rename_i a b c hu
  cases hp
  obtain ⟨r,g1,g2⟩:=GC (P:=P) (ρ:=ρ) (φ:=φ) (u:=.fn) (t:=t) ⟨a,b,c,hu⟩ (show R.good (Jj .fn x y κ) from h)
  exact ⟨r,fun κ'=>g1 κ',fun X Y w hX hY=>g2 X Y 9999 w hX hY⟩
 ·cases hp
def UC (P:Program) (sc:Bool) (d:TypeDesc) (t:TypeId) (X Y:Value) (r:Bool):Prop :=
 Instr.sameNow d X Y=(if sc then some r else none)∧(∀ w,(Op.equal t X Y).run P w = .ok r w)∧(r=true->Instr.sameBits 10000 Y X=true)
theorem H7 {k:Sc} {X Y:Value} {n:Nat} (h:TW k X Y true):Instr.sameBits n Y X=true:=by
 cases k with
 | i =>
  obtain ⟨kd,a,b,rfl,rfl,hr⟩:=h
  have:=eq_of_beq hr.symm
  simp [Instr.sameBits,this]
 | s =>
  obtain ⟨a,b,rfl,rfl,hr⟩:=h
  have:=eq_of_beq hr.symm
  simp only [Instr.sameBits,beq_toListBytes,this]; exact beq_self_eq_true _
 | b =>
  obtain ⟨a,b,rfl,rfl,hr⟩:=h
  have:=eq_of_beq hr.symm
  simp [Instr.sameBits,this]
theorem Ra (ks:List Sc):∀ {a b:List V} {κ:Bool->R},(Oe ks a b κ).good →
  ∃ r,(∀ κ',Oe ks a b κ'=κ' r)∧(∀ (pa pb:List V) (offs:List (Nat×Sc)),pa.length=pb.length->offs=ks.zipIdx.map (fun p=>(pa.length+p.2,p.1))->∀ κ',IM offs (pa++a) (pb++b) κ'=κ' r) ∧
   (r=true->∀ xs ys:List Value,Bo ρ φ a xs->Bo ρ φ b ys->xs.length=ys.length ∧ ∀ n,(ys.zip xs).all (fun (x,y)=>Instr.sameBits n x y)=true):=by
 induction ks with
 | nil =>
  intro a b κ h
  cases a with
  | cons u a=>exact h.elim
  | nil =>
   cases b with
   | cons v b=>exact h.elim
   | nil =>
    refine ⟨true,fun _=>rfl,fun pa pb offs _ ho κ'=>by subst ho; rfl,fun _ xs ys hx hy=>?_⟩
    rw [AN] at hx hy; subst hx hy; exact ⟨rfl,fun n=>rfl⟩
 | cons k ks ih =>
  intro a b κ h
  cases a with
  | nil=>exact h.elim
  | cons u a =>
   cases b with
   | nil=>exact h.elim
   | cons v b =>
    have h:R.good (L5 k u v fun r=>br r (Oe ks a b κ) (κ false)):=h
    obtain ⟨q,e3,hq⟩:=GL (ρ:=ρ) (φ:=φ) h
    rw [e3] at h
    have unf:∀ κ',Oe (k::ks) (u::a) (v::b) κ'=br q (Oe ks a b κ') (κ' false):=fun κ'=>e3 _
    have at1:∀ (pa pb:List V) (offs:List (Nat×Sc)),pa.length=pb.length->offs=(k::ks).zipIdx.map (fun p=>(pa.length+p.2,p.1))->∀ κ',IM offs (pa++u::a) (pb++v::b) κ' =
      br q (IM (ks.zipIdx.map (fun p=>((pa++[u]).length+p.2,p.1))) ((pa++[u])++a) ((pb++[v])++b) κ') (κ' false):=fun pa pb offs hl ho κ'=>by
     subst ho
     have n1:∀ (l m:List V) (x:V) (κ:V->R),E2 l.length (l++x::m) κ=κ x:=fun l=>by
      induction l with
      | nil=>intro m x κ; rfl
      | cons y l ih=>intro m x κ; exact ih m x κ
     have hz:((k::ks).zipIdx.map (fun p=>(pa.length+p.2,p.1)))=(pa.length,k)::ks.zipIdx.map (fun p=>((pa++[u]).length+p.2,p.1)):=by
      rw [List.zipIdx_cons,List.map_cons]
      simp only [Nat.add_zero,List.cons.injEq,true_and]
      rw [List.zipIdx_eq_map_add,List.map_map]
      apply List.map_congr_left
      intro p _
      simp; omega
     rw [hz]
     show E2 pa.length (pa++u::a) (fun u=>E2 pa.length (pb++v::b) fun v=>L5 k u v fun q=>br q (IM _ (pa++_::a) (pb++_::b) κ') (κ' false))=_
     rw [n1,hl,n1,e3]
     simp
    cases q with
    | true =>
     obtain ⟨r,g1,g2,g3⟩:=ih (show R.good (Oe ks a b κ) from h)
     refine ⟨r,fun κ'=>(unf κ').trans (g1 κ'),fun pa pb offs hl ho κ'=>?_,fun hr xs ys hx hy=>?_⟩
     ·rw [at1 pa pb offs hl ho κ']
      exact g2 (pa++[u]) (pb++[v]) _ (by simp [hl]) rfl κ'
     ·obtain ⟨x,xs,rfl,hx,hxs⟩:=AF.1 hx
      obtain ⟨y,ys,rfl,hy,hys⟩:=AF.1 hy
      obtain ⟨h1,h2⟩:=g3 hr xs ys hxs hys
      refine ⟨by simp [h1],fun n=>?_⟩
      have h2:=h2 n
      simp only [List.zip_cons_cons,List.all_cons,H7 (hq x y hx hy),Bool.true_and]
      exact h2
    | false =>
     exact ⟨false,fun κ'=>unf κ',fun pa pb offs hl ho κ'=>at1 pa pb offs hl ho κ',fun hr=>by cases hr⟩
theorem Pk {k:Sc} {t:TypeId} (hk:OI P t=some k) {X Y:Value} {r:Bool} (h:TW k X Y r):∃ d,P.underlying t=some d∧Instr.sameNow d X Y=some r ∧ ¬ ∃ fs,d = .struct fs:=by
 unfold OI at hk
 split at hk
 ·cases hk
  rename_i kd hu
  obtain ⟨kd',a,b,rfl,rfl,rfl⟩:=h
  exact ⟨_,hu,by simp [Instr.sameNow],by simp⟩
 ·cases hk
  rename_i hu
  obtain ⟨s,u,rfl,rfl,rfl⟩:=h
  exact ⟨_,hu,by simp [Instr.sameNow,beq_toListBytes],by simp⟩
 ·cases hk
  rename_i hu
  obtain ⟨s,u,rfl,rfl,rfl⟩:=h
  exact ⟨_,hu,by simp [Instr.sameNow],by simp⟩
 ·cases hk
theorem I4 {t:TypeId} {pl:Plan} (hp:GT P t=some pl):∃ d sc,P.underlying t=some d ∧ ∀ {x y:V} {κ:Bool->R},(KX pl x y κ).good →
  ∃ r,(∀ κ',KX pl x y κ'=κ' r) ∧ ∀ X Y,AD ρ φ x X->AD ρ φ y Y->UC P sc d t X Y r:=by
 unfold GT at hp
 split at hp
 ·rename_i fs hu
  split at hp
  ·cases hp
  ·rename_i hs
   split at hp
   ·rename_i offs ho
    split at hp
    ·rename_i hr
     cases hp
     refine ⟨_,false,hu,fun {x y κ} h=>?_⟩
     obtain ⟨a,rfl,e⟩:=Cq (show R.good (asAgg x _) from h)
     obtain ⟨b,rfl,e'⟩:=Cq (show R.good (asAgg y _) from h)
     obtain ⟨r,g1,g2,g3⟩:=Ra (ρ:=ρ) (φ:=φ) (offs.map (·.2)) (show R.good (Oe (offs.map (·.2)) a b κ) from h)
     refine ⟨r,fun κ'=>g1 κ',fun X Y hX hY=>?_⟩
     obtain ⟨xs,rfl,hx,_⟩:=DT hX
     obtain ⟨ys,rfl,hy,_⟩:=DT hY
     have hoffs:offs=(offs.map (·.2)).zipIdx.map (fun p=>(([]:List V).length+p.2,p.1)):=by
      apply List.ext_getElem?
      intro i
      rw [List.getElem?_map,List.getElem?_zipIdx,List.getElem?_map]
      cases hi:offs[i]? with
      | none=>rfl
      | some p =>
       have h1:(offs.map (·.1))[i]? = some p.1:=by rw [List.getElem?_map,hi]; rfl
       rw [hr] at h1
       have hlt:i<offs.length:=by
        rcases Nat.lt_or_ge i offs.length with h' | h'
        ·exact h'
        ·rw [List.getElem?_eq_none h'] at hi; cases hi
       rw [List.getElem?_range hlt] at h1
       obtain ⟨p1,p2⟩:=p
       simp at h1
       subst h1
       simp
     have hg:(KX (.st offs) (.agg a) (.agg b) (fun q=>R.rv (.bool q) AL ⟨.d0,.d0,.d0,.d0⟩)).good:=by
      show R.good (IM offs a b (fun q=>R.rv (.bool q) AL ⟨.d0,.d0,.d0,.d0⟩))
      have:=g2 [] [] offs rfl hoffs (fun q=>R.rv (.bool q) AL ⟨.d0,.d0,.d0,.d0⟩)
      simp only [List.nil_append] at this
      rw [this]; trivial
     obtain ⟨r',k1,k2⟩:=Mh (ρ:=ρ) (φ:=φ) hu (by simpa using hs) ho hg
     have hrr:r'=r:=by
      have e1:=k1 (fun q=>R.rv (.bool q) AL ⟨.d0,.d0,.d0,.d0⟩)
      have e2:KX (.st offs) (.agg a) (.agg b) (fun q=>R.rv (.bool q) AL ⟨.d0,.d0,.d0,.d0⟩)=_:=g2 [] [] offs rfl hoffs (fun q=>R.rv (.bool q) AL ⟨.d0,.d0,.d0,.d0⟩)
      rw [e1] at e2
      simpa using e2
     subst hrr
     refine ⟨by simp [Instr.sameNow],fun w=>(k2 _ _ 9998 w hX hY).1,fun hr'=>?_⟩
     obtain ⟨h1,h2⟩:=g3 hr' xs.toList ys.toList hx hy
     have h2:=h2 9999
     simp only [Instr.sameBits,Bool.and_eq_true,beq_iff_eq]
     exact ⟨by simpa using h1.symm,h2⟩
    ·cases hp
   ·cases hp
 ·cases hk:OI P t with
  | none=>rw [hk] at hp; cases hp
  | some k =>
   rw [hk] at hp; cases hp
   cases hu:P.underlying t with
   | none=>simp [OI,hu] at hk
   | some d =>
    refine ⟨d,true,rfl,fun {x y κ} h=>?_⟩
    obtain ⟨r,g1,g2⟩:=GL (ρ:=ρ) (φ:=φ) (show R.good (L5 k x y κ) from h)
    refine ⟨r,fun κ'=>g1 κ',fun X Y hX hY=>?_⟩
    obtain ⟨d',hd',hn,_⟩:=Pk hk (g2 X Y hX hY)
    rw [hu] at hd'; cases hd'
    exact ⟨hn,fun w=>Gw hk (g2 X Y hX hY) 9999,fun hr=>by subst hr; exact H7 (g2 X Y hX hY)⟩
def VC (pl:Plan) (k:V):List (V×V)->Option Nat->Prop
 | [],r=>r=none
 | e::es,r=>∃ q:Bool,(∀ κ,KX pl k e.1 κ=κ q)∧if q then r=some 0 else ∃ r',VC pl k es r'∧r=r'.map (· + 1)
theorem KH {t:TypeId} {pl:Plan} (hp:GT P t=some pl) {k:V} {κf:V->R} {κn:R}:∀ {es:List (V×V)},(H3 pl k es κf κn).good →
  ∃ r,VC pl k es r∧match r with | none=>H3 pl k es κf κn=κn | some i=>∃ e,es[i]? = some e∧H3 pl k es κf κn=κf e.2
 | [],h=>⟨none,rfl,rfl⟩
 | (a,b)::es,h=>by
  obtain ⟨d,sc,_,hk⟩:=I4 (ρ:={ v:=fun _=>.nilFunc,ap:=fun _=>none }) (φ:=fun _=>none) hp
  have h:R.good (KX pl k a fun r=>br r (κf b) (H3 pl k es κf κn)):=h
  obtain ⟨q,g1,_⟩:=hk h
  rw [g1] at h
  have unf:H3 pl k ((a,b)::es) κf κn=br q (κf b) (H3 pl k es κf κn):=g1 _
  cases q with
  | true=>exact ⟨some 0,⟨true,g1,rfl⟩,(a,b),rfl,unf⟩
  | false =>
   obtain ⟨r,h1,h2⟩:=KH hp (show R.good (H3 pl k es κf κn) from h)
   refine ⟨r.map (· + 1),⟨false,g1,r,h1,rfl⟩,?_⟩
   cases r with
   | none=>exact unf.trans h2
   | some i=>obtain ⟨e,he,h2⟩:=h2; exact ⟨e,by simpa using he,unf.trans h2⟩
theorem MA {t:TypeId} {pl:Plan} (hp:GT P t=some pl) {k v:V}:∀ {es:List (V×V)} {κ:List (V×V)->R},(Hm pl k v es κ).good →
  ∃ r,VC pl k es r∧Hm pl k v es κ=κ (match r with | none=>es++[(k,v)] | some i=>es.set i (k,v))
 | [],κ,h=>⟨none,rfl,rfl⟩
 | (a,b)::es,κ,h=>by
  obtain ⟨d,sc,_,hk⟩:=I4 (ρ:={ v:=fun _=>.nilFunc,ap:=fun _=>none }) (φ:=fun _=>none) hp
  have h:R.good (KX pl k a fun r=>br r (κ ((k,v)::es)) (Hm pl k v es fun l=>κ ((a,b)::l))):=h
  obtain ⟨q,g1,_⟩:=hk h
  rw [g1] at h
  have unf:Hm pl k v ((a,b)::es) κ=br q (κ ((k,v)::es)) (Hm pl k v es fun l=>κ ((a,b)::l)):=g1 _
  cases q with
  | true=>exact ⟨some 0,⟨true,g1,rfl⟩,unf⟩
  | false =>
   obtain ⟨r,h1,h2⟩:=MA hp (show R.good (Hm pl k v es fun l=>κ ((a,b)::l)) from h)
   refine ⟨r.map (· + 1),⟨false,g1,r,h1,rfl⟩,?_⟩
   rw [unf]
   show Hm pl k v es _=_
   rw [h2]
   cases r <;> rfl
theorem Lu {t:TypeId} {pl:Plan} (hp:GT P t=some pl) {k:V}:∀ {es:List (V×V)} {κ:List (V×V)->R},(KY pl k es κ).good →
  ∃ r,VC pl k es r∧KY pl k es κ=κ (match r with | none=>es | some i=>es.eraseIdx i)
 | [],κ,h=>⟨none,rfl,rfl⟩
 | (a,b)::es,κ,h=>by
  obtain ⟨d,sc,_,hk⟩:=I4 (ρ:={ v:=fun _=>.nilFunc,ap:=fun _=>none }) (φ:=fun _=>none) hp
  have h:R.good (KX pl k a fun r=>br r (κ es) (KY pl k es fun l=>κ ((a,b)::l))):=h
  obtain ⟨q,g1,_⟩:=hk h
  rw [g1] at h
  have unf:KY pl k ((a,b)::es) κ=br q (κ es) (KY pl k es fun l=>κ ((a,b)::l)):=g1 _
  cases q with
  | true=>exact ⟨some 0,⟨true,g1,rfl⟩,unf⟩
  | false =>
   obtain ⟨r,h1,h2⟩:=Lu hp (show R.good (KY pl k es fun l=>κ ((a,b)::l)) from h)
   refine ⟨r.map (· + 1),⟨false,g1,r,h1,rfl⟩,?_⟩
   rw [unf]
   show KY pl k es _=_
   rw [h2]
   cases r <;> rfl
theorem LX {pl:Plan} {k:V}:∀ {es:List (V×V)} {bs:List Nat} {κ:List Nat->R} {r:Option Nat},(Lf pl k es bs κ).good->VC pl k es r →
  Lf pl k es bs κ=κ (match r with | none=>bs | some i=>bs.eraseIdx i)
 | [],bs,κ,r,_,hf=>by have hf:r=none:=hf; subst hf; rfl
 | (a,b)::es,[],κ,r,h,_=>h.elim
 | (a,b)::es,c::bs,κ,r,h,hf=>by
  obtain ⟨q,g1,hf⟩:=hf
  have h:R.good (KX pl k a fun r=>br r (κ bs) (Lf pl k es bs fun l=>κ (c::l))):=h
  rw [g1] at h
  have unf:Lf pl k ((a,b)::es) (c::bs) κ=br q (κ bs) (Lf pl k es bs fun l=>κ (c::l)):=g1 _
  cases q with
  | true =>
   have hf:r=some 0:=by simpa using hf
   subst hf; exact unf
  | false =>
   simp only [Bool.false_eq_true,if_false] at hf
   obtain ⟨r',hf',rfl⟩:=hf
   rw [unf]
   show Lf pl k es bs _=_
   rw [LX (show R.good (Lf pl k es bs fun l=>κ (c::l)) from h) hf']
   cases r' <;> rfl
theorem M2:∀ (es:List (V×V)) (bs:List Nat),Hi es bs=decide (es.length=bs.length)
 | [],[]=>rfl
 | [],_::_=>rfl
 | _::_,[]=>rfl
 | _::es,_::bs=>by
  show Hi es bs=_
  rw [M2 es bs]; simp
theorem NA (c:Nat):∀ (bs:List Nat) (κ:List Nat->R),SK bs c κ=κ (bs++[c])
 | [],_=>rfl
 | b::bs,κ=>by
  show SK bs c (fun l=>κ (b::l))=_
  rw [NA c bs]; rfl
theorem Vu (es:List (V×V)) (bs:List Nat) (c:Nat) (κ:List Nat->Nat->R):Vj es bs c κ=κ (if es.length=bs.length then bs else bs++[c]) (if es.length=bs.length then c else c+1):=by
 unfold Vj
 rw [M2,NA,Af]
 by_cases h:es.length=bs.length <;> simp [h,br]
theorem ER {t:TypeId} {pl:Plan} (hp:GT P t=some pl) {k:V} {K:Value} (hK:AD ρ φ k K):∀ {es:List (V×V)} {ents:List MapEntry} {r:Option Nat},VC pl k es r->FM ρ φ es ents →
  (Instr.findKey t K ents).run P w = .ok (r.bind fun i=>(ents[i]?).map fun e=>(i,e.val)) w ∧
  (∀ i,r=some i->∃ e,ents[i]? = some e∧Instr.sameBits 10000 e.key K=true):=by
 obtain ⟨d,sc,hu,hk⟩:=I4 (ρ:=ρ) (φ:=φ) hp
 have gd:∀ (x y:V) (q:Bool),(∀ κ,KX pl x y κ=κ q)->∀ X Y,AD ρ φ x X->AD ρ φ y Y->UC P sc d t X Y q:=fun x y q hq X Y hX hY=>by
  obtain ⟨r,g1,g2⟩:=hk (x:=x) (y:=y) (κ:=fun q=>.rv (.bool q) AL ⟨.d0,.d0,.d0,.d0⟩) (by rw [hq]; trivial)
  have e1:=hq (fun q=>.rv (.bool q) AL ⟨.d0,.d0,.d0,.d0⟩)
  rw [g1] at e1
  simp at e1
  subst e1
  exact g2 X Y hX hY
 have key:∀ (es:List (V×V)) (ents:List MapEntry) (r:Option Nat) (i:Nat),VC pl k es r->FM ρ φ es ents →
   ((sc=true->Instr.findNow d K ents i=some (r.bind fun j=>(ents[j]?).map fun e=>(i+j,e.val))) ∧
   (sc=false->ents≠[]->Instr.findNow d K ents i=none) ∧
   (Instr.findAsking t K ents i).run P w = .ok (r.bind fun j=>(ents[j]?).map fun e=>(i+j,e.val)) w) ∧
   (∀ j,r=some j->∃ e,ents[j]? = some e∧Instr.sameBits 10000 e.key K=true):=by
  intro es
  induction es with
  | nil =>
   intro ents r i hf he
   have hf:r=none:=hf
   have he:ents=[]:=he
   subst hf he
   exact ⟨⟨fun _=>rfl,fun _ h=>absurd rfl h,rfl⟩,fun j h=>by cases h⟩
  | cons e es ih =>
   intro ents r i hf he
   obtain ⟨q,hq,hf⟩:=hf
   obtain ⟨y,ys,rfl,hy1,hy2,hys⟩:=he
   obtain ⟨n1,n2,n3⟩:=gd k e.1 q hq K y.key hK hy1
   cases q with
   | true =>
    have hf:r=some 0:=by simpa using hf
    subst hf
    refine ⟨⟨fun hs=>?_,fun hs _=>?_,?_⟩,fun j hj=>?_⟩
    ·subst hs; simp at n1; simp [Instr.findNow,n1]
    ·subst hs; simp at n1; simp [Instr.findNow,n1]
    ·simp only [Instr.findAsking,Sem.run_bind,n2,Result.andThen_ok,if_true]; simp
    ·cases hj; exact ⟨y,rfl,n3 rfl⟩
   | false =>
    simp only [Bool.false_eq_true,if_false] at hf
    obtain ⟨r',hf',rfl⟩:=hf
    obtain ⟨⟨k1,k2,k3⟩,k4⟩:=ih ys r' (i+1) hf' hys
    have hr:((r'.map (· + 1)).bind fun j=>((y::ys)[j]?).map fun e=>(i+j,e.val))=r'.bind fun j=>(ys[j]?).map fun e=>(i+1+j,e.val):=by
     cases r' with
     | none=>rfl
     | some j=>simp [Nat.add_assoc,Nat.add_comm 1 j]
    refine ⟨⟨fun hs=>?_,fun hs _=>?_,?_⟩,fun j hj=>?_⟩
    ·subst hs; simp at n1; rw [hr]; simp only [Instr.findNow,n1]; exact k1 rfl
    ·subst hs; simp at n1; simp [Instr.findNow,n1]
    ·rw [hr]
     simp only [Instr.findAsking,Sem.run_bind,n2,Result.andThen_ok,Bool.false_eq_true,if_false]
     exact k3
    ·cases r' with
     | none=>cases hj
     | some j'=>simp at hj; subst hj; simpa using k4 j' rfl
 intro es ents r hf he
 obtain ⟨⟨k1,k2,k3⟩,k4⟩:=key es ents r 0 hf he
 simp only [Nat.zero_add] at k1 k3
 refine ⟨?_,fun i hi=>?_⟩
 ·simp only [Instr.findKey,Sem.run_bind,run_underlying hu,Result.andThen_ok]
  cases sc with
  | true=>rw [k1 rfl]; rfl
  | false =>
   cases hen:ents with
   | nil=>rw [hen] at k3; simp only [Instr.findNow]; exact k3
   | cons e l=>rw [←hen,k2 rfl (by rw [hen]; simp)]; exact k3
 ·obtain ⟨e,h1,h2⟩:=k4 i hi
  exact ⟨e,h1,h2⟩
end
end Go.Ev
