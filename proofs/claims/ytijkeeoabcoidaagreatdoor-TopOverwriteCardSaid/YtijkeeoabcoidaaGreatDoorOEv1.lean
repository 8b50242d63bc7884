/- AN EVALUATOR OF THE MODEL OF Go, PROVED SOUND, PART 1: what it says of a call holds in every world, on every tape. Conditions: none of its own; each theorem bears its premises. -/
import Derived.Below
import Derived.Laws.Append
import Derived.Laws.Bits
import Derived.Laws.Cells
import Derived.Laws.Entries
import Derived.Laws.Sem
import Derived.Laws.Strings
import Derived.Laws.StructEq
import Derived.Laws.Tables
import Derived.Laws.World
import Derived.Orders
noncomputable section
set_option linter.unusedSimpArgs false
set_option linter.unusedVariables false
namespace Go.Ev
set_option linter.unusedVariables false
inductive D where
 | d0 | d1 | d2 | d3 | d4 | d5 | d6 | d7 | d8 | d9 | d10 | d11 | d12 | d13 | d14 | d15
def D.toN (d:D):Nat:=@D.rec (fun _=>Nat) 0 1 2 3 4 5 6 7 8 9 10 11 12 13 14 15 d
theorem D.toN_lt (d:D):d.toN<16:=by cases d <;> decide
theorem D.toN_inj {a b:D} (h:a.toN=b.toN):a=b:=by
 cases a <;> cases b <;> first | rfl | exact absurd h (by decide)
def D.nx {β:Type} (d:D):(D->β)->β->β :=
 @D.rec (fun _=>(D->β)->β->β) (fun k _=>k .d1) (fun k _=>k .d2) (fun k _=>k .d3) (fun k _=>k .d4) (fun k _=>k .d5) (fun k _=>k .d6) (fun k _=>k .d7) (fun k _=>k .d8) (fun k _=>k .d9) (fun k _=>k .d10) (fun k _=>k .d11) (fun k _=>k .d12) (fun k _=>k .d13) (fun k _=>k .d14) (fun k _=>k .d15) (fun _ c=>c) d
theorem D.nx_eq {β:Type} (d:D) (k:D->β) (c:β):(d.nx k c=c∧d.toN=15)∨(∃ e:D,e.toN=d.toN+1∧d.nx k c=k e):=by
 cases d
 case d0=>exact .inr ⟨.d1,rfl,rfl⟩
 case d1=>exact .inr ⟨.d2,rfl,rfl⟩
 case d2=>exact .inr ⟨.d3,rfl,rfl⟩
 case d3=>exact .inr ⟨.d4,rfl,rfl⟩
 case d4=>exact .inr ⟨.d5,rfl,rfl⟩
 case d5=>exact .inr ⟨.d6,rfl,rfl⟩
 case d6=>exact .inr ⟨.d7,rfl,rfl⟩
 case d7=>exact .inr ⟨.d8,rfl,rfl⟩
 case d8=>exact .inr ⟨.d9,rfl,rfl⟩
 case d9=>exact .inr ⟨.d10,rfl,rfl⟩
 case d10=>exact .inr ⟨.d11,rfl,rfl⟩
 case d11=>exact .inr ⟨.d12,rfl,rfl⟩
 case d12=>exact .inr ⟨.d13,rfl,rfl⟩
 case d13=>exact .inr ⟨.d14,rfl,rfl⟩
 case d14=>exact .inr ⟨.d15,rfl,rfl⟩
 case d15=>exact .inl ⟨rfl,rfl⟩
def D.ofN:Nat->D
 | 0=>.d0 | 1=>.d1 | 2=>.d2 | 3=>.d3 | 4=>.d4 | 5=>.d5 | 6=>.d6 | 7=>.d7 | 8=>.d8 | 9=>.d9 | 10=>.d10 | 11=>.d11 | 12=>.d12 | 13=>.d13 | 14=>.d14 | _=>.d15
theorem D.toN_ofN:∀ n,n<16->(D.ofN n).toN=n
 | 0,_=>rfl | 1,_=>rfl | 2,_=>rfl | 3,_=>rfl | 4,_=>rfl | 5,_=>rfl | 6,_=>rfl | 7,_=>rfl | 8,_=>rfl | 9,_=>rfl | 10,_=>rfl | 11,_=>rfl | 12,_=>rfl | 13,_=>rfl | 14,_=>rfl | 15,_=>rfl
 | n+16,h=>by omega
def D.beq (a b:D):Bool:=Nat.beq a.toN b.toN
theorem D.beq_iff {a b:D}:a.beq b=true ↔ a=b:=by
 unfold D.beq
 exact ⟨fun h=>D.toN_inj (Nat.eq_of_beq_eq_true h),fun h=>by subst h; exact Nat.beq_refl _⟩
structure K4 where
 a:D
 b:D
 c:D
 d:D
inductive Nl where
 | ptr
 | sl
 | map
 | fn
 | iface
inductive Ot where
 | any
 | sym (i:Nat)
 | yl (p:K4)
 | no
 | iv (k:IntKind) (lo hi:Nat)
 | os (lo hi:Nat)
 | bl
 | rs (m j:Nat)
 | ss (lo hi n c:Nat)
 | ro (i lo hi z:Nat)
 | ap (i j m:Nat)
 | sy (k:IntKind) (i:Nat)
inductive V where
 | int (k:IntKind) (r:Nat)
 | bool (b:Bool)
 | ptr (p:K4) (off:Nat)
 | sl (p:K4) (off len cap:Nat) (ex:Bool) (esz:Nat)
 | str (n c:Nat)
 | agg (l:List V)
 | nil (w:Nl)
 | map (p:K4)
 | fn (f:Nat) (caps:List V)
 | tup (l:List V)
 | oth (o:Ot)
inductive Cs where
 | l (xs:List V)
 | b (n c:Nat)
inductive Ob where
 | c (cs:Cs) (sup:Bool) (prev:Option K4)
 | m (es:List (V×V)) (bs:List Nat) (clk:Nat)
 | it (p:K4) (since:Nat) (seen:List Nat) (c:Nat)
 | it0
 | lp (f:Nat) (box:K4)
abbrev Ch:=Option Ob
inductive VP where
 | mk (A B C E F G I J L M N O P Q T U:V)
def VP.all (x:V):VP:=.mk x x x x x x x x x x x x x x x x
def VP.sel (d:D) (p:VP):V :=
 @VP.rec (fun _=>V) (fun A B C E F G I J L M N O P Q T U=>@D.rec (fun _=>V) A B C E F G I J L M N O P Q T U d) p
def vs0 {β:Type} (p:VP) (v:V) (k:VP->β):β:=@VP.rec (fun _=>β) (fun A B C E F G I J L M N O P Q T U=>k (.mk v B C E F G I J L M N O P Q T U)) p
def vs1 {β:Type} (p:VP) (v:V) (k:VP->β):β:=@VP.rec (fun _=>β) (fun A B C E F G I J L M N O P Q T U=>k (.mk A v C E F G I J L M N O P Q T U)) p
def vs2 {β:Type} (p:VP) (v:V) (k:VP->β):β:=@VP.rec (fun _=>β) (fun A B C E F G I J L M N O P Q T U=>k (.mk A B v E F G I J L M N O P Q T U)) p
def vs3 {β:Type} (p:VP) (v:V) (k:VP->β):β:=@VP.rec (fun _=>β) (fun A B C E F G I J L M N O P Q T U=>k (.mk A B C v F G I J L M N O P Q T U)) p
def vs4 {β:Type} (p:VP) (v:V) (k:VP->β):β:=@VP.rec (fun _=>β) (fun A B C E F G I J L M N O P Q T U=>k (.mk A B C E v G I J L M N O P Q T U)) p
def vs5 {β:Type} (p:VP) (v:V) (k:VP->β):β:=@VP.rec (fun _=>β) (fun A B C E F G I J L M N O P Q T U=>k (.mk A B C E F v I J L M N O P Q T U)) p
def vs6 {β:Type} (p:VP) (v:V) (k:VP->β):β:=@VP.rec (fun _=>β) (fun A B C E F G I J L M N O P Q T U=>k (.mk A B C E F G v J L M N O P Q T U)) p
def vs7 {β:Type} (p:VP) (v:V) (k:VP->β):β:=@VP.rec (fun _=>β) (fun A B C E F G I J L M N O P Q T U=>k (.mk A B C E F G I v L M N O P Q T U)) p
def vs8 {β:Type} (p:VP) (v:V) (k:VP->β):β:=@VP.rec (fun _=>β) (fun A B C E F G I J L M N O P Q T U=>k (.mk A B C E F G I J v M N O P Q T U)) p
def vs9 {β:Type} (p:VP) (v:V) (k:VP->β):β:=@VP.rec (fun _=>β) (fun A B C E F G I J L M N O P Q T U=>k (.mk A B C E F G I J L v N O P Q T U)) p
def Aaz {β:Type} (p:VP) (v:V) (k:VP->β):β:=@VP.rec (fun _=>β) (fun A B C E F G I J L M N O P Q T U=>k (.mk A B C E F G I J L M v O P Q T U)) p
def ZP {β:Type} (p:VP) (v:V) (k:VP->β):β:=@VP.rec (fun _=>β) (fun A B C E F G I J L M N O P Q T U=>k (.mk A B C E F G I J L M N v P Q T U)) p
def Aaw {β:Type} (p:VP) (v:V) (k:VP->β):β:=@VP.rec (fun _=>β) (fun A B C E F G I J L M N O P Q T U=>k (.mk A B C E F G I J L M N O v Q T U)) p
def Zb {β:Type} (p:VP) (v:V) (k:VP->β):β:=@VP.rec (fun _=>β) (fun A B C E F G I J L M N O P Q T U=>k (.mk A B C E F G I J L M N O P v T U)) p
def Abz {β:Type} (p:VP) (v:V) (k:VP->β):β:=@VP.rec (fun _=>β) (fun A B C E F G I J L M N O P Q T U=>k (.mk A B C E F G I J L M N O P Q v U)) p
def ZJ {β:Type} (p:VP) (v:V) (k:VP->β):β:=@VP.rec (fun _=>β) (fun A B C E F G I J L M N O P Q T U=>k (.mk A B C E F G I J L M N O P Q T v)) p
def vg0 {β:Type} (p:VP) (k:V->β):β:=@VP.rec (fun _=>β) (fun A B C E F G I J L M N O P Q T U=>k A) p
def vg1 {β:Type} (p:VP) (k:V->β):β:=@VP.rec (fun _=>β) (fun A B C E F G I J L M N O P Q T U=>k B) p
def vg2 {β:Type} (p:VP) (k:V->β):β:=@VP.rec (fun _=>β) (fun A B C E F G I J L M N O P Q T U=>k C) p
def vg3 {β:Type} (p:VP) (k:V->β):β:=@VP.rec (fun _=>β) (fun A B C E F G I J L M N O P Q T U=>k E) p
def vg4 {β:Type} (p:VP) (k:V->β):β:=@VP.rec (fun _=>β) (fun A B C E F G I J L M N O P Q T U=>k F) p
def vg5 {β:Type} (p:VP) (k:V->β):β:=@VP.rec (fun _=>β) (fun A B C E F G I J L M N O P Q T U=>k G) p
def vg6 {β:Type} (p:VP) (k:V->β):β:=@VP.rec (fun _=>β) (fun A B C E F G I J L M N O P Q T U=>k I) p
def vg7 {β:Type} (p:VP) (k:V->β):β:=@VP.rec (fun _=>β) (fun A B C E F G I J L M N O P Q T U=>k J) p
def vg8 {β:Type} (p:VP) (k:V->β):β:=@VP.rec (fun _=>β) (fun A B C E F G I J L M N O P Q T U=>k L) p
def vg9 {β:Type} (p:VP) (k:V->β):β:=@VP.rec (fun _=>β) (fun A B C E F G I J L M N O P Q T U=>k M) p
def ZC {β:Type} (p:VP) (k:V->β):β:=@VP.rec (fun _=>β) (fun A B C E F G I J L M N O P Q T U=>k N) p
def YH {β:Type} (p:VP) (k:V->β):β:=@VP.rec (fun _=>β) (fun A B C E F G I J L M N O P Q T U=>k O) p
def Zh {β:Type} (p:VP) (k:V->β):β:=@VP.rec (fun _=>β) (fun A B C E F G I J L M N O P Q T U=>k P) p
def Ab2 {β:Type} (p:VP) (k:V->β):β:=@VP.rec (fun _=>β) (fun A B C E F G I J L M N O P Q T U=>k Q) p
def Zi {β:Type} (p:VP) (k:V->β):β:=@VP.rec (fun _=>β) (fun A B C E F G I J L M N O P Q T U=>k T) p
def Abq {β:Type} (p:VP) (k:V->β):β:=@VP.rec (fun _=>β) (fun A B C E F G I J L M N O P Q T U=>k U) p
def VP.selK {β:Type} (d:D):VP->(V->β)->β :=
 @D.rec (fun _=>VP->(V->β)->β) vg0 vg1 vg2 vg3 vg4 vg5 vg6 vg7 vg8 vg9 ZC YH Zh Ab2 Zi Abq d
theorem VP.selK_eq {β:Type} (d:D) (p:VP) (k:V->β):VP.selK d p k=k (VP.sel d p):=by
 cases d <;> cases p <;> rfl
def VP.setK {β:Type} (d:D):VP->V->(VP->β)->β :=
 @D.rec (fun _=>VP->V->(VP->β)->β) vs0 vs1 vs2 vs3 vs4 vs5 vs6 vs7 vs8 vs9 Aaz ZP Aaw Zb Abz ZJ d
def VP.setS (d:D) (p:VP) (v:V):VP:=VP.setK d p v id
theorem VP.setK_eq {β:Type} (d:D) (p:VP) (v:V) (k:VP->β):VP.setK d p v k=k (VP.setS d p v):=by
 cases d <;> cases p <;> rfl
theorem VP.sel_setS_same (d:D) (p:VP) (v:V):VP.sel d (VP.setS d p v)=v:=by
 cases d <;> cases p <;> rfl
theorem VP.sel_setS_ne {d e:D} (p:VP) (v:V) (h:d≠e):VP.sel e (VP.setS d p v)=VP.sel e p:=by
 cases p; cases d <;> cases e <;> first | rfl | exact absurd rfl h
theorem VP.sel_all (d:D) (x:V):VP.sel d (VP.all x)=x:=by cases d <;> rfl
inductive Regs where
 | mk (A B C E F G I J L M N O P Q T U:VP)
def Regs.all (x:VP):Regs:=.mk x x x x x x x x x x x x x x x x
def Regs.sel (d:D) (p:Regs):VP :=
 @Regs.rec (fun _=>VP) (fun A B C E F G I J L M N O P Q T U=>@D.rec (fun _=>VP) A B C E F G I J L M N O P Q T U d) p
def qs0 {β:Type} (p:Regs) (v:VP) (k:Regs->β):β:=@Regs.rec (fun _=>β) (fun A B C E F G I J L M N O P Q T U=>k (.mk v B C E F G I J L M N O P Q T U)) p
def qs1 {β:Type} (p:Regs) (v:VP) (k:Regs->β):β:=@Regs.rec (fun _=>β) (fun A B C E F G I J L M N O P Q T U=>k (.mk A v C E F G I J L M N O P Q T U)) p
def qs2 {β:Type} (p:Regs) (v:VP) (k:Regs->β):β:=@Regs.rec (fun _=>β) (fun A B C E F G I J L M N O P Q T U=>k (.mk A B v E F G I J L M N O P Q T U)) p
def qs3 {β:Type} (p:Regs) (v:VP) (k:Regs->β):β:=@Regs.rec (fun _=>β) (fun A B C E F G I J L M N O P Q T U=>k (.mk A B C v F G I J L M N O P Q T U)) p
def qs4 {β:Type} (p:Regs) (v:VP) (k:Regs->β):β:=@Regs.rec (fun _=>β) (fun A B C E F G I J L M N O P Q T U=>k (.mk A B C E v G I J L M N O P Q T U)) p
def qs5 {β:Type} (p:Regs) (v:VP) (k:Regs->β):β:=@Regs.rec (fun _=>β) (fun A B C E F G I J L M N O P Q T U=>k (.mk A B C E F v I J L M N O P Q T U)) p
def qs6 {β:Type} (p:Regs) (v:VP) (k:Regs->β):β:=@Regs.rec (fun _=>β) (fun A B C E F G I J L M N O P Q T U=>k (.mk A B C E F G v J L M N O P Q T U)) p
def qs7 {β:Type} (p:Regs) (v:VP) (k:Regs->β):β:=@Regs.rec (fun _=>β) (fun A B C E F G I J L M N O P Q T U=>k (.mk A B C E F G I v L M N O P Q T U)) p
def qs8 {β:Type} (p:Regs) (v:VP) (k:Regs->β):β:=@Regs.rec (fun _=>β) (fun A B C E F G I J L M N O P Q T U=>k (.mk A B C E F G I J v M N O P Q T U)) p
def qs9 {β:Type} (p:Regs) (v:VP) (k:Regs->β):β:=@Regs.rec (fun _=>β) (fun A B C E F G I J L M N O P Q T U=>k (.mk A B C E F G I J L v N O P Q T U)) p
def Yz {β:Type} (p:Regs) (v:VP) (k:Regs->β):β:=@Regs.rec (fun _=>β) (fun A B C E F G I J L M N O P Q T U=>k (.mk A B C E F G I J L M v O P Q T U)) p
def Abl {β:Type} (p:Regs) (v:VP) (k:Regs->β):β:=@Regs.rec (fun _=>β) (fun A B C E F G I J L M N O P Q T U=>k (.mk A B C E F G I J L M N v P Q T U)) p
def Aa0 {β:Type} (p:Regs) (v:VP) (k:Regs->β):β:=@Regs.rec (fun _=>β) (fun A B C E F G I J L M N O P Q T U=>k (.mk A B C E F G I J L M N O v Q T U)) p
def Zz {β:Type} (p:Regs) (v:VP) (k:Regs->β):β:=@Regs.rec (fun _=>β) (fun A B C E F G I J L M N O P Q T U=>k (.mk A B C E F G I J L M N O P v T U)) p
def YI {β:Type} (p:Regs) (v:VP) (k:Regs->β):β:=@Regs.rec (fun _=>β) (fun A B C E F G I J L M N O P Q T U=>k (.mk A B C E F G I J L M N O P Q v U)) p
def ZD {β:Type} (p:Regs) (v:VP) (k:Regs->β):β:=@Regs.rec (fun _=>β) (fun A B C E F G I J L M N O P Q T U=>k (.mk A B C E F G I J L M N O P Q T v)) p
def qg0 {β:Type} (p:Regs) (k:VP->β):β:=@Regs.rec (fun _=>β) (fun A B C E F G I J L M N O P Q T U=>k A) p
def qg1 {β:Type} (p:Regs) (k:VP->β):β:=@Regs.rec (fun _=>β) (fun A B C E F G I J L M N O P Q T U=>k B) p
def qg2 {β:Type} (p:Regs) (k:VP->β):β:=@Regs.rec (fun _=>β) (fun A B C E F G I J L M N O P Q T U=>k C) p
def qg3 {β:Type} (p:Regs) (k:VP->β):β:=@Regs.rec (fun _=>β) (fun A B C E F G I J L M N O P Q T U=>k E) p
def qg4 {β:Type} (p:Regs) (k:VP->β):β:=@Regs.rec (fun _=>β) (fun A B C E F G I J L M N O P Q T U=>k F) p
def qg5 {β:Type} (p:Regs) (k:VP->β):β:=@Regs.rec (fun _=>β) (fun A B C E F G I J L M N O P Q T U=>k G) p
def qg6 {β:Type} (p:Regs) (k:VP->β):β:=@Regs.rec (fun _=>β) (fun A B C E F G I J L M N O P Q T U=>k I) p
def qg7 {β:Type} (p:Regs) (k:VP->β):β:=@Regs.rec (fun _=>β) (fun A B C E F G I J L M N O P Q T U=>k J) p
def qg8 {β:Type} (p:Regs) (k:VP->β):β:=@Regs.rec (fun _=>β) (fun A B C E F G I J L M N O P Q T U=>k L) p
def qg9 {β:Type} (p:Regs) (k:VP->β):β:=@Regs.rec (fun _=>β) (fun A B C E F G I J L M N O P Q T U=>k M) p
def Yq {β:Type} (p:Regs) (k:VP->β):β:=@Regs.rec (fun _=>β) (fun A B C E F G I J L M N O P Q T U=>k N) p
def Ab6 {β:Type} (p:Regs) (k:VP->β):β:=@Regs.rec (fun _=>β) (fun A B C E F G I J L M N O P Q T U=>k O) p
def Zf {β:Type} (p:Regs) (k:VP->β):β:=@Regs.rec (fun _=>β) (fun A B C E F G I J L M N O P Q T U=>k P) p
def YO {β:Type} (p:Regs) (k:VP->β):β:=@Regs.rec (fun _=>β) (fun A B C E F G I J L M N O P Q T U=>k Q) p
def Abg {β:Type} (p:Regs) (k:VP->β):β:=@Regs.rec (fun _=>β) (fun A B C E F G I J L M N O P Q T U=>k T) p
def YE {β:Type} (p:Regs) (k:VP->β):β:=@Regs.rec (fun _=>β) (fun A B C E F G I J L M N O P Q T U=>k U) p
def Regs.selK {β:Type} (d:D):Regs->(VP->β)->β :=
 @D.rec (fun _=>Regs->(VP->β)->β) qg0 qg1 qg2 qg3 qg4 qg5 qg6 qg7 qg8 qg9 Yq Ab6 Zf YO Abg YE d
theorem Regs.selK_eq {β:Type} (d:D) (p:Regs) (k:VP->β):Regs.selK d p k=k (Regs.sel d p):=by
 cases d <;> cases p <;> rfl
def Regs.setK {β:Type} (d:D):Regs->VP->(Regs->β)->β :=
 @D.rec (fun _=>Regs->VP->(Regs->β)->β) qs0 qs1 qs2 qs3 qs4 qs5 qs6 qs7 qs8 qs9 Yz Abl Aa0 Zz YI ZD d
def Regs.setS (d:D) (p:Regs) (v:VP):Regs:=Regs.setK d p v id
theorem Regs.setK_eq {β:Type} (d:D) (p:Regs) (v:VP) (k:Regs->β):Regs.setK d p v k=k (Regs.setS d p v):=by
 cases d <;> cases p <;> rfl
theorem Regs.sel_setS_same (d:D) (p:Regs) (v:VP):Regs.sel d (Regs.setS d p v)=v:=by
 cases d <;> cases p <;> rfl
theorem Regs.sel_setS_ne {d e:D} (p:Regs) (v:VP) (h:d≠e):Regs.sel e (Regs.setS d p v)=Regs.sel e p:=by
 cases p; cases d <;> cases e <;> first | rfl | exact absurd rfl h
theorem Regs.sel_all (d:D) (x:VP):Regs.sel d (Regs.all x)=x:=by cases d <;> rfl
inductive HA where
 | mk (A B C E F G I J L M N O P Q T U:Ch)
def HA.all (x:Ch):HA:=.mk x x x x x x x x x x x x x x x x
def HA.sel (d:D) (p:HA):Ch :=
 @HA.rec (fun _=>Ch) (fun A B C E F G I J L M N O P Q T U=>@D.rec (fun _=>Ch) A B C E F G I J L M N O P Q T U d) p
def Aa8 {β:Type} (p:HA) (v:Ch) (k:HA->β):β:=@HA.rec (fun _=>β) (fun A B C E F G I J L M N O P Q T U=>k (.mk v B C E F G I J L M N O P Q T U)) p
def Aa7 {β:Type} (p:HA) (v:Ch) (k:HA->β):β:=@HA.rec (fun _=>β) (fun A B C E F G I J L M N O P Q T U=>k (.mk A v C E F G I J L M N O P Q T U)) p
def Abe {β:Type} (p:HA) (v:Ch) (k:HA->β):β:=@HA.rec (fun _=>β) (fun A B C E F G I J L M N O P Q T U=>k (.mk A B v E F G I J L M N O P Q T U)) p
def ZW {β:Type} (p:HA) (v:Ch) (k:HA->β):β:=@HA.rec (fun _=>β) (fun A B C E F G I J L M N O P Q T U=>k (.mk A B C v F G I J L M N O P Q T U)) p
def Zs {β:Type} (p:HA) (v:Ch) (k:HA->β):β:=@HA.rec (fun _=>β) (fun A B C E F G I J L M N O P Q T U=>k (.mk A B C E v G I J L M N O P Q T U)) p
def ZA {β:Type} (p:HA) (v:Ch) (k:HA->β):β:=@HA.rec (fun _=>β) (fun A B C E F G I J L M N O P Q T U=>k (.mk A B C E F v I J L M N O P Q T U)) p
def YZ {β:Type} (p:HA) (v:Ch) (k:HA->β):β:=@HA.rec (fun _=>β) (fun A B C E F G I J L M N O P Q T U=>k (.mk A B C E F G v J L M N O P Q T U)) p
def Zx {β:Type} (p:HA) (v:Ch) (k:HA->β):β:=@HA.rec (fun _=>β) (fun A B C E F G I J L M N O P Q T U=>k (.mk A B C E F G I v L M N O P Q T U)) p
def Aa3 {β:Type} (p:HA) (v:Ch) (k:HA->β):β:=@HA.rec (fun _=>β) (fun A B C E F G I J L M N O P Q T U=>k (.mk A B C E F G I J v M N O P Q T U)) p
def ZU {β:Type} (p:HA) (v:Ch) (k:HA->β):β:=@HA.rec (fun _=>β) (fun A B C E F G I J L M N O P Q T U=>k (.mk A B C E F G I J L v N O P Q T U)) p
def WI {β:Type} (p:HA) (v:Ch) (k:HA->β):β:=@HA.rec (fun _=>β) (fun A B C E F G I J L M N O P Q T U=>k (.mk A B C E F G I J L M v O P Q T U)) p
def Xn {β:Type} (p:HA) (v:Ch) (k:HA->β):β:=@HA.rec (fun _=>β) (fun A B C E F G I J L M N O P Q T U=>k (.mk A B C E F G I J L M N v P Q T U)) p
def X2 {β:Type} (p:HA) (v:Ch) (k:HA->β):β:=@HA.rec (fun _=>β) (fun A B C E F G I J L M N O P Q T U=>k (.mk A B C E F G I J L M N O v Q T U)) p
def WS {β:Type} (p:HA) (v:Ch) (k:HA->β):β:=@HA.rec (fun _=>β) (fun A B C E F G I J L M N O P Q T U=>k (.mk A B C E F G I J L M N O P v T U)) p
def Wo {β:Type} (p:HA) (v:Ch) (k:HA->β):β:=@HA.rec (fun _=>β) (fun A B C E F G I J L M N O P Q T U=>k (.mk A B C E F G I J L M N O P Q v U)) p
def Xh {β:Type} (p:HA) (v:Ch) (k:HA->β):β:=@HA.rec (fun _=>β) (fun A B C E F G I J L M N O P Q T U=>k (.mk A B C E F G I J L M N O P Q T v)) p
def Yv {β:Type} (p:HA) (k:Ch->β):β:=@HA.rec (fun _=>β) (fun A B C E F G I J L M N O P Q T U=>k A) p
def Aal {β:Type} (p:HA) (k:Ch->β):β:=@HA.rec (fun _=>β) (fun A B C E F G I J L M N O P Q T U=>k B) p
def Zu {β:Type} (p:HA) (k:Ch->β):β:=@HA.rec (fun _=>β) (fun A B C E F G I J L M N O P Q T U=>k C) p
def Ab8 {β:Type} (p:HA) (k:Ch->β):β:=@HA.rec (fun _=>β) (fun A B C E F G I J L M N O P Q T U=>k E) p
def Aby {β:Type} (p:HA) (k:Ch->β):β:=@HA.rec (fun _=>β) (fun A B C E F G I J L M N O P Q T U=>k F) p
def Zc {β:Type} (p:HA) (k:Ch->β):β:=@HA.rec (fun _=>β) (fun A B C E F G I J L M N O P Q T U=>k G) p
def ZV {β:Type} (p:HA) (k:Ch->β):β:=@HA.rec (fun _=>β) (fun A B C E F G I J L M N O P Q T U=>k I) p
def Abp {β:Type} (p:HA) (k:Ch->β):β:=@HA.rec (fun _=>β) (fun A B C E F G I J L M N O P Q T U=>k J) p
def ZL {β:Type} (p:HA) (k:Ch->β):β:=@HA.rec (fun _=>β) (fun A B C E F G I J L M N O P Q T U=>k L) p
def Abv {β:Type} (p:HA) (k:Ch->β):β:=@HA.rec (fun _=>β) (fun A B C E F G I J L M N O P Q T U=>k M) p
def Xk {β:Type} (p:HA) (k:Ch->β):β:=@HA.rec (fun _=>β) (fun A B C E F G I J L M N O P Q T U=>k N) p
def Xe {β:Type} (p:HA) (k:Ch->β):β:=@HA.rec (fun _=>β) (fun A B C E F G I J L M N O P Q T U=>k O) p
def Xx {β:Type} (p:HA) (k:Ch->β):β:=@HA.rec (fun _=>β) (fun A B C E F G I J L M N O P Q T U=>k P) p
def X9 {β:Type} (p:HA) (k:Ch->β):β:=@HA.rec (fun _=>β) (fun A B C E F G I J L M N O P Q T U=>k Q) p
def XE {β:Type} (p:HA) (k:Ch->β):β:=@HA.rec (fun _=>β) (fun A B C E F G I J L M N O P Q T U=>k T) p
def Wr {β:Type} (p:HA) (k:Ch->β):β:=@HA.rec (fun _=>β) (fun A B C E F G I J L M N O P Q T U=>k U) p
def HA.selK {β:Type} (d:D):HA->(Ch->β)->β :=
 @D.rec (fun _=>HA->(Ch->β)->β) Yv Aal Zu Ab8 Aby Zc ZV Abp ZL Abv Xk Xe Xx X9 XE Wr d
theorem HA.selK_eq {β:Type} (d:D) (p:HA) (k:Ch->β):HA.selK d p k=k (HA.sel d p):=by
 cases d <;> cases p <;> rfl
def HA.setK {β:Type} (d:D):HA->Ch->(HA->β)->β :=
 @D.rec (fun _=>HA->Ch->(HA->β)->β) Aa8 Aa7 Abe ZW Zs ZA YZ Zx Aa3 ZU WI Xn X2 WS Wo Xh d
def HA.setS (d:D) (p:HA) (v:Ch):HA:=HA.setK d p v id
theorem HA.setK_eq {β:Type} (d:D) (p:HA) (v:Ch) (k:HA->β):HA.setK d p v k=k (HA.setS d p v):=by
 cases d <;> cases p <;> rfl
theorem HA.sel_setS_same (d:D) (p:HA) (v:Ch):HA.sel d (HA.setS d p v)=v:=by
 cases d <;> cases p <;> rfl
theorem HA.sel_setS_ne {d e:D} (p:HA) (v:Ch) (h:d≠e):HA.sel e (HA.setS d p v)=HA.sel e p:=by
 cases p; cases d <;> cases e <;> first | rfl | exact absurd rfl h
theorem HA.sel_all (d:D) (x:Ch):HA.sel d (HA.all x)=x:=by cases d <;> rfl
inductive HB where
 | mk (A B C E F G I J L M N O P Q T U:HA)
def HB.all (x:HA):HB:=.mk x x x x x x x x x x x x x x x x
def HB.sel (d:D) (p:HB):HA :=
 @HB.rec (fun _=>HA) (fun A B C E F G I J L M N O P Q T U=>@D.rec (fun _=>HA) A B C E F G I J L M N O P Q T U d) p
def Aad {β:Type} (p:HB) (v:HA) (k:HB->β):β:=@HB.rec (fun _=>β) (fun A B C E F G I J L M N O P Q T U=>k (.mk v B C E F G I J L M N O P Q T U)) p
def ZX {β:Type} (p:HB) (v:HA) (k:HB->β):β:=@HB.rec (fun _=>β) (fun A B C E F G I J L M N O P Q T U=>k (.mk A v C E F G I J L M N O P Q T U)) p
def Z9 {β:Type} (p:HB) (v:HA) (k:HB->β):β:=@HB.rec (fun _=>β) (fun A B C E F G I J L M N O P Q T U=>k (.mk A B v E F G I J L M N O P Q T U)) p
def Zd {β:Type} (p:HB) (v:HA) (k:HB->β):β:=@HB.rec (fun _=>β) (fun A B C E F G I J L M N O P Q T U=>k (.mk A B C v F G I J L M N O P Q T U)) p
def Aam {β:Type} (p:HB) (v:HA) (k:HB->β):β:=@HB.rec (fun _=>β) (fun A B C E F G I J L M N O P Q T U=>k (.mk A B C E v G I J L M N O P Q T U)) p
def Aaj {β:Type} (p:HB) (v:HA) (k:HB->β):β:=@HB.rec (fun _=>β) (fun A B C E F G I J L M N O P Q T U=>k (.mk A B C E F v I J L M N O P Q T U)) p
def Z8 {β:Type} (p:HB) (v:HA) (k:HB->β):β:=@HB.rec (fun _=>β) (fun A B C E F G I J L M N O P Q T U=>k (.mk A B C E F G v J L M N O P Q T U)) p
def Yo {β:Type} (p:HB) (v:HA) (k:HB->β):β:=@HB.rec (fun _=>β) (fun A B C E F G I J L M N O P Q T U=>k (.mk A B C E F G I v L M N O P Q T U)) p
def YT {β:Type} (p:HB) (v:HA) (k:HB->β):β:=@HB.rec (fun _=>β) (fun A B C E F G I J L M N O P Q T U=>k (.mk A B C E F G I J v M N O P Q T U)) p
def Aaf {β:Type} (p:HB) (v:HA) (k:HB->β):β:=@HB.rec (fun _=>β) (fun A B C E F G I J L M N O P Q T U=>k (.mk A B C E F G I J L v N O P Q T U)) p
def Xv {β:Type} (p:HB) (v:HA) (k:HB->β):β:=@HB.rec (fun _=>β) (fun A B C E F G I J L M N O P Q T U=>k (.mk A B C E F G I J L M v O P Q T U)) p
def X6 {β:Type} (p:HB) (v:HA) (k:HB->β):β:=@HB.rec (fun _=>β) (fun A B C E F G I J L M N O P Q T U=>k (.mk A B C E F G I J L M N v P Q T U)) p
def WT {β:Type} (p:HB) (v:HA) (k:HB->β):β:=@HB.rec (fun _=>β) (fun A B C E F G I J L M N O P Q T U=>k (.mk A B C E F G I J L M N O v Q T U)) p
def XS {β:Type} (p:HB) (v:HA) (k:HB->β):β:=@HB.rec (fun _=>β) (fun A B C E F G I J L M N O P Q T U=>k (.mk A B C E F G I J L M N O P v T U)) p
def WR {β:Type} (p:HB) (v:HA) (k:HB->β):β:=@HB.rec (fun _=>β) (fun A B C E F G I J L M N O P Q T U=>k (.mk A B C E F G I J L M N O P Q v U)) p
def Xg {β:Type} (p:HB) (v:HA) (k:HB->β):β:=@HB.rec (fun _=>β) (fun A B C E F G I J L M N O P Q T U=>k (.mk A B C E F G I J L M N O P Q T v)) p
def Aa5 {β:Type} (p:HB) (k:HA->β):β:=@HB.rec (fun _=>β) (fun A B C E F G I J L M N O P Q T U=>k A) p
def Z2 {β:Type} (p:HB) (k:HA->β):β:=@HB.rec (fun _=>β) (fun A B C E F G I J L M N O P Q T U=>k B) p
def Abc {β:Type} (p:HB) (k:HA->β):β:=@HB.rec (fun _=>β) (fun A B C E F G I J L M N O P Q T U=>k C) p
def Ab7 {β:Type} (p:HB) (k:HA->β):β:=@HB.rec (fun _=>β) (fun A B C E F G I J L M N O P Q T U=>k E) p
def Aas {β:Type} (p:HB) (k:HA->β):β:=@HB.rec (fun _=>β) (fun A B C E F G I J L M N O P Q T U=>k F) p
def Yp {β:Type} (p:HB) (k:HA->β):β:=@HB.rec (fun _=>β) (fun A B C E F G I J L M N O P Q T U=>k G) p
def Ab5 {β:Type} (p:HB) (k:HA->β):β:=@HB.rec (fun _=>β) (fun A B C E F G I J L M N O P Q T U=>k I) p
def Abi {β:Type} (p:HB) (k:HA->β):β:=@HB.rec (fun _=>β) (fun A B C E F G I J L M N O P Q T U=>k J) p
def Aag {β:Type} (p:HB) (k:HA->β):β:=@HB.rec (fun _=>β) (fun A B C E F G I J L M N O P Q T U=>k L) p
def YW {β:Type} (p:HB) (k:HA->β):β:=@HB.rec (fun _=>β) (fun A B C E F G I J L M N O P Q T U=>k M) p
def XY {β:Type} (p:HB) (k:HA->β):β:=@HB.rec (fun _=>β) (fun A B C E F G I J L M N O P Q T U=>k N) p
def X4 {β:Type} (p:HB) (k:HA->β):β:=@HB.rec (fun _=>β) (fun A B C E F G I J L M N O P Q T U=>k O) p
def XH {β:Type} (p:HB) (k:HA->β):β:=@HB.rec (fun _=>β) (fun A B C E F G I J L M N O P Q T U=>k P) p
def XL {β:Type} (p:HB) (k:HA->β):β:=@HB.rec (fun _=>β) (fun A B C E F G I J L M N O P Q T U=>k Q) p
def Xm {β:Type} (p:HB) (k:HA->β):β:=@HB.rec (fun _=>β) (fun A B C E F G I J L M N O P Q T U=>k T) p
def XP {β:Type} (p:HB) (k:HA->β):β:=@HB.rec (fun _=>β) (fun A B C E F G I J L M N O P Q T U=>k U) p
def HB.selK {β:Type} (d:D):HB->(HA->β)->β :=
 @D.rec (fun _=>HB->(HA->β)->β) Aa5 Z2 Abc Ab7 Aas Yp Ab5 Abi Aag YW XY X4 XH XL Xm XP d
theorem HB.selK_eq {β:Type} (d:D) (p:HB) (k:HA->β):HB.selK d p k=k (HB.sel d p):=by
 cases d <;> cases p <;> rfl
def HB.setK {β:Type} (d:D):HB->HA->(HB->β)->β :=
 @D.rec (fun _=>HB->HA->(HB->β)->β) Aad ZX Z9 Zd Aam Aaj Z8 Yo YT Aaf Xv X6 WT XS WR Xg d
def HB.setS (d:D) (p:HB) (v:HA):HB:=HB.setK d p v id
theorem HB.setK_eq {β:Type} (d:D) (p:HB) (v:HA) (k:HB->β):HB.setK d p v k=k (HB.setS d p v):=by
 cases d <;> cases p <;> rfl
theorem HB.sel_setS_same (d:D) (p:HB) (v:HA):HB.sel d (HB.setS d p v)=v:=by
 cases d <;> cases p <;> rfl
theorem HB.sel_setS_ne {d e:D} (p:HB) (v:HA) (h:d≠e):HB.sel e (HB.setS d p v)=HB.sel e p:=by
 cases p; cases d <;> cases e <;> first | rfl | exact absurd rfl h
theorem HB.sel_all (d:D) (x:HA):HB.sel d (HB.all x)=x:=by cases d <;> rfl
inductive HC where
 | mk (A B C E F G I J L M N O P Q T U:HB)
def HC.all (x:HB):HC:=.mk x x x x x x x x x x x x x x x x
def HC.sel (d:D) (p:HC):HB :=
 @HC.rec (fun _=>HB) (fun A B C E F G I J L M N O P Q T U=>@D.rec (fun _=>HB) A B C E F G I J L M N O P Q T U d) p
def Aak {β:Type} (p:HC) (v:HB) (k:HC->β):β:=@HC.rec (fun _=>β) (fun A B C E F G I J L M N O P Q T U=>k (.mk v B C E F G I J L M N O P Q T U)) p
def ZZ {β:Type} (p:HC) (v:HB) (k:HC->β):β:=@HC.rec (fun _=>β) (fun A B C E F G I J L M N O P Q T U=>k (.mk A v C E F G I J L M N O P Q T U)) p
def Abu {β:Type} (p:HC) (v:HB) (k:HC->β):β:=@HC.rec (fun _=>β) (fun A B C E F G I J L M N O P Q T U=>k (.mk A B v E F G I J L M N O P Q T U)) p
def ZY {β:Type} (p:HC) (v:HB) (k:HC->β):β:=@HC.rec (fun _=>β) (fun A B C E F G I J L M N O P Q T U=>k (.mk A B C v F G I J L M N O P Q T U)) p
def ZR {β:Type} (p:HC) (v:HB) (k:HC->β):β:=@HC.rec (fun _=>β) (fun A B C E F G I J L M N O P Q T U=>k (.mk A B C E v G I J L M N O P Q T U)) p
def ZH {β:Type} (p:HC) (v:HB) (k:HC->β):β:=@HC.rec (fun _=>β) (fun A B C E F G I J L M N O P Q T U=>k (.mk A B C E F v I J L M N O P Q T U)) p
def Zv {β:Type} (p:HC) (v:HB) (k:HC->β):β:=@HC.rec (fun _=>β) (fun A B C E F G I J L M N O P Q T U=>k (.mk A B C E F G v J L M N O P Q T U)) p
def Aau {β:Type} (p:HC) (v:HB) (k:HC->β):β:=@HC.rec (fun _=>β) (fun A B C E F G I J L M N O P Q T U=>k (.mk A B C E F G I v L M N O P Q T U)) p
def ZI {β:Type} (p:HC) (v:HB) (k:HC->β):β:=@HC.rec (fun _=>β) (fun A B C E F G I J L M N O P Q T U=>k (.mk A B C E F G I J v M N O P Q T U)) p
def YB {β:Type} (p:HC) (v:HB) (k:HC->β):β:=@HC.rec (fun _=>β) (fun A B C E F G I J L M N O P Q T U=>k (.mk A B C E F G I J L v N O P Q T U)) p
def XF {β:Type} (p:HC) (v:HB) (k:HC->β):β:=@HC.rec (fun _=>β) (fun A B C E F G I J L M N O P Q T U=>k (.mk A B C E F G I J L M v O P Q T U)) p
def WQ {β:Type} (p:HC) (v:HB) (k:HC->β):β:=@HC.rec (fun _=>β) (fun A B C E F G I J L M N O P Q T U=>k (.mk A B C E F G I J L M N v P Q T U)) p
def XW {β:Type} (p:HC) (v:HB) (k:HC->β):β:=@HC.rec (fun _=>β) (fun A B C E F G I J L M N O P Q T U=>k (.mk A B C E F G I J L M N O v Q T U)) p
def WK {β:Type} (p:HC) (v:HB) (k:HC->β):β:=@HC.rec (fun _=>β) (fun A B C E F G I J L M N O P Q T U=>k (.mk A B C E F G I J L M N O P v T U)) p
def Xy {β:Type} (p:HC) (v:HB) (k:HC->β):β:=@HC.rec (fun _=>β) (fun A B C E F G I J L M N O P Q T U=>k (.mk A B C E F G I J L M N O P Q v U)) p
def Xw {β:Type} (p:HC) (v:HB) (k:HC->β):β:=@HC.rec (fun _=>β) (fun A B C E F G I J L M N O P Q T U=>k (.mk A B C E F G I J L M N O P Q T v)) p
def Zo {β:Type} (p:HC) (k:HB->β):β:=@HC.rec (fun _=>β) (fun A B C E F G I J L M N O P Q T U=>k A) p
def Zr {β:Type} (p:HC) (k:HB->β):β:=@HC.rec (fun _=>β) (fun A B C E F G I J L M N O P Q T U=>k B) p
def Aa2 {β:Type} (p:HC) (k:HB->β):β:=@HC.rec (fun _=>β) (fun A B C E F G I J L M N O P Q T U=>k C) p
def Abj {β:Type} (p:HC) (k:HB->β):β:=@HC.rec (fun _=>β) (fun A B C E F G I J L M N O P Q T U=>k E) p
def Ab4 {β:Type} (p:HC) (k:HB->β):β:=@HC.rec (fun _=>β) (fun A B C E F G I J L M N O P Q T U=>k F) p
def Ac1 {β:Type} (p:HC) (k:HB->β):β:=@HC.rec (fun _=>β) (fun A B C E F G I J L M N O P Q T U=>k G) p
def YF {β:Type} (p:HC) (k:HB->β):β:=@HC.rec (fun _=>β) (fun A B C E F G I J L M N O P Q T U=>k I) p
def Za {β:Type} (p:HC) (k:HB->β):β:=@HC.rec (fun _=>β) (fun A B C E F G I J L M N O P Q T U=>k J) p
def Ab9 {β:Type} (p:HC) (k:HB->β):β:=@HC.rec (fun _=>β) (fun A B C E F G I J L M N O P Q T U=>k L) p
def YX {β:Type} (p:HC) (k:HB->β):β:=@HC.rec (fun _=>β) (fun A B C E F G I J L M N O P Q T U=>k M) p
def WP {β:Type} (p:HC) (k:HB->β):β:=@HC.rec (fun _=>β) (fun A B C E F G I J L M N O P Q T U=>k N) p
def Ws {β:Type} (p:HC) (k:HB->β):β:=@HC.rec (fun _=>β) (fun A B C E F G I J L M N O P Q T U=>k O) p
def Wv {β:Type} (p:HC) (k:HB->β):β:=@HC.rec (fun _=>β) (fun A B C E F G I J L M N O P Q T U=>k P) p
def XQ {β:Type} (p:HC) (k:HB->β):β:=@HC.rec (fun _=>β) (fun A B C E F G I J L M N O P Q T U=>k Q) p
def Wm {β:Type} (p:HC) (k:HB->β):β:=@HC.rec (fun _=>β) (fun A B C E F G I J L M N O P Q T U=>k T) p
def Y1 {β:Type} (p:HC) (k:HB->β):β:=@HC.rec (fun _=>β) (fun A B C E F G I J L M N O P Q T U=>k U) p
def HC.selK {β:Type} (d:D):HC->(HB->β)->β :=
 @D.rec (fun _=>HC->(HB->β)->β) Zo Zr Aa2 Abj Ab4 Ac1 YF Za Ab9 YX WP Ws Wv XQ Wm Y1 d
theorem HC.selK_eq {β:Type} (d:D) (p:HC) (k:HB->β):HC.selK d p k=k (HC.sel d p):=by
 cases d <;> cases p <;> rfl
def HC.setK {β:Type} (d:D):HC->HB->(HC->β)->β :=
 @D.rec (fun _=>HC->HB->(HC->β)->β) Aak ZZ Abu ZY ZR ZH Zv Aau ZI YB XF WQ XW WK Xy Xw d
def HC.setS (d:D) (p:HC) (v:HB):HC:=HC.setK d p v id
theorem HC.setK_eq {β:Type} (d:D) (p:HC) (v:HB) (k:HC->β):HC.setK d p v k=k (HC.setS d p v):=by
 cases d <;> cases p <;> rfl
theorem HC.sel_setS_same (d:D) (p:HC) (v:HB):HC.sel d (HC.setS d p v)=v:=by
 cases d <;> cases p <;> rfl
theorem HC.sel_setS_ne {d e:D} (p:HC) (v:HB) (h:d≠e):HC.sel e (HC.setS d p v)=HC.sel e p:=by
 cases p; cases d <;> cases e <;> first | rfl | exact absurd rfl h
theorem HC.sel_all (d:D) (x:HB):HC.sel d (HC.all x)=x:=by cases d <;> rfl
inductive Heap where
 | mk (A B C E F G I J L M N O P Q T U:HC)
def Heap.all (x:HC):Heap:=.mk x x x x x x x x x x x x x x x x
def Heap.sel (d:D) (p:Heap):HC :=
 @Heap.rec (fun _=>HC) (fun A B C E F G I J L M N O P Q T U=>@D.rec (fun _=>HC) A B C E F G I J L M N O P Q T U d) p
def Zj {β:Type} (p:Heap) (v:HC) (k:Heap->β):β:=@Heap.rec (fun _=>β) (fun A B C E F G I J L M N O P Q T U=>k (.mk v B C E F G I J L M N O P Q T U)) p
def Z4 {β:Type} (p:Heap) (v:HC) (k:Heap->β):β:=@Heap.rec (fun _=>β) (fun A B C E F G I J L M N O P Q T U=>k (.mk A v C E F G I J L M N O P Q T U)) p
def ZS {β:Type} (p:Heap) (v:HC) (k:Heap->β):β:=@Heap.rec (fun _=>β) (fun A B C E F G I J L M N O P Q T U=>k (.mk A B v E F G I J L M N O P Q T U)) p
def Aap {β:Type} (p:Heap) (v:HC) (k:Heap->β):β:=@Heap.rec (fun _=>β) (fun A B C E F G I J L M N O P Q T U=>k (.mk A B C v F G I J L M N O P Q T U)) p
def Aat {β:Type} (p:Heap) (v:HC) (k:Heap->β):β:=@Heap.rec (fun _=>β) (fun A B C E F G I J L M N O P Q T U=>k (.mk A B C E v G I J L M N O P Q T U)) p
def YP {β:Type} (p:Heap) (v:HC) (k:Heap->β):β:=@Heap.rec (fun _=>β) (fun A B C E F G I J L M N O P Q T U=>k (.mk A B C E F v I J L M N O P Q T U)) p
def YJ {β:Type} (p:Heap) (v:HC) (k:Heap->β):β:=@Heap.rec (fun _=>β) (fun A B C E F G I J L M N O P Q T U=>k (.mk A B C E F G v J L M N O P Q T U)) p
def YM {β:Type} (p:Heap) (v:HC) (k:Heap->β):β:=@Heap.rec (fun _=>β) (fun A B C E F G I J L M N O P Q T U=>k (.mk A B C E F G I v L M N O P Q T U)) p
def Aaa {β:Type} (p:Heap) (v:HC) (k:Heap->β):β:=@Heap.rec (fun _=>β) (fun A B C E F G I J L M N O P Q T U=>k (.mk A B C E F G I J v M N O P Q T U)) p
def Zk {β:Type} (p:Heap) (v:HC) (k:Heap->β):β:=@Heap.rec (fun _=>β) (fun A B C E F G I J L M N O P Q T U=>k (.mk A B C E F G I J L v N O P Q T U)) p
def Y0 {β:Type} (p:Heap) (v:HC) (k:Heap->β):β:=@Heap.rec (fun _=>β) (fun A B C E F G I J L M N O P Q T U=>k (.mk A B C E F G I J L M v O P Q T U)) p
def XG {β:Type} (p:Heap) (v:HC) (k:Heap->β):β:=@Heap.rec (fun _=>β) (fun A B C E F G I J L M N O P Q T U=>k (.mk A B C E F G I J L M N v P Q T U)) p
def XZ {β:Type} (p:Heap) (v:HC) (k:Heap->β):β:=@Heap.rec (fun _=>β) (fun A B C E F G I J L M N O P Q T U=>k (.mk A B C E F G I J L M N O v Q T U)) p
def XO {β:Type} (p:Heap) (v:HC) (k:Heap->β):β:=@Heap.rec (fun _=>β) (fun A B C E F G I J L M N O P Q T U=>k (.mk A B C E F G I J L M N O P v T U)) p
def Xt {β:Type} (p:Heap) (v:HC) (k:Heap->β):β:=@Heap.rec (fun _=>β) (fun A B C E F G I J L M N O P Q T U=>k (.mk A B C E F G I J L M N O P Q v U)) p
def Xi {β:Type} (p:Heap) (v:HC) (k:Heap->β):β:=@Heap.rec (fun _=>β) (fun A B C E F G I J L M N O P Q T U=>k (.mk A B C E F G I J L M N O P Q T v)) p
def Yt {β:Type} (p:Heap) (k:HC->β):β:=@Heap.rec (fun _=>β) (fun A B C E F G I J L M N O P Q T U=>k A) p
def Aai {β:Type} (p:Heap) (k:HC->β):β:=@Heap.rec (fun _=>β) (fun A B C E F G I J L M N O P Q T U=>k B) p
def ZQ {β:Type} (p:Heap) (k:HC->β):β:=@Heap.rec (fun _=>β) (fun A B C E F G I J L M N O P Q T U=>k C) p
def YS {β:Type} (p:Heap) (k:HC->β):β:=@Heap.rec (fun _=>β) (fun A B C E F G I J L M N O P Q T U=>k E) p
def ZM {β:Type} (p:Heap) (k:HC->β):β:=@Heap.rec (fun _=>β) (fun A B C E F G I J L M N O P Q T U=>k F) p
def ZT {β:Type} (p:Heap) (k:HC->β):β:=@Heap.rec (fun _=>β) (fun A B C E F G I J L M N O P Q T U=>k G) p
def Ac2 {β:Type} (p:Heap) (k:HC->β):β:=@Heap.rec (fun _=>β) (fun A B C E F G I J L M N O P Q T U=>k I) p
def ZO {β:Type} (p:Heap) (k:HC->β):β:=@Heap.rec (fun _=>β) (fun A B C E F G I J L M N O P Q T U=>k J) p
def YL {β:Type} (p:Heap) (k:HC->β):β:=@Heap.rec (fun _=>β) (fun A B C E F G I J L M N O P Q T U=>k L) p
def Z1 {β:Type} (p:Heap) (k:HC->β):β:=@Heap.rec (fun _=>β) (fun A B C E F G I J L M N O P Q T U=>k M) p
def XJ {β:Type} (p:Heap) (k:HC->β):β:=@Heap.rec (fun _=>β) (fun A B C E F G I J L M N O P Q T U=>k N) p
def XC {β:Type} (p:Heap) (k:HC->β):β:=@Heap.rec (fun _=>β) (fun A B C E F G I J L M N O P Q T U=>k O) p
def Wz {β:Type} (p:Heap) (k:HC->β):β:=@Heap.rec (fun _=>β) (fun A B C E F G I J L M N O P Q T U=>k P) p
def WG {β:Type} (p:Heap) (k:HC->β):β:=@Heap.rec (fun _=>β) (fun A B C E F G I J L M N O P Q T U=>k Q) p
def WV {β:Type} (p:Heap) (k:HC->β):β:=@Heap.rec (fun _=>β) (fun A B C E F G I J L M N O P Q T U=>k T) p
def WW {β:Type} (p:Heap) (k:HC->β):β:=@Heap.rec (fun _=>β) (fun A B C E F G I J L M N O P Q T U=>k U) p
def Heap.selK {β:Type} (d:D):Heap->(HC->β)->β :=
 @D.rec (fun _=>Heap->(HC->β)->β) Yt Aai ZQ YS ZM ZT Ac2 ZO YL Z1 XJ XC Wz WG WV WW d
theorem Heap.selK_eq {β:Type} (d:D) (p:Heap) (k:HC->β):Heap.selK d p k=k (Heap.sel d p):=by
 cases d <;> cases p <;> rfl
def Heap.setK {β:Type} (d:D):Heap->HC->(Heap->β)->β :=
 @D.rec (fun _=>Heap->HC->(Heap->β)->β) Zj Z4 ZS Aap Aat YP YJ YM Aaa Zk Y0 XG XZ XO Xt Xi d
def Heap.setS (d:D) (p:Heap) (v:HC):Heap:=Heap.setK d p v id
theorem Heap.setK_eq {β:Type} (d:D) (p:Heap) (v:HC) (k:Heap->β):Heap.setK d p v k=k (Heap.setS d p v):=by
 cases d <;> cases p <;> rfl
theorem Heap.sel_setS_same (d:D) (p:Heap) (v:HC):Heap.sel d (Heap.setS d p v)=v:=by
 cases d <;> cases p <;> rfl
theorem Heap.sel_setS_ne {d e:D} (p:Heap) (v:HC) (h:d≠e):Heap.sel e (Heap.setS d p v)=Heap.sel e p:=by
 cases p; cases d <;> cases e <;> first | rfl | exact absurd rfl h
theorem Heap.sel_all (d:D) (x:HC):Heap.sel d (Heap.all x)=x:=by cases d <;> rfl
inductive O8 where
 | d0 | d1 | d2 | d3 | d4 | d5 | d6 | d7
inductive O4 where
 | d0 | d1 | d2 | d3
inductive SQ where
 | mk (c0 c1 c2 c3:V)
def SQ.all (x:V):SQ:=.mk x x x x
def SQ.sel (d:O4) (p:SQ):V :=
 @SQ.rec (fun _=>V) (fun c0 c1 c2 c3=>@O4.rec (fun _=>V) c0 c1 c2 c3 d) p
def Aar {β:Type} (p:SQ) (v:V) (k:SQ->β):β:=@SQ.rec (fun _=>β) (fun c0 c1 c2 c3=>k (.mk v c1 c2 c3)) p
def Abs {β:Type} (p:SQ) (v:V) (k:SQ->β):β:=@SQ.rec (fun _=>β) (fun c0 c1 c2 c3=>k (.mk c0 v c2 c3)) p
def YN {β:Type} (p:SQ) (v:V) (k:SQ->β):β:=@SQ.rec (fun _=>β) (fun c0 c1 c2 c3=>k (.mk c0 c1 v c3)) p
def Abx {β:Type} (p:SQ) (v:V) (k:SQ->β):β:=@SQ.rec (fun _=>β) (fun c0 c1 c2 c3=>k (.mk c0 c1 c2 v)) p
def YY {β:Type} (p:SQ) (k:V->β):β:=@SQ.rec (fun _=>β) (fun c0 c1 c2 c3=>k c0) p
def Ac3 {β:Type} (p:SQ) (k:V->β):β:=@SQ.rec (fun _=>β) (fun c0 c1 c2 c3=>k c1) p
def Abt {β:Type} (p:SQ) (k:V->β):β:=@SQ.rec (fun _=>β) (fun c0 c1 c2 c3=>k c2) p
def Ab1 {β:Type} (p:SQ) (k:V->β):β:=@SQ.rec (fun _=>β) (fun c0 c1 c2 c3=>k c3) p
def SQ.selK {β:Type} (d:O4):SQ->(V->β)->β :=
 @O4.rec (fun _=>SQ->(V->β)->β) YY Ac3 Abt Ab1 d
theorem SQ.selK_eq {β:Type} (d:O4) (p:SQ) (k:V->β):SQ.selK d p k=k (SQ.sel d p):=by
 cases d <;> cases p <;> rfl
def SQ.setK {β:Type} (d:O4):SQ->V->(SQ->β)->β :=
 @O4.rec (fun _=>SQ->V->(SQ->β)->β) Aar Abs YN Abx d
def SQ.setS (d:O4) (p:SQ) (v:V):SQ:=SQ.setK d p v id
theorem SQ.setK_eq {β:Type} (d:O4) (p:SQ) (v:V) (k:SQ->β):SQ.setK d p v k=k (SQ.setS d p v):=by
 cases d <;> cases p <;> rfl
theorem SQ.sel_setS_same (d:O4) (p:SQ) (v:V):SQ.sel d (SQ.setS d p v)=v:=by
 cases d <;> cases p <;> rfl
theorem SQ.sel_setS_ne {d e:O4} (p:SQ) (v:V) (h:d≠e):SQ.sel e (SQ.setS d p v)=SQ.sel e p:=by
 cases p; cases d <;> cases e <;> first | rfl | exact absurd rfl h
theorem SQ.sel_all (d:O4) (x:V):SQ.sel d (SQ.all x)=x:=by cases d <;> rfl
inductive S where
 | mk (c0 c1 c2 c3 c4 c5 c6 c7:SQ)
def S.all (x:SQ):S:=.mk x x x x x x x x
def S.sel (d:O8) (p:S):SQ :=
 @S.rec (fun _=>SQ) (fun c0 c1 c2 c3 c4 c5 c6 c7=>@O8.rec (fun _=>SQ) c0 c1 c2 c3 c4 c5 c6 c7 d) p
def YD {β:Type} (p:S) (v:SQ) (k:S->β):β:=@S.rec (fun _=>β) (fun c0 c1 c2 c3 c4 c5 c6 c7=>k (.mk v c1 c2 c3 c4 c5 c6 c7)) p
def YC {β:Type} (p:S) (v:SQ) (k:S->β):β:=@S.rec (fun _=>β) (fun c0 c1 c2 c3 c4 c5 c6 c7=>k (.mk c0 v c2 c3 c4 c5 c6 c7)) p
def Aae {β:Type} (p:S) (v:SQ) (k:S->β):β:=@S.rec (fun _=>β) (fun c0 c1 c2 c3 c4 c5 c6 c7=>k (.mk c0 c1 v c3 c4 c5 c6 c7)) p
def Yx {β:Type} (p:S) (v:SQ) (k:S->β):β:=@S.rec (fun _=>β) (fun c0 c1 c2 c3 c4 c5 c6 c7=>k (.mk c0 c1 c2 v c4 c5 c6 c7)) p
def Abn {β:Type} (p:S) (v:SQ) (k:S->β):β:=@S.rec (fun _=>β) (fun c0 c1 c2 c3 c4 c5 c6 c7=>k (.mk c0 c1 c2 c3 v c5 c6 c7)) p
def Zt {β:Type} (p:S) (v:SQ) (k:S->β):β:=@S.rec (fun _=>β) (fun c0 c1 c2 c3 c4 c5 c6 c7=>k (.mk c0 c1 c2 c3 c4 v c6 c7)) p
def Abd {β:Type} (p:S) (v:SQ) (k:S->β):β:=@S.rec (fun _=>β) (fun c0 c1 c2 c3 c4 c5 c6 c7=>k (.mk c0 c1 c2 c3 c4 c5 v c7)) p
def Aah {β:Type} (p:S) (v:SQ) (k:S->β):β:=@S.rec (fun _=>β) (fun c0 c1 c2 c3 c4 c5 c6 c7=>k (.mk c0 c1 c2 c3 c4 c5 c6 v)) p
def YA {β:Type} (p:S) (k:SQ->β):β:=@S.rec (fun _=>β) (fun c0 c1 c2 c3 c4 c5 c6 c7=>k c0) p
def Aa9 {β:Type} (p:S) (k:SQ->β):β:=@S.rec (fun _=>β) (fun c0 c1 c2 c3 c4 c5 c6 c7=>k c1) p
def ZE {β:Type} (p:S) (k:SQ->β):β:=@S.rec (fun _=>β) (fun c0 c1 c2 c3 c4 c5 c6 c7=>k c2) p
def Aa1 {β:Type} (p:S) (k:SQ->β):β:=@S.rec (fun _=>β) (fun c0 c1 c2 c3 c4 c5 c6 c7=>k c3) p
def Ze {β:Type} (p:S) (k:SQ->β):β:=@S.rec (fun _=>β) (fun c0 c1 c2 c3 c4 c5 c6 c7=>k c4) p
def Aac {β:Type} (p:S) (k:SQ->β):β:=@S.rec (fun _=>β) (fun c0 c1 c2 c3 c4 c5 c6 c7=>k c5) p
def Yy {β:Type} (p:S) (k:SQ->β):β:=@S.rec (fun _=>β) (fun c0 c1 c2 c3 c4 c5 c6 c7=>k c6) p
def Z6 {β:Type} (p:S) (k:SQ->β):β:=@S.rec (fun _=>β) (fun c0 c1 c2 c3 c4 c5 c6 c7=>k c7) p
def S.selK {β:Type} (d:O8):S->(SQ->β)->β :=
 @O8.rec (fun _=>S->(SQ->β)->β) YA Aa9 ZE Aa1 Ze Aac Yy Z6 d
theorem S.selK_eq {β:Type} (d:O8) (p:S) (k:SQ->β):S.selK d p k=k (S.sel d p):=by
 cases d <;> cases p <;> rfl
def S.setK {β:Type} (d:O8):S->SQ->(S->β)->β :=
 @O8.rec (fun _=>S->SQ->(S->β)->β) YD YC Aae Yx Abn Zt Abd Aah d
def S.setS (d:O8) (p:S) (v:SQ):S:=S.setK d p v id
theorem S.setK_eq {β:Type} (d:O8) (p:S) (v:SQ) (k:S->β):S.setK d p v k=k (S.setS d p v):=by
 cases d <;> cases p <;> rfl
theorem S.sel_setS_same (d:O8) (p:S) (v:SQ):S.sel d (S.setS d p v)=v:=by
 cases d <;> cases p <;> rfl
theorem S.sel_setS_ne {d e:O8} (p:S) (v:SQ) (h:d≠e):S.sel e (S.setS d p v)=S.sel e p:=by
 cases p; cases d <;> cases e <;> first | rfl | exact absurd rfl h
theorem S.sel_all (d:O8) (x:SQ):S.sel d (S.all x)=x:=by cases d <;> rfl
end Go.Ev

namespace Go.Ev
set_option linter.unusedVariables false
def K4.toN (p:K4):Nat:=p.a.toN*4096+p.b.toN*256+p.c.toN*16+p.d.toN
theorem K4.toN_inj {p q:K4} (h:p.toN=q.toN):p=q:=by
 obtain ⟨a,b,c,d⟩:=p
 obtain ⟨a',b',c',d'⟩:=q
 simp only [K4.toN] at h
 have:=a.toN_lt; have:=b.toN_lt; have:=c.toN_lt; have:=d.toN_lt
 have:=a'.toN_lt; have:=b'.toN_lt; have:=c'.toN_lt; have:=d'.toN_lt
 have ha:a=a':=D.toN_inj (by omega)
 have hb:b=b':=D.toN_inj (by omega)
 have hc:c=c':=D.toN_inj (by omega)
 have hd:d=d':=D.toN_inj (by omega)
 subst ha hb hc hd; rfl
def K4.beq (p q:K4):Bool:=and (p.d.beq q.d) (and (p.c.beq q.c) (and (p.b.beq q.b) (p.a.beq q.a)))
theorem K4.beq_iff {p q:K4}:p.beq q=true ↔ p=q:=by
 obtain ⟨a,b,c,d⟩:=p
 obtain ⟨a',b',c',d'⟩:=q
 simp only [K4.beq,Bool.and_eq_true,D.beq_iff,K4.mk.injEq]
 constructor
 ·rintro ⟨rfl,rfl,rfl,rfl⟩; exact ⟨rfl,rfl,rfl,rfl⟩
 ·rintro ⟨rfl,rfl,rfl,rfl⟩; exact ⟨rfl,rfl,rfl,rfl⟩
inductive Ex where
 | nrm
 | exit (id:Nat)
 | ret
inductive R where
 | ok (e:Ex) (t:S) (h:Heap) (n:K4)
 | rv (v:V) (h:Heap) (n:K4)
 | fail (why:String)
 | both (a b:R)
abbrev KV:=V->Heap->K4->R
def AL (p:K4) (h:Heap):Option Ob:=HA.sel p.d (HB.sel p.c (HC.sel p.b (Heap.sel p.a h)))
def QT {β:Type} (p:K4) (h:Heap) (κ:Option Ob->β):β :=
 @K4.rec (fun _=>β) (fun a b c d=>Heap.selK a h fun x=>HC.selK b x fun y=>HB.selK c y fun z=>HA.selK d z κ) p
theorem DF {β:Type} (p:K4) (h:Heap) (κ:Option Ob->β):QT p h κ=κ (AL p h):=by
 cases p; simp only [QT,Heap.selK_eq,HC.selK_eq,HB.selK_eq,HA.selK_eq,AL]
def Fo {β:Type} (p:K4) (h:Heap) (o:Option Ob) (k:Heap->β):β :=
 @K4.rec (fun _=>β) (fun a b c d=>Heap.selK a h fun x=>HC.selK b x fun y=>HB.selK c y fun z =>
  HA.setK d z o fun z=>HB.setK c y z fun y=>HC.setK b x y fun x=>Heap.setK a h x k) p
def B5 (p:K4) (h:Heap) (o:Option Ob):Heap:=Fo p h o id
theorem Bt {β:Type} (p:K4) (h:Heap) (o:Option Ob) (k:Heap->β):Fo p h o k=k (B5 p h o):=by
 cases p; simp only [Fo,B5,Heap.setK_eq,HC.setK_eq,HB.setK_eq,HA.setK_eq,Heap.selK_eq,HC.selK_eq,HB.selK_eq]; rfl
theorem AF (p:K4) (h:Heap) (o:Option Ob):AL p (B5 p h o)=o:=by
 cases p; simp only [AL,B5,Fo,Heap.setK_eq,HC.setK_eq,HB.setK_eq,HA.setK_eq,Heap.selK_eq,HC.selK_eq,HB.selK_eq,HA.selK_eq,id,Heap.sel_setS_same,HC.sel_setS_same,HB.sel_setS_same,HA.sel_setS_same]
theorem As {p q:K4} (h:Heap) (o:Option Ob) (hne:p≠q):AL q (B5 p h o)=AL q h:=by
 obtain ⟨a,b,c,d⟩:=p
 obtain ⟨a',b',c',d'⟩:=q
 simp only [AL,B5,Fo,Heap.setK_eq,HC.setK_eq,HB.setK_eq,HA.setK_eq,Heap.selK_eq,HC.selK_eq,HB.selK_eq,HA.selK_eq,id]
 by_cases ha:a=a'
 ·subst ha
  rw [Heap.sel_setS_same]
  by_cases hb:b=b'
  ·subst hb
   rw [HC.sel_setS_same]
   by_cases hc:c=c'
   ·subst hc
    rw [HB.sel_setS_same]
    by_cases hd:d=d'
    ·subst hd; exact absurd rfl hne
    ·rw [HA.sel_setS_ne _ _ hd]
   ·rw [HB.sel_setS_ne _ _ hc]
  ·rw [HC.sel_setS_ne _ _ hb]
 ·rw [Heap.sel_setS_ne _ _ ha]
def AT:Heap:=Heap.all (HC.all (HB.all (HA.all none)))
theorem Cv (p:K4):AL p AT=none:=by simp only [AL,AT,Heap.sel_all,HC.sel_all,HB.sel_all,HA.sel_all]
def K4.nx (p:K4) (k:K4->R):R :=
 @K4.rec (fun _=>R) (fun a b c d=>d.nx (fun d=>k ⟨a,b,c,d⟩)
  (c.nx (fun c=>k ⟨a,b,c,.d0⟩)
   (b.nx (fun b=>k ⟨a,b,.d0,.d0⟩)
    (a.nx (fun a=>k ⟨a,.d0,.d0,.d0⟩) (.fail ""))))) p
theorem K4.nx_eq (p:K4) (k:K4->R):(∃ w,p.nx k = .fail w) ∨ ∃ q:K4,q.toN=p.toN+1∧p.nx k=k q:=by
 obtain ⟨a,b,c,d⟩:=p
 simp only [K4.nx,K4.toN]
 have hd0:D.d0.toN=0:=rfl
 rcases d.nx_eq (fun d=>k ⟨a,b,c,d⟩) (c.nx (fun c=>k ⟨a,b,c,.d0⟩) (b.nx (fun b=>k ⟨a,b,.d0,.d0⟩) (a.nx (fun a=>k ⟨a,.d0,.d0,.d0⟩) (.fail "")))) with ⟨h,hd⟩ | ⟨e,he,h⟩
 ·rw [h]
  rcases c.nx_eq (fun c=>k ⟨a,b,c,.d0⟩) (b.nx (fun b=>k ⟨a,b,.d0,.d0⟩) (a.nx (fun a=>k ⟨a,.d0,.d0,.d0⟩) (.fail ""))) with ⟨h,hc⟩ | ⟨e,he,h⟩
  ·rw [h]
   rcases b.nx_eq (fun b=>k ⟨a,b,.d0,.d0⟩) (a.nx (fun a=>k ⟨a,.d0,.d0,.d0⟩) (.fail "")) with ⟨h,hb⟩ | ⟨e,he,h⟩
   ·rw [h]
    rcases a.nx_eq (fun a=>k ⟨a,.d0,.d0,.d0⟩) (.fail "") with ⟨h,ha⟩ | ⟨e,he,h⟩
    ·exact .inl ⟨_,h⟩
    ·exact .inr ⟨⟨e,.d0,.d0,.d0⟩,by simp only [he]; omega,h⟩
   ·exact .inr ⟨⟨a,e,.d0,.d0⟩,by simp only [he]; omega,h⟩
  ·exact .inr ⟨⟨a,b,e,.d0⟩,by simp only [he]; omega,h⟩
 ·exact .inr ⟨⟨a,b,c,e⟩,by simp only [he]; omega,h⟩
def K4.nx16 (p:K4) (k:K4->R):R :=
 @K4.rec (fun _=>R) (fun a b c d=>c.nx (fun c=>k ⟨a,b,c,.d0⟩)
  (b.nx (fun b=>k ⟨a,b,.d0,.d0⟩)
   (a.nx (fun a=>k ⟨a,.d0,.d0,.d0⟩) (.fail "")))) p
def K4.at (p:K4) (j:D) (k:K4->R):R:=@K4.rec (fun _=>R) (fun a b c _=>k ⟨a,b,c,j⟩) p
theorem K4.at_eq (p:K4) (j:D) (k:K4->R):p.at j k=k ⟨p.a,p.b,p.c,j⟩:=by cases p; rfl
theorem K4.nx16_eq (p:K4) (k:K4->R):(∃ w,p.nx16 k = .fail w) ∨ ∃ q:K4,q.toN=(p.a.toN*256+p.b.toN*16+p.c.toN+1)*16∧q.d = .d0∧p.nx16 k=k q:=by
 obtain ⟨a,b,c,d⟩:=p
 simp only [K4.nx16,K4.toN]
 have hd0:D.d0.toN=0:=rfl
 rcases c.nx_eq (fun c=>k ⟨a,b,c,.d0⟩) (b.nx (fun b=>k ⟨a,b,.d0,.d0⟩) (a.nx (fun a=>k ⟨a,.d0,.d0,.d0⟩) (.fail ""))) with ⟨h,hc⟩ | ⟨e,he,h⟩
 ·rw [h]
  rcases b.nx_eq (fun b=>k ⟨a,b,.d0,.d0⟩) (a.nx (fun a=>k ⟨a,.d0,.d0,.d0⟩) (.fail "")) with ⟨h,hb⟩ | ⟨e,he,h⟩
  ·rw [h]
   rcases a.nx_eq (fun a=>k ⟨a,.d0,.d0,.d0⟩) (.fail "") with ⟨h,ha⟩ | ⟨e,he,h⟩
   ·exact .inl ⟨_,h⟩
   ·exact .inr ⟨⟨e,.d0,.d0,.d0⟩,by simp only [he]; omega,rfl,h⟩
  ·exact .inr ⟨⟨a,e,.d0,.d0⟩,by simp only [he]; omega,rfl,h⟩
 ·exact .inr ⟨⟨a,b,e,.d0⟩,by simp only [he]; omega,rfl,h⟩
structure K2 where
 a:D
 b:D
def Cf:V:=.tup []
def Ez:S:=S.all (SQ.all Cf)
def Bi (p:K2) (t:Regs):V:=VP.sel p.b (Regs.sel p.a t)
def Hg {β:Type} (p:K2) (t:Regs) (κ:V->β):β :=
 @K2.rec (fun _=>β) (fun a b=>Regs.selK a t fun x=>VP.selK b x κ) p
theorem CA {β:Type} (p:K2) (t:Regs) (κ:V->β):Hg p t κ=κ (Bi p t):=by
 cases p; simp only [Hg,Regs.selK_eq,VP.selK_eq,Bi]
def MP {β:Type} (p:K2) (t:Regs) (v:V) (k:Regs->β):β :=
 @K2.rec (fun _=>β) (fun a b=>Regs.selK a t fun x=>VP.setK b x v fun x=>Regs.setK a t x k) p
def DH (p:K2) (t:Regs) (v:V):Regs:=MP p t v id
theorem No {β:Type} (p:K2) (t:Regs) (v:V) (k:Regs->β):MP p t v k=k (DH p t v):=by
 cases p; simp only [MP,DH,Regs.setK_eq,VP.setK_eq,Regs.selK_eq,VP.selK_eq]; rfl
theorem Be (p:K2) (t:Regs) (v:V):Bi p (DH p t v)=v:=by
 cases p; simp only [Bi,DH,MP,Regs.setK_eq,VP.setK_eq,Regs.selK_eq,VP.selK_eq,id,Regs.sel_setS_same,VP.sel_setS_same]
theorem Bv {p q:K2} (t:Regs) (v:V) (hne:p≠q):Bi q (DH p t v)=Bi q t:=by
 obtain ⟨a,b⟩:=p
 obtain ⟨a',b'⟩:=q
 simp only [Bi,DH,MP,Regs.setK_eq,VP.setK_eq,Regs.selK_eq,VP.selK_eq,id]
 by_cases ha:a=a'
 ·subst ha
  rw [Regs.sel_setS_same]
  by_cases hb:b=b'
  ·subst hb; exact absurd rfl hne
  ·rw [VP.sel_setS_ne _ _ hb]
 ·rw [Regs.sel_setS_ne _ _ ha]
def Gs:Regs:=Regs.all (VP.all Cf)
theorem IX (p:K2):Bi p Gs=Cf:=by simp only [Bi,Gs,Regs.sel_all,VP.sel_all]
def K2.ofN (n:Nat):Option K2:=if n<256 then some ⟨D.ofN (n / 16),D.ofN (n % 16)⟩ else none
theorem K2.ofN_inj {m n:Nat} {p:K2} (h:K2.ofN m=some p) (h':K2.ofN n=some p):m=n:=by
 unfold K2.ofN at h h'
 split at h
 ·split at h'
  ·simp only [Option.some.injEq] at h h'
   rw [←h] at h'
   simp only [K2.mk.injEq] at h'
   have h1:=congrArg D.toN h'.1
   have h2:=congrArg D.toN h'.2
   rw [D.toN_ofN _ (by omega),D.toN_ofN _ (by omega)] at h1
   rw [D.toN_ofN _ (by omega),D.toN_ofN _ (by omega)] at h2
   omega
  ·simp at h'
 ·simp at h
theorem K2.ofN_lt {n:Nat} {p:K2} (h:K2.ofN n=some p):n<256:=by
 unfold K2.ofN at h; split at h
 ·assumption
 ·simp at h
end Go.Ev

namespace Go.Ev
set_option linter.unusedVariables false
def br {β:Type} (c:Bool) (t f:β):β:=@Bool.rec (fun _=>β) f t c
theorem AQ {β:Type} (t f:β):br true t f=t:=rfl
theorem AO {β:Type} (t f:β):br false t f=f:=rfl
def Ai {β:Type} (n:Nat) (k:Nat->β):β:=@Nat.rec (fun _=>β) (k 0) (fun m _=>k (Nat.succ m)) n
theorem Ah {β:Type} (n:Nat) (k:Nat->β):Ai n k=k n:=by cases n <;> rfl
def CH {β:Type} (b:Bool) (k:Bool->β):β:=@Bool.rec (fun _=>β) (k false) (k true) b
theorem C5 {β:Type} (b:Bool) (k:Bool->β):CH b k=k b:=by cases b <;> rfl
def R.good:R->Prop
 | .fail _=>False
 | _=>True
theorem Ao {c:Bool} {t:R} {s:String} (h:(br c t (.fail s)).good):c=true∧br c t (.fail s)=t:=by
 cases c
 ·exact h.elim
 ·exact ⟨rfl,rfl⟩
theorem Fm {c:Bool} {t:R} {s:String} (h:(br c (.fail s) t).good):c=false∧br c (.fail s) t=t:=by
 cases c
 ·exact ⟨rfl,rfl⟩
 ·exact h.elim
def Mk (k:IntKind):Nat:=@IntKind.rec (fun _=>Nat) 256 65536 4294967296 18446744073709551616 256 65536 4294967296 18446744073709551616 k
def Hk (k:IntKind):Nat:=@IntKind.rec (fun _=>Nat) 128 32768 2147483648 9223372036854775808 256 65536 4294967296 18446744073709551616 k
def Z5 (k:IntKind):Nat:=@IntKind.rec (fun _=>Nat) 0 1 2 3 4 5 6 7 k
def BF (k:IntKind) (r:Nat):Int:=if r<Hk k then (r:Int) else (r:Int) - (Mk k:Int)
def Bj (k j:IntKind):Bool:=Nat.beq (Z5 k) (Z5 j)
theorem Bg {k j:IntKind}:Bj k j=true ↔ k=j:=by
 cases k <;> cases j <;> simp [Bj,Z5]
theorem Ea (k:IntKind):0<Mk k:=by cases k <;> simp [Mk]
theorem GF (k:IntKind):Hk k≤Mk k:=by cases k <;> simp [Mk,Hk]
theorem Eo (k:IntKind):Mk k=2 ^ k.bits:=by cases k <;> rfl
theorem G0 {k:IntKind} {z:Int} {r:Nat} (h:z % (Mk k:Int)=r):k.wrap z=BF k r:=by
 cases k <;> simp [Mk,BF,Hk,IntKind.wrap,IntKind.bits,IntKind.signed] at h ⊢ <;> (repeat' split) <;> omega
theorem E7 (k:IntKind) (a:Nat):BF k a % (Mk k:Int)=((a % Mk k:Nat):Int):=by
 unfold BF
 split
 ·exact (Int.natCast_emod a (Mk k)).symm
 ·rw [Int.sub_emod_right]; exact (Int.natCast_emod a (Mk k)).symm
theorem AA {k:IntKind} {a:Nat} (h:a<Hk k):BF k a=a:=by unfold BF; rw [if_pos h]
theorem CL {k:IntKind} {a:Nat} (h:¬ a<Hk k):BF k a=a - Mk k:=by unfold BF; rw [if_neg h]
theorem Jz {k:IntKind} {a b:Nat} (ha:a<Mk k) (hb:b<Mk k) (h:BF k a=BF k b):a=b:=by
 have h1:=E7 k a
 have h2:=E7 k b
 rw [h,h2,Nat.mod_eq_of_lt ha,Nat.mod_eq_of_lt hb] at h1
 omega
def Ho (k:IntKind) (a b:Nat):Bool :=
 br (Nat.ble (Hk k) a) (br (Nat.ble (Hk k) b) (Nat.ble (Nat.succ a) b) true) (br (Nat.ble (Hk k) b) false (Nat.ble (Nat.succ a) b))
theorem Ap {a b:Nat}:Nat.ble a b=true ↔ a≤b:=⟨Nat.le_of_ble_eq_true,Nat.ble_eq_true_of_le⟩
theorem Bp {a b:Nat} (h:b<a):Nat.ble a b=false:=Bool.eq_false_iff.2 (fun e=>by have:=Ap.1 e; omega)
theorem Ht (a b:Nat):Nat.ble a b=decide (a≤b):=by rw [Bool.eq_iff_iff,Ap]; simp
theorem Ej {k:IntKind} {a b:Nat} (ha:a<Mk k) (hb:b<Mk k):Ho k a b=decide (BF k a<BF k b):=by
 have hH:=GF k
 unfold Ho
 by_cases h1:Hk k≤a
 ·rw [Ap.2 h1,AQ,CL (by omega)]
  by_cases h2:Hk k≤b
  ·rw [Ap.2 h2,AQ,CL (by omega),Ht]; apply decide_eq_decide.2; omega
  ·rw [Bp (by omega),AO,AA (by omega)]; symm; apply decide_eq_true; omega
 ·rw [Bp (by omega),AO,AA (by omega)]
  by_cases h2:Hk k≤b
  ·rw [Ap.2 h2,AQ,CL (by omega)]; symm; apply decide_eq_false; omega
  ·rw [Bp (by omega),AO,AA (by omega),Ht]; apply decide_eq_decide.2; omega
def B7:List UInt8->Nat
 | []=>0
 | b::l=>b.toNat+256*B7 l
theorem U3 (l:List UInt8):B7 l<256 ^ l.length:=by
 induction l with
 | nil=>simp [B7]
 | cons b l ih =>
  have:=b.toNat_lt
  simp only [B7,List.length_cons,Nat.pow_succ]
  omega
theorem J6 (a b:List UInt8):B7 (a++b)=B7 a+256 ^ a.length*B7 b:=by
 induction a with
 | nil=>simp [B7]
 | cons x a ih=>simp only [List.cons_append,B7,ih,List.length_cons,Nat.pow_succ,Nat.mul_add,Nat.mul_assoc,Nat.add_assoc]; rw [Nat.mul_left_comm]
theorem Km {a b:List UInt8} (hl:a.length=b.length) (h:B7 a=B7 b):a=b:=by
 induction a generalizing b with
 | nil=>cases b with
  | nil=>rfl
  | cons=>simp at hl
 | cons x a ih =>
  cases b with
  | nil=>simp at hl
  | cons y b =>
   simp only [B7] at h
   have hx:=x.toNat_lt; have hy:=y.toNat_lt
   have h1:x.toNat=y.toNat:=by omega
   have h2:B7 a=B7 b:=by omega
   rw [ih (by simpa using hl) h2,UInt8.toNat_inj.1 h1]
theorem NU (l:List UInt8):∀ n,B7 l / 256 ^ n=B7 (l.drop n):=by
 intro n
 induction n generalizing l with
 | zero=>simp
 | succ n ih =>
  cases l with
  | nil=>simp [B7]
  | cons b l =>
   have:=b.toNat_lt
   rw [Nat.pow_succ,Nat.mul_comm,←Nat.div_div_eq_div_mul]
   have:B7 (b::l) / 256=B7 l:=by simp only [B7]; omega
   rw [this,ih,List.drop_succ_cons]
theorem Sl (l:List UInt8):∀ n,B7 l % 256 ^ n=B7 (l.take n):=by
 intro n
 have h:=J6 (l.take n) (l.drop n)
 rw [List.take_append_drop] at h
 have hlt:=U3 (l.take n)
 by_cases hn:n≤l.length
 ·have hlen:(l.take n).length=n:=by simp [hn]
  rw [hlen] at h hlt
  rw [h,Nat.add_mul_mod_self_left,Nat.mod_eq_of_lt hlt]
 ·rw [List.take_of_length_le (by omega)] at hlt ⊢
  exact Nat.mod_eq_of_lt (Nat.lt_of_lt_of_le hlt (Nat.pow_le_pow_right (by omega) (by omega)))
theorem I6 (l:List UInt8) (i:Nat) (h:i<l.length):(B7 l / 256 ^ i) % 256=l[i].toNat:=by
 rw [NU,List.drop_eq_getElem_cons h]
 have:=l[i].toNat_lt
 simp only [B7]; omega
def sh (c i:Nat):Nat:=Nat.shiftRight c (Nat.mul 8 i)
theorem EE (c i:Nat):sh c i=c / 256 ^ i:=by
 show c >>> (8*i)=_
 rw [Nat.shiftRight_eq_div_pow,Nat.pow_mul]
def lo (c i:Nat):Nat:=Nat.mod c (Nat.pow 256 i)
theorem DE (c i:Nat):lo c i=c % 256 ^ i:=rfl
def up (c i:Nat):Nat:=Nat.shiftLeft c (Nat.mul 8 i)
theorem SK (c i:Nat):up c i=256 ^ i*c:=by
 show c <<< (8*i)=_
 rw [Nat.shiftLeft_eq,Nat.pow_mul,Nat.mul_comm]
structure ApC where
 asg:Code
 bod:Code
 par:Nat
 box:Nat
 ntm:Nat
structure Env where
 v:Nat->Value
 ap:Nat->Option ApC
 gl:Nat->Option (Array Value×TypeId×(Nat×Nat)):=fun _=>none
abbrev B6:=K4->Option (Nat×Nat×Nat)
def C7:Nl->Value
 | .ptr=>.pointer none
 | .sl=>.slice none 0 0
 | .map=>.map none
 | .fn=>.nilFunc
 | .iface=>.nilIface
def QQ (i j:Nat):Bool:=Nat.beq (Nat.mod (Nat.div (Nat.mod i 4294967296) (Nat.pow 2 j)) 2) 1
def W5 (i:Nat):Nat:=Nat.div (Nat.sub i 73786976294838206464) 281474976710656
def Y5 (i:Nat):Nat:=Nat.mod (Nat.div (Nat.sub i 73786976294838206464) 1099511627776) 256
def Yh (i j:Nat):Nat:=Nat.mod (Nat.div (Nat.mod (Nat.sub i 73786976294838206464) 1099511627776) (Nat.pow (W5 i) j)) (W5 i)
def HU (i:Nat):Nat:=Nat.mod (Nat.div (Nat.sub i 36893488147419103233) 65536) 65536
def Xc (i:Nat):Nat:=Nat.div (Nat.sub i 36893488147419103233) 4294967296
def Qw (i:Nat):Nat:=Nat.mod (Nat.sub i 36893488147419103233) 65536
def Lb (ρ:Env) (i j:Nat) (y:Value):Prop:=(i=0 ∧ ∃ b,y = .bool b)∨(1≤i∧i<18446744073709551616∧y=ρ.v (i+j) ∧ ∃ r,r<Mk .i64∧y = .int .i64 (BF .i64 r)) ∨
 (18446744073709551616≤i∧i<36893488147419103232 ∧ ∃ b,y = .bool b∧(j<(i - 18446744073709551616) / 4294967296->b=QQ i j))∨(36893488147419103232≤i∧i<73786976294838206464 ∧ ∃ r,r<Mk .i64∧y = .int .i64 (BF .i64 r)∧(36893488147419103232<i->j=Xc i->(BF .i64 r).tmod (HU i:Nat)+(HU i:Nat)=(Qw i:Nat))) ∨
 (73786976294838206464≤i ∧ ∃ z:Int,y = .int .i64 z ∧ -9223372036854775808≤z∧z<9223372036854775808∧(j<Y5 i->z.natAbs % W5 i=Yh i j))
section
variable (ρ:Env) (φ:B6)
mutual
def AG:V->Value->Prop
 | .int k r,x=>r<Mk k∧x = .int k (BF k r)
 | .bool b,x=>x = .bool b
 | .ptr p off,x=>∃ b s tot,φ p=some (b,s,tot)∧x = .pointer (some ⟨b,s+off,none⟩)
 | .sl p off len cap ex esz,x=>∃ b s tot o cap',φ p=some (b,s,tot)∧x = .slice (some ⟨b,o,none⟩) len cap'∧len≤cap∧cap≤cap' ∧
   (ex=true->cap'=cap)∧(0<cap'->o=s+off∧o+cap'*esz≤tot)
 | .str n c,x=>∃ s:ByteArray,x = .string s∧s.size=n∧B7 s.data.toList=c
 | .agg l,x=>∃ cs:Array Value,x = .agg cs∧Bu l cs.toList ∧ ∀ y∈cs.toList,y.oneCell'=true
 | .nil w,x=>x=C7 w
 | .map p,x=>∃ b s tot,φ p=some (b,s,tot)∧x = .map (some b)
 | .fn f caps,x=>∃ cs:Array Value,x = .func (.func f) #[] cs∧Bu caps cs.toList
 | .tup l,x=>∃ cs:Array Value,x = .tuple cs∧Bu l cs.toList
 | .oth o,x=>match o with | .any=>True | .sym i=>x=ρ.v i | .yl p=>(∃ b s tot,φ p=some (b,s,tot)∧x = .func (.yield b) #[] #[]) | .no=>False | .iv k lo hi=>∃ r,lo≤r∧r≤hi∧r<Mk k∧x = .int k (BF k r) | .os lo hi=>∃ p len cap,x = .slice p len cap∧lo≤len∧len≤hi∧len≤cap | .bl=>∃ b,x = .bool b | .rs m j=>∃ z:Int,x = .int .i64 z ∧ -9223372036854775808≤z∧z<9223372036854775808∧(m<36893488147419103232∧z.natAbs % (m % 18446744073709551616)=j∨(36893488147419103232≤m∧j % 18446744073709551616≤z.natAbs % (m % 18446744073709551616)∧z.natAbs % (m % 18446744073709551616)≤j / 18446744073709551616))∧(18446744073709551616≤m->m<36893488147419103232->0≤z)∧(73786976294838206464≤m->z<0) | .ss lo hi n c=>∃ s:ByteArray,x = .string s∧lo≤s.size∧s.size≤hi ∧ ¬ (s.size=n∧B7 s.data.toList=c) | .ro i lo hi z=>∃ b o len cap c e fr,x = .slice (some ⟨b,o,none⟩) len cap∧lo≤len∧len≤hi∧len≤cap∧ρ.gl b=some (c,e,fr) ∧ ∀ j,j<len*z->∃ y,c[o+j]? = some y∧Lb ρ i j y | .ap i j m=>∃ b o c e fr,x = .pointer (some ⟨b,o,none⟩)∧ρ.gl b=some (c,e,fr) ∧ ∀ q,q<m->∃ y,c[o+q]? = some y∧Lb ρ i (j+q) y | .sy k i=>x=ρ.v i ∧ ∃ r,r<Mk k∧x = .int k (BF k r)
def Bu:List V->List Value->Prop
 | [],l=>l=[]
 | v::vs,l=>∃ y ys,l=y::ys∧AG v y∧Bu vs ys
end
end
end Go.Ev

namespace Go.Ev
abbrev Bb {A0:Sort _} (s:String):A0->R:=fun _=>.fail s
abbrev AV {A0 A1:Sort _} (s:String):A0->A1->R:=fun _ _=>.fail s
abbrev C2 {A0 A1 A2:Sort _} (s:String):A0->A1->A2->R:=fun _ _ _=>.fail s
abbrev Fp {A0 A1 A2 A3:Sort _} (s:String):A0->A1->A2->A3->R:=fun _ _ _ _=>.fail s
abbrev fF5 {A0 A1 A2 A3 A4:Sort _} (s:String):A0->A1->A2->A3->A4->R:=fun _ _ _ _ _=>.fail s
abbrev Dt {A0 A1 A2 A3 A4 A5:Sort _} (s:String):A0->A1->A2->A3->A4->A5->R:=fun _ _ _ _ _ _=>.fail s
set_option linter.unusedVariables false
def Dq (m:Nat):List V->(List V->R)->R :=
 @Nat.rec (fun _=>List V->(List V->R)->R) (fun _ k=>k [])
  (fun _ ih xs k=>@List.rec V (fun _=>R) (.fail "") (fun x ys _=>ih ys fun zs=>k (x::zs)) xs) m
def E6 (m:Nat):List V->(List V->R)->R :=
 @Nat.rec (fun _=>List V->(List V->R)->R) (fun xs k=>k xs)
  (fun _ ih xs k=>@List.rec V (fun _=>R) (.fail "") (fun _ ys _=>ih ys k) xs) m
def Ee (m:Nat):List V->(V->R)->R :=
 @Nat.rec (fun _=>List V->(V->R)->R) (fun xs k=>@List.rec V (fun _=>R) (.fail "") (fun x _ _=>k x) xs)
  (fun _ ih xs k=>@List.rec V (fun _=>R) (.fail "") (fun _ ys _=>ih ys k) xs) m
def ES (xs ys:List V):(List V->R)->R :=
 @List.rec V (fun _=>(List V->R)->R) (fun k=>k ys) (fun x _ ih k=>ih fun zs=>k (x::zs)) xs
def GJ (xs:List V):(Nat->R)->R :=
 @List.rec V (fun _=>(Nat->R)->R) (fun k=>k 0) (fun _ _ ih k=>ih fun n=>Ai (Nat.succ n) k) xs
theorem EC {m:Nat} {xs:List V} {k:List V->R} (h:(Dq m xs k).good):m≤xs.length∧Dq m xs k=k (xs.take m):=by
 induction m generalizing xs k with
 | zero=>exact ⟨Nat.zero_le _,rfl⟩
 | succ m ih =>
  cases xs with
  | nil=>exact h.elim
  | cons x xs =>
   have:=ih (xs:=xs) (k:=fun zs=>k (x::zs)) h
   exact ⟨by simpa using this.1,this.2⟩
theorem EJ {m:Nat} {xs:List V} {k:List V->R} (h:(E6 m xs k).good):m≤xs.length∧E6 m xs k=k (xs.drop m):=by
 induction m generalizing xs with
 | zero=>exact ⟨Nat.zero_le _,rfl⟩
 | succ m ih =>
  cases xs with
  | nil=>exact h.elim
  | cons x xs =>
   have:=ih (xs:=xs) h
   exact ⟨by simpa using this.1,this.2⟩
theorem Eu {m:Nat} {xs:List V} {k:V->R} (h:(Ee m xs k).good):∃ v,xs[m]? = some v∧Ee m xs k=k v:=by
 induction m generalizing xs with
 | zero =>
  cases xs with
  | nil=>exact h.elim
  | cons x xs=>exact ⟨x,rfl,rfl⟩
 | succ m ih =>
  cases xs with
  | nil=>exact h.elim
  | cons x xs =>
   obtain ⟨v,h1,h2⟩:=ih (xs:=xs) h
   exact ⟨v,by simpa using h1,h2⟩
theorem Em (xs ys:List V) (k:List V->R):ES xs ys k=k (xs++ys):=by
 induction xs generalizing k with
 | nil=>rfl
 | cons x xs ih=>exact ih fun zs=>k (x::zs)
theorem Dj (xs:List V) (k:Nat->R):GJ xs k=k xs.length:=by
 induction xs generalizing k with
 | nil=>rfl
 | cons x xs ih=>exact (ih fun n=>Ai (Nat.succ n) k).trans (Ah _ _)
def FP (v:V) (κ:IntKind->Nat->R):R :=
 @V.rec (fun _=>R) (fun _=>Unit) (fun k r=>κ k r) (Bb "") (AV "") (Dt "") (AV "") (AV "") (Bb "") (Bb "") (C2 "") (AV "") (Bb "") () (fun _ _ _ _=>()) v
def P3 (v:V) (κ:Bool->R):R :=
 @V.rec (fun _=>R) (fun _=>Unit) (AV "") (fun b=>κ b) (AV "") (Dt "") (AV "") (AV "") (Bb "") (Bb "") (C2 "") (AV "") (Bb "") () (fun _ _ _ _=>()) v
def IR (v:V) (κ:K4->Nat->R):R :=
 @V.rec (fun _=>R) (fun _=>Unit) (AV "") (Bb "") (fun p off=>κ p off) (Dt "") (AV "") (AV "") (Bb "") (Bb "") (C2 "") (AV "") (Bb "") () (fun _ _ _ _=>()) v
def CX (v:V) (κn:R) (κ:K4->Nat->Nat->Nat->Bool->Nat->R):R :=
 @V.rec (fun _=>R) (fun _=>Unit) (AV "") (Bb "") (AV "") (fun p off len cap ex esz=>κ p off len cap ex esz) (AV "") (AV "") (fun w=>@Nl.rec (fun _=>R) (.fail "") κn (.fail "") (.fail "") (.fail "") w) (Bb "") (C2 "") (AV "") (Bb "") () (fun _ _ _ _=>()) v
def Bl (v:V) (κ:Nat->Nat->R):R :=
 @V.rec (fun _=>R) (fun _=>Unit) (AV "") (Bb "") (AV "") (Dt "") (fun n c=>κ n c) (AV "") (Bb "") (Bb "") (C2 "") (AV "") (Bb "") () (fun _ _ _ _=>()) v
def asAgg (v:V) (κ:List V->R):R :=
 @V.rec (fun _=>R) (fun _=>Unit) (AV "") (Bb "") (AV "") (Dt "") (AV "") (fun l _i=>κ l) (Bb "") (Bb "") (C2 "") (AV "") (Bb "") () (fun _ _ _ _=>()) v
def Kg (v:V) (κ:List V->R):R :=
 @V.rec (fun _=>R) (fun _=>Unit) (AV "") (Bb "") (AV "") (Dt "") (AV "") (AV "") (Bb "") (Bb "") (C2 "") (fun l _i=>κ l) (Bb "") () (fun _ _ _ _=>()) v
def DC (v:V) (κn:R) (κ:K4->R):R :=
 @V.rec (fun _=>R) (fun _=>Unit) (AV "") (Bb "") (AV "") (Dt "") (AV "") (AV "") (fun w=>@Nl.rec (fun _=>R) (.fail "") (.fail "") κn (.fail "") (.fail "") w) (fun p=>κ p) (C2 "") (AV "") (Bb "") () (fun _ _ _ _=>()) v
def PT (v:V) (κ:Nat->List V->R):R :=
 @V.rec (fun _=>R) (fun _=>Unit) (AV "") (Bb "") (AV "") (Dt "") (AV "") (AV "") (Bb "") (Bb "") (fun f caps _i=>κ f caps) (AV "") (Bb "") () (fun _ _ _ _=>()) v
def DQ (v:V) (κ:List V->R):R :=
 @V.rec (fun _=>R) (fun _=>Unit) (fun _ _=>κ [v]) (fun _=>κ [v]) (fun _ _=>κ [v]) (fun _ _ _ _ _ _=>κ [v]) (fun _ _=>κ [v]) (fun l _i=>κ l) (fun _=>κ [v]) (fun _=>κ [v]) (fun _ _ _=>κ [v]) (fun l _i=>.fail "") (fun o=>@Ot.rec (fun _=>R) (.fail "") (fun _=>κ [v]) (Bb "") (.fail "") (fun _ _ _=>κ [v]) (fun _ _=>κ [v]) (κ [v]) (fun _ _=>κ [v]) (fun _ _ _ _=>κ [v]) (fun _ _ _ _=>κ [v]) (fun _ _ _=>κ [v]) (fun _ _=>κ [v]) o) () (fun _ _ _ _=>()) v
def Wn (v:V) (κ:Nat->Nat->R) (e:R):R :=
 @V.rec (fun _=>R) (fun _=>Unit) (fun _ _=>e) (fun _=>e) (fun _ _=>e) (fun _ _ _ _ _ _=>e) (fun _ _=>e) (fun _ _=>e) (fun _=>e) (fun _=>e) (fun _ _ _=>e) (fun _ _=>e) (fun o=>@Ot.rec (fun _=>R) e (fun _=>e) (fun _=>e) e (fun _ _ _=>e) (fun lo hi=>κ lo hi) e (fun _ _=>e) (fun _ _ _ _=>e) (fun _ _ _ _=>e) (fun _ _ _=>e) (fun _ _=>e) o) () (fun _ _ _ _=>()) v
theorem Ra (v:V) (κ:Nat->Nat->R) (e:R):(∃ lo hi,v = .oth (.os lo hi)∧Wn v κ e=κ lo hi)∨Wn v κ e=e:=by
 cases v with
 | oth o=>cases o with
  | os lo hi=>exact .inl ⟨lo,hi,rfl,rfl⟩
  | _=>exact .inr rfl
 | _=>exact .inr rfl
def Yb (v:V) (κ:Nat->Nat->R) (e:R):R :=
 @V.rec (fun _=>R) (fun _=>Unit) (fun _ _=>e) (fun _=>e) (fun _ _=>e) (fun _ _ _ _ _ _=>e) (fun _ _=>e) (fun _ _=>e) (fun _=>e) (fun _=>e) (fun _ _ _=>e) (fun _ _=>e) (fun o=>@Ot.rec (fun _=>R) e (fun _=>e) (fun _=>e) e (fun _ _ _=>e) (fun _ _=>e) e (fun m j=>κ m j) (fun _ _ _ _=>e) (fun _ _ _ _=>e) (fun _ _ _=>e) (fun _ _=>e) o) () (fun _ _ _ _=>()) v
theorem LU (v:V) (κ:Nat->Nat->R) (e:R):(∃ m j,v = .oth (.rs m j)∧Yb v κ e=κ m j)∨Yb v κ e=e:=by
 cases v with
 | oth o=>cases o with
  | rs m j=>exact .inl ⟨m,j,rfl,rfl⟩
  | _=>exact .inr rfl
 | _=>exact .inr rfl
def TZ (v:V) (κ:Nat->Nat->Nat->Nat->R) (e:R):R :=
 @V.rec (fun _=>R) (fun _=>Unit) (fun _ _=>e) (fun _=>e) (fun _ _=>e) (fun _ _ _ _ _ _=>e) (fun _ _=>e) (fun _ _=>e) (fun _=>e) (fun _=>e) (fun _ _ _=>e) (fun _ _=>e) (fun o=>@Ot.rec (fun _=>R) e (fun _=>e) (fun _=>e) e (fun _ _ _=>e) (fun _ _=>e) e (fun _ _=>e) (fun lo hi n c=>κ lo hi n c) (fun _ _ _ _=>e) (fun _ _ _=>e) (fun _ _=>e) o) () (fun _ _ _ _=>()) v
theorem IL (v:V) (κ:Nat->Nat->Nat->Nat->R) (e:R):(∃ lo hi n c,v = .oth (.ss lo hi n c)∧TZ v κ e=κ lo hi n c)∨TZ v κ e=e:=by
 cases v with
 | oth o=>cases o with
  | ss lo hi n c=>exact .inl ⟨lo,hi,n,c,rfl,rfl⟩
  | _=>exact .inr rfl
 | _=>exact .inr rfl
def Q2 (v:V) (κ:K4->Nat->R) (κo:Ot->R):R :=
 @V.rec (fun _=>R) (fun _=>Unit) (AV "") (Bb "") (fun p off=>κ p off) (Dt "") (AV "") (AV "") (Bb "") (Bb "") (C2 "") (AV "") (fun o=>κo o) () (fun _ _ _ _=>()) v
def Hb (v:V) (κn:R) (κ:K4->Nat->Nat->Nat->Bool->Nat->R) (κo:Ot->R):R :=
 @V.rec (fun _=>R) (fun _=>Unit) (AV "") (Bb "") (AV "") (fun p off len cap ex esz=>κ p off len cap ex esz) (AV "") (AV "") (fun w=>@Nl.rec (fun _=>R) (.fail "") κn (.fail "") (.fail "") (.fail "") w) (Bb "") (C2 "") (AV "") (fun o=>κo o) () (fun _ _ _ _=>()) v
theorem JM {v:V} {κ:K4->Nat->R} {κo:Ot->R} (h:(Q2 v κ κo).good):(∃ p off,v = .ptr p off∧Q2 v κ κo=κ p off)∨(∃ o,v = .oth o∧Q2 v κ κo=κo o):=by
 cases v with
 | ptr p off=>exact .inl ⟨p,off,rfl,rfl⟩
 | oth o=>exact .inr ⟨o,rfl,rfl⟩
 | _=>exact h.elim
theorem J0 {v:V} {κn:R} {κ:K4->Nat->Nat->Nat->Bool->Nat->R} {κo:Ot->R} (h:(Hb v κn κ κo).good) :
  (v = .nil .sl∧Hb v κn κ κo=κn)∨(∃ p off len cap ex esz,v = .sl p off len cap ex esz∧Hb v κn κ κo=κ p off len cap ex esz)∨(∃ o,v = .oth o∧Hb v κn κ κo=κo o):=by
 cases v with
 | sl p off len cap ex esz=>exact .inr (.inl ⟨p,off,len,cap,ex,esz,rfl,rfl⟩)
 | nil w=>cases w with
  | sl=>exact .inl ⟨rfl,rfl⟩
  | _=>exact h.elim
 | oth o=>exact .inr (.inr ⟨o,rfl,rfl⟩)
 | _=>exact h.elim
def VS (o:Ot) (κ:Nat->Nat->R) (e:R):R :=
 @Ot.rec (fun _=>R) e (fun _=>e) (fun _=>e) e (fun _ _ _=>e) (fun lo hi=>κ lo hi) e (fun _ _=>e) (fun _ _ _ _=>e) (fun _ _ _ _=>e) (fun _ _ _=>e) (fun _ _=>e) o
def PW (o:Ot) (κ:Nat->Nat->Nat->Nat->R) (e:R):R :=
 @Ot.rec (fun _=>R) e (fun _=>e) (fun _=>e) e (fun _ _ _=>e) (fun _ _=>e) e (fun _ _=>e) (fun _ _ _ _=>e) (fun i lo hi z=>κ i lo hi z) (fun _ _ _=>e) (fun _ _=>e) o
def RQ (o:Ot) (κ:Nat->Nat->Nat->R) (e:R):R :=
 @Ot.rec (fun _=>R) e (fun _=>e) (fun _=>e) e (fun _ _ _=>e) (fun _ _=>e) e (fun _ _=>e) (fun _ _ _ _=>e) (fun _ _ _ _=>e) (fun i j m=>κ i j m) (fun _ _=>e) o
def VJ (o:Ot) (κ:IntKind->Nat->R) (e:R):R :=
 @Ot.rec (fun _=>R) e (fun _=>e) (fun _=>e) e (fun _ _ _=>e) (fun _ _=>e) e (fun _ _=>e) (fun _ _ _ _=>e) (fun _ _ _ _=>e) (fun _ _ _=>e) (fun k i=>κ k i) o
theorem PY (o:Ot) (κ:IntKind->Nat->R) (e:R):(∃ k i,o = .sy k i∧VJ o κ e=κ k i)∨VJ o κ e=e:=by
 cases o with
 | sy k i=>exact .inl ⟨k,i,rfl,rfl⟩
 | _=>exact .inr rfl
def E0 {α:Type} (o:Option α):Bool:=@Option.rec α (fun _=>Bool) false (fun _=>true) o
theorem Cd {v:V} {κ:IntKind->Nat->R} (h:(FP v κ).good):∃ k r,v = .int k r∧FP v κ=κ k r:=by
 cases v with
 | int k r=>exact ⟨k,r,rfl,rfl⟩
 | _=>exact h.elim
theorem EM {v:V} {κ:Bool->R} (h:(P3 v κ).good):∃ b,v = .bool b∧P3 v κ=κ b:=by
 cases v with
 | bool b=>exact ⟨b,rfl,rfl⟩
 | _=>exact h.elim
theorem CW {v:V} {κ:K4->Nat->R} (h:(IR v κ).good):∃ p off,v = .ptr p off∧IR v κ=κ p off:=by
 cases v with
 | ptr p off=>exact ⟨p,off,rfl,rfl⟩
 | _=>exact h.elim
theorem CC {v:V} {κn:R} {κ:K4->Nat->Nat->Nat->Bool->Nat->R} (h:(CX v κn κ).good) :
  (v = .nil .sl∧CX v κn κ=κn) ∨ ∃ p off len cap ex esz,v = .sl p off len cap ex esz∧CX v κn κ=κ p off len cap ex esz:=by
 cases v with
 | sl p off len cap ex esz=>exact .inr ⟨p,off,len,cap,ex,esz,rfl,rfl⟩
 | nil w=>cases w with
  | sl=>exact .inl ⟨rfl,rfl⟩
  | _=>exact h.elim
 | _=>exact h.elim
theorem BX {v:V} {κ:Nat->Nat->R} (h:(Bl v κ).good):∃ n c,v = .str n c∧Bl v κ=κ n c:=by
 cases v with
 | str n c=>exact ⟨n,c,rfl,rfl⟩
 | _=>exact h.elim
theorem Cy {v:V} {κ:List V->R} (h:(asAgg v κ).good):∃ l,v = .agg l∧asAgg v κ=κ l:=by
 cases v with
 | agg l=>exact ⟨l,rfl,rfl⟩
 | _=>exact h.elim
theorem KF {v:V} {κ:List V->R} (h:(Kg v κ).good):∃ l,v = .tup l∧Kg v κ=κ l:=by
 cases v with
 | tup l=>exact ⟨l,rfl,rfl⟩
 | _=>exact h.elim
theorem Dn {v:V} {κn:R} {κ:K4->R} (h:(DC v κn κ).good) :
  (v = .nil .map∧DC v κn κ=κn) ∨ ∃ p,v = .map p∧DC v κn κ=κ p:=by
 cases v with
 | map p=>exact .inr ⟨p,rfl,rfl⟩
 | nil w=>cases w with
  | map=>exact .inl ⟨rfl,rfl⟩
  | _=>exact h.elim
 | _=>exact h.elim
theorem ML {v:V} {κ:Nat->List V->R} (h:(PT v κ).good):∃ f caps,v = .fn f caps∧PT v κ=κ f caps:=by
 cases v with
 | fn f caps=>exact ⟨f,caps,rfl,rfl⟩
 | _=>exact h.elim
def V.cl:V->List V
 | .agg l=>l
 | v=>[v]
def V.celled:V->Prop
 | .tup _=>False
 | .oth .any=>False
 | .oth (.yl _)=>False
 | .oth .no=>False
 | _=>True
theorem Fb {v:V} {κ:List V->R} (h:(DQ v κ).good):v.celled∧DQ v κ=κ v.cl:=by
 cases v with
 | tup l=>exact h.elim
 | oth o=>cases o with
  | any=>exact h.elim
  | yl p=>exact h.elim
  | no=>exact h.elim
  | _=>exact ⟨trivial,rfl⟩
 | _=>exact ⟨trivial,rfl⟩
def Cs.at (cs:Cs) (i:Nat):Option V :=
 match cs with
 | .l xs=>xs[i]?
 | .b n c=>if i<n then some (.int .u8 (c / 256 ^ i % 256)) else none
def Cs.len:Cs->Nat
 | .l xs=>xs.length
 | .b n _=>n
theorem Cs.at_lt {cs:Cs} {i:Nat} (h:i<cs.len):∃ v,cs.at i=some v:=by
 cases cs with
 | l xs=>exact ⟨xs[i],by simp [Cs.at,List.getElem?_eq_getElem h]⟩
 | b n c=>exact ⟨_,if_pos h⟩
theorem Cs.at_none {cs:Cs} {i:Nat} (h:cs.len≤i):cs.at i=none:=by
 cases cs with
 | l xs=>simp only [Cs.at]; exact List.getElem?_eq_none h
 | b n c=>exact if_neg (Nat.not_lt.2 h)
theorem Cs.lt_of_at {cs:Cs} {i:Nat} {v:V} (h:cs.at i=some v):i<cs.len:=by
 rcases Nat.lt_or_ge i cs.len with h' | h'
 ·exact h'
 ·rw [Cs.at_none h'] at h; exact absurd h (by simp)
def FY (cs:Cs) (i:Nat) (κ:V->R):R :=
 @Cs.rec (fun _=>R) (fun xs=>Ee i xs κ) (fun n c=>br (Nat.ble (Nat.succ i) n) (Ai (lo (sh c i) 1) fun r=>κ (.int .u8 r)) (.fail "")) cs
theorem V4 (c i:Nat):lo (sh c i) 1=c / 256 ^ i % 256:=by rw [DE,EE]
theorem GU {cs:Cs} {i:Nat} {κ:V->R} (h:(FY cs i κ).good):∃ v,cs.at i=some v∧FY cs i κ=κ v:=by
 cases cs with
 | l xs=>exact Eu h
 | b n c =>
  obtain ⟨h1,h2⟩:=Ao (show R.good (br (Nat.ble (Nat.succ i) n) _ (.fail _)) from h)
  refine ⟨.int .u8 (c / 256 ^ i % 256),?_,?_⟩
  ·exact if_pos (show i<n from Ap.1 h1)
  ·show br (Nat.ble (Nat.succ i) n) _ _=_
   rw [h2,Ah,V4]
theorem GK (d i m:Nat) (hi:i<m):d % 256 ^ m / 256 ^ i % 256=d / 256 ^ i % 256:=by
 have hm:256 ^ m=256 ^ i*(256*256 ^ (m - i - 1)):=by
  rw [←Nat.pow_succ',←Nat.pow_add]; congr 1; omega
 rw [hm,Nat.mod_mul_right_div_self,Nat.mod_mul_right_mod]
def BY (cs:Cs) (off m:Nat) (κ:Cs->R):R :=
 @Cs.rec (fun _=>R) (fun xs=>E6 off xs fun ys=>Dq m ys fun zs=>κ (.l zs))
  (fun n c=>br (Nat.ble (Nat.add off m) n) (Ai (lo (sh c off) m) fun r=>κ (.b m r)) (.fail "")) cs
theorem Cr {cs:Cs} {off m:Nat} {κ:Cs->R} (h:(BY cs off m κ).good) :
  off+m≤cs.len ∧ ∃ y:Cs,y.len=m∧(∀ i,i<m->y.at i=cs.at (off+i))∧BY cs off m κ=κ y:=by
 cases cs with
 | l xs =>
  obtain ⟨h1,e1⟩:=EJ (h:(E6 off xs _).good)
  have h':(Dq m (xs.drop off) fun zs=>κ (.l zs)).good:=by rw [←e1]; exact h
  obtain ⟨h2,e2⟩:=EC h'
  simp only [List.length_drop] at h2
  refine ⟨by simp only [Cs.len]; omega,.l ((xs.drop off).take m),by simp [Cs.len]; omega,fun i hi=>?_,e1.trans e2⟩
  simp [Cs.at,hi]
 | b n c =>
  obtain ⟨h1,h2⟩:=Ao (show R.good (br (Nat.ble (Nat.add off m) n) _ (.fail _)) from h)
  have h1:off+m≤n:=Ap.1 h1
  refine ⟨h1,.b m (c / 256 ^ off % 256 ^ m),rfl,fun i hi=>?_,?_⟩
  ·simp only [Cs.at]
   rw [if_pos hi,if_pos (by omega)]
   congr 2
   rw [Nat.pow_add,←Nat.div_div_eq_div_mul]
   generalize c / 256 ^ off=d
   exact (GK d i m hi)
  ·show br (Nat.ble (Nat.add off m) n) _ _=_
   rw [h2,Ah,DE,EE]
end Go.Ev

namespace Go.Ev
set_option linter.unusedVariables false
theorem Cs.b_pos {n c i:Nat} (h:i<n):(Cs.b n c).at i=some (.int .u8 (c / 256 ^ i % 256)):=if_pos h
theorem Cs.b_neg {n c i:Nat} (h:¬ i<n):(Cs.b n c).at i=none:=if_neg h
def Mb (v:V) (κ:Nat->R) (e:R):R :=
 @V.rec (fun _=>R) (fun _=>Unit) (fun k r=>br (Bj k .u8) (br (Nat.ble r 255) (κ r) e) e) (fun _=>e) (fun _ _=>e) (fun _ _ _ _ _ _=>e) (fun _ _=>e) (fun _ _=>e) (fun _=>e) (fun _=>e) (fun _ _ _=>e) (fun _ _=>e) (fun _=>e) () (fun _ _ _ _=>()) v
theorem T8 (v:V) (κ:Nat->R) (e:R):Mb v κ e=e ∨ ∃ r,v = .int .u8 r∧r<256∧Mb v κ e=κ r:=by
 cases v with
 | int k r =>
  by_cases hk:Bj k .u8=true
  ·have:=Bg.1 hk
   subst this
   by_cases hr:Nat.ble r 255=true
   ·refine .inr ⟨r,rfl,by have:=Ap.1 hr; omega,?_⟩
    show br (Bj .u8 .u8) (br (Nat.ble r 255) (κ r) e) e=_
    rw [hk,hr]; rfl
   ·refine .inl ?_
    show br (Bj .u8 .u8) (br (Nat.ble r 255) (κ r) e) e=_
    rw [hk,Bool.eq_false_iff.2 hr]; rfl
  ·refine .inl ?_
   show br (Bj k .u8) (br (Nat.ble r 255) (κ r) e) e=_
   rw [Bool.eq_false_iff.2 hk]; rfl
 | _=>exact .inl rfl
def CM (xs:List V):(Nat->Nat->R)->R->R :=
 @List.rec V (fun _=>(Nat->Nat->R)->R->R) (fun κ _=>κ 0 0)
  (fun x _ ih κ e=>Mb x (fun r=>ih (fun n c=>Ai (Nat.succ n) fun n=>Ai (Nat.add r (Nat.mul 256 c)) fun c=>κ n c) e) e) xs
theorem Kc (xs:List V):∀ (κ:Nat->Nat->R) (e:R),CM xs κ e=e ∨ ∃ n c,CM xs κ e=κ n c∧(Cs.b n c).len=xs.length∧(∀ i,(Cs.b n c).at i=xs[i]?)∧c<256 ^ n:=by
 induction xs with
 | nil=>exact fun κ e=>.inr ⟨0,0,rfl,rfl,fun i=>by simp [Cs.at],by simp⟩
 | cons x xs ih =>
  intro κ e
  rcases T8 x (fun r=>CM xs (fun n c=>Ai (Nat.succ n) fun n=>Ai (Nat.add r (Nat.mul 256 c)) fun c=>κ n c) e) e with h | ⟨r,rfl,hr,h⟩
  ·exact .inl h
  ·rcases ih (fun n c=>Ai (Nat.succ n) fun n=>Ai (Nat.add r (Nat.mul 256 c)) fun c=>κ n c) e with h' | ⟨n,c,h',hl,hc,hlt⟩
   ·exact .inl (h.trans h')
   ·refine .inr ⟨n+1,r+256*c,?_,?_,fun i=>?_,by rw [Nat.pow_succ]; omega⟩
    ·refine (h.trans h').trans ?_
     rw [Ah,Ah]; rfl
    ·simp only [Cs.len] at hl ⊢; simp [hl]
    ·cases i with
     | zero =>
      simp only [Cs.at,List.getElem?_cons_zero]
      rw [if_pos (by omega)]
      congr 2
      simp; omega
     | succ i =>
      rw [List.getElem?_cons_succ,←hc i]
      simp only [Cs.at]
      by_cases hi:i<n
      ·rw [if_pos (by omega),if_pos hi]
       congr 2
       rw [Nat.pow_succ,Nat.mul_comm (256 ^ i) 256,←Nat.div_div_eq_div_mul]
       congr 2
       omega
      ·rw [if_neg (by omega),if_neg hi]
def En (n:Nat):Nat->(List V->R)->R :=
 @Nat.rec (fun _=>Nat->(List V->R)->R) (fun _ κ=>κ [])
  (fun _ ih c κ=>Ai (lo c 1) fun r=>Ai (sh c 1) fun d=>ih d fun zs=>κ (.int .u8 r::zs)) n
theorem Kb (n:Nat):∀ (c:Nat) (κ:List V->R),∃ zs,En n c κ=κ zs∧zs.length=n ∧ ∀ i,zs[i]? = (Cs.b n c).at i:=by
 induction n with
 | zero=>exact fun c κ=>⟨[],rfl,rfl,fun i=>by simp [Cs.at]⟩
 | succ n ih =>
  intro c κ
  obtain ⟨zs,h1,h2,h3⟩:=ih (sh c 1) (fun zs=>κ (.int .u8 (lo c 1)::zs))
  refine ⟨.int .u8 (lo c 1)::zs,?_,by simp [h2],fun i=>?_⟩
  ·refine Eq.trans ?_ h1
   exact (Ah (lo c 1) (fun r=>Ai (sh c 1) fun d=>En n d fun zs=>κ (.int .u8 r::zs))).trans (Ah (sh c 1) _)
  ·cases i with
   | zero=>simp [Cs.at,DE]
   | succ i =>
    rw [List.getElem?_cons_succ,h3]
    simp only [Cs.at,EE]
    by_cases hi:i<n
    ·rw [if_pos hi,if_pos (show i+1<n+1 by omega),Nat.div_div_eq_div_mul,←Nat.pow_add,Nat.add_comm 1 i]
    ·rw [if_neg hi,if_neg (show ¬ i+1<n+1 by omega)]
def Eg (cs:Cs) (κ:List V->R):R:=@Cs.rec (fun _=>R) (fun xs=>κ xs) (fun n c=>En n c κ) cs
theorem Fn (cs:Cs) (κ:List V->R):∃ zs,Eg cs κ=κ zs∧zs.length=cs.len ∧ ∀ i,zs[i]? = cs.at i:=by
 cases cs with
 | l xs=>exact ⟨xs,rfl,rfl,fun _=>rfl⟩
 | b n c=>exact Kb n c κ
def VN (cs:Cs) (κ:Nat->R):R:=@Cs.rec (fun _=>R) (fun xs=>GJ xs κ) (fun n _=>κ n) cs
theorem U2 (cs:Cs) (κ:Nat->R):VN cs κ=κ cs.len:=by
 cases cs with
 | l xs=>exact Dj xs κ
 | b n c=>rfl
def NR (n c off m d:Nat) (κ:Cs->R):R :=
 br (Nat.ble (Nat.add off m) n) (Ai (Nat.add (lo c off) (up (Nat.add (lo d m) (up (sh c (Nat.add off m)) m)) off)) fun r=>κ (.b n r)) (.fail "")
def NJ (cs:Cs) (off:Nat) (y:Cs) (κ:Cs->R):R :=
 @Cs.rec (fun _=>R)
  (fun xs=>Eg y fun ys=>Dq off xs fun a=>GJ ys fun m=>Ai (Nat.add off m) fun j=>E6 j xs fun b=>ES ys b fun t=>ES a t fun zs=>κ (.l zs))
  (fun n c=>@Cs.rec (fun _=>R) (fun ys=>CM ys (fun m d=>NR n c off m d κ) (.fail "")) (fun m d=>NR n c off m d κ) y) cs
def QY (cs:Cs) (off:Nat) (y z:Cs):Prop :=
 off+y.len≤cs.len∧z.len=cs.len∧(∀ i,i<off->z.at i=cs.at i)∧(∀ i,i<y.len->z.at (off+i)=y.at i)∧(∀ i,off+y.len≤i->z.at i=cs.at i)
theorem Kj (a b j i:Nat) (hi:i<j):(a % 256 ^ j+256 ^ j*b) / 256 ^ i % 256=a / 256 ^ i % 256:=by
 have h:(a % 256 ^ j+256 ^ j*b) % 256 ^ j=a % 256 ^ j:=by rw [Nat.add_mul_mod_self_left,Nat.mod_mod]
 rw [←GK _ i j hi,h,GK _ i j hi]
theorem GR (a b j i:Nat):(a % 256 ^ j+256 ^ j*b) / 256 ^ (j+i) % 256=b / 256 ^ i % 256:=by
 have hp:0<256 ^ j:=Nat.pow_pos (by omega)
 rw [Nat.pow_add,←Nat.div_div_eq_div_mul,Nat.add_mul_div_left _ _ hp,Nat.div_eq_of_lt (Nat.mod_lt _ hp),Nat.zero_add]
theorem Me {n c off m d:Nat} {κ:Cs->R} (h:(NR n c off m d κ).good):∃ z,QY (.b n c) off (.b m d) z∧NR n c off m d κ=κ z:=by
 obtain ⟨h1,h2⟩:=Ao (show R.good (br (Nat.ble (Nat.add off m) n) _ (.fail _)) from h)
 have h1:off+m≤n:=Ap.1 h1
 refine ⟨.b n (c % 256 ^ off+256 ^ off*(d % 256 ^ m+256 ^ m*(c / 256 ^ (off+m)))),⟨h1,rfl,fun i hi=>?_,fun i hi=>?_,fun i hi=>?_⟩,?_⟩
 ·simp only [Cs.at]
  rw [Kj _ _ _ _ hi]
 ·simp only [Cs.len] at hi
  simp only [Cs.at]
  rw [if_pos (by omega),if_pos hi,GR,Kj _ _ _ _ hi]
 ·simp only [Cs.len] at hi
  simp only [Cs.at]
  obtain ⟨e,rfl⟩:∃ e,i=off+(m+e):=⟨i - off - m,by omega⟩
  rw [GR,GR,Nat.div_div_eq_div_mul,←Nat.pow_add,Nat.add_assoc]
 ·show br (Nat.ble (Nat.add off m) n) _ _=_
  rw [h2,Ah]
  simp only [DE,SK,EE]
  rfl
theorem R8 {cs:Cs} {off:Nat} {y:Cs} {κ:Cs->R} (h:(NJ cs off y κ).good):∃ z,QY cs off y z∧NJ cs off y κ=κ z:=by
 cases cs with
 | l xs =>
  obtain ⟨ys,e0,hyl,hya⟩:=Fn y (fun ys=>Dq off xs fun a=>GJ ys fun m=>Ai (Nat.add off m) fun j=>E6 j xs fun b=>ES ys b fun t=>ES a t fun zs=>κ (.l zs))
  have e0:NJ (.l xs) off y κ=_:=e0
  rw [e0] at h
  obtain ⟨h1,e1⟩:=EC h
  rw [e1,Dj,Ah] at h
  obtain ⟨h2,e2⟩:=EJ h
  simp only [Nat.add_eq] at h2
  have hlen:ys.length=y.len:=hyl
  refine ⟨.l (xs.take off++(ys++xs.drop (off+ys.length))),⟨?_,?_,fun i hi=>?_,fun i hi=>?_,fun i hi=>?_⟩,?_⟩
  ·show off+y.len≤xs.length
   omega
  ·show (xs.take off++(ys++xs.drop (off+ys.length))).length=xs.length
   simp only [List.length_append,List.length_take,List.length_drop]; omega
  ·simp only [Cs.at]
   rw [List.getElem?_append_left (by rw [List.length_take]; omega),List.getElem?_take,if_pos hi]
  ·simp only [Cs.at]
   rw [List.getElem?_append_right (by rw [List.length_take]; omega),List.length_take,Nat.min_eq_left h1,Nat.add_sub_cancel_left,
    List.getElem?_append_left (by omega)]
   exact hya i
  ·simp only [Cs.at]
   rw [List.getElem?_append_right (by rw [List.length_take]; omega),List.length_take,Nat.min_eq_left h1,
    List.getElem?_append_right (by omega),List.getElem?_drop]
   congr 1; omega
  ·rw [e0,e1,Dj,Ah,e2,Em,Em]; rfl
 | b n c =>
  cases y with
  | l ys =>
   rcases Kc ys (fun m d=>NR n c off m d κ) (.fail "") with e | ⟨m,d,e,hl,ha,_⟩
   ·have e:NJ (.b n c) off (.l ys) κ=_:=e
    rw [e] at h; exact h.elim
   ·have e:NJ (.b n c) off (.l ys) κ=_:=e
    rw [e] at h
    obtain ⟨z,⟨g1,g2,g3,g4,g5⟩,e'⟩:=Me h
    refine ⟨z,⟨?_,g2,g3,fun i hi=>?_,fun i hi=>g5 i ?_⟩,e.trans e'⟩
    ·rw [hl] at g1; exact g1
    ·rw [g4 i (by rw [hl]; exact hi)]; exact ha i
    ·rw [hl]; exact hi
  | b m d=>exact Me h
def TH (n c m d:Nat) (κ:Cs->R):R :=
 Ai (Nat.add n m) fun l=>Ai (Nat.add (lo c n) (up d n)) fun r=>κ (.b l r)
def VO (x y:Cs) (κ:Cs->R):R :=
 @Cs.rec (fun _=>R) (fun xs=>Eg y fun ys=>ES xs ys fun zs=>κ (.l zs))
  (fun n c=>@Cs.rec (fun _=>R) (fun ys=>CM ys (fun m d=>TH n c m d κ) (En n c fun xs=>ES xs ys fun zs=>κ (.l zs))) (fun m d=>TH n c m d κ) y) x
def QD (x y z:Cs):Prop:=z.len=x.len+y.len∧(∀ i,i<x.len->z.at i=x.at i)∧(∀ i,z.at (x.len+i)=y.at i)
theorem WY (xs ys:List V) (x y:Cs) (hx:xs.length=x.len) (hxa:∀ i,xs[i]? = x.at i) (hy:ys.length=y.len) (hya:∀ i,ys[i]? = y.at i):QD x y (.l (xs++ys)):=by
 refine ⟨by simp [Cs.len,hx,hy],fun i hi=>?_,fun i=>?_⟩
 ·simp only [Cs.at]; rw [List.getElem?_append_left (by omega)]; exact hxa i
 ·simp only [Cs.at]; rw [List.getElem?_append_right (by omega),hx,Nat.add_sub_cancel_left]; exact hya i
theorem Qu (n c m d:Nat) (κ:Cs->R):∃ z,QD (.b n c) (.b m d) z∧TH n c m d κ=κ z:=by
 refine ⟨.b (n+m) (c % 256 ^ n+256 ^ n*d),⟨rfl,fun i hi=>?_,fun i=>?_⟩,?_⟩
 ·simp only [Cs.len] at hi
  simp only [Cs.at]
  rw [if_pos (by omega),if_pos hi,Kj _ _ _ _ hi]
 ·show (Cs.b (n+m) _).at (n+i)=(Cs.b m d).at i
  by_cases hi:i<m
  ·rw [Cs.b_pos (by omega),Cs.b_pos hi,GR]
  ·rw [Cs.b_neg (by omega),Cs.b_neg hi]
 ·simp only [TH,Ah,DE,SK]; rfl
theorem UH (x y:Cs) (κ:Cs->R):∃ z,QD x y z∧VO x y κ=κ z:=by
 cases x with
 | l xs =>
  obtain ⟨ys,e0,hyl,hya⟩:=Fn y (fun ys=>ES xs ys fun zs=>κ (.l zs))
  exact ⟨_,WY xs ys (.l xs) y rfl (fun _=>rfl) hyl hya,e0.trans (Em _ _ _)⟩
 | b n c =>
  cases y with
  | l ys =>
   rcases Kc ys (fun m d=>TH n c m d κ) (En n c fun xs=>ES xs ys fun zs=>κ (.l zs)) with e | ⟨m,d,e,hl,ha,_⟩
   ·obtain ⟨xs,e1,h2,h3⟩:=Kb n c (fun xs=>ES xs ys fun zs=>κ (.l zs))
    exact ⟨_,WY xs ys (.b n c) (.l ys) h2 h3 rfl (fun _=>rfl),(e.trans e1).trans (Em _ _ _)⟩
   ·obtain ⟨z,⟨g1,g2,g3⟩,e'⟩:=Qu n c m d κ
    refine ⟨z,⟨by rw [g1,hl]; rfl,g2,fun i=>(g3 i).trans (ha i)⟩,e.trans e'⟩
  | b m d=>exact Qu n c m d κ
def Wk (m:Nat):List V->(List V->R)->R :=
 @Nat.rec (fun _=>List V->(List V->R)->R) (fun _ κ=>κ []) (fun _ ih z κ=>ih z fun zs=>ES z zs κ) m
theorem U5 (m:Nat) (z:List V) (κ:List V->R):∃ zs,Wk m z κ=κ zs∧zs.length=m*z.length ∧ ∀ i,i<m*z.length->zs[i]? = z[i % z.length]?:=by
 induction m generalizing κ with
 | zero=>exact ⟨[],rfl,by simp,fun i hi=>by simp at hi⟩
 | succ m ih =>
  obtain ⟨zs,h1,h2,h3⟩:=ih (fun zs=>ES z zs κ)
  refine ⟨z++zs,h1.trans (Em _ _ _),by rw [List.length_append,h2,Nat.succ_mul]; omega,fun i hi=>?_⟩
  by_cases hz:i<z.length
  ·rw [List.getElem?_append_left hz,Nat.mod_eq_of_lt hz]
  ·rw [List.getElem?_append_right (by omega),h3 _ (by rw [Nat.succ_mul] at hi; omega)]
   congr 1
   rw [←Nat.mod_eq_sub_mod (by omega)]
def EH (u8:Bool) (z:List V) (m:Nat) (κ:Cs->R):R :=
 br u8 (κ (.b m 0)) (Wk m z fun zs=>κ (.l zs))
theorem GN (u8:Bool) (z:List V) (m:Nat) (κ:Cs->R) (hu:u8=true->z=[.int .u8 0]) :
  ∃ y:Cs,EH u8 z m κ=κ y∧y.len=m*z.length ∧ ∀ i,i<m*z.length->y.at i=z[i % z.length]?:=by
 cases u8 with
 | true =>
  rw [hu rfl]
  refine ⟨.b m 0,rfl,by simp [Cs.len],fun i hi=>?_⟩
  simp only [Cs.at]
  rw [if_pos (by simpa using hi)]
  simp [Nat.mod_one]
 | false =>
  obtain ⟨zs,h1,h2,h3⟩:=U5 m z (fun zs=>κ (.l zs))
  exact ⟨.l zs,h1,h2,h3⟩
end Go.Ev

namespace Go.Ev
set_option linter.unusedVariables false
inductive Opd where
 | t (p:K2)
 | c (v:V)
inductive Sc where
 | i
 | s
 | b
inductive Plan where
 | sc (k:Sc)
 | st (fs:List (Nat×Sc))
 | ks (l:List Sc)
 | rf (w:Nl)
structure Part where
 off:Nat
 size:Nat
 x:Opd
def CV (o:Opd) (t:Regs) (κ:V->R):R:=@Opd.rec (fun _=>R) (fun p=>Hg p t κ) (fun v=>κ v) o
def ev (o:Opd) (t:Regs):V:=match o with | .t p=>Bi p t | .c v=>v
theorem AS (o:Opd) (t:Regs) (κ:V->R):CV o t κ=κ (ev o t):=by
 cases o with
 | t p=>exact CA p t κ
 | c v=>rfl
def O9 (l:List Opd) (t:Regs):(List V->R)->R :=
 @List.rec Opd (fun _=>(List V->R)->R) (fun κ=>κ []) (fun o _ ih κ=>CV o t fun v=>ih fun vs=>κ (v::vs)) l
theorem EZ (l:List Opd) (t:Regs) (κ:List V->R):O9 l t κ=κ (l.map (ev · t)):=by
 induction l generalizing κ with
 | nil=>rfl
 | cons o l ih =>
  show CV o t _=_
  rw [AS]
  exact ih _
inductive AK where
 | mv (x:Opd)
 | pick (c a b:Opd)
 | alc (cs:Cs)
 | box (x:Opd)
 | build (zero:List V) (parts:List Part)
 | bslice (u8:Bool) (len esz:Nat) (zero:List V) (parts:List Part)
 | ld (x:Opd)
 | ldn (m:Nat) (x:Opd)
 | st (m:Nat) (a x:Opd)
 | nilck (x:Opd)
 | bin (op:BinOp) (x y:Opd)
 | eq (neg:Bool) (pl:Plan) (x y:Opd)
 | not (x:Opd)
 | neg (x:Opd)
 | com (x:Opd)
 | cvi (k:IntKind) (x:Opd)
 | b2s (x:Opd)
 | s2b (x:Opd)
 | idn (x:Opd)
 | bsl (x:Opd)
 | mkfn (f:Nat) (caps:List Opd)
 | mkmap 
 | mksl (eb:Nat) (u8:Bool) (zero:List V) (l c:Opd)
 | slS (x:Opd) (lo hi:Option Opd)
 | slL (esz:Nat) (x:Opd) (lo hi:Option Opd)
 | slA (m esz:Nat) (x:Opd) (lo hi:Option Opd)
 | fad (off:Nat) (x:Opd)
 | fld (off size:Nat) (ag:Bool) (x:Opd)
 | ixS (esz:Nat) (x i:Opd)
 | ixA (m esz:Nat) (x i:Opd)
 | idS (x i:Opd)
 | idA (m esz:Nat) (ag:Bool) (x i:Opd)
 | lk (pl:Plan) (zero:V) (ok:Bool) (m k:Opd)
 | mu (pl:Plan) (m k v:Opd)
 | del (pl:Plan) (m k:Opd)
 | ext (i:Nat) (x:Opd)
 | call (f:Nat) (args:List Opd)
 | calld (x:Opd) (args:List Opd)
 | lnS (x:Opd)
 | lnL (x:Opd)
 | lnM (x:Opd)
 | min (x y:Opd)
 | max (x y:Opd)
 | app (esz eb:Nat) (x y:Opd)
 | appz (esz eb:Nat) (u8:Bool) (zero:List V) (x c:Opd)
 | cpy (esz:Nat) (x y:Opd)
 | max3 (x y z:Opd)
 | cpL (x:Opd)
 | clr (u8:Bool) (zero:List V) (x:Opd)
 | bad (why:String)
def Ur (k:IntKind) (a:Nat) (j:IntKind) (b:Nat) (κ:V->R):R:=br (Bj k j) (Ai (Nat.mod (Nat.add a b) (Mk k)) fun r=>κ (.int k r)) (.fail "")
def Np (k:IntKind) (a:Nat) (j:IntKind) (b:Nat) (κ:V->R):R:=br (Bj k j) (Ai (Nat.mod (Nat.add a (Nat.sub (Mk k) b)) (Mk k)) fun r=>κ (.int k r)) (.fail "")
def UI (k:IntKind) (a:Nat) (j:IntKind) (b:Nat) (κ:V->R):R:=br (Bj k j) (Ai (Nat.mod (Nat.mul a b) (Mk k)) fun r=>κ (.int k r)) (.fail "")
def Ow (k:IntKind) (a:Nat) (j:IntKind) (b:Nat) (κ:R):R :=
 br (Bj k j) (br (Nat.ble (Nat.succ a) (Hk k)) (br (Nat.ble (Nat.succ b) (Hk k)) κ (.fail "")) (.fail "")) (.fail "")
def Re (k:IntKind) (a:Nat) (j:IntKind) (b:Nat) (κ:V->R):R:=Ow k a j b (br (Nat.ble 1 b) (Ai (Nat.div a b) fun r=>κ (.int k r)) (.fail ""))
def RP (k:IntKind) (a:Nat) (j:IntKind) (b:Nat) (κ:V->R):R:=Ow k a j b (br (Nat.ble 1 b) (Ai (Nat.mod a b) fun r=>κ (.int k r)) (.fail ""))
def SB (k:IntKind) (a:Nat) (j:IntKind) (b:Nat) (κ:V->R):R:=br (Bj k j) (Ai (Nat.land a b) fun r=>κ (.int k r)) (.fail "")
def WJ (k:IntKind) (a:Nat) (j:IntKind) (b:Nat) (κ:V->R):R:=br (Bj k j) (Ai (Nat.lor a b) fun r=>κ (.int k r)) (.fail "")
def TC (k:IntKind) (a:Nat) (j:IntKind) (b:Nat) (κ:V->R):R:=br (Bj k j) (Ai (Nat.xor a b) fun r=>κ (.int k r)) (.fail "")
def NV (k:IntKind) (a:Nat) (j:IntKind) (b:Nat) (κ:V->R):R:=br (Bj k j) (Ai (Nat.land a (Nat.sub (Nat.sub (Mk k) 1) b)) fun r=>κ (.int k r)) (.fail "")
def SU (k:IntKind) (a:Nat) (j:IntKind) (b:Nat) (κ:V->R):R :=
 br (Nat.ble (Nat.succ b) (Hk j)) (br (Nat.ble b 64) (Ai (Nat.mod (Nat.shiftLeft a b) (Mk k)) fun r=>κ (.int k r)) (κ (.int k 0))) (.fail "")
def R9 (k:IntKind) (a:Nat) (j:IntKind) (b:Nat) (κ:V->R):R :=
 br (Nat.ble (Nat.succ b) (Hk j)) (br (Nat.ble (Nat.succ a) (Hk k)) (br (Nat.ble b 64) (Ai (Nat.shiftRight a b) fun r=>κ (.int k r)) (κ (.int k 0))) (.fail "")) (.fail "")
def Yj (k:IntKind) (a:Nat) (j:IntKind) (b:Nat) (κ:V->R):R:=br (Bj k j) (CH (Nat.beq a b) fun r=>κ (.bool r)) (.fail "")
def Y4 (k:IntKind) (a:Nat) (j:IntKind) (b:Nat) (κ:V->R):R:=br (Bj k j) (br (Nat.beq a b) (κ (.bool false)) (κ (.bool true))) (.fail "")
def Y6 (k:IntKind) (a:Nat) (j:IntKind) (b:Nat) (κ:V->R):R:=br (Bj k j) (CH (Ho k a b) fun r=>κ (.bool r)) (.fail "")
def Y3 (k:IntKind) (a:Nat) (j:IntKind) (b:Nat) (κ:V->R):R:=br (Bj k j) (CH (Ho k b a) fun r=>κ (.bool r)) (.fail "")
def Yk (k:IntKind) (a:Nat) (j:IntKind) (b:Nat) (κ:V->R):R:=br (Bj k j) (br (Ho k b a) (κ (.bool false)) (κ (.bool true))) (.fail "")
def Y7 (k:IntKind) (a:Nat) (j:IntKind) (b:Nat) (κ:V->R):R:=br (Bj k j) (br (Ho k a b) (κ (.bool false)) (κ (.bool true))) (.fail "")
def La (op:BinOp):IntKind->Nat->IntKind->Nat->(V->R)->R :=
 @BinOp.rec (fun _=>IntKind->Nat->IntKind->Nat->(V->R)->R) Ur Np UI Re RP SB WJ TC SU R9 NV Yj Y4 Y6 Yk Y3 Y7 op
def VT (n c m d:Nat) (κ:V->R):R :=
 Ai (Nat.add n m) fun l=>br (Nat.ble l 1000000000) (Ai (Nat.add c (up d n)) fun r=>κ (.str l r)) (.fail "")
def Jq (n c m d:Nat):Bool:=and (Nat.beq n m) (Nat.beq c d)
def Pc (n:Nat):Nat->Nat->Nat->Bool :=
 @Nat.rec (fun _=>Nat->Nat->Nat->Bool) (fun _ m _=>Nat.ble 1 m)
  (fun _ ih c m d=>@Nat.rec (fun _=>Bool) false (fun m _=>br (Nat.beq (lo c 1) (lo d 1)) (ih (sh c 1) m (sh d 1)) (Nat.ble (Nat.succ (lo c 1)) (lo d 1))) m) n
def L8 (n c m d:Nat) (κ:V->R):R:=.fail ""
def Vk (n c m d:Nat) (κ:V->R):R:=CH (Jq n c m d) fun r=>κ (.bool r)
def Zy (n c m d:Nat) (κ:V->R):R:=br (Jq n c m d) (κ (.bool false)) (κ (.bool true))
def Z3 (n c m d:Nat) (κ:V->R):R:=CH (Pc n c m d) fun r=>κ (.bool r)
def sgt (n c m d:Nat) (κ:V->R):R:=.fail ""
def sle (n c m d:Nat) (κ:V->R):R:=.fail ""
def ZF (n c m d:Nat) (κ:V->R):R:=br (Pc n c m d) (κ (.bool false)) (κ (.bool true))
def Jw (op:BinOp):Nat->Nat->Nat->Nat->(V->R)->R :=
 @BinOp.rec (fun _=>Nat->Nat->Nat->Nat->(V->R)->R) VT L8 L8 L8 L8 L8 L8 L8 L8 L8 L8 Vk Zy Z3 sle sgt ZF op
def HI (v:V) (κ:IntKind->Nat->Nat->R):R :=
 @V.rec (fun _=>R) (fun _=>Unit) (fun k r=>κ k r r) (Bb "") (AV "") (Dt "") (AV "") (AV "") (Bb "") (Bb "") (C2 "") (AV "") (fun o=>@Ot.rec (fun _=>R) (.fail "") (fun _=>(.fail "")) (fun _=>(.fail "")) (.fail "") (fun k lo hi=>κ k lo hi) (fun _ _=>(.fail "")) (.fail "") (fun m _=>br (Nat.ble 18446744073709551616 m) (br (Nat.ble (Nat.succ m) 36893488147419103232) (κ .i64 0 9223372036854775807) (.fail "")) (.fail "")) (fun _ _ _ _=>(.fail "")) (fun _ _ _ _=>(.fail "")) (fun _ _ _=>(.fail "")) (fun k _=>κ k 0 (Nat.sub (Mk k) 1)) o) () (fun _ _ _ _=>()) v
def By (H M r:Nat):Nat:=br (Nat.ble H r) (Nat.sub r H) (Nat.add r (Nat.sub M H))
def Ey (H lo hi:Nat):Bool:=br (Nat.ble (Nat.succ hi) H) true (Nat.ble H lo)
def Us (a b c d:Nat) (κ:V->R):R:=br (Nat.ble (Nat.succ b) c) (κ (.bool true)) (br (Nat.ble d a) (κ (.bool false)) (κ (.oth .bl)))
def Uw (a b c d:Nat) (κ:V->R):R:=br (Nat.ble (Nat.succ b) c) (κ (.bool false)) (br (Nat.ble d a) (κ (.bool true)) (κ (.oth .bl)))
def M2 (a b c d:Nat):Bool:=br (Nat.beq a b) (br (Nat.beq b c) (Nat.beq c d) false) false
def VQ (a b c d:Nat) (κ:V->R):R:=br (Nat.ble (Nat.succ b) c) (κ (.bool false)) (br (Nat.ble (Nat.succ d) a) (κ (.bool false)) (br (M2 a b c d) (κ (.bool true)) (κ (.oth .bl))))
def VK (a b c d:Nat) (κ:V->R):R:=br (Nat.ble (Nat.succ b) c) (κ (.bool true)) (br (Nat.ble (Nat.succ d) a) (κ (.bool true)) (br (M2 a b c d) (κ (.bool false)) (κ (.oth .bl))))
def GB (a b c d:Nat) (κ:V->R):R:=.fail ""
def WU (op:BinOp):Nat->Nat->Nat->Nat->(V->R)->R :=
 @BinOp.rec (fun _=>Nat->Nat->Nat->Nat->(V->R)->R) GB GB GB GB GB GB GB GB GB GB GB VQ VK Us (fun a b c d κ=>Uw c d a b κ) (fun a b c d κ=>Us c d a b κ) Uw op
def Hl (op:BinOp) (κ:V->R):R :=
 @BinOp.rec (fun _=>R) (.fail "") (.fail "") (.fail "") (.fail "") (.fail "") (.fail "") (.fail "") (.fail "") (.fail "") (.fail "") (.fail "") (κ (.oth .bl)) (κ (.oth .bl)) (κ (.oth .bl)) (κ (.oth .bl)) (κ (.oth .bl)) (κ (.oth .bl)) op
def Uo (op:BinOp) (κ:V->R) (e:R):R:=@BinOp.rec (fun _=>R) e e e e e e e e e e e (κ (.bool false)) (κ (.bool true)) e e e e op
def SC (op:BinOp) (a b c d:Nat) (κ:V->R):R:=br (br (Nat.ble (Nat.succ b) c) true (Nat.ble (Nat.succ d) a)) (Uo op κ (Hl op κ)) (Hl op κ)
def Ge (op:BinOp) (x y:V) (κ:V->R):R :=
 HI x fun k a b=>HI y fun j c d=>br (Bj k j) (br (Ey (Hk k) a b) (br (Ey (Hk k) c d) (WU op (By (Hk k) (Mk k) a) (By (Hk k) (Mk k) b) (By (Hk k) (Mk k) c) (By (Hk k) (Mk k) d) κ) (SC op a b c d κ)) (SC op a b c d κ)) (.fail "")
def QR (x y:V) (κ:V->R):R :=
 HI x fun k a b=>HI y fun j c d=>br (Bj k j) (Ai (Nat.add a c) fun lo=>Ai (Nat.add b d) fun hi=>br (Nat.ble (Nat.succ hi) (Hk k)) (κ (.oth (.iv k lo hi))) (Ai (Nat.sub (Mk k) 1) fun m=>κ (.oth (.iv k 0 m)))) (.fail "")
def Qs (x y:V) (κ:V->R):R :=
 HI x fun k a b=>HI y fun j c d=>br (Bj k j) (br (Nat.ble d a) (br (Nat.ble (Nat.succ b) (Hk k)) (Ai (Nat.sub a d) fun lo=>Ai (Nat.sub b c) fun hi=>κ (.oth (.iv k lo hi))) (.fail "")) (.fail "")) (.fail "")
def QC (x y:V) (κ:V->R):R :=
 HI x fun k a b=>FP y fun j d=>br (Bj k .i64) (br (Bj j .i64) (br (Nat.ble 1 d) (br (Nat.ble (Nat.succ d) 9223372036854775808)
  (br (Nat.ble (Nat.succ b) 9223372036854775808) (Ai (Nat.sub d 1) fun e=>κ (.oth (.iv .i64 0 e))) (κ (.oth (.iv .i64 0 18446744073709551615)))) (.fail "")) (.fail "")) (.fail "")) (.fail "")
def FG (op:BinOp) (x y:V) (κ:V->R):R :=
 @BinOp.rec (fun _=>R) (QR x y κ) (Qs x y κ) (Ge op x y κ) (Ge op x y κ) (QC x y κ) (Ge op x y κ) (Ge op x y κ) (Ge op x y κ) (Ge op x y κ) (Ge op x y κ) (Ge op x y κ) (Ge op x y κ) (Ge op x y κ) (Ge op x y κ) (Ge op x y κ) (Ge op x y κ) (Ge op x y κ) op
def W8 (a b c d:Nat) (yes no:R):R:=br (Nat.ble (Nat.succ b) c) yes (br (Nat.ble d a) no (.fail ""))
def Wi (u v:V) (κ:V->R):R :=
 HI u fun k a b=>HI v fun j c d=>br (Bj k j) (br (Ey (Hk k) a b) (br (Ey (Hk k) c d) (W8 (By (Hk k) (Mk k) a) (By (Hk k) (Mk k) b) (By (Hk k) (Mk k) c) (By (Hk k) (Mk k) d) (κ v) (κ u)) (.fail "")) (.fail "")) (.fail "")
def W9 (u v:V) (κ:V->R):R :=
 HI u fun k a b=>HI v fun j c d=>br (Bj k j) (br (Ey (Hk k) a b) (br (Ey (Hk k) c d) (W8 (By (Hk k) (Mk k) c) (By (Hk k) (Mk k) d) (By (Hk k) (Mk k) a) (By (Hk k) (Mk k) b) (κ v) (κ u)) (.fail "")) (.fail "")) (.fail "")
def V0 (m j b:Nat) (κ:V->R):R:=br (Nat.beq m (Nat.add 73786976294838206464 b)) (Ai (Nat.mod j 18446744073709551616) fun d=>br (Nat.beq d (Nat.div j 18446744073709551616)) (br (Nat.ble 1 d) (Ai (Nat.sub 18446744073709551616 d) fun r=>κ (.int .i64 r)) (.fail "")) (.fail "")) (.fail "")
def Qj (op:BinOp) (x y:V) (κ:V->R) (e:R):R :=
 @BinOp.rec (fun _=>R) e e e e (Yb x (fun m j=>FP y fun k b=>br (Bj k .i64) (br (Nat.ble 1 b) (br (Nat.ble (Nat.succ b) 9223372036854775808) (br (Nat.beq m (Nat.add 18446744073709551616 b)) (κ (.int .i64 j)) (br (Nat.beq m b) (br (Nat.beq j 0) (κ (.int .i64 0)) (κ (.oth (.iv .i64 1 18446744073709551615)))) (V0 m j b κ))) (.fail "")) (.fail "")) (.fail "")) e) e e e e e e e e e e e e op
def Wt (v:V) (κ:IntKind->Nat->R) (e:R):R :=
 @V.rec (fun _=>R) (fun _=>Unit) (fun _ _=>e) (fun _=>e) (fun _ _=>e) (fun _ _ _ _ _ _=>e) (fun _ _=>e) (fun _ _=>e) (fun _=>e) (fun _=>e) (fun _ _ _=>e) (fun _ _=>e) (fun o=>VJ o κ e) () (fun _ _ _ _=>()) v
def KU (x y:V) (a e:R):R:=Wt x (fun k i=>Wt y (fun j i'=>br (Bj k j) (br (Nat.beq i i') a e) e) e) e
def Y9 (op:BinOp) (x y:V) (κ:V->R) (e:R):R:=@BinOp.rec (fun _=>R) e e e e e e e e e e e (KU x y (κ (.bool true)) e) (KU x y (κ (.bool false)) e) e e e e op
def JA (op:BinOp) (x y:V) (κ:V->R):R:=Y9 op x y κ (Qj op x y κ (FG op x y κ))
def Qe (op:BinOp) (l0 l1 n c m d:Nat) (κ:V->R):R :=
 br (br (Nat.ble l0 m) (br (Nat.ble m l1) (br (Nat.beq m n) (Nat.beq d c) false) true) true)
  (@BinOp.rec (fun _=>R) (.fail "") (.fail "") (.fail "") (.fail "") (.fail "") (.fail "") (.fail "") (.fail "") (.fail "") (.fail "") (.fail "") (κ (.bool false)) (κ (.bool true)) (.fail "") (.fail "") (.fail "") (.fail "") op) (.fail "")
def Cn (op:BinOp) (x y:V) (κ:V->R):R:=TZ x (fun l0 l1 n c=>Bl y fun m d=>Qe op l0 l1 n c m d κ) (JA op x y κ)
def MU (op:BinOp) (x y:V) (κ:V->R):R :=
 @V.rec (fun _=>R) (fun _=>Unit) (fun k r=>@V.rec (fun _=>R) (fun _=>Unit) (fun j b=>La op k r j b κ) (Bb "") (AV "") (Dt "") (AV "") (AV "") (Bb "") (Bb "") (C2 "") (AV "") (fun _=>JA op x y κ) () (fun _ _ _ _=>()) y) (Bb "") (AV "") (Dt "") (fun n c=>Bl y fun m d=>Jw op n c m d κ) (AV "") (Bb "") (Bb "") (C2 "") (AV "") (fun _=>Cn op x y κ) () (fun _ _ _ _=>()) x
def eqI (x y:V) (κ:Bool->R):R:=FP x fun k a=>FP y fun j b=>br (Bj k j) (CH (Nat.beq a b) κ) (.fail "")
def eqS (x y:V) (κ:Bool->R):R:=Bl x fun n c=>Bl y fun m d=>CH (Jq n c m d) κ
def eqB (x y:V) (κ:Bool->R):R:=P3 x fun b=>P3 y fun c=>br b (br c (κ true) (κ false)) (br c (κ false) (κ true))
def Li (k:Sc):V->V->(Bool->R)->R:=@Sc.rec (fun _=>V->V->(Bool->R)->R) eqI eqS eqB k
def Nl.ix (w:Nl):Nat:=@Nl.rec (fun _=>Nat) 0 1 2 3 4 w
def G4 (w:Nl) (v:V) (κn κo:R):R :=
 @V.rec (fun _=>R) (fun _=>Unit) (AV "") (Bb "") (fun p off=>br (Nat.beq w.ix 0) κo (.fail "")) (fun p off len cap ex esz=>br (Nat.beq w.ix 1) κo (.fail "")) (AV "") (AV "") (fun w'=>br (Nat.beq w'.ix w.ix) κn (.fail "")) (fun p=>br (Nat.beq w.ix 2) κo (.fail "")) (fun f caps _i=>br (Nat.beq w.ix 3) κo (.fail "")) (AV "") (Bb "") () (fun _ _ _ _=>()) v
def Jo (w:Nl) (x y:V) (κ:Bool->R):R :=
 G4 w x (G4 w y (κ true) (κ false)) (G4 w y (κ false) (IR x fun p o=>IR y fun q o'=>br (K4.beq p q) (CH (Nat.beq o o') κ) (.fail "")))
def IW (fs:List (Nat×Sc)) (x y:List V) (κ:Bool->R):R :=
 @List.rec (Nat×Sc) (fun _=>R) (κ true) (fun f _ ih=>@Prod.rec Nat Sc (fun _=>R) (fun o k=>Ee o x fun u=>Ee o y fun v=>Li k u v fun r=>br r ih (κ false)) f) fs
def OW (ks:List Sc):List V->List V->(Bool->R)->R :=
 @List.rec Sc (fun _=>List V->List V->(Bool->R)->R)
  (fun a b κ=>@List.rec V (fun _=>R) (@List.rec V (fun _=>R) (κ true) (C2 "") b) (C2 "") a)
  (fun k _ ih a b κ=>@List.rec V (fun _=>R) (.fail "") (fun u a _=>@List.rec V (fun _=>R) (.fail "") (fun v b _=>Li k u v fun r=>br r (ih a b κ) (κ false)) b) a) ks
def KZ (pl:Plan) (x y:V) (κ:Bool->R):R :=
 @Plan.rec (fun _=>R) (fun k=>Li k x y κ) (fun fs=>asAgg x fun a=>asAgg y fun b=>IW fs a b κ) (fun l=>asAgg x fun a=>asAgg y fun b=>OW l a b κ) (fun w=>Jo w x y κ) pl
def NS (ks:List Sc):List V->R->R :=
 @List.rec Sc (fun _=>List V->R->R) (fun a κ=>@List.rec V (fun _=>R) κ (C2 "") a) (fun _ _ ih a κ=>@List.rec V (fun _=>R) (.fail "") (fun _ l _=>ih l κ) a) ks
def Ke (pl:Plan) (v:V) (κ:R):R :=
 @Plan.rec (fun _=>R) (fun k=>@Sc.rec (fun _=>R) (FP v fun _ _=>κ) (Bl v fun _ _=>κ) (P3 v fun _=>κ) k) (Bb "") (fun l=>asAgg v fun a=>NS l a κ) (Bb "") pl
def He (pl:Plan) (k:V) (es:List (V×V)) (κf:V->R) (κn:R):R :=
 @List.rec (V×V) (fun _=>R) κn (fun e _ ih=>@Prod.rec V V (fun _=>R) (fun a b=>KZ pl k a fun r=>br r (κf b) ih) e) es
def Hv (pl:Plan) (k v:V) (es:List (V×V)):(List (V×V)->R)->R :=
 @List.rec (V×V) (fun _=>(List (V×V)->R)->R) (fun κ=>κ [(k,v)])
  (fun e tl ih κ=>@Prod.rec V V (fun _=>R) (fun a _=>KZ pl k a fun r=>br r (κ ((k,v)::tl)) (ih fun l=>κ (e::l))) e) es
def L5 (pl:Plan) (k:V) (es:List (V×V)):(List (V×V)->R)->R :=
 @List.rec (V×V) (fun _=>(List (V×V)->R)->R) (fun κ=>κ [])
  (fun e tl ih κ=>@Prod.rec V V (fun _=>R) (fun a _=>KZ pl k a fun r=>br r (κ tl) (ih fun l=>κ (e::l))) e) es
def Hu (es:List (V×V)):List Nat->Bool :=
 @List.rec (V×V) (fun _=>List Nat->Bool) (fun bs=>@List.rec Nat (fun _=>Bool) true (fun _ _ _=>false) bs) (fun _ _ ih bs=>@List.rec Nat (fun _=>Bool) false (fun _ bs _=>ih bs) bs) es
def SZ (bs:List Nat) (c:Nat):(List Nat->R)->R :=
 @List.rec Nat (fun _=>(List Nat->R)->R) (fun κ=>κ [c]) (fun b _ ih κ=>ih fun l=>κ (b::l)) bs
def Vf (es:List (V×V)) (bs:List Nat) (c:Nat) (κ:List Nat->Nat->R):R :=
 br (Hu es bs) (κ bs c) (SZ bs c fun bs=>Ai (Nat.succ c) fun c=>κ bs c)
def Le (pl:Plan) (k:V) (es:List (V×V)):List Nat->(List Nat->R)->R :=
 @List.rec (V×V) (fun _=>List Nat->(List Nat->R)->R) (fun bs κ=>κ bs)
  (fun e _ ih bs κ=>@List.rec Nat (fun _=>R) (.fail "") (fun b tl _=>@Prod.rec V V (fun _=>R) (fun a _=>KZ pl k a fun r=>br r (κ tl) (ih tl fun l=>κ (b::l))) e) bs) es
def VE (es:List (V×V)):(Nat->R)->R :=
 @List.rec (V×V) (fun _=>(Nat->R)->R) (fun κ=>κ 0) (fun _ _ ih κ=>ih fun n=>Ai (Nat.succ n) κ) es
def IJ (p:K4) (h:Heap) (κ:Cs->Bool->Option K4->R):R :=
 QT p h fun o=>@Option.rec Ob (fun _=>R) (.fail "") (fun o=>@Ob.rec (fun _=>R) κ (C2 "") (Fp "") (.fail "") (AV "") o) o
def P1 (p:K4) (h:Heap) (κ:List (V×V)->List Nat->Nat->R):R :=
 QT p h fun o=>@Option.rec Ob (fun _=>R) (.fail "") (fun o=>@Ob.rec (fun _=>R) (C2 "") κ (Fp "") (.fail "") (AV "") o) o
def D2 (h:Heap) (n:K4) (o:Ob) (κ:Heap->K4->R):R:=Fo n h (some o) fun h'=>n.nx fun n'=>κ h' n'
def LA (prev:Option K4) (h:Heap) (κ:Heap->R):R:=@Option.rec K4 (fun _=>R) (κ h) (fun q=>Fo q h none κ) prev
def Eb (h:Heap) (p:K4) (off:Nat) (y:Cs) (κ:Heap->R):R :=
 IJ p h fun cs sup prev=>br sup (.fail "") (NJ cs off y fun cs'=>LA prev h fun h=>Fo p h (some (.c cs' false none)) κ)
def Iw (v:V) (κ:Nat->R):R:=FP v fun k r=>br (Nat.ble (Nat.succ r) (Hk k)) (κ r) (.fail "")
def Cp (o:Option Opd) (t:Regs) (d:Nat) (κ:Nat->R):R:=@Option.rec Opd (fun _=>R) (κ d) (fun x=>CV x t fun v=>Iw v κ) o
def Gb (n:Nat) (κ:V->R):R:=br (Nat.ble (Nat.succ n) 9223372036854775808) (κ (.int .i64 n)) (.fail "")
def Lh (xs:List V) (off:Nat) (ys:List V) (κ:List V->R):R :=
 Dq off xs fun a=>GJ ys fun m=>Ai (Nat.add off m) fun j=>E6 j xs fun b=>ES ys b fun t=>ES a t κ
def D8 (parts:List Part) (t:Regs):List V->(List V->R)->R :=
 @List.rec Part (fun _=>List V->(List V->R)->R) (fun z κ=>κ z)
  (fun p _ ih z κ=>@Part.rec (fun _=>R) (fun off size x=>CV x t fun v=>DQ v fun l=>GJ l fun m=>br (Nat.beq m size) (Lh z off l fun z=>ih z κ) (.fail "")) p) parts
def XX (i j:Nat) (κ:V->R):R:=br (Nat.ble (Nat.succ j) (Y5 i)) (Ai (W5 i) fun m=>br (Nat.ble (Nat.succ m) 18446744073709551616) (Ai (Yh i j) fun d=>κ (.oth (.rs m d))) (.fail "")) (κ (.oth (.iv .i64 0 18446744073709551615)))
def XM (i j:Nat) (κ:V->R):R:=br (Nat.ble i 36893488147419103232) (κ (.oth (.iv .i64 0 18446744073709551615))) (br (Nat.beq j (Xc i))
 (Ai (HU i) fun m=>Ai (Qw i) fun t=>br (Nat.ble (Nat.succ m) t) (Ai (Nat.sub t m) fun d=>κ (.oth (.rs (Nat.add 18446744073709551616 m) d)))
  (br (Nat.beq t m) (br (Nat.ble 1 m) (κ (.oth (.rs m 0))) (.fail "")) (Ai (Nat.sub m t) fun d=>κ (.oth (.rs (Nat.add 73786976294838206464 m) (Nat.add (Nat.mul d 18446744073709551616) d))))))
 (κ (.oth (.iv .i64 0 18446744073709551615))))
def UM (i j:Nat) (κ:V->R):R:=br (Nat.beq i 0) (κ (.oth .bl)) (br (Nat.ble i 18446744073709551615) (Ai (Nat.add i j) fun q=>κ (.oth (.sy .i64 q)))
 (br (Nat.ble i 36893488147419103231) (br (Nat.ble (Nat.succ j) (Nat.div (Nat.sub i 18446744073709551616) 4294967296)) (br (QQ i j) (κ (.bool true)) (κ (.bool false))) (κ (.oth .bl))) (br (Nat.ble i 73786976294838206463) (XM i j κ) (XX i j κ))))
def J5 (m:Nat):Nat->List V:=@Nat.rec (fun _=>Nat->List V) (fun _=>[]) (fun _ ih i=>.oth (.sy .i64 i)::ih (Nat.succ i)) m
def N9 (esz:Nat) (v:V) (h:Heap) (κ:Nat->Cs->R):R :=
 @V.rec (fun _=>R) (fun _=>Unit) (AV "") (Bb "") (AV "") (fun p off len cap ex esz'=>br (Nat.beq esz' esz) (IJ p h fun cs _ _=>Ai (Nat.mul len esz) fun m=>BY cs off m fun y=>κ len y) (.fail "")) (fun n c=>br (Nat.beq esz 1) (κ n (.b n c)) (.fail "")) (AV "") (fun w=>@Nl.rec (fun _=>R) (.fail "") (κ 0 (.l [])) (.fail "") (.fail "") (.fail "") w) (Bb "") (C2 "") (AV "") (fun o=>PW o (fun i l0 l1 z=>br (Nat.beq z esz) (br (Nat.beq l0 l1) (br (and (Nat.ble 1 i) (Nat.ble i 18446744073709551615)) (Ai (Nat.mul l0 esz) fun m=>κ l0 (.l (J5 m i))) (.fail "")) (.fail "")) (.fail "")) (.fail "")) () (fun _ _ _ _=>()) v
def E2 (esz eb:Nat) (x:V) (m:Nat) (y:Cs) (h:Heap) (n:K4) (κ:KV):R :=
 CX x
  (br (Nat.beq m 0) (κ (.nil .sl) h n) (br (Nat.ble (Nat.mul (Nat.add (Nat.mul 4 m) 4096) eb) 281474976710656) (D2 h n (.c y false none) fun h' n'=>κ (.sl n 0 m m false esz) h' n') (.fail "")))
  (fun p off len cap ex esz'=>br (Nat.beq esz' esz) (br (Nat.beq m 0) (κ x h n) (Ai (Nat.add len m) fun need =>
   br (Nat.ble need cap)
    (Ai (Nat.add off (Nat.mul len esz)) fun j=>Eb h p j y fun h'=>κ (.sl p off need cap ex esz) h' n)
    (br (Nat.ble (Nat.mul (Nat.add (Nat.mul 4 need) 4096) eb) 281474976710656)
     (IJ p h fun cs sup prev=>Ai (Nat.mul len esz) fun l=>BY cs off l fun a=>VO a y fun z =>
      br ex
       (D2 h n (.c z false none) fun h' n'=>κ (.sl n 0 need need false esz) h' n')
       (br sup (.fail "")
        (Ai (Nat.add off l) fun j=>BY cs 0 j fun old=>LA prev h fun h=>Fo p h (some (.c old true none)) fun h =>
         D2 h n (.c z false (some p)) fun h' n'=>κ (.sl n 0 need need false esz) h' n')))
     (.fail "")))) (.fail ""))
abbrev CF:=Nat->List V->Heap->K4->R
def Uh (x:Opd) (cf:CF) (t:Regs) (h:Heap) (n:K4) (κ:KV):R :=
 CV x t fun v=>κ v h n
def HD (c a b:Opd) (cf:CF) (t:Regs) (h:Heap) (n:K4) (κ:KV):R :=
 CV c t fun v=>P3 v fun q=>br q (CV a t fun v=>κ v h n) (CV b t fun v=>κ v h n)
def OX (cs:Cs) (cf:CF) (t:Regs) (h:Heap) (n:K4) (κ:KV):R :=
 D2 h n (.c cs false none) fun h' n'=>κ (.ptr n 0) h' n'
def Iu (x:Opd) (cf:CF) (t:Regs) (h:Heap) (n:K4) (κ:KV):R :=
 CV x t fun v=>DQ v fun l=>D2 h n (.c (.l l) false none) fun h' n'=>κ (.ptr n 0) h' n'
def Qq (zero:List V) (parts:List Part) (cf:CF) (t:Regs) (h:Heap) (n:K4) (κ:KV):R :=
 D8 parts t zero fun l=>κ (.agg l) h n
def GH (u8:Bool) (len esz:Nat) (zero:List V) (parts:List Part) (cf:CF) (t:Regs) (h:Heap) (n:K4) (κ:KV):R :=
 D8 parts t zero fun l=>br u8 (CM l (fun m c=>D2 h n (.c (.b m c) false none) fun h' n'=>κ (.sl n 0 len len true esz) h' n') (.fail "")) (D2 h n (.c (.l l) false none) fun h' n'=>κ (.sl n 0 len len true esz) h' n')
def S2 (x:Opd) (cf:CF) (t:Regs) (h:Heap) (n:K4) (κ:KV):R :=
 CV x t fun v=>Q2 v (fun p off=>IJ p h fun cs _ _=>FY cs off fun v=>κ v h n) (fun o=>RQ o (fun i j m=>br (Nat.ble 1 m) (UM i j fun v=>κ v h n) (.fail "")) (.fail ""))
def Mu (m:Nat) (x:Opd) (cf:CF) (t:Regs) (h:Heap) (n:K4) (κ:KV):R :=
 CV x t fun v=>IR v fun p off=>IJ p h fun cs _ _=>BY cs off m fun y=>Eg y fun l=>κ (.agg l) h n
def Rq (m:Nat) (a x:Opd) (cf:CF) (t:Regs) (h:Heap) (n:K4) (κ:KV):R :=
 CV a t fun u=>IR u fun p off=>CV x t fun v=>DQ v fun l=>GJ l fun k=>br (Nat.beq k m) (Eb h p off (.l l) fun h'=>κ Cf h' n) (.fail "")
def DY (x:Opd) (cf:CF) (t:Regs) (h:Heap) (n:K4) (κ:KV):R :=
 CV x t fun v=>@V.rec (fun _=>R) (fun _=>Unit) (AV "") (Bb "") (fun p off=>κ v h n) (Dt "") (AV "") (AV "") (Bb "") (Bb "") (fun f caps _i=>κ v h n) (AV "") (Bb "") () (fun _ _ _ _=>()) v
def KN (op:BinOp) (x y:Opd) (cf:CF) (t:Regs) (h:Heap) (n:K4) (κ:KV):R :=
 CV x t fun u=>CV y t fun v=>MU op u v fun r=>κ r h n
def Ri (neg:Bool) (pl:Plan) (x y:Opd) (cf:CF) (t:Regs) (h:Heap) (n:K4) (κ:KV):R :=
 CV x t fun u=>CV y t fun v=>KZ pl u v fun r=>br neg (br r (κ (.bool false) h n) (κ (.bool true) h n)) (κ (.bool r) h n)
def MH (x:Opd) (cf:CF) (t:Regs) (h:Heap) (n:K4) (κ:KV):R :=
 CV x t fun v=>P3 v fun q=>br q (κ (.bool false) h n) (κ (.bool true) h n)
def Mi (x:Opd) (cf:CF) (t:Regs) (h:Heap) (n:K4) (κ:KV):R :=
 CV x t fun v=>FP v fun k r=>Np k 0 k r fun v=>κ v h n
def Mm (x:Opd) (cf:CF) (t:Regs) (h:Heap) (n:K4) (κ:KV):R :=
 CV x t fun v=>FP v fun k r=>Ai (Nat.xor (Nat.sub (Mk k) 1) r) fun r=>κ (.int k r) h n
def M7 (k:IntKind) (x:Opd) (cf:CF) (t:Regs) (h:Heap) (n:K4) (κ:KV):R :=
 CV x t fun v=>FP v fun j r=>br (Nat.ble (Nat.succ r) (Hk j)) (Ai (Nat.mod r (Mk k)) fun r=>κ (.int k r) h n) (br (Nat.ble (Mk k) (Mk j)) (Ai (Nat.mod r (Mk k)) fun r=>κ (.int k r) h n) (Ai (Nat.sub (Mk k) (Nat.sub (Mk j) r)) fun r=>κ (.int k r) h n))
def J7 (x:Opd) (cf:CF) (t:Regs) (h:Heap) (n:K4) (κ:KV):R :=
 CV x t fun v=>CX v (κ (.str 0 0) h n) (fun p off len cap ex esz=>br (Nat.beq esz 1) (IJ p h fun cs _ _=>BY cs off len fun y=>Eg y fun l=>CM l (fun m c=>κ (.str m c) h n) (.fail "")) (.fail ""))
def HQ (x:Opd) (cf:CF) (t:Regs) (h:Heap) (n:K4) (κ:KV):R :=
 CV x t fun v=>Bl v fun m c=>D2 h n (.c (.b m c) false none) fun h' n'=>κ (.sl n 0 m m false 1) h' n'
def LN (x:Opd) (cf:CF) (t:Regs) (h:Heap) (n:K4) (κ:KV):R :=
 CV x t fun v=>Bl v fun _ _=>κ v h n
def MD (x:Opd) (cf:CF) (t:Regs) (h:Heap) (n:K4) (κ:KV):R :=
 CV x t fun v=>CX v (.fail "") (fun p _ _ _ _ _=>IJ p h fun _ _ _=>κ v h n)
def PV (f:Nat) (caps:List Opd) (cf:CF) (t:Regs) (h:Heap) (n:K4) (κ:KV):R :=
 O9 caps t fun l=>κ (.fn f l) h n
def Ih  (cf:CF) (t:Regs) (h:Heap) (n:K4) (κ:KV):R :=
 D2 h n (.m [] [] 0) fun h' n'=>κ (.map n) h' n'
def FR (eb:Nat) (u8:Bool) (zero:List V) (l c:Opd) (cf:CF) (t:Regs) (h:Heap) (n:K4) (κ:KV):R :=
 CV l t fun u=>Iw u fun a=>CV c t fun v=>Iw v fun b=>br (Nat.ble a b) (br (Nat.ble (Nat.mul eb b) 281474976710656) (EH u8 zero b fun y=>D2 h n (.c y false none) fun h' n'=>GJ zero fun esz=>κ (.sl n 0 a b true esz) h' n') (.fail "")) (.fail "")
def I2 (x:Opd) (lo hi:Option Opd) (cf:CF) (t:Regs) (h:Heap) (n:K4) (κ:KV):R :=
 CV x t fun v=>TZ v (fun l0 l1 _ _=>br (br (E0 hi) true (Nat.beq l0 l1)) (Cp hi t l0 fun b=>Cp lo t 0 fun a=>br (Nat.ble a b) (br (Nat.ble b l0) (Ai (Nat.sub b a) fun l=>κ (.oth (.ss l l (Nat.succ l) 0)) h n) (.fail "")) (.fail "")) (.fail ""))<|Bl v fun m c=>Cp hi t m fun b=>Cp lo t 0 fun a=>br (Nat.ble a b) (br (Nat.ble b m) (Ai (Nat.sub b a) fun l=>Ai (Ev.lo (sh c a) l) fun r=>κ (.str l r) h n) (.fail "")) (.fail "")
def Ie (esz:Nat) (x:Opd) (lo hi:Option Opd) (cf:CF) (t:Regs) (h:Heap) (n:K4) (κ:KV):R :=
 CV x t fun v=>Wn v (fun l0 l1=>br (br (E0 hi) true (Nat.beq l0 l1)) (Cp hi t l0 fun b=>Cp lo t 0 fun a=>br (Nat.ble a b) (br (Nat.ble b l0) (Ai (Nat.sub b a) fun l=>κ (.oth (.os l l)) h n) (.fail "")) (.fail "")) (.fail ""))<|CX v (Cp hi t 0 fun b=>Cp lo t 0 fun a=>br (Nat.beq b 0) (br (Nat.beq a 0) (κ (.nil .sl) h n) (.fail "")) (.fail "")) (fun p off len cap ex esz'=>Cp hi t len fun b=>Cp lo t 0 fun a=>br (Nat.beq esz' esz) (br (Nat.ble a b) (br (Nat.ble b cap) (Ai (Nat.sub b a) fun l=>Ai (Nat.sub cap a) fun c=>Ai (Nat.add off (Nat.mul a esz)) fun o=>κ (.sl p o l c ex esz) h n) (.fail "")) (.fail "")) (.fail ""))
def Io (m esz:Nat) (x:Opd) (lo hi:Option Opd) (cf:CF) (t:Regs) (h:Heap) (n:K4) (κ:KV):R :=
 CV x t fun v=>IR v fun p off=>IJ p h fun cs _ _=>VN cs fun z=>br (Nat.ble (Nat.add off (Nat.mul m esz)) z) (Cp hi t m fun b=>Cp lo t 0 fun a=>br (Nat.ble a b) (br (Nat.ble b m) (Ai (Nat.sub b a) fun l=>Ai (Nat.sub m a) fun c=>Ai (Nat.add off (Nat.mul a esz)) fun o=>κ (.sl p o l c true esz) h n) (.fail "")) (.fail "")) (.fail "")
def LV (off:Nat) (x:Opd) (cf:CF) (t:Regs) (h:Heap) (n:K4) (κ:KV):R :=
 CV x t fun v=>Q2 v (fun p o=>Ai (Nat.add o off) fun o=>κ (.ptr p o) h n) (fun o=>RQ o (fun i j m=>br (Nat.ble (Nat.succ off) m) (Ai (Nat.add j off) fun j=>Ai (Nat.sub m off) fun m=>κ (.oth (.ap i j m)) h n) (.fail "")) (.fail ""))
def LL (off size:Nat) (ag:Bool) (x:Opd) (cf:CF) (t:Regs) (h:Heap) (n:K4) (κ:KV):R :=
 CV x t fun v=>asAgg v fun l=>br ag (E6 off l fun r=>Dq size r fun r=>κ (.agg r) h n) (Ee off l fun v=>κ v h n)
def M3 (esz:Nat) (x i:Opd) (cf:CF) (t:Regs) (h:Heap) (n:K4) (κ:KV):R :=
 CV x t fun v=>CV i t fun u=>Iw u fun a=>Hb v (.fail "") (fun p off len cap ex esz'=>br (Nat.beq esz' esz) (br (Nat.ble (Nat.succ a) len) (Ai (Nat.add off (Nat.mul a esz)) fun o=>κ (.ptr p o) h n) (.fail "")) (.fail "")) (fun o=>PW o (fun i lo hi z=>br (Nat.beq z esz) (br (Nat.ble (Nat.succ a) lo) (Ai (Nat.mul a esz) fun j=>κ (.oth (.ap i j esz)) h n) (.fail "")) (.fail "")) (.fail ""))
def Lp (m esz:Nat) (x i:Opd) (cf:CF) (t:Regs) (h:Heap) (n:K4) (κ:KV):R :=
 CV x t fun v=>CV i t fun u=>Iw u fun a=>IR v fun p off=>br (Nat.ble (Nat.succ a) m) (Ai (Nat.add off (Nat.mul a esz)) fun o=>κ (.ptr p o) h n) (.fail "")
def Ll (x i:Opd) (cf:CF) (t:Regs) (h:Heap) (n:K4) (κ:KV):R :=
 CV x t fun v=>CV i t fun u=>Iw u fun a=>Bl v fun m c=>br (Nat.ble (Nat.succ a) m) (Ai (Ev.lo (sh c a) 1) fun r=>κ (.int .u8 r) h n) (.fail "")
def LH (m esz:Nat) (ag:Bool) (x i:Opd) (cf:CF) (t:Regs) (h:Heap) (n:K4) (κ:KV):R :=
 CV x t fun v=>CV i t fun u=>Iw u fun a=>asAgg v fun l=>br (Nat.ble (Nat.succ a) m) (Ai (Nat.mul a esz) fun j=>br ag (E6 j l fun r=>Dq esz r fun r=>κ (.agg r) h n) (Ee j l fun v=>κ v h n)) (.fail "")
def S1 (pl:Plan) (zero:V) (ok:Bool) (m k:Opd) (cf:CF) (t:Regs) (h:Heap) (n:K4) (κ:KV):R :=
 CV m t fun u=>CV k t fun v=>Ke pl v<|DC u (br ok (κ (.tup [zero,.bool false]) h n) (κ zero h n)) (fun p=>P1 p h fun es _ _=>He pl v es (fun r=>br ok (κ (.tup [r,.bool true]) h n) (κ r h n)) (br ok (κ (.tup [zero,.bool false]) h n) (κ zero h n)))
def S3 (pl:Plan) (m k v:Opd) (cf:CF) (t:Regs) (h:Heap) (n:K4) (κ:KV):R :=
 CV m t fun u=>CV k t fun a=>CV v t fun b=>Ke pl a<|DC u (.fail "") (fun p=>P1 p h fun es bs c=>Hv pl a b es fun es=>Vf es bs c fun bs c=>Fo p h (some (.m es bs c)) fun h'=>κ Cf h' n)
def MJ (pl:Plan) (m k:Opd) (cf:CF) (t:Regs) (h:Heap) (n:K4) (κ:KV):R :=
 CV m t fun u=>CV k t fun a=>Ke pl a<|DC u (κ (.tup []) h n) (fun p=>P1 p h fun es bs c=>L5 pl a es fun es'=>Le pl a es bs fun bs=>Fo p h (some (.m es' bs c)) fun h'=>κ (.tup []) h' n)
def Lk (i:Nat) (x:Opd) (cf:CF) (t:Regs) (h:Heap) (n:K4) (κ:KV):R :=
 CV x t fun v=>Kg v fun l=>Ee i l fun v=>κ v h n
def Nr (f:Nat) (args:List Opd) (cf:CF) (t:Regs) (h:Heap) (n:K4) (κ:KV):R :=
 O9 args t fun l=>@R.rec (fun _=>R) (Fp "") (fun v h n=>κ v h n) (fun w=>.fail w) (Fp "") (cf f l h n)
def El (x:Opd) (args:List Opd) (cf:CF) (t:Regs) (h:Heap) (n:K4) (κ:KV):R :=
 CV x t fun v=>PT v fun f caps=>O9 args t fun l=>ES l caps fun l=>@R.rec (fun _=>R) (Fp "") (fun v h n=>κ v h n) (fun w=>.fail w) (Fp "") (cf f l h n)
def LC (x:Opd) (cf:CF) (t:Regs) (h:Heap) (n:K4) (κ:KV):R :=
 CV x t fun v=>TZ v (fun l0 l1 _ _=>br (Nat.ble (Nat.succ l1) 9223372036854775808) (κ (.oth (.iv .i64 l0 l1)) h n) (.fail ""))<|Bl v fun m _=>Gb m fun v=>κ v h n
def MK (x:Opd) (cf:CF) (t:Regs) (h:Heap) (n:K4) (κ:KV):R :=
 CV x t fun v=>Hb v (κ (.int .i64 0) h n) (fun p off len cap ex esz=>Gb len fun v=>κ v h n) (fun o=>VS o (fun l0 l1=>br (Nat.ble (Nat.succ l1) 9223372036854775808) (κ (.oth (.iv .i64 l0 l1)) h n) (.fail "")) (PW o (fun i l0 l1 z=>br (Nat.ble (Nat.succ l1) 9223372036854775808) (br (Nat.beq l0 l1) (κ (.int .i64 l0) h n) (κ (.oth (.iv .i64 l0 l1)) h n)) (.fail "")) (.fail "")))
def Lm (x:Opd) (cf:CF) (t:Regs) (h:Heap) (n:K4) (κ:KV):R :=
 CV x t fun v=>DC v (κ (.int .i64 0) h n) (fun p=>P1 p h fun es _ _=>VE es fun m=>Gb m fun v=>κ v h n)
def ME (x y:Opd) (cf:CF) (t:Regs) (h:Heap) (n:K4) (κ:KV):R :=
 CV x t fun u=>CV y t fun v=>W9 u v fun v=>κ v h n
def Mw (x y:Opd) (cf:CF) (t:Regs) (h:Heap) (n:K4) (κ:KV):R :=
 CV x t fun u=>CV y t fun v=>Wi u v fun v=>κ v h n
def Lj (esz eb:Nat) (x y:Opd) (cf:CF) (t:Regs) (h:Heap) (n:K4) (κ:KV):R :=
 CV x t fun u=>CV y t fun v=>N9 esz v h fun m y=>E2 esz eb u m y h n κ
def IP (esz eb:Nat) (u8:Bool) (zero:List V) (x c:Opd) (cf:CF) (t:Regs) (h:Heap) (n:K4) (κ:KV):R :=
 CV x t fun u=>CV c t fun v=>Iw v fun m=>br (Nat.ble (Nat.mul eb m) 281474976710656) (EH u8 zero m fun y=>E2 esz eb u m y h n κ) (.fail "")
def Lw (esz:Nat) (x y:Opd) (cf:CF) (t:Regs) (h:Heap) (n:K4) (κ:KV):R :=
 CV x t fun u=>CV y t fun v=>N9 esz v h fun m y=>CX u (κ (.int .i64 0) h n) (fun p off len cap ex esz'=>br (Nat.beq esz' esz) (Ai (@Bool.rec (fun _=>Nat) len m (Nat.ble m len)) fun k=>br (Nat.beq k 0) (κ (.int .i64 0) h n) (Ai (Nat.mul k esz) fun j=>BY y 0 j fun y=>Eb h p off y fun h=>Gb k fun v=>κ v h n)) (.fail ""))
def IU (x y z:Opd) (cf:CF) (t:Regs) (h:Heap) (n:K4) (κ:KV):R :=
 CV x t fun u=>CV y t fun v=>CV z t fun w=>FP u fun k a=>FP v fun j b=>FP w fun i c=>br (Bj k j) (br (Bj k i) (br (Ho k a b) (br (Ho k b c) (κ w h n) (κ v h n)) (br (Ho k a c) (κ w h n) (κ u h n))) (.fail "")) (.fail "")
def Mq (x:Opd) (cf:CF) (t:Regs) (h:Heap) (n:K4) (κ:KV):R :=
 CV x t fun v=>CX v (κ (.int .i64 0) h n) (fun p off len cap ex esz=>br ex (Gb cap fun v=>κ v h n) (.fail ""))
def MM (u8:Bool) (zero:List V) (x:Opd) (cf:CF) (t:Regs) (h:Heap) (n:K4) (κ:KV):R :=
 CV x t fun v=>CX v (κ (.tup []) h n) (fun p off len cap ex esz=>GJ zero fun m=>br (Nat.beq m esz) (br (Nat.beq len 0) (κ (.tup []) h n) (EH u8 zero len fun y=>Eb h p off y fun h=>κ (.tup []) h n)) (.fail ""))
def R1 (why:String) (cf:CF) (t:Regs) (h:Heap) (n:K4) (κ:KV):R :=
 .fail ""
def H6 (o:AK):CF->Regs->Heap->K4->KV->R :=
 @AK.rec (fun _=>CF->Regs->Heap->K4->KV->R) Uh HD OX Iu Qq GH S2 Mu Rq DY KN Ri MH Mi Mm M7 J7 HQ LN MD PV Ih FR I2 Ie Io LV LL M3 Lp Ll LH S1 S3 MJ Lk Nr El LC MK Lm ME Mw Lj IP Lw IU Mq MM R1 o
end Go.Ev

namespace Go.Ev
set_option linter.unusedVariables false
structure AOp where
 dst:Option K2
 g:Option (K2×Bool)
 k:AK
inductive Item where
 | rd (i:Nat) (o:AOp)
 | ef (i:Nat) (o:AOp)
 | al (i:Nat) (j:D) (o:AOp)
 | ck (i:Nat) (o:AOp)
 | no (j:D)
 | rn (i:Nat) (j:D) (o:AOp)
inductive Sp where
 | rng (x:Opd)
 | nxt (x:Opd)
 | ent (x:Opd)
 | tcl (f:Nat) (l:List Opd)
 | dcl (x:Opd) (l:List Opd)
inductive AC where
 | skip
 | seq (a b:AC)
 | ops (l:List AOp)
 | drawn (al:Bool) (l:List Item)
 | cond (c:Opd) (a b:AC)
 | block (id:Nat) (b:AC)
 | loop (b:AC)
 | exit (id:Nat)
 | ret
 | bad (why:String)
 | spl (pre:List AOp) (sp:Sp) (d:Option K2) (post:List AOp)
inductive ARes where
 | tmp (p:K2)
 | cel (p:K2) (m:Option Nat)
structure AFn where
 ps:List K2
 code:AC
 rs:List ARes
abbrev Im:=List V->Heap->K4->R
def CK (g:Option (K2×Bool)) (t:Regs) (yes no:R):R :=
 @Option.rec (K2×Bool) (fun _=>R) yes (fun p=>@Prod.rec K2 Bool (fun _=>R) (fun r want=>Hg r t fun v =>
  @V.rec (fun _=>R) (fun _=>Unit) (fun _ _=>no) (fun b=>br (Bool.rec (Bool.rec true false b) b want) yes no) (fun _ _=>no) (fun _ _ _ _ _ _=>no) (fun _ _=>no) (fun _ _=>no) (fun _=>no) (fun _=>no) (fun _ _ _=>no) (fun _ _=>no) (fun o=>.fail "") () (fun _ _ _ _=>()) v) p) g
def asO (v:V) (κ:Ot->R):R :=
 @V.rec (fun _=>R) (fun _=>Unit) (fun _ _=>(.fail "")) (fun _=>(.fail "")) (fun _ _=>(.fail "")) (fun _ _ _ _ _ _=>(.fail "")) (fun _ _=>(.fail "")) (fun _ _=>(.fail "")) (fun _=>(.fail "")) (fun _=>(.fail "")) (fun _ _ _=>(.fail "")) (fun _ _=>(.fail "")) (fun o=>κ o) () (fun _ _ _ _=>()) v
def Y2 (u:Ot) (κ:R):R:=@Ot.rec (fun _=>R) κ (fun _=>(.fail "")) (fun _=>(.fail "")) (.fail "") (fun _ _ _=>(.fail "")) (fun _ _=>(.fail "")) (.fail "") (fun _ _=>(.fail "")) (fun _ _ _ _=>(.fail "")) (fun _ _ _ _=>(.fail "")) (fun _ _ _=>(.fail "")) (fun _ _=>(.fail "")) u
def Z0 (u:Ot) (κ:R):R:=@Ot.rec (fun _=>R) (.fail "") (fun _=>(.fail "")) (fun _=>(.fail "")) (.fail "") (fun _ _ _=>(.fail "")) (fun _ _=>(.fail "")) κ (fun _ _=>(.fail "")) (fun _ _ _ _=>(.fail "")) (fun _ _ _ _=>(.fail "")) (fun _ _ _=>(.fail "")) (fun _ _=>(.fail "")) u
def Yn (u:Ot) (κ:IntKind->Nat->Nat->R):R:=@Ot.rec (fun _=>R) (.fail "") (fun _=>(.fail "")) (fun _=>(.fail "")) (.fail "") (fun k lo hi=>κ k lo hi) (fun _ _=>(.fail "")) (.fail "") (fun _ _=>(.fail "")) (fun _ _ _ _=>(.fail "")) (fun _ _ _ _=>(.fail "")) (fun _ _ _=>(.fail "")) (fun _ _=>(.fail "")) u
def VX (o u:Ot) (κ:R):R :=
 @Ot.rec (fun _=>R) (Y2 u κ) (fun _=>(.fail "")) (fun _=>(.fail "")) (.fail "") (fun k lo hi=>Yn u fun k' lo' hi'=>br (Bj k k') (br (Nat.beq lo lo') (br (Nat.beq hi hi') κ (.fail "")) (.fail "")) (.fail "")) (fun _ _=>(.fail "")) (Z0 u κ) (fun _ _=>(.fail "")) (fun _ _ _ _=>(.fail "")) (fun _ _ _ _=>(.fail "")) (fun _ _ _=>(.fail "")) (fun _ _=>(.fail "")) o
def AD (x:V):V->R->R :=
 @V.rec (fun _=>V->R->R) (fun _=>List V->R->R)
  (fun k r y κ=>FP y fun j b=>br (Bj k j) (br (Nat.beq r b) κ (.fail "")) (.fail ""))
  (fun b y κ=>P3 y fun c=>br (Bool.rec (Bool.rec true false b) b c) κ (.fail ""))
  (fun p off y κ=>IR y fun q o=>br (K4.beq p q) (br (Nat.beq off o) κ (.fail "")) (.fail ""))
  (fun p off len cap ex esz y κ=>CX y (.fail "") fun q o l c e z=>br (K4.beq p q) (br (and (Nat.beq off o) (and (Nat.beq len l) (and (Nat.beq cap c) (and (Bool.rec (Bool.rec true false ex) ex e) (Nat.beq esz z))))) κ (.fail "")) (.fail ""))
  (fun n c y κ=>Bl y fun m d=>br (Jq n c m d) κ (.fail ""))
  (fun _ ih y κ=>asAgg y fun l=>ih l κ)
  (fun w y κ=>@V.rec (fun _=>R) (fun _=>Unit) (AV "") (Bb "") (AV "") (Dt "") (AV "") (AV "")
   (fun u=>br (Nat.beq (@Nl.rec (fun _=>Nat) 0 1 2 3 4 w) (@Nl.rec (fun _=>Nat) 0 1 2 3 4 u)) κ (.fail "")) (Bb "") (C2 "") (AV "") (Bb "") () (fun _ _ _ _=>()) y)
  (fun p y κ=>DC y (.fail "") fun q=>br (K4.beq p q) κ (.fail ""))
  (fun f _ ih y κ=>PT y fun g l=>br (Nat.beq f g) (ih l κ) (.fail ""))
  (fun _ ih y κ=>Kg y fun l=>ih l κ)
  (fun o y κ=>asO y fun u=>VX o u κ)
  (fun l κ=>@List.rec V (fun _=>R) κ (C2 "") l)
  (fun _ _ ihx ihl l κ=>@List.rec V (fun _=>R) (.fail "") (fun y ys _=>ihx y (ihl ys κ)) l) x
def JE:KV:=fun v _ _=>.rv v AT ⟨.d0,.d0,.d0,.d0⟩
def AZ (r:R) (κ:V->Heap->K4->R):R:=@R.rec (fun _=>R) (Fp "") (fun v h n=>κ v h n) (fun w=>.fail w) (Fp "") r
def Hn (o:Option Ob) (κ:R):R:=@Option.rec Ob (fun _=>R) κ (Bb "") o
def VR (o:Option Ob) (κ:Ob->R):R:=@Option.rec Ob (fun _=>R) (.fail "") κ o
def Sg (d:Option K2) (κ:K2->R):R:=@Option.rec K2 (fun _=>R) (.fail "") κ d
def Ep (body:S->Heap->K4->R) (m:Nat):S->Heap->K4->R :=
 @Nat.rec (fun _=>S->Heap->K4->R) (C2 "")
  (fun _ rec t h n=>@R.rec (fun _=>R) (fun e t h n=>@Ex.rec (fun _=>R) (rec t h n) (fun id=>.ok (.exit id) t h n) (.ok .ret t h n) e) (C2 "") (fun w=>.fail w) (fun _ _ a b=>.both a b) (body t h n)) m
def Rr (args:List V):List K2->Regs->(Regs->R)->R :=
 @List.rec V (fun _=>List K2->Regs->(Regs->R)->R) (fun ps t κ=>@List.rec K2 (fun _=>R) (κ t) (C2 "") ps)
  (fun v _ ih ps t κ=>@List.rec K2 (fun _=>R) (.fail "") (fun p qs _=>MP p t v fun t=>ih qs t κ) ps) args
def Kf (r:ARes) (t:Regs) (h:Heap) (κ:V->R):R :=
 @ARes.rec (fun _=>R) (fun p=>Hg p t κ) (fun p m=>Hg p t fun v=>IR v fun q off=>IJ q h fun cs _ _ =>
  @Option.rec Nat (fun _=>R) (FY cs off κ) (fun m=>BY cs off m fun y=>Eg y fun l=>κ (.agg l)) m) r
def Ju (rs:List ARes) (t:Regs) (h:Heap):(List V->R)->R :=
 @List.rec ARes (fun _=>(List V->R)->R) (fun κ=>κ []) (fun r _ ih κ=>Kf r t h fun v=>ih fun vs=>κ (v::vs)) rs
def Pb (rs:List ARes) (t:Regs) (h:Heap) (n:K4):R :=
 Ju rs t h fun l=>@List.rec V (fun _=>R) (.rv (.tup []) h n) (fun v vs _=>@List.rec V (fun _=>R) (.rv v h n) (fun _ _ _=>.rv (.tup l) h n) vs) l
end Go.Ev

namespace Go.Ev
set_option linter.unusedVariables false
def Jy (v:Value):Option V :=
 match v with
 | .bool b=>some (.bool b)
 | .int k n=>match n with
  | .ofNat m=>if Nat.ble (Nat.succ m) (Hk k) then some (.int k m) else none
  | .negSucc m=>if Nat.ble (Nat.add (Hk k) (Nat.succ m)) (Mk k) then some (.int k (Nat.sub (Mk k) (Nat.succ m))) else none
 | .string s=>some (.str s.size (B7 s.data.toList))
 | .pointer none=>some (.nil .ptr)
 | .slice none 0 0=>some (.nil .sl)
 | .map none=>some (.nil .map)
 | .nilFunc=>some (.nil .fn)
 | .nilIface=>some (.nil .iface)
 | _=>none
def Hd:List Value->Option (List V)
 | []=>some []
 | v::l=>match Jy v,Hd l with
  | some x,some xs=>some (x::xs)
  | _,_=>none
def IF (v:Value):Option V :=
 match v with
 | .agg cs=>(Hd cs.toList).map .agg
 | .tuple cs=>if cs.toList.isEmpty then some (.tup []) else none
 | .func (.func f) first caps=>if first.toList.isEmpty&&caps.toList.isEmpty then some (.fn f []) else none
 | v=>Jy v
section
variable (P:Program) (N:Nat)
def G6 (t:Nat):Option K2:=if t<N then K2.ofN t else none
def AY:Operand->Option Opd
 | .tmp t=>(G6 N t).map .t
 | .const v=>(IF v).map .c
 | .func f=>some (.c (.fn f []))
 | .global _=>none
def BB:List Operand->Option (List Opd)
 | []=>some []
 | o::l=>match AY N o,BB l with
  | some x,some xs=>some (x::xs)
  | _,_=>none
def Fx:Option Operand->Option (Option Opd)
 | none=>some none
 | some o=>(AY N o).map some
def D9 (t:TypeId):Option (List V):=((P.info? t).bind (·.zero)).bind fun z=>Hd z.cells.toList
def Bw (t:TypeId):Option Nat:=(P.info? t).map (·.size)
def EI (t:TypeId):Option Nat:=(P.info? t).map (·.bytes)
def KY (t:TypeId):Option Bool:=(P.underlying t).map fun d=>match d with | .struct _ | .array _ _=>true | _=>false
def Wa (t:TypeId):Bool:=match P.underlying t with | some (.int .u8)=>true | _=>false
def P0 (t:TypeId):Option Sc :=
 match P.underlying t with
 | some (.int _)=>some .i
 | some .string=>some .s
 | some .bool=>some .b
 | _=>none
def GI:List Field->Option (List (Nat×Sc))
 | []=>some []
 | f::l=>if f.name ≠ "_" then
   match P0 P f.type,GI l with
   | some k,some r=>some ((f.offset,k)::r)
   | _,_=>none
  else none
def JO (t:TypeId):Option Plan :=
 match P.underlying t with
 | some .bool=>some (.sc .b)
 | some (.struct fs)=>if P.stoodInHeld t then none else (GI P fs.toList).map .st
 | some (.pointer e)=>match Bw P e with
  | some (_+1)=>some (.rf .ptr)
  | _=>none
 | some (.slice _)=>some (.rf .sl)
 | some (.map _ _)=>some (.rf .map)
 | some (.func _ _ _)=>some (.rf .fn)
 | _=>none
def H7 (t:TypeId):Option Plan :=
 match P.underlying t with
 | some (.struct fs) =>
  if P.stoodInHeld t then none else
  match GI P fs.toList with
  | some offs=>if offs.map (·.1)=List.range offs.length then some (.ks (offs.map (·.2))) else none
  | none=>none
 | _=>(P0 P t).map .sc
def Fd (place:Nat->Option (Nat×Nat)):List (Nat×Operand)->Option (List Part)
 | []=>some []
 | (i,o)::l=>match place i,AY N o,Fd place l with
  | some (off,size),some x,some xs=>some (⟨off,size,x⟩::xs)
  | _,_,_=>none
def DR (z:List V):Nat->List V
 | 0=>[]
 | n+1=>z++DR z n
def L9:List V->Bool
 | [.int .u8 0]=>true
 | _=>false
def EK (b:Builtin) (argTypes:Array TypeId) (args:List Opd):Option AK :=
 match b,argTypes.toList,args with
 | .len,t::_,x::_ =>
  match P.underlying t with
  | some .string=>some (.lnS x)
  | some (.slice _)=>some (.lnL x)
  | some (.map _ _)=>some (.lnM x)
  | _=>none
 | .min,_,[x,y]=>some (.min x y)
 | .max,_,[x,y]=>some (.max x y)
 | .max,_,[x,y,z]=>some (.max3 x y z)
 | .append,[t,u],[x,y] =>
  match P.underlying t,P.underlying u with
  | some (.slice e),some (.int _) =>
   match Bw P e,EI P e,D9 P e with
   | some s,some b,some z=>if s == z.length&&0<s&&0<b then some (.appz s b (L9 z) z x y) else none
   | _,_,_=>none
  | some (.slice e),some _ =>
   match Bw P e,EI P e,D9 P e with
   | some s,some b,some z=>if s == z.length&&0<s&&0<b then some (.app s b x y) else none
   | _,_,_=>none
  | _,_=>none
 | .copy,t::_,[x,y] =>
  match P.underlying t with
  | some (.slice e)=>match Bw P e with
   | some s=>if 0<s then some (.cpy s x y) else none
   | none=>none
  | _=>none
 | .delete,t::_,[m,k] =>
  match P.underlying t with
  | some (.map kt _)=>(H7 P kt).map fun pl=>.del pl m k
  | _=>none
 | .cap,t::_,x::_ =>
  match P.underlying t with
  | some (.slice _)=>some (.cpL x)
  | _=>none
 | .clear,t::_,x::_ =>
  match P.underlying t with
  | some (.slice e)=>match Bw P e,D9 P e with
   | some s,some z=>if s == z.length&&0<s then some (.clr (L9 z) z x) else none
   | _,_=>none
  | _=>none
 | _,_,_=>none
def Fa (o:Oper):Option AK :=
 match o.op with
 | .move x | .assign x=>(AY N x).map .mv
 | .pick c a b=>match AY N c,AY N a,AY N b with
  | some c,some a,some b=>some (.pick c a b)
  | _,_,_=>none
 | .alloc e=>(D9 P e).map fun z=>.alc (.l z)
 | .box _ x=>(AY N x).map .box
 | .build t parts =>
  match P.underlying t,D9 P t with
  | some (.struct fs),some z=>(fs.toList.mapM fun f=>(P.info? f.type).map fun i=>(f.offset,i.size)).bind fun places=>(Fd N (places.toArray[·]?) parts.toList).map fun ps=>.build z ps
  | some (.array _ e),some z=>(Bw P e).bind fun s=>(Fd N (fun i=>some (i*s,s)) parts.toList).map fun ps=>.build z ps
  | _,_=>none
 | .buildSlice t len parts =>
  match P.underlying t with
  | some (.slice e) =>
   match Bw P e,D9 P e with
   | some s,some z=>if s == z.length&&0<s&&len*s≤2 ^ 24 then
     (Fd N (fun i=>some (i*s,s)) parts.toList).map fun ps=>.bslice (Wa P e&&s == 1) len s (DR z len) ps else none
   | _,_=>none
  | _=>none
 | .load t a=>match KY P t,Bw P t,AY N a with
  | some true,some s,some a=>some (.ldn s a)
  | some false,_,some a=>some (.ld a)
  | _,_,_=>none
 | .store t a x=>match Bw P t,AY N a,AY N x with
  | some s,some a,some x=>some (.st s a x)
  | _,_,_=>none
 | .nilCheck x=>(AY N x).map .nilck
 | .binOp op t x y _ =>
  match AY N x,AY N y with
  | some a,some b =>
   match op,P.underlying t with
   | .eql,some (.int _) | .eql,some .string=>some (.bin .eql a b)
   | .neq,some (.int _) | .neq,some .string=>some (.bin .neq a b)
   | .eql,_=>if P.eqGuardType P.depth t then none else (JO P t).map fun pl=>.eq false pl a b
   | .neq,_=>if P.eqGuardType P.depth t then none else (JO P t).map fun pl=>.eq true pl a b
   | op,_=>some (.bin op a b)
  | _,_=>none
 | .unOp op _ x =>
  match op,AY N x with
  | .not,some x=>some (.not x)
  | .neg,some x=>some (.neg x)
  | .xor,some x=>some (.com x)
  | _,_=>none
 | .convert src dst x =>
  match P.underlying src,P.underlying dst,AY N x with
  | some (.int _),some (.int k),some x=>some (.cvi k x)
  | some .string,some .string,some x=>some (.idn x)
  | some .string,some (.slice e),some x=>if Wa P e then some (.s2b x) else none
  | some (.slice e),some .string,some x=>if Wa P e then some (.b2s x) else none
  | some (.slice _),some (.slice e),some x=>if src == dst&&Wa P e then some (.bsl x) else none
  | _,_,_=>none
 | .makeFunc fn first caps =>
  match fn,first.toList,BB N caps.toList with
  | .func f,[],some l=>some (.mkfn f l)
  | _,_,_=>none
 | .makeMap _ none=>some .mkmap
 | .makeSlice t l c =>
  match P.underlying t,AY N l,AY N c with
  | some (.slice e),some l,some c =>
   match Bw P e,EI P e,D9 P e with
   | some s,some b,some z=>if s == z.length&&0<s&&0<b then some (.mksl b (L9 z) z l c) else none
   | _,_,_=>none
  | _,_,_=>none
 | .slice t x lo hi none =>
  match P.underlying t,AY N x,Fx N lo,Fx N hi with
  | some .string,some x,some lo,some hi=>some (.slS x lo hi)
  | some (.slice e),some x,some lo,some hi=>(Bw P e).map fun s=>.slL s x lo hi
  | some (.array m e),some x,some lo,some hi=>(Bw P e).map fun s=>.slA m s x lo hi
  | _,_,_,_=>none
 | .fieldAddr s x f =>
  match P.underlying s,AY N x with
  | some (.struct fs),some x=>(fs[f]?).bind fun f=>match Bw P f.type with
   | some (_+1)=>some (.fad f.offset x)
   | _=>none
  | _,_=>none
 | .field s x f =>
  match P.underlying s,AY N x with
  | some (.struct fs),some x=>(fs[f]?).bind fun f=>match KY P f.type,Bw P f.type with
   | some ag,some sz=>some (.fld f.offset sz ag x)
   | _,_=>none
  | _,_=>none
 | .indexAddr t x i =>
  match P.underlying t,AY N x,AY N i with
  | some (.slice e),some x,some i=>(Bw P e).map fun s=>.ixS s x i
  | some (.array m e),some x,some i=>(Bw P e).map fun s=>.ixA m s x i
  | _,_,_=>none
 | .index t x i =>
  match P.underlying t,AY N x,AY N i with
  | some .string,some x,some i=>some (.idS x i)
  | some (.array m e),some x,some i=>match KY P e,Bw P e with
   | some ag,some s=>some (.idA m s ag x i)
   | _,_=>none
  | _,_,_=>none
 | .lookup t m k ok =>
  match P.underlying t,AY N m,AY N k with
  | some (.map kt e),some m,some k =>
   match H7 P kt,(P.info? e).bind (·.zero) with
   | some pl,some z=>(IF z).map fun z=>.lk pl z ok m k
   | _,_=>none
  | _,_,_=>none
 | .mapUpdate t m k v | .insert t m k v =>
  match P.underlying t,AY N m,AY N k,AY N v with
  | some (.map kt _),some m,some k,some v=>(H7 P kt).map fun pl=>.mu pl m k v
  | _,_,_,_=>none
 | .extract x i=>(AY N x).map fun x=>.ext i x
 | .call c =>
  match c.callee,BB N c.args.toList with
  | .builtin b,some args=>EK P b c.argTypes args
  | .value (.func f),some args=>some (.call f args)
  | .value x,some args=>(AY N x).map fun x=>.calld x args
  | _,_=>none
 | _=>none
def Jc (ops:Array Oper) (o:Oper):Option AOp :=
 match (match o.dst with | none=>some none | some d=>(G6 N d).map some:Option (Option K2)),
  (match o.guard with | none=>some none | some (j,w)=>((ops[j]?).bind (·.dst)).bind fun d=>(G6 N d).map fun s=>some (s,w):Option (Option (K2×Bool))) with
 | some d,some g=>some ⟨d,g,(Fa P N o).getD (.bad o.pos)⟩
 | _,_=>none
def Gi (ops:Array Oper):List Oper->Option (List AOp)
 | []=>some []
 | o::l=>match Jc P N ops o,Gi ops l with
  | some x,some xs=>some (x::xs)
  | _,_=>none
def AK.sort:AK->Nat
 | .ld _ | .ldn _ _ | .b2s _ | .slA _ _ _ _ _ | .lk _ _ _ _ _ | .lnM _=>1
 | .alc _ | .box _ | .bslice _ _ _ _ _ | .s2b _ | .mkmap | .mksl _ _ _ _ _=>2
 | .st _ _ _ | .mu _ _ _ _ | .del _ _ _ | .call _ _ | .calld _ _ | .app _ _ _ _ | .appz _ _ _ _ _ _ | .cpy _ _ _ | .clr _ _ _ | .bsl _ | .bad _=>3
 | _=>0
def Co (o:Oper):List Nat:=o.after.toList.filterMap fun e=>if Region.binds .any e then some e.on else none
def Abf (deps:List (List Nat)):List Nat :=
 deps.foldl (fun acc ds=>acc++[ds.foldl (fun s d=>s ||| 2 ^ d ||| acc.getD d 0) 0]) []
def AK.opds:AK->List Opd
 | .mv x | .box x | .ld x | .ldn _ x | .nilck x | .not x | .neg x | .com x | .cvi _ x | .b2s x | .s2b x | .idn x | .bsl x | .fad _ x | .fld _ _ _ x | .ext _ x | .lnS x | .lnL x | .lnM x | .cpL x | .clr _ _ x=>[x]
 | .pick c a b | .max3 c a b=>[c,a,b]
 | .alc _ | .mkmap | .bad _=>[]
 | .build _ ps | .bslice _ _ _ _ ps=>ps.map (·.x)
 | .st _ a x | .bin _ a x | .eq _ _ a x | .ixS _ a x | .ixA _ _ a x | .idS a x | .idA _ _ _ a x | .lk _ _ _ a x | .del _ a x | .min a x | .max a x | .app _ _ a x | .appz _ _ _ _ a x | .cpy _ a x
 | .mksl _ _ _ a x=>[a,x]
 | .mu _ m k v=>[m,k,v]
 | .mkfn _ l | .call _ l=>l
 | .calld x l=>x::l
 | .slS x lo hi | .slL _ x lo hi | .slA _ _ x lo hi=>x::(lo.toList++hi.toList)
def K2.beq (p q:K2):Bool:=and (p.b.beq q.b) (p.a.beq q.a)
def U1 (p:K2) (l:List K2):Bool:=l.any (K2.beq p)
def AOp.slots (o:AOp):List K2 :=
 (o.k.opds.filterMap fun x=>match x with | .t p=>some p | .c _=>none)++(match o.g with | some (p,_)=>[p] | none=>[])
inductive SI where
 | rd (i:Nat)
 | ef (i:Nat)
 | al (i:Nat) (j:D)
 | ck (i:Nat)
 | no (j:D)
 | rn (i a:Nat) (j:D)
def SI.ix:SI->Option Nat
 | .rd i=>some i
 | .ef i=>some i
 | .al i _=>some i
 | .rn i _ _=>some i
 | _=>none
def SI.isEf:SI->Bool
 | .ef _=>true
 | _=>false
def SI.isAl:SI->Bool
 | .al _ _=>true
 | _=>false
def SI.reads:SI->Option Nat
 | .rd i=>some i
 | .ck i=>some i
 | _=>none
def SI.isCk (i:Nat):SI->Bool
 | .ck j=>Nat.beq i j
 | _=>false
def C6:AOp:=⟨none,none,.bad "no such operation"⟩
def JJ (os:List AOp):SI->Item
 | .rd i=>.rd i (os.getD i C6)
 | .ef i=>.ef i (os.getD i C6)
 | .al i j=>.al i j (os.getD i C6)
 | .ck i=>.ck i (os.getD i C6)
 | .no j=>.no j
 | .rn i _ j=>.rn i j (os.getD i C6)
structure Plot where
 so:List Nat
 ds:List (Option K2)
 sl:List (List K2)
 de:List (List Nat)
 an:List Nat
 sk:List SI
namespace Plot
variable (p:Plot)
def m:Nat:=p.so.length
def sort (i:Nat):Nat:=p.so.getD i 9
def dst (i:Nat):Option K2:=p.ds.getD i none
def slots (i:Nat):List K2:=p.sl.getD i []
def deps (i:Nat):List Nat:=p.de.getD i []
def anc (i d:Nat):Bool:=(p.an.getD i 0).testBit d
def pos (i:Nat):Nat:=p.sk.findIdx fun x=>match x.ix with | some j=>Nat.beq i j | none=>false
def bat (l:Nat):Nat:=((p.sk.take l).filter SI.isEf).length
def effs:List Nat:=p.sk.filterMap fun x=>match x with | .ef i=>some i | _=>none
def all (f:Nat->Bool):Bool:=(List.range p.m).all f
structure Tab where
 po:List Nat
 ba:List Nat
 ef:List Nat
def tab:Tab:=⟨(List.range p.m).map p.pos,(List.range (p.sk.length+1)).map p.bat,p.effs⟩
def writes (w:Nat) (l:List K2):Bool:=match p.dst w with | some d=>U1 d l | none=>false
def okDst:Bool:=p.all fun i=>p.all fun j=>Nat.beq i j || match p.dst i with | some d=>!(match p.dst j with | some e=>d.beq e | none=>false) | none=>true
def okDeps:Bool:=p.all fun i=>(p.deps i).all fun d=>Nat.blt d i
def okAnc:Bool:=p.all fun i=>p.all fun d=>!p.anc i d || (p.deps i).any fun c=>Nat.beq c d || p.anc c d
def okPos (t:Tab):Bool:=p.all fun i=>match p.sk[t.po.getD i 0]? with
 | some (.ef j)=>Nat.beq i j&&Nat.beq (p.sort i) 3
 | some (.al j _)=>Nat.beq i j&&Nat.beq (p.sort i) 2
 | some (.rd j)=>Nat.beq i j&&Nat.ble (p.sort i) 1
 | some (.rn j a d)=>Nat.beq i j&&(Nat.ble (p.sort i) 1&&(Nat.blt a p.m&&(p.anc i a&&(Nat.blt (t.po.getD a 0) (t.po.getD i 0)&&(Nat.beq (t.ba.getD (t.po.getD a 0) 0) (t.ba.getD (t.po.getD i 0) 0) &&
   match p.sk[t.po.getD a 0]? with | some (.al a' d')=>Nat.beq a a'&&d.beq d' | _=>false)))))
 | _=>false
def okUniq (t:Tab):Bool:=(List.range p.sk.length).all fun l=>match p.sk[l]? with
 | some x=>match x.ix with
  | some i=>Nat.blt i p.m&&Nat.beq (t.po.getD i 0) l
  | none=>match x with
   | .ck i=>Nat.blt i p.m&&Nat.blt (t.po.getD i 0) l&&Nat.ble (p.sort i) 1
   | _=>true
 | none=>false
def okSlots (t:Tab):Bool:=p.all fun i=>p.all fun w=>!p.writes w (p.slots i) || (!Nat.beq i w&&((p.anc i w&&Nat.blt (t.po.getD w 0) (t.po.getD i 0)) ||
 (p.anc w i&&Nat.blt (t.po.getD i 0) (t.po.getD w 0)&&(List.range p.sk.length).all fun l=>match p.sk[l]? with | some x=>!x.isCk i || Nat.blt l (t.po.getD w 0) | none=>true)))
def okEff (t:Tab):Bool:=t.ef.all fun i=>t.ef.all fun j=>!Nat.blt (t.po.getD i 0) (t.po.getD j 0) || p.anc j i
def never (t:Tab) (i j:Nat):Bool:=t.ef.any fun e=>(p.anc i e&&Nat.ble j (t.ba.getD (t.po.getD e 0) 0)) || (p.anc e i&&Nat.blt (t.ba.getD (t.po.getD e 0) 0) j)
def fresh (t:Tab) (i j:Nat):Bool:=match p.sk[t.po.getD i 0]? with | some (.rn _ a _)=>Nat.ble j (t.ba.getD (t.po.getD a 0) 0) | _=>false
def okRead (t:Tab):Bool:=p.all fun i=>!Nat.beq (p.sort i) 1 || (List.range (t.ef.length+1)).all fun j=>p.never t i j || p.fresh t i j ||
 (List.range p.sk.length).any fun l=>Nat.beq (t.ba.getD l 0) j&&match p.sk[l]? with | some x=>(match x.reads with | some i'=>Nat.beq i i' | none=>false) | none=>false
def okAl (t:Tab):Bool:=p.all fun i=>!Nat.beq (p.sort i) 2 || match p.sk[t.po.getD i 0]? with
 | some (.al _ d)=>((List.range (t.ef.length+1)).all fun j=>if Nat.ble j (t.ba.getD (t.po.getD i 0) 0) then
    (List.range p.sk.length).any fun l=>Nat.beq (t.ba.getD l 0) j&&match p.sk[l]? with | some (.no d')=>d.beq d' | _=>false
   else t.ef.any fun e=>p.anc e i&&Nat.blt (t.ba.getD (t.po.getD e 0) 0) j) &&
  p.all fun i'=>Nat.beq i i' || match p.sk[t.po.getD i' 0]? with | some (.al _ d')=>!d.beq d' | _=>true
 | _=>false
def ok:Bool :=
 let t:=p.tab
 p.okDst&&(p.okDeps&&(p.okAnc&&(p.okPos t&&(p.okUniq t&&(p.okSlots t&&(p.okEff t&&(p.okRead t&&p.okAl t)))))))
end Plot
def XN (effs:List Nat) (anc:Nat):Nat:=(effs.filter (anc.testBit ·)).length
def Wy (effs:List (Nat×Nat)) (i:Nat):Nat:=(effs.takeWhile fun e=>!e.2.testBit i).length
def Qb (effs:List (Nat×Nat)):List (Nat×List Nat×Nat×Nat)->List Nat->List Nat
 | [],acc=>acc
 | (i,deps,anc,sort)::l,acc =>
  let b:=deps.foldl (fun m d=>max m (acc.getD d 0)) 0
  let b:=match sort with
   | 1=>max b (XN (effs.map (·.1)) anc)
   | 2=>max b (Wy effs i)
   | 3=>XN (effs.map (·.1)) anc+1
   | _=>b
  Qb effs l (acc++[b])
def VV (so:List Nat) (de:List (List Nat)) (an:List Nat) (ro:List (Option Nat)):List SI :=
 let idx:=List.range so.length
 let ef:=(idx.filter fun i=>so.getD i 0 == 3).map fun i=>(i,an.getD i 0)
 let ba:=Qb ef (idx.map fun i=>(i,de.getD i [],an.getD i 0,so.getD i 0)) []
 let al:=idx.filter fun i=>so.getD i 0 == 2
 let dig:=fun i=>D.ofN (al.takeWhile (· != i)).length
 let item:=fun i=>if so.getD i 0 == 2 then SI.al i (dig i) else match ro.getD i none with
  | some a=>if so.getD i 0 == 1&&ba.getD i 0 == ba.getD a 0 then SI.rn i a (dig a) else SI.rd i
  | none=>SI.rd i
 (List.range (ef.length+1)).flatMap fun j =>
  ((idx.filter fun i=>so.getD i 0 == 3&&ba.getD i 0 == j).map SI.ef) ++
  ((al.filter fun i=>Nat.ble j (ba.getD i 0)).map fun i=>SI.no (dig i)) ++
  ((idx.filter fun i=>so.getD i 0 != 3&&ba.getD i 0 == j).map item) ++
  ((idx.filter fun i=>so.getD i 0 == 1&&Nat.blt (ba.getD i 0) j&&Nat.ble j (Wy ef i)).map SI.ck)
def AK.base:AK->Option K2
 | .ld (.t p) | .ldn _ (.t p) | .b2s (.t p) | .slA _ _ (.t p) _ _ | .lk _ _ _ (.t p) _ | .lnM (.t p) | .ixS _ (.t p) _ | .ixA _ _ (.t p) _ | .fad _ (.t p) | .slL _ (.t p) _ _ | .nilck (.t p) | .idn (.t p)=>some p
 | _=>none
def Tf (os:List AOp):Nat->Nat->Option Nat
 | 0,_=>none
 | fuel+1,i=>match os[i]? with
  | some o=>match o.k.base with
   | some q =>
    let j:=os.findIdx fun x=>match x.dst with | some d=>d.beq q | none=>false
    match os[j]? with
    | some x=>if x.k.sort == 2 then some j else if Nat.blt j i then Tf os fuel j else none
    | none=>none
   | none=>none
  | none=>none
def BZ (deps:List (List Nat)) (os:List AOp):Plot :=
 let so:=os.map (·.k.sort)
 let an:=Abf deps
 ⟨so,os.map (·.dst),os.map AOp.slots,deps,an,VV so deps an ((List.range so.length).map fun i=>if so.getD i 0 == 1 then Tf os 6 i else none)⟩
def C1 (ops:Array Oper) (draw:Bool):AC :=
 match Gi P N ops ops.toList with
 | none=>.bad "a region of it registers"
 | some os =>
  if draw then
   let p:=BZ (ops.toList.map Co) os
   if p.ok then .drawn (p.sk.any SI.isAl) (p.sk.map (JJ os)) else .bad "a region of it order"
  else .ops os
def VL (f:FuncId):Bool:=match P.funcs[f]? with
 | some fn=>fn.origin == "slices.Collect" || fn.origin == "slices.AppendSeq" || fn.name == "stillroom/stillroomtop.small"
 | none=>false
def Yi (o:Oper):Option Sp:=match o.op with
 | .range ty x=>match P.underlying ty with | some (.map _ _)=>(AY N x).map .rng | _=>none
 | .next x s=>if s then none else (AY N x).map .nxt
 | .entry x=>(AY N x).map .ent
 | .call ct=>match ct.callee with
  | .value (.func f)=>if VL P f then (BB N ct.args.toList).map (.tcl f) else none
  | .value (.tmp s)=>match AY N (.tmp s),BB N ct.args.toList with
   | some x,some l=>some (.dcl x l)
   | _,_=>none
  | _=>none
 | _=>none
def VD (o:Oper):Option (Option K2):=match o.dst with | none=>some none | some d=>(G6 N d).map some
def Lf (ops:Array Oper):List Oper->Option (List AOp×Sp×Option K2×List AOp)
 | []=>none
 | o::l=>match Yi P N o with
  | some sp=>match o.guard,VD N o,Gi P N ops l with
   | none,some d,some post=>some ([],sp,d,post)
   | _,_,_=>none
  | none=>match Lf ops l with
   | none=>none
   | some r=>match Jc P N ops o with
    | some x=>some (x::r.1,r.2)
    | none=>none
def MR (ops:Array Oper) (draw:Bool):AC :=
 if draw then C1 P N ops true else match Lf P N ops ops.toList with
 | some r=>.spl r.1 r.2.1 r.2.2.1 r.2.2.2
 | none=>C1 P N ops false
def AM:Code->AC
 | .skip=>.skip
 | .region _ ops draw=>MR P N ops draw
 | .seq a b=>.seq (AM a) (AM b)
 | .cond c a b=>match AY N c with
  | some c=>.cond c (AM a) (AM b)
  | none=>.bad "a test"
 | .block id b=>.block id (AM b)
 | .loop b=>.loop (AM b)
 | .exit id=>.exit id
 | .label _=>.skip
 | .ret=>.ret
 | .rangeFunc _ _ _ _=>.bad "a range over a function"
 | .scope _=>.bad "a scope"
 | .goto _=>.bad "a goto"
 | .refuse why=>.bad why
def Fc:List Nat->Option (List K2)
 | []=>some []
 | t::l=>match G6 N t,Fc l with
  | some x,some xs=>some (x::xs)
  | _,_=>none
def Ci:List ResultVar->Option (List ARes)
 | []=>some []
 | .tmp t::l=>match G6 N t,Ci l with
  | some x,some xs=>some (.tmp x::xs)
  | _,_=>none
 | .cell t ty::l=>match G6 N t,KY P ty,Bw P ty,Ci l with
  | some x,some ag,some m,some xs=>some (.cel x (if ag then some m else none)::xs)
  | _,_,_,_=>none
end
def G2 (P:Program) (f:FuncId):Option AFn :=
 match P.funcs[f]? with
 | some fn =>
  match fn.body,Fc fn.ntmps (List.range (fn.params.size+fn.nfree)),Ci P fn.ntmps fn.results.toList with
  | some c,some ps,some rs=>if fn.name == "runtime.NumGoroutine" then none else some ⟨ps,AM P fn.ntmps c,rs⟩
  | _,_,_=>none
 | none=>none
end Go.Ev

namespace Go.Ev
set_option linter.unusedVariables false
section
variable {ρ:Env}
def B6.le (φ φ':B6):Prop:=∀ p x,φ p=some x->φ' p=some x
theorem B6.le_refl (φ:B6):B6.le φ φ:=fun _ _ h=>h
theorem B6.le_trans {a b c:B6} (h:B6.le a b) (k:B6.le b c):B6.le a c:=fun p x hx=>k p x (h p x hx)
mutual
theorem EF {φ φ':B6} (h:B6.le φ φ'):∀ {v:V} {x:Value},AG ρ φ v x->AG ρ φ' v x
 | .int _ _,_,r=>by simpa only [AG] using r
 | .bool _,_,r=>by simpa only [AG] using r
 | .ptr _ _,_,r=>by
  simp only [AG] at r ⊢
  obtain ⟨b,s,tot,hp,e⟩:=r
  exact ⟨b,s,tot,h _ _ hp,e⟩
 | .sl _ _ _ _ _ _,_,r=>by
  simp only [AG] at r ⊢
  obtain ⟨b,s,tot,o,c,hp,e⟩:=r
  exact ⟨b,s,tot,o,c,h _ _ hp,e⟩
 | .str _ _,_,r=>by simpa only [AG] using r
 | .agg l,_,r=>by
  simp only [AG] at r ⊢
  obtain ⟨cs,e,hl,ho⟩:=r
  exact ⟨cs,e,Fq h hl,ho⟩
 | .nil _,_,r=>by simpa only [AG] using r
 | .map _,_,r=>by
  simp only [AG] at r ⊢
  obtain ⟨b,s,tot,hp,e⟩:=r
  exact ⟨b,s,tot,h _ _ hp,e⟩
 | .fn _ l,_,r=>by
  simp only [AG] at r ⊢
  obtain ⟨cs,e,hl⟩:=r
  exact ⟨cs,e,Fq h hl⟩
 | .tup l,_,r=>by
  simp only [AG] at r ⊢
  obtain ⟨cs,e,hl⟩:=r
  exact ⟨cs,e,Fq h hl⟩
 | .oth o,_,r=>by
  cases o with
  | yl p =>
   simp only [AG] at r ⊢
   obtain ⟨b,s,tot,hp,e⟩:=r
   exact ⟨b,s,tot,h _ _ hp,e⟩
  | _=>simp only [AG] at r ⊢ <;> exact r
theorem Fq {φ φ':B6} (h:B6.le φ φ'):∀ {l:List V} {xs:List Value},Bu ρ φ l xs->Bu ρ φ' l xs
 | [],_,r=>by simpa only [Bu] using r
 | v::l,_,r=>by
  simp only [Bu] at r ⊢
  obtain ⟨y,ys,e,hy,hys⟩:=r
  exact ⟨y,ys,e,EF h hy,Fq h hys⟩
end
theorem AR {φ:B6} {xs:List Value}:Bu ρ φ [] xs ↔ xs=[]:=by simp only [Bu]
theorem AE {φ:B6} {v:V} {l:List V} {xs:List Value}:Bu ρ φ (v::l) xs ↔ ∃ y ys,xs=y::ys∧AG ρ φ v y∧Bu ρ φ l ys:=by simp only [Bu]
theorem Bf {φ:B6} {l:List V}:∀ {xs:List Value},Bu ρ φ l xs->xs.length=l.length:=by
 induction l with
 | nil=>intro xs h; rw [AR] at h; rw [h]; rfl
 | cons v l ih=>intro xs h; obtain ⟨y,ys,rfl,_,h⟩:=AE.1 h; simp [ih h]
theorem Cc {φ:B6} {l:List V}:∀ {xs:List Value},Bu ρ φ l xs ↔ xs.length=l.length ∧ ∀ (i:Nat) (v:V),l[i]? = some v->∃ x,xs[i]? = some x∧AG ρ φ v x:=by
 induction l with
 | nil =>
  intro xs; rw [AR]; constructor
  ·rintro rfl; exact ⟨rfl,fun i v h=>by simp at h⟩
  ·rintro ⟨h,_⟩; exact List.eq_nil_of_length_eq_zero h
 | cons v l ih =>
  intro xs
  rw [AE]
  constructor
  ·rintro ⟨y,ys,rfl,hy,hys⟩
   obtain ⟨h1,h2⟩:=ih.1 hys
   refine ⟨by simp [h1],fun i u hu=>?_⟩
   cases i with
   | zero=>simp at hu; subst hu; exact ⟨y,rfl,hy⟩
   | succ i=>simpa using h2 i u (by simpa using hu)
  ·rintro ⟨h1,h2⟩
   cases xs with
   | nil=>simp at h1
   | cons y ys =>
    obtain ⟨x,hx,hr⟩:=h2 0 v rfl
    simp at hx; subst hx
    exact ⟨y,ys,rfl,hr,ih.2 ⟨by simpa using h1,fun i u hu=>by simpa using h2 (i+1) u (by simpa using hu)⟩⟩
theorem F4 {φ:B6} {a b:List V} {xs ys:List Value} (h:Bu ρ φ a xs) (k:Bu ρ φ b ys):Bu ρ φ (a++b) (xs++ys):=by
 induction a generalizing xs with
 | nil=>rw [AR] at h; subst h; exact k
 | cons v a ih=>obtain ⟨y,zs,rfl,hy,h⟩:=AE.1 h; exact AE.2 ⟨y,zs++ys,rfl,hy,ih h⟩
theorem IS {φ:B6} {a:List V} {xs:List Value} (h:Bu ρ φ a xs) (k:Nat):Bu ρ φ (a.drop k) (xs.drop k):=by
 induction k generalizing a xs with
 | zero=>simpa using h
 | succ k ih=>cases a with
  | nil=>rw [AR] at h; subst h; simpa using AR.2 rfl
  | cons v a=>obtain ⟨y,zs,rfl,hy,h⟩:=AE.1 h; simpa using ih h
theorem IB {φ:B6} {a:List V} {xs:List Value} (h:Bu ρ φ a xs) (k:Nat):Bu ρ φ (a.take k) (xs.take k):=by
 induction k generalizing a xs with
 | zero=>simpa using AR.2 rfl
 | succ k ih=>cases a with
  | nil=>rw [AR] at h; subst h; simpa using AR.2 rfl
  | cons v a=>obtain ⟨y,zs,rfl,hy,h⟩:=AE.1 h; simpa using AE.2 ⟨y,zs.take k,rfl,hy,ih h⟩
def Bq (ρ:Env):Prop:=∀ i,(ρ.v i).oneCell'=true
theorem GX {φ:B6} (hρ:Bq ρ) {v:V} (hv:v.celled) {x:Value} (h:AG ρ φ v x) :
  Bu ρ φ v.cl x.cells.toList ∧ ∀ y∈x.cells.toList,y.oneCell'=true:=by
 cases v with
 | agg l =>
  simp only [AG] at h
  obtain ⟨cs,rfl,hl,ho⟩:=h
  exact ⟨hl,ho⟩
 | tup l=>exact hv.elim
 | int k r =>
  have h':=h; simp only [AG] at h'; obtain ⟨_,rfl⟩:=h'
  exact ⟨AE.2 ⟨_,[],rfl,h,AR.2 rfl⟩,by simp [Value.cells,Value.oneCell']⟩
 | bool b =>
  have h':=h; simp only [AG] at h'; subst h'
  exact ⟨AE.2 ⟨_,[],rfl,h,AR.2 rfl⟩,by simp [Value.cells,Value.oneCell']⟩
 | ptr p o =>
  have h':=h; simp only [AG] at h'; obtain ⟨_,_,_,_,rfl⟩:=h'
  exact ⟨AE.2 ⟨_,[],rfl,h,AR.2 rfl⟩,by simp [Value.cells,Value.oneCell']⟩
 | sl p o l c e z =>
  have h':=h; simp only [AG] at h'; obtain ⟨_,_,_,_,_,_,rfl,_⟩:=h'
  exact ⟨AE.2 ⟨_,[],rfl,h,AR.2 rfl⟩,by simp [Value.cells,Value.oneCell']⟩
 | str n c =>
  have h':=h; simp only [AG] at h'; obtain ⟨_,rfl,_⟩:=h'
  exact ⟨AE.2 ⟨_,[],rfl,h,AR.2 rfl⟩,by simp [Value.cells,Value.oneCell']⟩
 | nil w =>
  have h':=h; simp only [AG] at h'; subst h'
  exact ⟨AE.2 ⟨_,[],by cases w <;> rfl,h,AR.2 rfl⟩,by cases w <;> simp [C7,Value.cells,Value.oneCell']⟩
 | map p =>
  have h':=h; simp only [AG] at h'; obtain ⟨_,_,_,_,rfl⟩:=h'
  exact ⟨AE.2 ⟨_,[],rfl,h,AR.2 rfl⟩,by simp [Value.cells,Value.oneCell']⟩
 | fn f l =>
  have h':=h; simp only [AG] at h'; obtain ⟨_,rfl,_⟩:=h'
  exact ⟨AE.2 ⟨_,[],rfl,h,AR.2 rfl⟩,by simp [Value.cells,Value.oneCell']⟩
 | oth o =>
  cases o with
  | any=>exact hv.elim
  | yl p=>exact hv.elim
  | no=>exact hv.elim
  | sym i =>
   have h':=h; simp only [AG] at h'; subst h'
   have hone:=hρ i
   have hc:(ρ.v i).cells = #[ρ.v i]:=by
    cases hx:ρ.v i <;> first | rfl | (rw [hx] at hone; simp [Value.oneCell'] at hone)
   rw [hc]
   exact ⟨AE.2 ⟨_,[],rfl,h,AR.2 rfl⟩,by simpa using hone⟩
  | iv k lo hi =>
   have h':=h; simp only [AG] at h'; obtain ⟨_,_,_,_,rfl⟩:=h'
   exact ⟨AE.2 ⟨_,[],rfl,h,AR.2 rfl⟩,by simp [Value.cells,Value.oneCell']⟩
  | os lo hi =>
   have h':=h; simp only [AG] at h'; obtain ⟨_,_,_,rfl,_⟩:=h'
   exact ⟨AE.2 ⟨_,[],rfl,h,AR.2 rfl⟩,by simp [Value.cells,Value.oneCell']⟩
  | bl =>
   have h':=h; simp only [AG] at h'; obtain ⟨_,rfl⟩:=h'
   exact ⟨AE.2 ⟨_,[],rfl,h,AR.2 rfl⟩,by simp [Value.cells,Value.oneCell']⟩
  | rs m j =>
   have h':=h; simp only [AG] at h'; obtain ⟨_,rfl,_⟩:=h'
   exact ⟨AE.2 ⟨_,[],rfl,h,AR.2 rfl⟩,by simp [Value.cells,Value.oneCell']⟩
  | ss lo hi n c =>
   have h':=h; simp only [AG] at h'; obtain ⟨_,rfl,_⟩:=h'
   exact ⟨AE.2 ⟨_,[],rfl,h,AR.2 rfl⟩,by simp [Value.cells,Value.oneCell']⟩
  | ro i lo hi z =>
   have h':=h; simp only [AG] at h'; obtain ⟨_,_,_,_,_,_,_,rfl,_⟩:=h'
   exact ⟨AE.2 ⟨_,[],rfl,h,AR.2 rfl⟩,by simp [Value.cells,Value.oneCell']⟩
  | ap i j m =>
   have h':=h; simp only [AG] at h'; obtain ⟨_,_,_,_,_,rfl,_⟩:=h'
   exact ⟨AE.2 ⟨_,[],rfl,h,AR.2 rfl⟩,by simp [Value.cells,Value.oneCell']⟩
  | sy k i =>
   have h':=h; simp only [AG] at h'; obtain ⟨_,_,_,rfl⟩:=h'
   exact ⟨AE.2 ⟨_,[],rfl,h,AR.2 rfl⟩,by simp [Value.cells,Value.oneCell']⟩
def BP:Ob->Option K4
 | .c _ _ p=>p
 | _=>none
def Ip:Ob->Bool
 | .c _ s _=>s
 | _=>false
def Vq (fr:Nat×Nat) (tot:Nat):Prop:=fr.1=fr.2∨tot≤fr.1
def FW (ρ:Env) (φ:B6):List (V×V)->List MapEntry->Prop
 | [],l=>l=[]
 | e::es,l=>∃ y ys,l=y::ys∧AG ρ φ e.1 y.key∧AG ρ φ e.2 y.val∧FW ρ φ es ys
def Ek (ρ:Env) (φ:B6) (cs:Cs) (f:Nat->Option Value):Prop :=
 ∀ i v,cs.at i=some v->∃ x,f i=some x∧AG ρ φ v x∧x.oneCell'=true
def Fg (ρ:Env) (φ:B6) (w:World) (o:Ob) (b s tot:Nat):Prop :=
 match o with
 | .c cs _ _=>∃ c e fr,w.heap[b]? = some (.cells c e fr)∧c.size=tot∧s+cs.len≤tot∧Vq fr tot∧Ek ρ φ cs fun i=>c[s+i]?
 | .m es bs clk=>∃ ents,w.heap[b]? = some (.map ents clk)∧FW ρ φ es ents.toList∧ents.toList.map (·.born)=bs
 | .it p since seen c=>∃ bm sm tm,φ p=some (bm,sm,tm)∧s=0∧w.heap[b]? = some (.mapIter (some bm) since seen.reverse.toArray c)
 | .it0=>s=0∧w.heap[b]? = some (.mapIter none 0 #[] 0)
 | .lp f box=>s=0 ∧ ∃ (A:ApC) (fn:FuncId) (tmps:Array Value) (D:Nat),ρ.ap f=some A∧w.heap[b]? = some (.loop { state:=.ready,pending:=none,fn,tmps,params:=#[A.par],assign:=A.asg,body:=A.bod,defers:=D }) ∧
   tmps.size=A.ntm∧AG ρ φ (.ptr box 0) (tmps.getD A.box undef)
theorem LZ {φ φ':B6} (h:B6.le φ φ') {es:List (V×V)}:∀ {l:List MapEntry},FW ρ φ es l->FW ρ φ' es l:=by
 induction es with
 | nil=>exact fun h=>h
 | cons e es ih=>rintro l ⟨y,ys,rfl,h1,h2,h3⟩; exact ⟨y,ys,rfl,EF h h1,EF h h2,ih h3⟩
theorem Fi {φ φ':B6} (h:B6.le φ φ') {cs:Cs} {f:Nat->Option Value} (k:Ek ρ φ cs f):Ek ρ φ' cs f :=
 fun i v hv=>let ⟨x,h1,h2,h3⟩:=k i v hv; ⟨x,h1,EF h h2,h3⟩
theorem DX {φ φ':B6} (h:B6.le φ φ') {w:World} {o:Ob} {b s tot:Nat} (k:Fg ρ φ w o b s tot):Fg ρ φ' w o b s tot:=by
 cases o with
 | c cs sup prev =>
  obtain ⟨c,e,fr,h1,h2,h3,h4,h5⟩:=k
  exact ⟨c,e,fr,h1,h2,h3,h4,Fi h h5⟩
 | m es bs clk =>
  obtain ⟨ents,h1,h2,h3⟩:=k
  exact ⟨ents,h1,LZ h h2,h3⟩
 | it p since seen c =>
  obtain ⟨bm,sm,tm,h1,h2,h3⟩:=k
  exact ⟨bm,sm,tm,h _ _ h1,h2,h3⟩
 | it0=>exact k
 | lp f box =>
  obtain ⟨h0,A,fn,tmps,D,h1,h2,h3,h4⟩:=k
  exact ⟨h0,A,fn,tmps,D,h1,h2,h3,EF h h4⟩
theorem Ca {φ:B6} {w w':World} {o:Ob} {b s tot:Nat} (h:w'.heap[b]? = w.heap[b]?) (k:Fg ρ φ w o b s tot):Fg ρ φ w' o b s tot:=by
 cases o with
 | c cs sup prev=>obtain ⟨c,e,fr,h1,h2⟩:=k; exact ⟨c,e,fr,h.trans h1,h2⟩
 | m es bs clk=>obtain ⟨ents,h1,h2⟩:=k; exact ⟨ents,h.trans h1,h2⟩
 | it p since seen c=>obtain ⟨bm,sm,tm,h1,h2,h3⟩:=k; exact ⟨bm,sm,tm,h1,h2,h.trans h3⟩
 | it0=>exact ⟨k.1,h.trans k.2⟩
 | lp f box=>obtain ⟨h0,A,fn,tmps,D,h1,h2,h3⟩:=k; exact ⟨h0,A,fn,tmps,D,h1,h.trans h2,h3⟩
structure Gam (ρ:Env) (B:Nat) (h:Heap) (n:K4) (φ:B6) (w:World):Prop where
 base:B≤w.heap.size
 dom:∀ p x,φ p=some x->p.toN<n.toN
 blk:∀ p b s tot,φ p=some (b,s,tot)->B≤b∧b<w.heap.size
 obj:∀ p o b s tot,AL p h=some o->φ p=some (b,s,tot)->Fg ρ φ w o b s tot
 sep:∀ p q o o' b s tot s' tot',p≠q->AL p h=some o->AL q h=some o'->φ p=some (b,s,tot)->φ q=some (b,s',tot')->BP o=some q∨BP o'=some p
 sup:∀ p q o o' b s tot s' tot',AL p h=some o->BP o=some q->AL q h=some o'->φ p=some (b,s,tot)->φ q=some (b,s',tot')->Ip o'=true
 glob:∀ b c e fr,ρ.gl b=some (c,e,fr)->b<B∧w.heap[b]? = some (.cells c e fr)
structure Fr (h h':Heap) (φ φ':B6) (n n':K4) (w w':World):Prop where
 ext:B6.le φ φ'
 new:∀ p x,φ' p=some x->φ p=some x∨(n.toN≤p.toN∧p.toN<n'.toN)
 nn:n.toN≤n'.toN
 os:w'.os=w.os
 tape:w'.tape=w.tape
 out:w'.output=w.output
 size:w.heap.size≤w'.heap.size
 old:∀ b,b<w.heap.size->(∀ p s tot,φ p=some (b,s,tot)->AL p h=none)->w'.heap[b]? = w.heap[b]?
 fresh:∀ p b s tot,φ' p=some (b,s,tot)->φ p=some (b,s,tot)∨w.heap.size≤b ∨ ∃ q s' tot',φ q=some (b,s',tot')∧AL q h≠none
 dm:∀ p,φ p≠none->AL p h=none->AL p h'=none
theorem Fr.refl (h:Heap) (φ:B6) (n:K4) (w:World):Fr h h φ φ n n w w :=
 ⟨B6.le_refl φ,fun _ _ h=>.inl h,Nat.le_refl _,rfl,rfl,rfl,Nat.le_refl _,fun _ _ _=>rfl,fun _ _ _ _ h=>.inl h,fun _ _ h=>h⟩
theorem Fr.trans {h h1 h2:Heap} {φ φ1 φ2:B6} {n n1 n2:K4} {w w1 w2:World} (a:Fr h h1 φ φ1 n n1 w w1) (c:Fr h1 h2 φ1 φ2 n1 n2 w1 w2):Fr h h2 φ φ2 n n2 w w2 where
 ext:=B6.le_trans a.ext c.ext
 new:=fun p x hx=>by
  rcases c.new p x hx with h' | ⟨h1,h2⟩
  ·rcases a.new p x h' with h' | ⟨h1,h2⟩
   ·exact .inl h'
   ·exact .inr ⟨h1,Nat.lt_of_lt_of_le h2 c.nn⟩
  ·exact .inr ⟨Nat.le_trans a.nn h1,h2⟩
 nn:=Nat.le_trans a.nn c.nn
 os:=c.os.trans a.os
 tape:=c.tape.trans a.tape
 out:=c.out.trans a.out
 size:=Nat.le_trans a.size c.size
 old:=fun b hb hn=>by
  rw [←a.old b hb hn]
  refine c.old b (Nat.lt_of_lt_of_le hb a.size) fun p s tot hp=>?_
  rcases a.fresh p b s tot hp with h' | h' | ⟨q,s',tot',hq,hne⟩
  ·exact a.dm p (by rw [h']; simp) (hn p s tot h')
  ·omega
  ·exact absurd (hn q s' tot' hq) hne
 fresh:=fun p b s tot hp=>by
  rcases c.fresh p b s tot hp with h' | h' | ⟨q,s',tot',hq,hne⟩
  ·exact a.fresh p b s tot h'
  ·exact .inr (.inl (Nat.le_trans a.size h'))
  ·rcases a.fresh q b s' tot' hq with h' | h' | h'
   ·refine .inr (.inr ⟨q,s',tot',h',fun hn=>hne (a.dm q (by rw [h']; simp) hn)⟩)
   ·exact .inr (.inl h')
   ·exact .inr (.inr h')
 dm:=fun p hp hn=>c.dm p (by
  cases hx:φ p with
  | none=>exact absurd hx hp
  | some x=>rw [a.ext p x hx]; simp) (a.dm p hp hn)
theorem Fr.drew {h:Heap} {φ:B6} {n:K4} {w:World}:Fr h h φ φ n n w w.drew :=
 ⟨B6.le_refl φ,fun _ _ h=>.inl h,Nat.le_refl _,rfl,rfl,rfl,Nat.le_refl _,fun _ _ _=>rfl,fun _ _ _ _ h=>.inl h,fun _ _ h=>h⟩
theorem Gam.drew {B:Nat} {h:Heap} {φ:B6} {n:K4} {w:World} (g:Gam ρ B h n φ w):Gam ρ B h n φ w.drew :=
 ⟨g.base,g.dom,g.blk,fun p o b s tot h1 h2=>Ca (w:=w) rfl (g.obj p o b s tot h1 h2),g.sep,g.sup,g.glob⟩
theorem Gam.nx {B:Nat} {h:Heap} {φ:B6} {n n':K4} {w:World} (g:Gam ρ B h n φ w) (hn:n.toN≤n'.toN):Gam ρ B h n' φ w :=
 ⟨g.base,fun p x hx=>Nat.lt_of_lt_of_le (g.dom p x hx) hn,g.blk,g.obj,g.sep,g.sup,g.glob⟩
def E5 (φ:B6) (p:K4) (x:Nat×Nat×Nat):B6:=fun q=>if p.beq q then some x else φ q
theorem BR (φ:B6) (p:K4) (x:Nat×Nat×Nat):E5 φ p x p=some x:=if_pos (K4.beq_iff.2 rfl)
theorem GS {φ:B6} {p q:K4} {x:Nat×Nat×Nat} (h:p≠q):E5 φ p x q=φ q:=if_neg fun e=>h (K4.beq_iff.1 e)
theorem CN {φ:B6} {p:K4} {x:Nat×Nat×Nat} (h:φ p=none):B6.le φ (E5 φ p x):=fun q y hy=>by
 rw [GS fun e=>by rw [e,hy] at h; cases h]; exact hy
theorem AW {φ:B6} {p q:K4} {x y:Nat×Nat×Nat} (h:E5 φ p x q=some y):(p=q∧x=y)∨(p≠q∧φ q=some y):=by
 by_cases e:p=q
 ·subst e; rw [BR] at h; exact .inl ⟨rfl,by simpa using h⟩
 ·rw [GS e] at h; exact .inr ⟨e,h⟩
theorem BA {h:Heap} {p q:K4} {o:Option Ob} {x:Ob} (k:AL q (B5 p h o)=some x):(p=q∧o=some x)∨(p≠q∧AL q h=some x):=by
 by_cases e:p=q
 ·subst e; rw [AF] at k; exact .inl ⟨rfl,k⟩
 ·rw [As _ _ e] at k; exact .inr ⟨e,k⟩
theorem Gam.alloc {B:Nat} {h:Heap} {φ:B6} {n n' p:K4} {w:World} (g:Gam ρ B h n φ w) (hp:φ p=none) (hpn:p.toN<n'.toN) (hn:n.toN≤n'.toN)
  (o:Ob) (ho:BP o=none) (O:Obj) (tot:Nat)
  (hok:∀ φ':B6,B6.le φ φ'->∀ w':World,w'.heap[w.heap.size]? = some O->Fg ρ φ' w' o w.heap.size 0 tot) :
  Gam ρ B (B5 p h (some o)) n' (E5 φ p (w.heap.size,0,tot)) (w.alloc O) where
 base:=by have:=g.base; rw [World.size_alloc]; omega
 glob:=fun b c e fr hb=>⟨(g.glob b c e fr hb).1,by rw [Go.RowKit.Below.heap_alloc w O b (by have:=(g.glob b c e fr hb).1; have:=g.base; omega)]; exact (g.glob b c e fr hb).2⟩
 dom:=fun q x hx=>by
  rcases AW hx with ⟨rfl,_⟩ | ⟨_,hx⟩
  ·exact hpn
  ·exact Nat.lt_of_lt_of_le (g.dom q x hx) hn
 blk:=fun q b s t hx=>by
  rw [World.size_alloc]
  rcases AW hx with ⟨rfl,e⟩ | ⟨_,hx⟩
  ·simp only [Prod.mk.injEq] at e; have:=g.base; omega
  ·have:=g.blk q b s t hx; omega
 obj:=fun q o' b s t hq hx=>by
  rcases AW hx with ⟨rfl,e⟩ | ⟨hne,hx⟩
  ·rw [AF] at hq
   simp only [Prod.mk.injEq] at e
   obtain ⟨rfl,rfl,rfl⟩:=e
   cases hq
   exact hok _ (CN hp) _ (by show (w.heap.push O)[w.heap.size]? = some O; simp)
  ·rw [As _ _ hne] at hq
   have hb:=(g.blk q b s t hx).2
   refine Ca (w:=w) ?_ (DX (CN hp) (g.obj q o' b s t hq hx))
   exact Go.RowKit.Below.heap_alloc w O b hb
 sep:=fun q r o1 o2 b s t s' t' hne hq hr hx hy=>by
  rcases AW hx with ⟨rfl,e⟩ | ⟨hpq,hx⟩
  ·rcases AW hy with ⟨rfl,_⟩ | ⟨_,hy⟩
   ·exact absurd rfl hne
   ·simp only [Prod.mk.injEq] at e
    have:=(g.blk r b s' t' hy).2; omega
  ·rcases AW hy with ⟨rfl,e⟩ | ⟨hpr,hy⟩
   ·simp only [Prod.mk.injEq] at e
    have:=(g.blk q b s t hx).2; omega
   ·rw [As _ _ hpq] at hq
    rw [As _ _ hpr] at hr
    exact g.sep q r o1 o2 b s t s' t' hne hq hr hx hy
 sup:=fun q r o1 o2 b s t s' t' hq hpr hr hx hy=>by
  rcases AW hx with ⟨rfl,e⟩ | ⟨hpq,hx⟩
  ·rw [AF] at hq; cases hq; rw [ho] at hpr; cases hpr
  ·rcases AW hy with ⟨rfl,e⟩ | ⟨hpr',hy⟩
   ·simp only [Prod.mk.injEq] at e; have:=(g.blk q b s t hx).2; omega
   ·rw [As _ _ hpq] at hq
    rw [As _ _ hpr'] at hr
    exact g.sup q r o1 o2 b s t s' t' hq hpr hr hx hy
theorem Fr.alloc {h:Heap} {φ:B6} {n n' p:K4} {w:World} (hp:φ p=none) (hn:n.toN≤n'.toN) (h1:n.toN≤p.toN) (h2:p.toN<n'.toN)
  (o:Option Ob) (O:Obj) (tot:Nat):Fr h (B5 p h o) φ (E5 φ p (w.heap.size,0,tot)) n n' w (w.alloc O) where
 ext:=CN hp
 new:=fun q x hx=>by
  rcases AW hx with ⟨rfl,_⟩ | ⟨_,hx⟩
  ·exact .inr ⟨h1,h2⟩
  ·exact .inl hx
 nn:=hn
 os:=rfl
 tape:=rfl
 out:=rfl
 size:=by rw [World.size_alloc]; omega
 old:=fun b hb _=>Go.RowKit.Below.heap_alloc w O b hb
 fresh:=fun q b s t hx=>by
  rcases AW hx with ⟨rfl,e⟩ | ⟨_,hx⟩
  ·simp only [Prod.mk.injEq] at e; exact .inr (.inl (by omega))
  ·exact .inl hx
 dm:=fun q hq hn=>by
  have hne:p≠q:=fun e=>hq (e ▸ hp)
  rw [As _ _ hne]; exact hn
def G9 (prev:Option K4) (h:Heap):Heap:=match prev with | none=>h | some q=>B5 q h none
theorem Kw (prev:Option K4) (h:Heap) (κ:Heap->R):LA prev h κ=κ (G9 prev h):=by
 cases prev with
 | none=>rfl
 | some q=>exact Bt q h none κ
theorem D1 {prev:Option K4} {h:Heap} {q:K4} {x:Ob} (k:AL q (G9 prev h)=some x):prev≠some q∧AL q h=some x:=by
 cases prev with
 | none=>exact ⟨by simp,k⟩
 | some r =>
  rcases BA k with ⟨_,h⟩ | ⟨hne,h⟩
  ·cases h
  ·exact ⟨fun e=>hne (by simpa using e),h⟩
theorem Px {prev:Option K4} {h:Heap} {q:K4} (k:AL q h=none):AL q (G9 prev h)=none:=by
 cases hx:AL q (G9 prev h) with
 | none=>rfl
 | some x=>rw [(D1 hx).2] at k; cases k
def CR (w:World) (b:Nat) (O:Obj):World:={ w with heap:=w.heap.setIfInBounds b O }
theorem Dr {w:World} {b:Nat} {O:Obj} (h:b<w.heap.size):(CR w b O).heap[b]? = some O:=by
 simp [CR,h]
theorem GO {w:World} {b k:Nat} {O:Obj} (h:b≠k):(CR w b O).heap[k]? = w.heap[k]?:=by
 simp [CR,Array.getElem?_setIfInBounds_ne h]
theorem DT {w:World} {b:Nat} {O:Obj}:(CR w b O).heap.size=w.heap.size:=by simp [CR]
theorem Gam.write {B:Nat} {h:Heap} {φ:B6} {n p:K4} {w:World} {o o':Ob} {b s tot:Nat} {O:Obj} (g:Gam ρ B h n φ w) (hp:AL p h=some o) (hφ:φ p=some (b,s,tot))
  (hs:Ip o=false) (ho':BP o'=none) (hok:Fg ρ φ (CR w b O) o' b s tot) :
  Gam ρ B (B5 p (G9 (BP o) h) (some o')) n φ (CR w b O) where
 base:=by rw [DT]; exact g.base
 glob:=fun k c e fr hk=>⟨(g.glob k c e fr hk).1,by rw [GO (by have:=(g.glob k c e fr hk).1; have:=(g.blk p b s tot hφ).1; omega)]; exact (g.glob k c e fr hk).2⟩
 dom:=g.dom
 blk:=fun q b s t hx=>by rw [DT]; exact g.blk q b s t hx
 obj:=fun q o1 b1 s1 t1 hq hx=>by
  rcases BA hq with ⟨rfl,e⟩ | ⟨hne,hq⟩
  ·rw [hφ] at hx; simp only [Option.some.injEq,Prod.mk.injEq] at hx e
   obtain ⟨rfl,rfl,rfl⟩:=hx; subst e; exact hok
  ·obtain ⟨hk,hq⟩:=D1 hq
   have hb:b≠b1:=fun e=>by
    subst e
    rcases g.sep p q o o1 b s tot s1 t1 hne hp hq hφ hx with h' | h'
    ·exact hk h'
    ·have:=g.sup q p o1 o b s1 t1 s tot hq h' hp hx hφ
     rw [this] at hs; cases hs
   exact Ca (GO hb) (g.obj q o1 b1 s1 t1 hq hx)
 sep:=fun q r o1 o2 b1 s1 t1 s2 t2 hne hq hr hx hy=>by
  rcases BA hq with ⟨rfl,e⟩ | ⟨hpq,hq⟩
  ·rcases BA hr with ⟨rfl,e'⟩ | ⟨hpr,hr⟩
   ·exact absurd rfl hne
   ·obtain ⟨hk,hr⟩:=D1 hr
    rcases g.sep p r o o2 b1 s1 t1 s2 t2 hne hp hr hx hy with h' | h'
    ·exact absurd h' hk
    ·exact .inr h'
  ·obtain ⟨hk,hq⟩:=D1 hq
   rcases BA hr with ⟨rfl,e'⟩ | ⟨hpr,hr⟩
   ·rcases g.sep q p o1 o b1 s1 t1 s2 t2 hne hq hp hx hy with h' | h'
    ·exact .inl h'
    ·exact absurd h' hk
   ·obtain ⟨_,hr⟩:=D1 hr
    exact g.sep q r o1 o2 b1 s1 t1 s2 t2 hne hq hr hx hy
 sup:=fun q r o1 o2 b1 s1 t1 s2 t2 hq hpr hr hx hy=>by
  rcases BA hq with ⟨rfl,e⟩ | ⟨hpq,hq⟩
  ·simp only [Option.some.injEq] at e; subst e; rw [ho'] at hpr; cases hpr
  ·obtain ⟨hk,hq⟩:=D1 hq
   rcases BA hr with ⟨rfl,e⟩ | ⟨_,hr⟩
   ·have:=g.sup q p o1 o b1 s1 t1 s2 t2 hq hpr hp hx hy
    rw [this] at hs; cases hs
   ·exact g.sup q r o1 o2 b1 s1 t1 s2 t2 hq hpr (D1 hr).2 hx hy
theorem Fr.write {h:Heap} {φ:B6} {n p:K4} {w:World} {o:Ob} {o':Option Ob} {b s tot:Nat} {O:Obj} (hp:AL p h=some o) (hφ:φ p=some (b,s,tot)) :
  Fr h (B5 p (G9 (BP o) h) o') φ φ n n w (CR w b O) where
 ext:=B6.le_refl φ
 new:=fun _ _ h=>.inl h
 nn:=Nat.le_refl _
 os:=rfl
 tape:=rfl
 out:=rfl
 size:=by rw [DT]; exact Nat.le_refl _
 old:=fun k hk hn=>GO fun e=>by
  subst e
  have:=hn p s tot hφ; rw [hp] at this; cases this
 fresh:=fun _ _ _ _ h=>.inl h
 dm:=fun q hq hn=>by
  by_cases e:p=q
  ·subst e; rw [hp] at hn; cases hn
  ·rw [As _ _ e]; exact Px hn
end
end Go.Ev

namespace Go.Ev
set_option linter.unusedVariables false
theorem kb {k j:IntKind} {t:R} {s:String} (h:(br (Bj k j) t (.fail s)).good):k=j∧br (Bj k j) t (.fail s)=t:=by
 obtain ⟨h1,h2⟩:=Ao h
 exact ⟨Bg.1 h1,h2⟩
theorem BT {a b:Nat} (h:Nat.ble (Nat.succ a) b=true):a<b:=Ap.1 h
def DD (op:BinOp) (x y:Value) (v:V):Prop :=
 ∃ r:Value,(∀ (P:Program) (t:TypeId) (w:World),(Go.binOp op t x y).run P w = .ok r w) ∧ ∀ (ρ:Env) (φ:B6),AG ρ φ v r
theorem Ef (k:IntKind) (r:Nat) (hr:r<Mk k) (ρ:Env) (φ:B6):AG ρ φ (.int k r) (.int k (BF k r)):=by
 simp [AG,hr]
theorem BH (b:Bool) (ρ:Env) (φ:B6):AG ρ φ (.bool b) (.bool b):=by simp only [AG]
theorem Sh (k:IntKind) (a b:Nat):k.wrap (BF k a+BF k b)=BF k ((a+b) % Mk k):=by
 apply G0
 rw [Int.add_emod,E7,E7,←Int.natCast_add,←Int.natCast_emod,Nat.add_mod]; simp
theorem NY (k:IntKind) (a b:Nat) (hb:b<Mk k):k.wrap (BF k a - BF k b)=BF k ((a+(Mk k - b)) % Mk k):=by
 apply G0
 unfold BF
 cases k <;> simp only [Mk,Hk] at * <;> (repeat' split) <;> omega
theorem TE (k:IntKind) (a b:Nat):k.wrap (BF k a*BF k b)=BF k (a*b % Mk k):=by
 apply G0
 rw [Int.mul_emod,E7,E7,←Int.natCast_mul,←Int.natCast_emod,Nat.mul_mod]; simp
theorem LB {k j:IntKind} {a b:Nat} {κ:R} (h:(Ow k a j b κ).good):k=j∧a<Hk k∧b<Hk k∧Ow k a j b κ=κ:=by
 obtain ⟨rfl,e1⟩:=kb h
 have e1:Ow k a k b κ=_:=e1
 rw [e1] at h
 obtain ⟨h2,e2⟩:=Ao h
 rw [e2] at h
 obtain ⟨h3,e3⟩:=Ao h
 exact ⟨rfl,BT h2,BT h3,e1.trans (e2.trans e3)⟩
theorem bv (k:IntKind) (a:Nat) (ha:a<Mk k):(BitVec.ofInt k.bits (BF k a)).toNat=a:=by
 rw [BitVec.toNat_ofInt]
 have h:=E7 k a
 have e:((2 ^ k.bits:Nat):Int)=(Mk k:Int):=by rw [Eo]
 rw [e,h,Nat.mod_eq_of_lt ha]; simp
theorem EO (k:IntKind) (r:Nat) (hr:r<Mk k):k.wrap (r:Int)=BF k r :=
 G0 (by rw [←Int.natCast_emod,Nat.mod_eq_of_lt hr])
theorem Sx (a b m:Nat) (h:a<m):Nat.land a b<m:=Nat.lt_of_le_of_lt Nat.and_le_left h
theorem Wp (k:IntKind) (a b:Nat) (ha:a<Mk k) (hb:b<Mk k):Nat.lor a b<Mk k:=by
 rw [Eo] at *; exact Nat.or_lt_two_pow ha hb
theorem Ty (k:IntKind) (a b:Nat) (ha:a<Mk k) (hb:b<Mk k):Nat.xor a b<Mk k:=by
 rw [Eo] at *; exact Nat.xor_lt_two_pow ha hb
theorem Fk (op:BinOp) (k:IntKind) (a:Nat) (j:IntKind) (b:Nat) (κ:V->R) (ha:a<Mk k) (hb:b<Mk j) (h:(La op k a j b κ).good) :
  ∃ v,La op k a j b κ=κ v∧DD op (.int k (BF k a)) (.int j (BF j b)) v:=by
 cases op with
 | add =>
  obtain ⟨rfl,e⟩:=kb (show R.good (Ur k a j b κ) from h)
  refine ⟨_,(show Ur k a k b κ=_ from e).trans (Ah _ _),.int k (BF k ((a+b) % Mk k)),fun P t w=>?_,Ef k _ (Nat.mod_lt _ (Ea k))⟩
  simp only [binOp_add,Op.intArith,Sh,Sem.run_pure]
 | sub =>
  obtain ⟨rfl,e⟩:=kb (show R.good (Np k a j b κ) from h)
  refine ⟨_,(show Np k a k b κ=_ from e).trans (Ah _ _),.int k (BF k ((a+(Mk k - b)) % Mk k)),fun P t w=>?_,Ef k _ (Nat.mod_lt _ (Ea k))⟩
  simp only [binOp_sub,Op.intArith,NY _ _ _ hb,Sem.run_pure]
 | mul =>
  obtain ⟨rfl,e⟩:=kb (show R.good (UI k a j b κ) from h)
  refine ⟨_,(show UI k a k b κ=_ from e).trans (Ah _ _),.int k (BF k (a*b % Mk k)),fun P t w=>?_,Ef k _ (Nat.mod_lt _ (Ea k))⟩
  simp only [binOp_mul,Op.intArith,TE,Sem.run_pure]
 | quo =>
  obtain ⟨rfl,h1,h2,e⟩:=LB (show R.good (Re k a j b κ) from h)
  have e:Re k a k b κ=_:=e
  have h:(Re k a k b κ).good:=h
  rw [e] at h
  obtain ⟨h3,e3⟩:=Ao h
  have h3:=Ap.1 h3
  refine ⟨_,e.trans (e3.trans (Ah _ _)),.int k (BF k (a / b)),fun P t w=>?_,Ef k _ (Nat.lt_of_le_of_lt (Nat.div_le_self a b) ha)⟩
  have hd:a / b<Hk k:=Nat.lt_of_le_of_lt (Nat.div_le_self a b) h1
  rw [binOp_quo,AA h1,AA h2,AA hd]
  have hw:k.wrap ((a / b:Nat):Int)=((a / b:Nat):Int):=by
   rw [EO k _ (Nat.lt_of_lt_of_le hd (GF k)),AA hd]
  simp only [Op.intDiv]
  rw [if_neg (by omega)]
  simp only [Sem.run_pure]
  rw [←hw,Int.ofNat_tdiv]
 | rem =>
  obtain ⟨rfl,h1,h2,e⟩:=LB (show R.good (RP k a j b κ) from h)
  have e:RP k a k b κ=_:=e
  have h:(RP k a k b κ).good:=h
  rw [e] at h
  obtain ⟨h3,e3⟩:=Ao h
  have h3:=Ap.1 h3
  have hd:a % b<Hk k:=Nat.lt_of_le_of_lt (Nat.mod_le a b) h1
  refine ⟨_,e.trans (e3.trans (Ah _ _)),.int k (BF k (a % b)),fun P t w=>?_,Ef k _ (Nat.lt_of_lt_of_le hd (GF k))⟩
  rw [binOp_rem,AA h1,AA h2,AA hd]
  simp only [Op.intDiv]
  rw [if_neg (by omega)]
  simp only [Sem.run_pure]
  rw [←Int.ofNat_tmod]
 | and =>
  obtain ⟨rfl,e⟩:=kb (show R.good (SB k a j b κ) from h)
  have hl:Nat.land a b<Mk k:=Sx a b _ ha
  refine ⟨_,(show SB k a k b κ=_ from e).trans (Ah _ _),.int k (BF k (Nat.land a b)),fun P t w=>?_,Ef k _ hl⟩
  simp only [binOp_and,Op.intBits,BitVec.toNat_and,bv _ _ ha,bv _ _ hb,Sem.run_pure]
  rw [EO k (a &&& b) hl]; rfl
 | or =>
  obtain ⟨rfl,e⟩:=kb (show R.good (WJ k a j b κ) from h)
  have hl:Nat.lor a b<Mk k:=Wp k a b ha hb
  refine ⟨_,(show WJ k a k b κ=_ from e).trans (Ah _ _),.int k (BF k (Nat.lor a b)),fun P t w=>?_,Ef k _ hl⟩
  simp only [binOp_or,Op.intBits,BitVec.toNat_or,bv _ _ ha,bv _ _ hb,Sem.run_pure]
  rw [EO k (a ||| b) hl]; rfl
 | xor =>
  obtain ⟨rfl,e⟩:=kb (show R.good (TC k a j b κ) from h)
  have hl:Nat.xor a b<Mk k:=Ty k a b ha hb
  refine ⟨_,(show TC k a k b κ=_ from e).trans (Ah _ _),.int k (BF k (Nat.xor a b)),fun P t w=>?_,Ef k _ hl⟩
  simp only [binOp_xor,Op.intBits,BitVec.toNat_xor,bv _ _ ha,bv _ _ hb,Sem.run_pure]
  rw [EO k (a ^^^ b) hl]; rfl
 | shl =>
  obtain ⟨h1,e1⟩:=Ao (show R.good (SU k a j b κ) from h)
  have e1:SU k a j b κ=_:=e1
  have h1:=BT h1
  have hr:∀ P t w,(Go.binOp .shl t (.int k (BF k a)) (.int j (BF j b))).run P w = .ok (.int k (k.wrap (BF k a*2 ^ min b k.bits))) w:=fun P t w=>by
   rw [binOp_shl,Op.shift,AA h1,if_neg (by omega)]; simp
  by_cases hb64:b≤64
  ·refine ⟨_,e1.trans ((by rw [Ap.2 hb64,AQ]:br (Nat.ble b 64) _ _=_).trans (Ah _ _)),.int k (BF k ((a <<< b) % Mk k)),fun P t w=>?_,Ef k _ (Nat.mod_lt _ (Ea k))⟩
   rw [hr]
   congr 2
   apply G0
   rw [Nat.shiftLeft_eq]
   by_cases hbb:b≤k.bits
   ·have e2:((2:Int) ^ b)=((2 ^ b:Nat):Int):=by simp
    rw [Nat.min_eq_left hbb,Int.mul_emod,E7,e2,←Int.natCast_emod,←Int.natCast_mul,←Int.natCast_emod,←Nat.mul_mod]
   ·rw [Nat.min_eq_right (by omega),Int.mul_emod]
    have h0:((2:Int) ^ k.bits) % (Mk k:Int)=0:=by rw [Eo]; simp
    have h0':a*2 ^ b % Mk k=0:=by
     rw [Eo,show b=k.bits+(b - k.bits) by omega,Nat.pow_add,←Nat.mul_assoc,Nat.mul_right_comm]; exact Nat.mul_mod_left _ _
    rw [h0,h0']; simp
  ·refine ⟨_,e1.trans (by rw [Bp (by omega),AO]:br (Nat.ble b 64) _ _=_),.int k (BF k 0),fun P t w=>?_,Ef k _ (Ea k)⟩
   rw [hr]
   congr 2
   apply G0
   have hbits:k.bits≤64:=by cases k <;> simp [IntKind.bits]
   rw [Nat.min_eq_right (by omega),Int.mul_emod]
   have h0:((2:Int) ^ k.bits) % (Mk k:Int)=0:=by rw [Eo]; simp
   rw [h0]; simp
 | shr =>
  obtain ⟨h1,e1⟩:=Ao (show R.good (R9 k a j b κ) from h)
  have e1:R9 k a j b κ=_:=e1
  have h1:=BT h1
  have h:(R9 k a j b κ).good:=h
  rw [e1] at h
  obtain ⟨h2,e2⟩:=Ao h
  have h2:=BT h2
  have hr:∀ P t w,(Go.binOp .shr t (.int k (BF k a)) (.int j (BF j b))).run P w = .ok (.int k ((a:Int).fdiv (2 ^ min b k.bits))) w:=fun P t w=>by
   rw [binOp_shr,Op.shift,AA h1,AA h2,if_neg (by omega)]; simp
  have hf:∀ n:Nat,(a:Int).fdiv (2 ^ n)=((a / 2 ^ n:Nat):Int):=fun n=>by
   rw [Int.fdiv_eq_ediv_of_nonneg _ (by exact Int.le_of_lt (Int.pow_pos (by omega)))]; simp
  have hlt:∀ n:Nat,a / 2 ^ n<Hk k:=fun n=>Nat.lt_of_le_of_lt (Nat.div_le_self _ _) h2
  by_cases hb64:b≤64
  ·refine ⟨_,e1.trans (e2.trans ((by rw [Ap.2 hb64,AQ]:br (Nat.ble b 64) _ _=_).trans (Ah _ _))),.int k (BF k (a >>> b)),fun P t w=>?_,Ef k _ ?_⟩
   ·rw [hr,hf,Nat.shiftRight_eq_div_pow,AA (hlt b)]
    congr 3
    by_cases hbb:b≤k.bits
    ·rw [Nat.min_eq_left hbb]
    ·rw [Nat.min_eq_right (by omega)]
     have ha':a<2 ^ k.bits:=by rw [←Eo]; exact ha
     rw [Nat.div_eq_of_lt ha',Nat.div_eq_of_lt (Nat.lt_of_lt_of_le ha' (Nat.pow_le_pow_right (by omega) (by omega)))]
   ·show a >>> b<Mk k
    rw [Nat.shiftRight_eq_div_pow]; exact Nat.lt_of_lt_of_le (hlt b) (GF k)
  ·refine ⟨_,e1.trans (e2.trans (by rw [Bp (by omega),AO]:br (Nat.ble b 64) _ _=_)),.int k (BF k 0),fun P t w=>?_,Ef k _ (Ea k)⟩
   have hbits:k.bits≤64:=by cases k <;> simp [IntKind.bits]
   have ha':a<2 ^ k.bits:=by rw [←Eo]; exact ha
   rw [hr,hf,Nat.min_eq_right (by omega),Nat.div_eq_of_lt ha',AA (by have:=Hk k; cases k <;> simp [Hk])]
 | andNot =>
  obtain ⟨rfl,e⟩:=kb (show R.good (NV k a j b κ) from h)
  have hl:Nat.land a (Mk k - 1 - b)<Mk k:=Sx a _ _ ha
  refine ⟨_,(show NV k a k b κ=_ from e).trans (Ah _ _),.int k (BF k (Nat.land a (Mk k - 1 - b))),fun P t w=>?_,Ef k _ hl⟩
  simp only [binOp_andNot,Op.intBits,BitVec.toNat_and,BitVec.toNat_not,bv _ _ ha,bv _ _ hb,Sem.run_pure,←Eo]
  rw [EO k (a &&& (Mk k - 1 - b)) hl]; rfl
 | eql =>
  obtain ⟨rfl,e⟩:=kb (show R.good (Yj k a j b κ) from h)
  refine ⟨_,(show Yj k a k b κ=_ from e).trans (C5 _ _),.bool (Nat.beq a b),fun P t w=>?_,BH _⟩
  rw [binOp_eql,Sem.run_pure]
  congr 2
  rw [Bool.eq_iff_iff,beq_iff_eq]
  exact ⟨fun h=>by have:=Jz ha hb h; subst this; exact Nat.beq_refl _,fun h=>by rw [Nat.eq_of_beq_eq_true h]⟩
 | neq =>
  obtain ⟨rfl,e⟩:=kb (show R.good (Y4 k a j b κ) from h)
  have e:Y4 k a k b κ=_:=e
  by_cases hab:a=b
  ·subst hab
   refine ⟨_,e.trans (by rw [Nat.beq_refl,AQ]:br (Nat.beq a a) _ _=_),.bool false,fun P t w=>?_,BH _⟩
   rw [binOp_neq,Sem.run_pure]; simp
  ·have hf:Nat.beq a b=false:=Bool.eq_false_iff.2 fun h=>hab (Nat.eq_of_beq_eq_true h)
   refine ⟨_,e.trans (by rw [hf,AO]:br (Nat.beq a b) _ _=_),.bool true,fun P t w=>?_,BH _⟩
   rw [binOp_neq,Sem.run_pure]
   congr 2
   rw [bne_iff_ne]
   exact fun h=>hab (Jz ha hb h)
 | lss =>
  obtain ⟨rfl,e⟩:=kb (show R.good (Y6 k a j b κ) from h)
  refine ⟨_,(show Y6 k a k b κ=_ from e).trans (C5 _ _),.bool (Ho k a b),fun P t w=>?_,BH _⟩
  rw [binOp_lss,Sem.run_pure,Ej ha hb]
 | gtr =>
  obtain ⟨rfl,e⟩:=kb (show R.good (Y3 k a j b κ) from h)
  refine ⟨_,(show Y3 k a k b κ=_ from e).trans (C5 _ _),.bool (Ho k b a),fun P t w=>?_,BH _⟩
  rw [binOp_gtr,Sem.run_pure,Ej hb ha]
 | leq =>
  obtain ⟨rfl,e⟩:=kb (show R.good (Yk k a j b κ) from h)
  have e:Yk k a k b κ=_:=e
  cases hlt:Ho k b a with
  | true =>
   refine ⟨_,e.trans (by rw [hlt,AQ]),.bool false,fun P t w=>?_,BH _⟩
   rw [Ej hb ha] at hlt
   rw [binOp_leq,Sem.run_pure]
   congr 2
   exact decide_eq_false (by have:=of_decide_eq_true hlt; omega)
  | false =>
   refine ⟨_,e.trans (by rw [hlt,AO]),.bool true,fun P t w=>?_,BH _⟩
   rw [Ej hb ha] at hlt
   rw [binOp_leq,Sem.run_pure]
   congr 2
   exact decide_eq_true (by have:=of_decide_eq_false hlt; omega)
 | geq =>
  obtain ⟨rfl,e⟩:=kb (show R.good (Y7 k a j b κ) from h)
  have e:Y7 k a k b κ=_:=e
  cases hlt:Ho k a b with
  | true =>
   refine ⟨_,e.trans (by rw [hlt,AQ]),.bool false,fun P t w=>?_,BH _⟩
   rw [Ej ha hb] at hlt
   rw [binOp_geq,Sem.run_pure]
   congr 2
   exact decide_eq_false (by have:=of_decide_eq_true hlt; omega)
  | false =>
   refine ⟨_,e.trans (by rw [hlt,AO]),.bool true,fun P t w=>?_,BH _⟩
   rw [Ej ha hb] at hlt
   rw [binOp_geq,Sem.run_pure]
   congr 2
   exact decide_eq_true (by have:=of_decide_eq_false hlt; omega)
theorem QH (s:ByteArray) (ρ:Env) (φ:B6):AG ρ φ (.str s.size (B7 s.data.toList)) (.string s):=by
 simp only [AG]; exact ⟨s,rfl,rfl,rfl⟩
theorem BI (s:ByteArray):s.data.toList.length=s.size:=by simp
theorem Kd (x y:ByteArray):Jq x.size (B7 x.data.toList) y.size (B7 y.data.toList)=(x.toList == y.toList):=by
 rw [ByteArray.toList_eq,ByteArray.toList_eq,Bool.eq_iff_iff,beq_iff_eq]
 simp only [Jq,Bool.and_eq_true]
 constructor
 ·rintro ⟨h1,h2⟩
  exact Km (by rw [BI,BI]; exact Nat.eq_of_beq_eq_true h1) (Nat.eq_of_beq_eq_true h2)
 ·intro h
  refine ⟨?_,by rw [h]; exact Nat.beq_refl _⟩
  rw [←BI,←BI,h]; exact Nat.beq_refl _
theorem S9 (x y:List UInt8):Pc x.length (B7 x) y.length (B7 y)=Op.bytesLess x y:=by
 induction x generalizing y with
 | nil=>cases y with
  | nil=>rfl
  | cons b y=>rfl
 | cons a x ih =>
  cases y with
  | nil=>rfl
  | cons b y =>
   show br (Nat.beq (lo (B7 (a::x)) 1) (lo (B7 (b::y)) 1)) (Pc x.length (sh (B7 (a::x)) 1) y.length (sh (B7 (b::y)) 1)) (Nat.ble (Nat.succ (lo (B7 (a::x)) 1)) (lo (B7 (b::y)) 1))=_
   have ha:=a.toNat_lt; have hb:=b.toNat_lt
   have l1:lo (B7 (a::x)) 1=a.toNat:=by rw [DE]; simp only [B7]; omega
   have l2:lo (B7 (b::y)) 1=b.toNat:=by rw [DE]; simp only [B7]; omega
   have s1:sh (B7 (a::x)) 1=B7 x:=by rw [EE]; simp only [B7]; omega
   have s2:sh (B7 (b::y)) 1=B7 y:=by rw [EE]; simp only [B7]; omega
   rw [l1,l2,s1,s2,ih,Op.bytesLess]
   by_cases hab:a=b
   ·subst hab
    rw [Nat.beq_refl,AQ]; simp
   ·have hne:a.toNat≠b.toNat:=fun h=>hab (UInt8.toNat_inj.1 h)
    rw [Bool.eq_false_iff.2 fun h=>hne (Nat.eq_of_beq_eq_true h),AO,Ht]
    have:(a == b)=false:=by simpa using hab
    rw [this]; simp [UInt8.lt_iff_toNat_lt]; rfl
theorem RO (op:BinOp) (x y:ByteArray) (κ:V->R) (h:(Jw op x.size (B7 x.data.toList) y.size (B7 y.data.toList) κ).good) :
  ∃ v,Jw op x.size (B7 x.data.toList) y.size (B7 y.data.toList) κ=κ v∧DD op (.string x) (.string y) v:=by
 have hlt:=fun (x y:ByteArray)=>(by
  have:=S9 x.data.toList y.data.toList
  rw [BI,BI,←ByteArray.toList_eq,←ByteArray.toList_eq] at this
  rw [←ByteArray.toList_eq,←ByteArray.toList_eq]; exact this:Pc x.size (B7 x.data.toList) y.size (B7 y.data.toList)=Op.bytesLess x.toList y.toList)
 have hrun:∀ P t w,(Go.binOp op t (.string x) (.string y)).run P w=(Op.stringOp op x y).run P w:=fun P t w=>by cases op <;> rfl
 cases op with
 | add =>
  have e:Jw .add x.size (B7 x.data.toList) y.size (B7 y.data.toList) κ=_:=Ah (Nat.add x.size y.size) (fun l=>br (Nat.ble l 1000000000) (Ai (Nat.add (B7 x.data.toList) (up (B7 y.data.toList) x.size)) fun r=>κ (.str l r)) (.fail ""))
  rw [e] at h
  obtain ⟨h1,e1⟩:=Ao h
  have h1:x.size+y.size≤1000000000:=Ap.1 h1
  refine ⟨_,e.trans (e1.trans (Ah _ _)),.string (x++y),fun P t w=>?_,fun ρ φ=>?_⟩
  ·rw [hrun,Op.stringOp]
   rw [if_neg (by rw [IntKind.max_i64]; omega),Sem.run_pure]
  ·have:=QH (x++y) ρ φ
   have e2:(x++y).data.toList=x.data.toList++y.data.toList:=by simp
   rw [e2,J6,BI,ByteArray.size_append] at this
   rw [SK]; exact this
 | eql =>
  refine ⟨_,(C5 (Jq x.size (B7 x.data.toList) y.size (B7 y.data.toList)) (fun r=>κ (.bool r)):Jw .eql x.size (B7 x.data.toList) y.size (B7 y.data.toList) κ=_),.bool (x.toList == y.toList),fun P t w=>by rw [hrun]; rfl,fun ρ φ=>?_⟩
  rw [Kd]; exact BH _ ρ φ
 | neq =>
  have e:Jw .neq x.size (B7 x.data.toList) y.size (B7 y.data.toList) κ=br (x.toList == y.toList) (κ (.bool false)) (κ (.bool true)):=by rw [←Kd]; rfl
  refine ⟨.bool !(x.toList == y.toList),?_,.bool !(x.toList == y.toList),fun P t w=>by rw [hrun]; rfl,fun ρ φ=>BH _ ρ φ⟩
  rw [e]; cases (x.toList == y.toList) <;> rfl
 | lss =>
  refine ⟨_,(C5 (Pc x.size (B7 x.data.toList) y.size (B7 y.data.toList)) (fun r=>κ (.bool r)):Jw .lss x.size (B7 x.data.toList) y.size (B7 y.data.toList) κ=_),.bool (Op.bytesLess x.toList y.toList),fun P t w=>by rw [hrun]; rfl,fun ρ φ=>?_⟩
  rw [hlt]; exact BH _ ρ φ
 | geq =>
  have e:Jw .geq x.size (B7 x.data.toList) y.size (B7 y.data.toList) κ=br (Op.bytesLess x.toList y.toList) (κ (.bool false)) (κ (.bool true)):=by rw [←hlt]; rfl
  refine ⟨.bool !(Op.bytesLess x.toList y.toList),?_,.bool !(Op.bytesLess x.toList y.toList),fun P t w=>by rw [hrun]; rfl,fun ρ φ=>BH _ ρ φ⟩
  rw [e]; cases (Op.bytesLess x.toList y.toList) <;> rfl
 | leq=>exact h.elim
 | gtr=>exact h.elim
 | _=>exact h.elim
end Go.Ev

namespace Go.Ev
set_option linter.unusedVariables false
section
variable {P:Program} {ρ:Env} {φ:B6} {w:World}
theorem CT (b off i:Nat):(⟨b,off,none⟩:Addr).add i=⟨b,off+i,none⟩:=by
 unfold Addr.add; split
 ·simp_all
 ·rfl
theorem GY {b i:Nat} {c:Array Value} {e:TypeId} {fr:Nat×Nat} {x:Value} (h:w.heap[b]? = some (.cells c e fr)) (hx:c[i]? = some x):w.cell? ⟨b,i,none⟩=some x:=by
 simp [World.cell?,h,hx]
theorem R3 {b i:Nat} {c:Array Value} {e:TypeId} {fr:Nat×Nat} (h:w.heap[b]? = some (.cells c e fr)) (hf:Vq fr c.size) (hi:i<c.size):w.frozen? ⟨b,i,none⟩=false:=by
 obtain ⟨lo,hi'⟩:=fr
 simp only [World.frozen?,h,Bool.and_eq_false_iff,decide_eq_false_iff_not]
 rcases hf with hf | hf <;> simp at hf <;> omega
theorem QO {b:Nat} {O:Obj} (h:w.heap[b]? = some O):CR w b O=w:=by
 obtain ⟨hb,e⟩:=Array.getElem?_eq_some_iff.1 h
 unfold CR
 cases w with
 | mk heap tape drawn os output =>
  simp only [World.mk.injEq,and_true]
  apply Array.ext_getElem?
  intro k
  rw [Array.getElem?_setIfInBounds]
  by_cases hk:b=k
  ·subst hk; rw [if_pos rfl,if_pos hb]; exact h.symm
  ·rw [if_neg hk]
theorem RF {b:Nat} {O O':Obj}:CR (CR w b O) b O'=CR w b O':=by
 simp [CR]
theorem N6 {b i:Nat} {c:Array Value} {e:TypeId} {fr:Nat×Nat} {v:Value} (h:w.heap[b]? = some (.cells c e fr)) :
  w.setCell ⟨b,i,none⟩ v=CR w b (.cells (c.setIfInBounds i v) e fr):=by
 obtain ⟨hb,e'⟩:=Array.getElem?_eq_some_iff.1 h
 unfold World.setCell CR
 cases w with
 | mk heap tape drawn os output =>
  congr 1
  apply Array.ext_getElem?
  intro k
  rw [Array.getElem?_modify,Array.getElem?_setIfInBounds]
  by_cases hk:b=k
  ·subst hk; simp [hb,e']
  ·simp [hk]
theorem Gg {b off:Nat} {c:Array Value} {e:TypeId} {fr:Nat×Nat} (h:w.heap[b]? = some (.cells c e fr)) :
  w.freeze { block:=b,off:=off } 1=CR w b (.cells c e (if fr.1 == fr.2 then (off,off+1) else (min fr.1 off,max fr.2 (off+1)))):=by
 obtain ⟨hb,e'⟩:=Array.getElem?_eq_some_iff.1 h
 unfold World.freeze CR
 cases w with
 | mk heap tape drawn os output =>
  simp only [Nat.one_ne_zero,if_false]
  congr 1
  apply Array.ext_getElem?
  intro k
  rw [Array.getElem?_modify,Array.getElem?_setIfInBounds]
  by_cases hk:b=k
  ·subst hk; simp only at e'; simp [hb,e']
  ·simp [hk]
theorem JQ {O O':Obj}:CR (w.alloc O) w.heap.size O'=w.alloc O':=by
 unfold CR World.alloc
 congr 1
 apply Array.ext_getElem?
 intro k
 rw [Array.getElem?_setIfInBounds]
 by_cases hk:w.heap.size=k
 ·subst hk; simp
 ·simp [hk,Array.getElem?_push,Ne.symm hk]
theorem HS {O:Obj}:(w.alloc O).heap[w.heap.size]? = some O:=by show (w.heap.push O)[w.heap.size]? = _; simp
theorem Gp (vs:List Value):∀ (w:World) (b off i:Nat) (c:Array Value) (e:TypeId) (fr:Nat×Nat),w.heap[b]? = some (.cells c e fr)->off+i+vs.length≤c.size->Vq fr c.size →
  (∀ v∈vs,v.oneCell'=true)->∃ c':Array Value,c'.size=c.size∧(∀ j,(j<off+i∨off+i+vs.length≤j)->c'[j]? = c[j]?)∧(∀ (j:Nat) (v:Value),vs[j]? = some v->c'[off+i+j]? = some v) ∧
   (storeCells ⟨b,off,none⟩ vs i).run P w = .ok () (CR w b (.cells c' e fr)):=by
 induction vs with
 | nil=>intro w b off i c e fr h _ _ _; exact ⟨c,rfl,fun _ _=>rfl,fun j v hv=>by simp at hv,by rw [QO h]; rfl⟩
 | cons v vs ih =>
  intro w b off i c e fr h hl hf h1
  simp only [List.length_cons] at hl
  have hi:off+i<c.size:=by omega
  have hst:(store ((⟨b,off,none⟩:Addr).add i) v).run P w = .ok () (CR w b (.cells (c.setIfInBounds (off+i) v) e fr)):=by
   rw [CT,run_store P w _ v _ (h1 v (by simp)),GY h (Array.getElem?_eq_getElem hi)]
   simp only [R3 h hf hi,Bool.false_eq_true,if_false]
   rw [N6 h]
  have hb:b<w.heap.size:=(Array.getElem?_eq_some_iff.1 h).1
  obtain ⟨c',g1,g2,g3,g4⟩:=ih (CR w b (.cells (c.setIfInBounds (off+i) v) e fr)) b off (i+1) (c.setIfInBounds (off+i) v) e fr (Dr hb)
   (by simp; omega) (by simpa using hf) (fun x hx=>h1 x (by simp [hx]))
  refine ⟨c',by simpa using g1,fun j hj=>?_,fun j u hu=>?_,?_⟩
  ·rw [g2 j (by simp only [List.length_cons] at hj; omega)]
   rw [Array.getElem?_setIfInBounds,if_neg (by simp only [List.length_cons] at hj; omega)]
  ·cases j with
   | zero =>
    simp at hu; subst hu
    rw [g2 (off+i+0) (by omega),Array.getElem?_setIfInBounds]; simp [hi]
   | succ j =>
    have:=g3 j u (by simpa using hu)
    rw [←this]; congr 1; omega
  ·rw [storeCells]
   simp only [Sem.run_bind,hst,Result.andThen_ok,g4,RF]
theorem Fy {b off:Nat} {c:Array Value} {e:TypeId} {fr:Nat×Nat} (vs:List Value) (h:w.heap[b]? = some (.cells c e fr)) (hv:∀ (j:Nat) (v:Value),vs[j]? = some v->c[off+j]? = some v) :
  (loadCells ⟨b,off,none⟩ vs.length).run P w = .ok vs.toArray w :=
 run_loadCells_list w _ vs fun j v hj=>by rw [CT]; exact GY h (hv j v hj)
theorem Iq {cs:Cs} {f:Nat->Option Value} (h:Ek ρ φ cs f):∃ vs:List Value,vs.length=cs.len∧(∀ (j:Nat) (v:Value),vs[j]? = some v->f j=some v)∧(∀ v∈vs,v.oneCell'=true) ∧
  (∀ l:List V,l.length=cs.len->(∀ i:Nat,l[i]? = cs.at i)->Bu ρ φ l vs):=by
 have key:∀ m,m≤cs.len->∃ vs:List Value,vs.length=m ∧ ∀ (j:Nat) (v:Value),vs[j]? = some v->f j=some v∧v.oneCell'=true ∧ ∀ u,cs.at j=some u->AG ρ φ u v:=by
  intro m
  induction m with
  | zero=>exact fun _=>⟨[],rfl,fun j v hv=>by simp at hv⟩
  | succ m ih =>
   intro hm
   obtain ⟨vs,h1,h2⟩:=ih (by omega)
   obtain ⟨u,hu⟩:=Cs.at_lt (cs:=cs) (i:=m) (by omega)
   obtain ⟨x,hx,hr,ho⟩:=h m u hu
   refine ⟨vs++[x],by simp [h1],fun j v hv=>?_⟩
   by_cases hj:j<m
   ·rw [List.getElem?_append_left (by omega)] at hv; exact h2 j v hv
   ·rw [List.getElem?_append_right (by omega),h1] at hv
    have hjm:j=m:=by
     rcases Nat.eq_or_lt_of_le (Nat.le_of_not_lt hj) with e | e
     ·exact e.symm
     ·rw [List.getElem?_eq_none (by simp; omega)] at hv; cases hv
    subst hjm
    simp at hv; subst hv
    exact ⟨hx,ho,fun u' hu'=>by rw [hu] at hu'; cases hu'; exact hr⟩
 obtain ⟨vs,h1,h2⟩:=key cs.len (Nat.le_refl _)
 refine ⟨vs,h1,fun j v hv=>(h2 j v hv).1,fun v hv=>?_,fun l hl hla=>?_⟩
 ·obtain ⟨j,hj,rfl⟩:=List.getElem_of_mem hv
  exact (h2 j _ (List.getElem?_eq_getElem hj)).2.1
 ·refine Cc.2 ⟨by omega,fun i u hu=>?_⟩
  have hi:i<vs.length:=by
   rcases Nat.lt_or_ge i vs.length with h' | h'
   ·exact h'
   ·rw [List.getElem?_eq_none (by omega)] at hu; cases hu
  exact ⟨vs[i],List.getElem?_eq_getElem hi,(h2 i _ (List.getElem?_eq_getElem hi)).2.2 u (by rw [←hla i]; exact hu)⟩
theorem Gy {cs y:Cs} {off m:Nat} {f:Nat->Option Value} (h:Ek ρ φ cs f) (hl:y.len=m) (ha:∀ i,i<m->y.at i=cs.at (off+i)):Ek ρ φ y fun i=>f (off+i):=fun i v hv=>by
 have hi:=Cs.lt_of_at hv
 rw [ha i (by omega)] at hv
 exact h (off+i) v hv
end
structure TR (ρ:Env) (N:Nat) (φ:B6) (t:Regs) (a:Act):Prop where
 size:a.tmps.size=N
 defers:a.defers=[]
 at_:∀ s p,s<N->K2.ofN s=some p->AG ρ φ (Bi p t) (a.tmps.getD s undef)
theorem TR.mono {ρ:Env} {N:Nat} {φ φ':B6} {t:Regs} {a:Act} (h:TR ρ N φ t a) (hle:B6.le φ φ'):TR ρ N φ' t a :=
 ⟨h.size,h.defers,fun s p h1 h2=>EF hle (h.at_ s p h1 h2)⟩
section
variable (P:Program) (ρ:Env) (B N:Nat)
def Gv (o:Oper) (t:Regs) (h:Heap) (n:K4) (v:V) (h1:Heap) (n1:K4):Prop :=
 ∀ (φ:B6) (a:Act) (w:World),TR ρ N φ t a->Gam ρ B h n φ w->∀ (K:Act->World->Prop) (Q:Exit->Act->World->Prop),
  (∀ φ' x w',Fr h h1 φ φ' n n1 w w'->Gam ρ B h1 n1 φ' w'->AG ρ φ' v x->K (a.put o.dst x) w')->o.wp P a w K Q
def CB (o:Oper) (f:KV->R) (t:Regs) (h:Heap) (n:K4):Prop :=
 ∀ κ:KV,(f κ).good->∃ v h1 n1,f κ=κ v h1 n1∧Gv P ρ B N o t h n v h1 n1
def Tk (o:Oper) (t:Regs) (h:Heap) (n:K4) (v:V):Prop :=
 ∀ φ a w,TR ρ N φ t a->Gam ρ B h n φ w->∃ x,(execOp a.eval o).run P w = .ok (.value x) w∧AG ρ φ v x
def Bo (o:Oper) (f:KV->R) (t:Regs) (h:Heap) (n:K4):Prop :=
 ∀ κ:KV,(f κ).good->∃ v,f κ=κ v h n∧Tk P ρ B N o t h n v
end
section
variable {P:Program} {ρ:Env} {B N:Nat}
theorem Gv.value {o:Oper} {t:Regs} {h h1:Heap} {n n1:K4} {v:V}
  (H:∀ φ a w,TR ρ N φ t a->Gam ρ B h n φ w->∃ φ' x w',(execOp a.eval o).run P w = .ok (.value x) w'∧Fr h h1 φ φ' n n1 w w'∧Gam ρ B h1 n1 φ' w'∧AG ρ φ' v x):Gv P ρ B N o t h n v h1 n1:=by
 intro φ a w ht hg K Q hK
 obtain ⟨φ',x,w',e,h1,h2,h3⟩:=H φ a w ht hg
 unfold Oper.wp
 rw [e]
 exact hK φ' x w' h1 h2 h3
theorem Gv.skip {o:Oper} {t:Regs} {h h1:Heap} {n n1:K4}
  (H:∀ φ a w,TR ρ N φ t a->Gam ρ B h n φ w->∃ φ' w',(execOp a.eval o).run P w = .ok .skip w'∧Fr h h1 φ φ' n n1 w w'∧Gam ρ B h1 n1 φ' w'):Gv P ρ B N o t h n Cf h1 n1:=by
 intro φ a w ht hg K Q hK
 obtain ⟨φ',w',e,h1,h2⟩:=H φ a w ht hg
 unfold Oper.wp
 rw [e]
 exact hK φ' undef w' h1 h2 (by simp only [Cf,AG,undef]; exact ⟨#[],rfl,by simp only [Bu]⟩)
theorem Gv.pure {o:Oper} {t:Regs} {h:Heap} {n:K4} {v:V}
  (H:∀ φ a w,TR ρ N φ t a->Gam ρ B h n φ w->∃ x,(execOp a.eval o).run P w = .ok (.value x) w∧AG ρ φ v x):Gv P ρ B N o t h n v h n :=
 .value fun φ a w ht hg=>let ⟨x,e,hr⟩:=H φ a w ht hg; ⟨φ,x,w,e,.refl h φ n w,hg,hr⟩
theorem Bo.sound {o:Oper} {f:KV->R} {t:Regs} {h:Heap} {n:K4} (H:Bo P ρ B N o f t h n):CB P ρ B N o f t h n:=fun κ hg =>
 let ⟨v,e,hp⟩:=H κ hg
 ⟨v,h,n,e,.pure hp⟩
theorem Jf {v:Value} {c:V} (h:Jy v=some c) (φ:B6):AG ρ φ c v∧v.oneCell'=true:=by
 unfold Jy at h
 split at h
 ·cases h; exact ⟨by simp only [AG],rfl⟩
 ·rename_i k n
  split at h
  ·split at h
   ·rename_i m hm
    cases h
    have:=BT hm
    refine ⟨?_,rfl⟩
    simp only [AG]
    exact ⟨Nat.lt_of_lt_of_le this (GF k),by rw [AA this]; rfl⟩
   ·cases h
  ·split at h
   ·rename_i m hm
    cases h
    have:=Ap.1 hm
    simp only [Nat.add_eq] at this
    refine ⟨?_,rfl⟩
    simp only [AG]
    have hH:=Ea k
    refine ⟨by show Mk k - (m+1)<Mk k; omega,?_⟩
    rw [show Nat.sub (Mk k) (Nat.succ m)=Mk k - (m+1) from rfl,CL (by omega)]
    congr 1
    omega
   ·cases h
 all_goals first
  | (cases h; exact ⟨QH _ ρ φ,rfl⟩)
  | (cases h; exact ⟨by simp only [AG,C7],rfl⟩)
  | (simp at h)
theorem Es:∀ {vs:List Value} {l:List V},Hd vs=some l->∀ φ:B6,Bu ρ φ l vs ∧ ∀ v∈vs,v.oneCell'=true
 | [],l,h,φ=>by simp only [Hd,Option.some.injEq] at h; subst h; exact ⟨AR.2 rfl,by simp⟩
 | v::vs,l,h,φ=>by
  simp only [Hd] at h
  split at h
  ·rename_i x xs hx hxs
   cases h
   obtain ⟨h1,h2⟩:=Es hxs φ
   obtain ⟨h3,h4⟩:=Jf (ρ:=ρ) hx φ
   exact ⟨AE.2 ⟨v,vs,rfl,h3,h1⟩,by simpa using ⟨h4,h2⟩⟩
  ·cases h
theorem KT {v:Value} {c:V} (h:IF v=some c) (φ:B6):AG ρ φ c v:=by
 unfold IF at h
 split at h
 ·rename_i cs
  cases hl:Hd cs.toList with
  | none=>rw [hl] at h; cases h
  | some l =>
   rw [hl] at h; cases h
   simp only [AG]
   exact ⟨cs,rfl,(Es hl φ).1,(Es (ρ:=ρ) hl φ).2⟩
 ·rename_i cs
  split at h
  ·cases h
   rename_i he
   simp only [AG]
   exact ⟨cs,rfl,AR.2 (by simpa using he)⟩
  ·cases h
 ·rename_i f first caps
  split at h
  ·cases h
   rename_i he
   simp at he
   simp only [AG]
   exact ⟨#[],by rw [he.1,he.2],by simp only [Bu]⟩
  ·cases h
 ·exact (Jf h φ).1
theorem Am {o:Operand} {x:Opd} (h:AY N o=some x) {φ:B6} {t:Regs} {a:Act} (ht:TR ρ N φ t a):AG ρ φ (ev x t) (a.eval o):=by
 unfold AY at h
 split at h
 ·rename_i s
  unfold G6 at h
  split at h
  ·rename_i hs
   cases hk:K2.ofN s with
   | none=>rw [hk] at h; cases h
   | some p=>rw [hk] at h; cases h; exact ht.at_ s p hs hk
  ·cases h
 ·rename_i v
  cases hc:IF v with
  | none=>rw [hc] at h; cases h
  | some c=>rw [hc] at h; cases h; exact KT hc φ
 ·cases h
  simp only [ev,Act.eval,AG]
  exact ⟨#[],rfl,by simp only [Bu]⟩
 ·cases h
theorem Ew:∀ {os:List Operand} {xs:List Opd},BB N os=some xs->∀ {φ:B6} {t:Regs} {a:Act},TR ρ N φ t a->Bu ρ φ (xs.map (ev · t)) (os.map a.eval)
 | [],xs,h,φ,t,a,ht=>by simp only [BB,Option.some.injEq] at h; subst h; exact AR.2 rfl
 | o::os,xs,h,φ,t,a,ht=>by
  simp only [BB] at h
  split at h
  ·rename_i x ys hx hys
   cases h
   exact AE.2 ⟨_,_,rfl,Am hx ht,Ew hys ht⟩
  ·cases h
theorem Bh {t:TypeId} {s:Nat} (h:Bw P t=some s) (w:World):(sizeOf t).run P w = .ok s w:=by
 unfold Bw at h
 cases hi:P.info? t with
 | none=>rw [hi] at h; cases h
 | some i=>rw [hi] at h; cases h; simp [sizeOf,typeInfo,hi]
theorem CE {t:TypeId} {b:Bool} (h:KY P t=some b) (w:World):(isAgg t).run P w = .ok b w:=by
 unfold KY at h
 cases hi:P.underlying t with
 | none=>rw [hi] at h; cases h
 | some d =>
  rw [hi] at h; cases h
  unfold isAgg
  cases d <;> simp [run_underlying hi]
theorem Da {t:TypeId} {z:Value} (h:(P.info? t).bind (·.zero)=some z) (w:World):(zeroValue t).run P w = .ok z w:=by
 cases hi:P.info? t with
 | none=>rw [hi] at h; cases h
 | some i =>
  rw [hi] at h
  simp only [Option.bind_some] at h
  simp [zeroValue,typeInfo,hi,h]
end
end Go.Ev

namespace Go.Ev
set_option linter.unusedVariables false
section
variable {P:Program} {ρ:Env} {φ:B6} {w:World}
theorem BQ {k:IntKind} {r:Nat} {x:Value} (h:AG ρ φ (.int k r) x):r<Mk k∧x = .int k (BF k r):=by simpa only [AG] using h
theorem Du {b:Bool} {x:Value} (h:AG ρ φ (.bool b) x):x = .bool b:=by simpa only [AG] using h
theorem Cg {n c:Nat} {x:Value} (h:AG ρ φ (.str n c) x):∃ s:ByteArray,x = .string s∧s.size=n∧B7 s.data.toList=c:=by simpa only [AG] using h
theorem E3 {l:List V} {x:Value} (h:AG ρ φ (.agg l) x):∃ cs:Array Value,x = .agg cs∧Bu ρ φ l cs.toList ∧ ∀ y∈cs.toList,y.oneCell'=true:=by simpa only [AG] using h
theorem Qx {l:List V} {x:Value} (h:AG ρ φ (.tup l) x):∃ cs:Array Value,x = .tuple cs∧Bu ρ φ l cs.toList:=by simpa only [AG] using h
theorem BW {u:Nl} {x:Value} (h:AG ρ φ (.nil u) x):x=C7 u:=by simpa only [AG] using h
theorem CQ {p:K4} {off:Nat} {x:Value} (h:AG ρ φ (.ptr p off) x):∃ b s tot,φ p=some (b,s,tot)∧x = .pointer (some ⟨b,s+off,none⟩):=by simpa only [AG] using h
theorem F9 {p:K4} {x:Value} (h:AG ρ φ (.map p) x):∃ b s tot,φ p=some (b,s,tot)∧x = .map (some b):=by simpa only [AG] using h
theorem IA {f:Nat} {l:List V} {x:Value} (h:AG ρ φ (.fn f l) x):∃ cs:Array Value,x = .func (.func f) #[] cs∧Bu ρ φ l cs.toList:=by simpa only [AG] using h
theorem CJ {p:K4} {off len cap:Nat} {ex:Bool} {esz:Nat} {x:Value} (h:AG ρ φ (.sl p off len cap ex esz) x) :
  ∃ b s tot o cap',φ p=some (b,s,tot)∧x = .slice (some ⟨b,o,none⟩) len cap'∧len≤cap∧cap≤cap'∧(ex=true->cap'=cap)∧(0<cap'->o=s+off∧o+cap'*esz≤tot):=by simpa only [AG] using h
def UD (k:Sc) (X Y:Value) (r:Bool):Prop :=
 match k with
 | .i=>∃ kd a b,X = .int kd a∧Y = .int kd b∧r=(a == b)
 | .s=>∃ s u,X = .string s∧Y = .string u∧r=(s.toList == u.toList)
 | .b=>∃ a b,X = .bool a∧Y = .bool b∧r=(a == b)
theorem GT {k:Sc} {x y:V} {κ:Bool->R} (h:(Li k x y κ).good) :
  ∃ r,(∀ κ',Li k x y κ'=κ' r) ∧ ∀ X Y,AG ρ φ x X->AG ρ φ y Y->UD k X Y r:=by
 cases k with
 | i =>
  obtain ⟨kd,a,rfl,e⟩:=Cd (show R.good (FP x _) from h)
  have h:R.good (FP y _):=h
  obtain ⟨j,b,rfl,e'⟩:=Cd h
  have h:R.good (br (Bj kd j) (CH (Nat.beq a b) κ) (.fail "")):=h
  obtain ⟨rfl,_⟩:=kb h
  have hk:Bj kd kd=true:=Bg.2 rfl
  refine ⟨Nat.beq a b,fun κ'=>?_,fun X Y hx hy=>?_⟩
  ·show br (Bj kd kd) (CH (Nat.beq a b) κ') (.fail "")=_
   rw [hk,AQ,C5]
  ·obtain ⟨ha,rfl⟩:=BQ hx
   obtain ⟨hb,rfl⟩:=BQ hy
   refine ⟨kd,_,_,rfl,rfl,?_⟩
   rw [Bool.eq_iff_iff,beq_iff_eq]
   exact ⟨fun h=>by rw [Nat.eq_of_beq_eq_true h],fun h=>by have:=Jz ha hb h; subst this; exact Nat.beq_refl _⟩
 | s =>
  obtain ⟨n,c,rfl,e⟩:=BX (show R.good (Bl x _) from h)
  have h:R.good (Bl y _):=h
  obtain ⟨m,d,rfl,e'⟩:=BX h
  refine ⟨Jq n c m d,fun κ'=>C5 _ _,fun X Y hx hy=>?_⟩
  obtain ⟨s,rfl,rfl,rfl⟩:=Cg hx
  obtain ⟨u,rfl,rfl,rfl⟩:=Cg hy
  exact ⟨s,u,rfl,rfl,Kd s u⟩
 | b =>
  obtain ⟨b,rfl,e⟩:=EM (show R.good (P3 x _) from h)
  have h:R.good (P3 y _):=h
  obtain ⟨c,rfl,e'⟩:=EM h
  refine ⟨b == c,fun κ'=>by cases b <;> cases c <;> rfl,fun X Y hx hy=>?_⟩
  exact ⟨b,c,Du hx,Du hy,rfl⟩
theorem GL {k:Sc} {t:TypeId} (hk:P0 P t=some k) {X Y:Value} {r:Bool} (h:UD k X Y r) (d:Nat):(Op.equalIn (d+1) t X Y).run P w = .ok r w:=by
 unfold P0 at hk
 split at hk
 ·cases hk
  rename_i kd hu
  obtain ⟨kd',a,b,rfl,rfl,rfl⟩:=h
  simp [Op.equalIn,run_underlying hu]
 ·cases hk
  rename_i hu
  obtain ⟨s,u,rfl,rfl,rfl⟩:=h
  simp [Op.equalIn,run_underlying hu,beq_toListBytes]
 ·cases hk
  rename_i hu
  obtain ⟨s,u,rfl,rfl,rfl⟩:=h
  simp [Op.equalIn,run_underlying hu]
 ·cases hk
theorem SY {k:Sc} {t:TypeId} (hk:P0 P t=some k):(isAgg t).run P w = .ok false w:=by
 unfold P0 at hk
 split at hk
 ·rename_i hu; simp [isAgg,run_underlying hu]
 ·rename_i hu; simp [isAgg,run_underlying hu]
 ·rename_i hu; simp [isAgg,run_underlying hu]
 ·cases hk
theorem Gk {k:Sc} {t:TypeId} (hk:P0 P t=some k) {cs:Array Value} {off:Nat} {v:Value} (h:cs[off]? = some v):(part t cs off).run P w = .ok v w:=by
 simp [part,SY hk,h]
theorem Mp:∀ {fs:List Field} {offs:List (Nat×Sc)},GI P fs=some offs->∀ {a b:List V} {κ:Bool->R},(IW offs a b κ).good →
  ∃ r,(∀ κ',IW offs a b κ'=κ' r) ∧ ∀ (xs ys:Array Value) (d:Nat) (w:World),Bu ρ φ a xs.toList->Bu ρ φ b ys.toList->(Op.eqFields (d+1) xs ys fs).run P w = .ok r w
 | [],offs,ho,a,b,κ,h=>by
  simp only [GI,Option.some.injEq] at ho; subst ho
  exact ⟨true,fun _=>rfl,fun xs ys d w _ _=>rfl⟩
 | f::fs,offs,ho,a,b,κ,h=>by
  simp only [GI] at ho
  split at ho
  ·rename_i hn
   split at ho
   ·rename_i k r hk hr
    cases ho
    obtain ⟨u,hu,e1⟩:=Eu (show R.good (Ee f.offset a _) from h)
    have h:R.good (Ee f.offset a _):=h
    rw [e1] at h
    obtain ⟨v,hv,e2⟩:=Eu h
    rw [e2] at h
    obtain ⟨q,e3,hq⟩:=GT (ρ:=ρ) (φ:=φ) h
    rw [e3] at h
    have unf:∀ κ',IW ((f.offset,k)::r) a b κ'=br q (IW r a b κ') (κ' false):=fun κ'=>by
     show Ee f.offset a (fun u=>Ee f.offset b fun v=>Li k u v fun q=>br q (IW r a b κ') (κ' false))=_
     have n1:∀ (l:List V) (i:Nat) (x:V) (κ:V->R),l[i]? = some x->Ee i l κ=κ x:=fun l i=>by
      induction i generalizing l with
      | zero=>intro x κ hx; cases l with
       | nil=>simp at hx
       | cons y l=>simp at hx; subst hx; rfl
      | succ i ih=>intro x κ hx; cases l with
       | nil=>simp at hx
       | cons y l=>exact ih l x κ (by simpa using hx)
     rw [n1 _ _ _ _ hu,n1 _ _ _ _ hv,e3]
    have hrun:∀ (xs ys:Array Value) (d:Nat) (w:World),Bu ρ φ a xs.toList->Bu ρ φ b ys.toList →
      (Op.eqFields (d+1) xs ys (f::fs)).run P w=if q then (Op.eqFields (d+1) xs ys fs).run P w else .ok false w:=fun xs ys d w hxs hys=>by
     obtain ⟨X,hX,hrX⟩:=(Cc.1 hxs).2 _ _ hu
     obtain ⟨Y,hY,hrY⟩:=(Cc.1 hys).2 _ _ hv
     have:=hq X Y hrX hrY
     simp only [Op.eqFields,hn,ne_eq,not_false_eq_true,if_true,Sem.run_bind,Gk hk (show xs[f.offset]? = some X by simpa using hX),
      Gk hk (show ys[f.offset]? = some Y by simpa using hY),Result.andThen_ok,GL hk this]
     cases q <;> simp
    cases q with
    | true =>
     have h:(IW r a b κ).good:=h
     obtain ⟨r',g1,g2⟩:=Mp hr h
     exact ⟨r',fun κ'=>(unf κ').trans (g1 κ'),fun xs ys d w hxs hys=>(hrun xs ys d w hxs hys).trans (g2 xs ys d w hxs hys)⟩
    | false=>exact ⟨false,fun κ'=>unf κ',fun xs ys d w hxs hys=>hrun xs ys d w hxs hys⟩
   ·cases ho
  ·cases ho
theorem FU {u:Nl} {v:V} {κn κo:R} (h:(G4 u v κn κo).good) :
  (v = .nil u ∧ ∀ a b:R,G4 u v a b=a)∨((∀ a b:R,G4 u v a b=b) ∧ ∀ X,AG ρ φ v X->match u with
   | .ptr=>∃ a,X = .pointer (some a) | .sl=>∃ a n c,X = .slice (some a) n c | .map=>∃ b,X = .map (some b) | .fn=>∃ f a c,X = .func f a c | .iface=>False):=by
 cases v with
 | nil w' =>
  left
  have h:R.good (br (Nat.beq w'.ix u.ix) κn (.fail "")):=h
  obtain ⟨h1,_⟩:=Ao h
  have:w'=u:=by cases w' <;> cases u <;> first | rfl | exact absurd h1 (by decide)
  subst this
  exact ⟨rfl,fun a b=>by cases w' <;> rfl⟩
 | ptr p o =>
  right
  cases u <;> first | exact h.elim | skip
  exact ⟨fun a b=>rfl,fun X hX=>by obtain ⟨_,_,_,_,rfl⟩:=CQ hX; exact ⟨_,rfl⟩⟩
 | sl p o l c e z =>
  right
  cases u <;> first | exact h.elim | skip
  exact ⟨fun a b=>rfl,fun X hX=>by obtain ⟨_,_,_,_,_,_,rfl,_⟩:=CJ hX; exact ⟨_,_,_,rfl⟩⟩
 | map p =>
  right
  cases u <;> first | exact h.elim | skip
  exact ⟨fun a b=>rfl,fun X hX=>by obtain ⟨_,_,_,_,rfl⟩:=F9 hX; exact ⟨_,rfl⟩⟩
 | fn f l =>
  right
  cases u <;> first | exact h.elim | skip
  exact ⟨fun a b=>rfl,fun X hX=>by obtain ⟨_,rfl,_⟩:=IA hX; exact ⟨_,_,_,rfl⟩⟩
 | _=>exact h.elim
def WZ (P:Program) (u:Nl) (t:TypeId):Prop :=
 match u with
 | .ptr=>∃ e s,P.underlying t=some (.pointer e)∧Bw P e=some (s+1)
 | .sl=>∃ e,P.underlying t=some (.slice e)
 | .map=>∃ k e,P.underlying t=some (.map k e)
 | .fn=>∃ a b c,P.underlying t=some (.func a b c)
 | .iface=>False
theorem GP {u:Nl} {t:TypeId} (ht:WZ P u t) {x y:V} {κ:Bool->R} (h:(Jo u x y κ).good) :
  ∃ r,(∀ κ',Jo u x y κ'=κ' r) ∧ ∀ X Y d w,AG ρ φ x X->AG ρ φ y Y->(Op.equalIn (d+1) t X Y).run P w = .ok r w:=by
 rcases FU (ρ:=ρ) (φ:=φ) (show R.good (G4 u x _ _) from h) with ⟨rfl,e1⟩ | ⟨e1,hx⟩
 ·have h:R.good (G4 u (.nil u) (G4 u y (κ true) (κ false)) _):=h
  rw [e1] at h
  rcases FU (ρ:=ρ) (φ:=φ) h with ⟨rfl,e2⟩ | ⟨e2,hy⟩
  ·refine ⟨true,fun κ'=>by unfold Jo; rw [e1,e1],fun X Y d w hX hY=>?_⟩
   rw [BW hX,BW hY]
   cases u with
   | ptr=>obtain ⟨e,s,hu,hs⟩:=ht; simp [Op.equalIn,run_underlying hu,C7]
   | sl=>obtain ⟨e,hu⟩:=ht; simp [Op.equalIn,run_underlying hu,C7]
   | map=>obtain ⟨k,e,hu⟩:=ht; simp [Op.equalIn,run_underlying hu,C7]
   | fn=>obtain ⟨a,b,c,hu⟩:=ht; simp [Op.equalIn,run_underlying hu,C7]
   | iface=>exact ht.elim
  ·refine ⟨false,fun κ'=>by unfold Jo; rw [e1,e2],fun X Y d w hX hY=>?_⟩
   rw [BW hX]
   have hy:=hy Y hY
   cases u with
   | ptr=>obtain ⟨e,s,hu,hs⟩:=ht; obtain ⟨a,rfl⟩:=hy; simp [Op.equalIn,run_underlying hu,C7]
   | sl=>obtain ⟨e,hu⟩:=ht; obtain ⟨a,n,c,rfl⟩:=hy; simp [Op.equalIn,run_underlying hu,C7]
   | map=>obtain ⟨k,e,hu⟩:=ht; obtain ⟨a,rfl⟩:=hy; simp [Op.equalIn,run_underlying hu,C7]
   | fn=>obtain ⟨a,b,c,hu⟩:=ht; obtain ⟨f,n,c,rfl⟩:=hy; simp [Op.equalIn,run_underlying hu,C7]
   | iface=>exact ht.elim
 ·have h:R.good (G4 u x _ (G4 u y (κ false) (IR x fun p o=>IR y fun q o'=>br (K4.beq p q) (CH (Nat.beq o o') κ) (.fail "")))):=h
  rw [e1] at h
  rcases FU (ρ:=ρ) (φ:=φ) h with ⟨rfl,e2⟩ | ⟨e2,hy⟩
  ·refine ⟨false,fun κ'=>by unfold Jo; rw [e1,e2],fun X Y d w hX hY=>?_⟩
   rw [BW hY]
   have hx:=hx X hX
   cases u with
   | ptr=>obtain ⟨e,s,hu,hs⟩:=ht; obtain ⟨a,rfl⟩:=hx; simp [Op.equalIn,run_underlying hu,C7]
   | sl=>obtain ⟨e,hu⟩:=ht; obtain ⟨a,n,c,rfl⟩:=hx; simp [Op.equalIn,run_underlying hu,C7]
   | map=>obtain ⟨k,e,hu⟩:=ht; obtain ⟨a,rfl⟩:=hx; simp [Op.equalIn,run_underlying hu,C7]
   | fn=>obtain ⟨a,b,c,hu⟩:=ht; obtain ⟨f,n,c,rfl⟩:=hx; simp [Op.equalIn,run_underlying hu,C7]
   | iface=>exact ht.elim
  ·rw [e2] at h
   obtain ⟨p,o,rfl,e3⟩:=CW h
   rw [e3] at h
   obtain ⟨q,o',rfl,e4⟩:=CW h
   rw [e4] at h
   obtain ⟨h5,e5⟩:=Ao h
   have:=K4.beq_iff.1 h5
   subst this
   refine ⟨Nat.beq o o',fun κ'=>by unfold Jo; rw [e1,e2]; show br (K4.beq p p) _ _=_; rw [h5,AQ,C5],fun X Y d w hX hY=>?_⟩
   have hx:=hx X hX
   obtain ⟨b,s,tot,hp,rfl⟩:=CQ hX
   obtain ⟨b',s',tot',hp',rfl⟩:=CQ hY
   rw [hp] at hp'; cases hp'
   cases u with
   | ptr =>
    obtain ⟨e,sz,hu,hs⟩:=ht
    simp only [Op.equalIn,Sem.run_bind,run_underlying hu,Result.andThen_ok,Bh hs,ne_eq,Nat.add_eq_zero_iff,Nat.one_ne_zero,and_false,not_false_eq_true,if_true,sameAddr,beq_self_eq_true]
    simp only [Sem.run_pure]
    congr 1
    rw [Bool.eq_iff_iff,beq_iff_eq]
    constructor
    ·intro h; simp at h; rw [h]; exact Nat.beq_refl _
    ·intro h; rw [Nat.eq_of_beq_eq_true h]
   | sl=>obtain ⟨a,n,c,h⟩:=hx; cases h
   | map=>obtain ⟨a,h⟩:=hx; cases h
   | fn=>obtain ⟨f,n,c,h⟩:=hx; cases h
   | iface=>exact ht.elim
end
end Go.Ev

namespace Go.Ev
set_option linter.unusedVariables false
section
variable {P:Program} {ρ:Env} {φ:B6} {w:World}
theorem NA {t:TypeId} {fs:Array Field} (h:P.underlying t=some (.struct fs)):P.underlying t=some (.struct (P.fieldsOf t)):=by
 unfold Program.fieldsOf; rw [h]
theorem Lr {t:TypeId} {fs:Array Field} {offs:List (Nat×Sc)} (ht:P.underlying t=some (.struct fs)) (hs:P.stoodInHeld t=false) (ho:GI P fs.toList=some offs)
  {x y:V} {κ:Bool->R} (h:(KZ (.st offs) x y κ).good) :
  ∃ r,(∀ κ',KZ (.st offs) x y κ'=κ' r) ∧ ∀ X Y d w,AG ρ φ x X->AG ρ φ y Y->(Op.equalIn (d+2) t X Y).run P w = .ok r w ∧ ∃ a b,X = .agg a∧Y = .agg b:=by
 obtain ⟨a,rfl,e⟩:=Cy (show R.good (asAgg x _) from h)
 obtain ⟨b,rfl,e'⟩:=Cy (show R.good (asAgg y _) from h)
 obtain ⟨r,g1,g2⟩:=Mp (ρ:=ρ) (φ:=φ) ho (show R.good (IW offs a b κ) from h)
 refine ⟨r,fun κ'=>g1 κ',fun X Y d w hX hY=>?_⟩
 obtain ⟨xs,rfl,hx,_⟩:=E3 hX
 obtain ⟨ys,rfl,hy,_⟩:=E3 hY
 refine ⟨?_,xs,ys,rfl,rfl⟩
 have hf:P.fieldsOf t=fs:=by unfold Program.fieldsOf; rw [ht]
 rw [run_equalIn_struct w (d+1) t xs ys (NA ht) hs,hf]
 exact g2 xs ys d w hx hy
theorem J4 {t:TypeId} {pl:Plan} (hp:JO P t=some pl) {x y:V} {κ:Bool->R} (h:(KZ pl x y κ).good) :
  ∃ r,(∀ κ',KZ pl x y κ'=κ' r) ∧ ∀ X Y w,AG ρ φ x X->AG ρ φ y Y->(Op.equal t X Y).run P w = .ok r w:=by
 unfold JO at hp
 split at hp
 ·cases hp
  rename_i hu
  obtain ⟨r,g1,g2⟩:=GT (ρ:=ρ) (φ:=φ) (show R.good (Li .b x y κ) from h)
  exact ⟨r,fun κ'=>g1 κ',fun X Y w hX hY=>GL (by unfold P0; rw [hu]) (g2 X Y hX hY) 9999⟩
 ·rename_i fs hu
  split at hp
  ·cases hp
  ·rename_i hs
   cases ho:GI P fs.toList with
   | none=>rw [ho] at hp; cases hp
   | some offs =>
    rw [ho] at hp; cases hp
    obtain ⟨r,g1,g2⟩:=Lr (ρ:=ρ) (φ:=φ) hu (by simpa using hs) ho h
    exact ⟨r,g1,fun X Y w hX hY=>(g2 X Y 9998 w hX hY).1⟩
 ·rename_i e hu
  split at hp
  ·rename_i s hs
   cases hp
   obtain ⟨r,g1,g2⟩:=GP (P:=P) (ρ:=ρ) (φ:=φ) (u:=.ptr) (t:=t) ⟨e,s,hu,hs⟩ (show R.good (Jo .ptr x y κ) from h)
   exact ⟨r,fun κ'=>g1 κ',fun X Y w hX hY=>g2 X Y 9999 w hX hY⟩
  ·cases hp
 ·rename_i e hu
  cases hp
  obtain ⟨r,g1,g2⟩:=GP (P:=P) (ρ:=ρ) (φ:=φ) (u:=.sl) (t:=t) ⟨e,hu⟩ (show R.good (Jo .sl x y κ) from h)
  exact ⟨r,fun κ'=>g1 κ',fun X Y w hX hY=>g2 X Y 9999 w hX hY⟩
 ·rename_i k e hu
  cases hp
  obtain ⟨r,g1,g2⟩:=GP (P:=P) (ρ:=ρ) (φ:=φ) (u:=.map) (t:=t) ⟨k,e,hu⟩ (show R.good (Jo .map x y κ) from h)
  exact ⟨r,fun κ'=>g1 κ',fun X Y w hX hY=>g2 X Y 9999 w hX hY⟩
 ·rename_i a b c hu
  cases hp
  obtain ⟨r,g1,g2⟩:=GP (P:=P) (ρ:=ρ) (φ:=φ) (u:=.fn) (t:=t) ⟨a,b,c,hu⟩ (show R.good (Jo .fn x y κ) from h)
  exact ⟨r,fun κ'=>g1 κ',fun X Y w hX hY=>g2 X Y 9999 w hX hY⟩
 ·cases hp
def V5 (P:Program) (sc:Bool) (d:TypeDesc) (t:TypeId) (X Y:Value) (r:Bool):Prop :=
 Instr.sameNow d X Y=(if sc then some r else none)∧(∀ w,(Op.equal t X Y).run P w = .ok r w)∧(r=true->Instr.sameBits 10000 Y X=true)
theorem Hf {k:Sc} {X Y:Value} {n:Nat} (h:UD k X Y true):Instr.sameBits n Y X=true:=by
 cases k with
 | i =>
  obtain ⟨kd,a,b,rfl,rfl,hr⟩:=h
  have:=eq_of_beq hr.symm
  simp [Instr.sameBits,this]
 | s =>
  obtain ⟨a,b,rfl,rfl,hr⟩:=h
  have:=eq_of_beq hr.symm
  simp only [Instr.sameBits,beq_toListBytes,this]; exact beq_self_eq_true _
 | b =>
  obtain ⟨a,b,rfl,rfl,hr⟩:=h
  have:=eq_of_beq hr.symm
  simp [Instr.sameBits,this]
theorem Rh (ks:List Sc):∀ {a b:List V} {κ:Bool->R},(OW ks a b κ).good →
  ∃ r,(∀ κ',OW ks a b κ'=κ' r)∧(∀ (pa pb:List V) (offs:List (Nat×Sc)),pa.length=pb.length->offs=ks.zipIdx.map (fun p=>(pa.length+p.2,p.1))->∀ κ',IW offs (pa++a) (pb++b) κ'=κ' r) ∧
   (r=true->∀ xs ys:List Value,Bu ρ φ a xs->Bu ρ φ b ys->xs.length=ys.length ∧ ∀ n,(ys.zip xs).all (fun (x,y)=>Instr.sameBits n x y)=true):=by
 induction ks with
 | nil =>
  intro a b κ h
  cases a with
  | cons u a=>exact h.elim
  | nil =>
   cases b with
   | cons v b=>exact h.elim
   | nil =>
    refine ⟨true,fun _=>rfl,fun pa pb offs _ ho κ'=>by subst ho; rfl,fun _ xs ys hx hy=>?_⟩
    rw [AR] at hx hy; subst hx hy; exact ⟨rfl,fun n=>rfl⟩
 | cons k ks ih =>
  intro a b κ h
  cases a with
  | nil=>exact h.elim
  | cons u a =>
   cases b with
   | nil=>exact h.elim
   | cons v b =>
    have h:R.good (Li k u v fun r=>br r (OW ks a b κ) (κ false)):=h
    obtain ⟨q,e3,hq⟩:=GT (ρ:=ρ) (φ:=φ) h
    rw [e3] at h
    have unf:∀ κ',OW (k::ks) (u::a) (v::b) κ'=br q (OW ks a b κ') (κ' false):=fun κ'=>e3 _
    have at1:∀ (pa pb:List V) (offs:List (Nat×Sc)),pa.length=pb.length->offs=(k::ks).zipIdx.map (fun p=>(pa.length+p.2,p.1))->∀ κ',IW offs (pa++u::a) (pb++v::b) κ' =
      br q (IW (ks.zipIdx.map (fun p=>((pa++[u]).length+p.2,p.1))) ((pa++[u])++a) ((pb++[v])++b) κ') (κ' false):=fun pa pb offs hl ho κ'=>by
     subst ho
     have n1:∀ (l m:List V) (x:V) (κ:V->R),Ee l.length (l++x::m) κ=κ x:=fun l=>by
      induction l with
      | nil=>intro m x κ; rfl
      | cons y l ih=>intro m x κ; exact ih m x κ
     have hz:((k::ks).zipIdx.map (fun p=>(pa.length+p.2,p.1)))=(pa.length,k)::ks.zipIdx.map (fun p=>((pa++[u]).length+p.2,p.1)):=by
      rw [List.zipIdx_cons,List.map_cons]
      simp only [Nat.add_zero,List.cons.injEq,true_and]
      rw [List.zipIdx_eq_map_add,List.map_map]
      apply List.map_congr_left
      intro p _
      simp; omega
     rw [hz]
     show Ee pa.length (pa++u::a) (fun u=>Ee pa.length (pb++v::b) fun v=>Li k u v fun q=>br q (IW _ (pa++_::a) (pb++_::b) κ') (κ' false))=_
     rw [n1,hl,n1,e3]
     simp
    cases q with
    | true =>
     obtain ⟨r,g1,g2,g3⟩:=ih (show R.good (OW ks a b κ) from h)
     refine ⟨r,fun κ'=>(unf κ').trans (g1 κ'),fun pa pb offs hl ho κ'=>?_,fun hr xs ys hx hy=>?_⟩
     ·rw [at1 pa pb offs hl ho κ']
      exact g2 (pa++[u]) (pb++[v]) _ (by simp [hl]) rfl κ'
     ·obtain ⟨x,xs,rfl,hx,hxs⟩:=AE.1 hx
      obtain ⟨y,ys,rfl,hy,hys⟩:=AE.1 hy
      obtain ⟨h1,h2⟩:=g3 hr xs ys hxs hys
      refine ⟨by simp [h1],fun n=>?_⟩
      have h2:=h2 n
      simp only [List.zip_cons_cons,List.all_cons,Hf (hq x y hx hy),Bool.true_and]
      exact h2
    | false =>
     exact ⟨false,fun κ'=>unf κ',fun pa pb offs hl ho κ'=>at1 pa pb offs hl ho κ',fun hr=>by cases hr⟩
theorem Pz {k:Sc} {t:TypeId} (hk:P0 P t=some k) {X Y:Value} {r:Bool} (h:UD k X Y r):∃ d,P.underlying t=some d∧Instr.sameNow d X Y=some r ∧ ¬ ∃ fs,d = .struct fs:=by
 unfold P0 at hk
 split at hk
 ·cases hk
  rename_i kd hu
  obtain ⟨kd',a,b,rfl,rfl,rfl⟩:=h
  exact ⟨_,hu,by simp [Instr.sameNow],by simp⟩
 ·cases hk
  rename_i hu
  obtain ⟨s,u,rfl,rfl,rfl⟩:=h
  exact ⟨_,hu,by simp [Instr.sameNow,beq_toListBytes],by simp⟩
 ·cases hk
  rename_i hu
  obtain ⟨s,u,rfl,rfl,rfl⟩:=h
  exact ⟨_,hu,by simp [Instr.sameNow],by simp⟩
 ·cases hk
theorem I4 {t:TypeId} {pl:Plan} (hp:H7 P t=some pl):∃ d sc,P.underlying t=some d ∧ ∀ {x y:V} {κ:Bool->R},(KZ pl x y κ).good →
  ∃ r,(∀ κ',KZ pl x y κ'=κ' r) ∧ ∀ X Y,AG ρ φ x X->AG ρ φ y Y->V5 P sc d t X Y r:=by
 unfold H7 at hp
 split at hp
 ·rename_i fs hu
  split at hp
  ·cases hp
  ·rename_i hs
   split at hp
   ·rename_i offs ho
    split at hp
    ·rename_i hr
     cases hp
     refine ⟨_,false,hu,fun {x y κ} h=>?_⟩
     obtain ⟨a,rfl,e⟩:=Cy (show R.good (asAgg x _) from h)
     obtain ⟨b,rfl,e'⟩:=Cy (show R.good (asAgg y _) from h)
     obtain ⟨r,g1,g2,g3⟩:=Rh (ρ:=ρ) (φ:=φ) (offs.map (·.2)) (show R.good (OW (offs.map (·.2)) a b κ) from h)
     refine ⟨r,fun κ'=>g1 κ',fun X Y hX hY=>?_⟩
     obtain ⟨xs,rfl,hx,_⟩:=E3 hX
     obtain ⟨ys,rfl,hy,_⟩:=E3 hY
     have hoffs:offs=(offs.map (·.2)).zipIdx.map (fun p=>(([]:List V).length+p.2,p.1)):=by
      apply List.ext_getElem?
      intro i
      rw [List.getElem?_map,List.getElem?_zipIdx,List.getElem?_map]
      cases hi:offs[i]? with
      | none=>rfl
      | some p =>
       have h1:(offs.map (·.1))[i]? = some p.1:=by rw [List.getElem?_map,hi]; rfl
       rw [hr] at h1
       have hlt:i<offs.length:=by
        rcases Nat.lt_or_ge i offs.length with h' | h'
        ·exact h'
        ·rw [List.getElem?_eq_none h'] at hi; cases hi
       rw [List.getElem?_range hlt] at h1
       obtain ⟨p1,p2⟩:=p
       simp at h1
       subst h1
       simp
     have hg:(KZ (.st offs) (.agg a) (.agg b) (fun q=>R.rv (.bool q) AT ⟨.d0,.d0,.d0,.d0⟩)).good:=by
      show R.good (IW offs a b (fun q=>R.rv (.bool q) AT ⟨.d0,.d0,.d0,.d0⟩))
      have:=g2 [] [] offs rfl hoffs (fun q=>R.rv (.bool q) AT ⟨.d0,.d0,.d0,.d0⟩)
      simp only [List.nil_append] at this
      rw [this]; trivial
     obtain ⟨r',k1,k2⟩:=Lr (ρ:=ρ) (φ:=φ) hu (by simpa using hs) ho hg
     have hrr:r'=r:=by
      have e1:=k1 (fun q=>R.rv (.bool q) AT ⟨.d0,.d0,.d0,.d0⟩)
      have e2:KZ (.st offs) (.agg a) (.agg b) (fun q=>R.rv (.bool q) AT ⟨.d0,.d0,.d0,.d0⟩)=_:=g2 [] [] offs rfl hoffs (fun q=>R.rv (.bool q) AT ⟨.d0,.d0,.d0,.d0⟩)
      rw [e1] at e2
      simpa using e2
     subst hrr
     refine ⟨by simp [Instr.sameNow],fun w=>(k2 _ _ 9998 w hX hY).1,fun hr'=>?_⟩
     obtain ⟨h1,h2⟩:=g3 hr' xs.toList ys.toList hx hy
     have h2:=h2 9999
     simp only [Instr.sameBits,Bool.and_eq_true,beq_iff_eq]
     exact ⟨by simpa using h1.symm,h2⟩
    ·cases hp
   ·cases hp
 ·cases hk:P0 P t with
  | none=>rw [hk] at hp; cases hp
  | some k =>
   rw [hk] at hp; cases hp
   cases hu:P.underlying t with
   | none=>simp [P0,hu] at hk
   | some d =>
    refine ⟨d,true,rfl,fun {x y κ} h=>?_⟩
    obtain ⟨r,g1,g2⟩:=GT (ρ:=ρ) (φ:=φ) (show R.good (Li k x y κ) from h)
    refine ⟨r,fun κ'=>g1 κ',fun X Y hX hY=>?_⟩
    obtain ⟨d',hd',hn,_⟩:=Pz hk (g2 X Y hX hY)
    rw [hu] at hd'; cases hd'
    exact ⟨hn,fun w=>GL hk (g2 X Y hX hY) 9999,fun hr=>by subst hr; exact Hf (g2 X Y hX hY)⟩
def Vr (pl:Plan) (k:V):List (V×V)->Option Nat->Prop
 | [],r=>r=none
 | e::es,r=>∃ q:Bool,(∀ κ,KZ pl k e.1 κ=κ q)∧if q then r=some 0 else ∃ r',Vr pl k es r'∧r=r'.map (· + 1)
theorem JT {t:TypeId} {pl:Plan} (hp:H7 P t=some pl) {k:V} {κf:V->R} {κn:R}:∀ {es:List (V×V)},(He pl k es κf κn).good →
  ∃ r,Vr pl k es r∧match r with | none=>He pl k es κf κn=κn | some i=>∃ e,es[i]? = some e∧He pl k es κf κn=κf e.2
 | [],h=>⟨none,rfl,rfl⟩
 | (a,b)::es,h=>by
  obtain ⟨d,sc,_,hk⟩:=I4 (ρ:={ v:=fun _=>.nilFunc,ap:=fun _=>none }) (φ:=fun _=>none) hp
  have h:R.good (KZ pl k a fun r=>br r (κf b) (He pl k es κf κn)):=h
  obtain ⟨q,g1,_⟩:=hk h
  rw [g1] at h
  have unf:He pl k ((a,b)::es) κf κn=br q (κf b) (He pl k es κf κn):=g1 _
  cases q with
  | true=>exact ⟨some 0,⟨true,g1,rfl⟩,(a,b),rfl,unf⟩
  | false =>
   obtain ⟨r,h1,h2⟩:=JT hp (show R.good (He pl k es κf κn) from h)
   refine ⟨r.map (· + 1),⟨false,g1,r,h1,rfl⟩,?_⟩
   cases r with
   | none=>exact unf.trans h2
   | some i=>obtain ⟨e,he,h2⟩:=h2; exact ⟨e,by simpa using he,unf.trans h2⟩
theorem Ls {t:TypeId} {pl:Plan} (hp:H7 P t=some pl) {k v:V}:∀ {es:List (V×V)} {κ:List (V×V)->R},(Hv pl k v es κ).good →
  ∃ r,Vr pl k es r∧Hv pl k v es κ=κ (match r with | none=>es++[(k,v)] | some i=>es.set i (k,v))
 | [],κ,h=>⟨none,rfl,rfl⟩
 | (a,b)::es,κ,h=>by
  obtain ⟨d,sc,_,hk⟩:=I4 (ρ:={ v:=fun _=>.nilFunc,ap:=fun _=>none }) (φ:=fun _=>none) hp
  have h:R.good (KZ pl k a fun r=>br r (κ ((k,v)::es)) (Hv pl k v es fun l=>κ ((a,b)::l))):=h
  obtain ⟨q,g1,_⟩:=hk h
  rw [g1] at h
  have unf:Hv pl k v ((a,b)::es) κ=br q (κ ((k,v)::es)) (Hv pl k v es fun l=>κ ((a,b)::l)):=g1 _
  cases q with
  | true=>exact ⟨some 0,⟨true,g1,rfl⟩,unf⟩
  | false =>
   obtain ⟨r,h1,h2⟩:=Ls hp (show R.good (Hv pl k v es fun l=>κ ((a,b)::l)) from h)
   refine ⟨r.map (· + 1),⟨false,g1,r,h1,rfl⟩,?_⟩
   rw [unf]
   show Hv pl k v es _=_
   rw [h2]
   cases r <;> rfl
theorem Mc {t:TypeId} {pl:Plan} (hp:H7 P t=some pl) {k:V}:∀ {es:List (V×V)} {κ:List (V×V)->R},(L5 pl k es κ).good →
  ∃ r,Vr pl k es r∧L5 pl k es κ=κ (match r with | none=>es | some i=>es.eraseIdx i)
 | [],κ,h=>⟨none,rfl,rfl⟩
 | (a,b)::es,κ,h=>by
  obtain ⟨d,sc,_,hk⟩:=I4 (ρ:={ v:=fun _=>.nilFunc,ap:=fun _=>none }) (φ:=fun _=>none) hp
  have h:R.good (KZ pl k a fun r=>br r (κ es) (L5 pl k es fun l=>κ ((a,b)::l))):=h
  obtain ⟨q,g1,_⟩:=hk h
  rw [g1] at h
  have unf:L5 pl k ((a,b)::es) κ=br q (κ es) (L5 pl k es fun l=>κ ((a,b)::l)):=g1 _
  cases q with
  | true=>exact ⟨some 0,⟨true,g1,rfl⟩,unf⟩
  | false =>
   obtain ⟨r,h1,h2⟩:=Mc hp (show R.good (L5 pl k es fun l=>κ ((a,b)::l)) from h)
   refine ⟨r.map (· + 1),⟨false,g1,r,h1,rfl⟩,?_⟩
   rw [unf]
   show L5 pl k es _=_
   rw [h2]
   cases r <;> rfl
theorem Lo {pl:Plan} {k:V}:∀ {es:List (V×V)} {bs:List Nat} {κ:List Nat->R} {r:Option Nat},(Le pl k es bs κ).good->Vr pl k es r →
  Le pl k es bs κ=κ (match r with | none=>bs | some i=>bs.eraseIdx i)
 | [],bs,κ,r,_,hf=>by have hf:r=none:=hf; subst hf; rfl
 | (a,b)::es,[],κ,r,h,_=>h.elim
 | (a,b)::es,c::bs,κ,r,h,hf=>by
  obtain ⟨q,g1,hf⟩:=hf
  have h:R.good (KZ pl k a fun r=>br r (κ bs) (Le pl k es bs fun l=>κ (c::l))):=h
  rw [g1] at h
  have unf:Le pl k ((a,b)::es) (c::bs) κ=br q (κ bs) (Le pl k es bs fun l=>κ (c::l)):=g1 _
  cases q with
  | true =>
   have hf:r=some 0:=by simpa using hf
   subst hf; exact unf
  | false =>
   simp only [Bool.false_eq_true,if_false] at hf
   obtain ⟨r',hf',rfl⟩:=hf
   rw [unf]
   show Le pl k es bs _=_
   rw [Lo (show R.good (Le pl k es bs fun l=>κ (c::l)) from h) hf']
   cases r' <;> rfl
theorem Mv:∀ (es:List (V×V)) (bs:List Nat),Hu es bs=decide (es.length=bs.length)
 | [],[]=>rfl
 | [],_::_=>rfl
 | _::_,[]=>rfl
 | _::es,_::bs=>by
  show Hu es bs=_
  rw [Mv es bs]; simp
theorem NC (c:Nat):∀ (bs:List Nat) (κ:List Nat->R),SZ bs c κ=κ (bs++[c])
 | [],_=>rfl
 | b::bs,κ=>by
  show SZ bs c (fun l=>κ (b::l))=_
  rw [NC c bs]; rfl
theorem Vo (es:List (V×V)) (bs:List Nat) (c:Nat) (κ:List Nat->Nat->R):Vf es bs c κ=κ (if es.length=bs.length then bs else bs++[c]) (if es.length=bs.length then c else c+1):=by
 unfold Vf
 rw [Mv,NC,Ah]
 by_cases h:es.length=bs.length <;> simp [h,br]
theorem EY {t:TypeId} {pl:Plan} (hp:H7 P t=some pl) {k:V} {K:Value} (hK:AG ρ φ k K):∀ {es:List (V×V)} {ents:List MapEntry} {r:Option Nat},Vr pl k es r->FW ρ φ es ents →
  (Instr.findKey t K ents).run P w = .ok (r.bind fun i=>(ents[i]?).map fun e=>(i,e.val)) w ∧
  (∀ i,r=some i->∃ e,ents[i]? = some e∧Instr.sameBits 10000 e.key K=true):=by
 obtain ⟨d,sc,hu,hk⟩:=I4 (ρ:=ρ) (φ:=φ) hp
 have gd:∀ (x y:V) (q:Bool),(∀ κ,KZ pl x y κ=κ q)->∀ X Y,AG ρ φ x X->AG ρ φ y Y->V5 P sc d t X Y q:=fun x y q hq X Y hX hY=>by
  obtain ⟨r,g1,g2⟩:=hk (x:=x) (y:=y) (κ:=fun q=>.rv (.bool q) AT ⟨.d0,.d0,.d0,.d0⟩) (by rw [hq]; trivial)
  have e1:=hq (fun q=>.rv (.bool q) AT ⟨.d0,.d0,.d0,.d0⟩)
  rw [g1] at e1
  simp at e1
  subst e1
  exact g2 X Y hX hY
 have key:∀ (es:List (V×V)) (ents:List MapEntry) (r:Option Nat) (i:Nat),Vr pl k es r->FW ρ φ es ents →
   ((sc=true->Instr.findNow d K ents i=some (r.bind fun j=>(ents[j]?).map fun e=>(i+j,e.val))) ∧
   (sc=false->ents≠[]->Instr.findNow d K ents i=none) ∧
   (Instr.findAsking t K ents i).run P w = .ok (r.bind fun j=>(ents[j]?).map fun e=>(i+j,e.val)) w) ∧
   (∀ j,r=some j->∃ e,ents[j]? = some e∧Instr.sameBits 10000 e.key K=true):=by
  intro es
  induction es with
  | nil =>
   intro ents r i hf he
   have hf:r=none:=hf
   have he:ents=[]:=he
   subst hf he
   exact ⟨⟨fun _=>rfl,fun _ h=>absurd rfl h,rfl⟩,fun j h=>by cases h⟩
  | cons e es ih =>
   intro ents r i hf he
   obtain ⟨q,hq,hf⟩:=hf
   obtain ⟨y,ys,rfl,hy1,hy2,hys⟩:=he
   obtain ⟨n1,n2,n3⟩:=gd k e.1 q hq K y.key hK hy1
   cases q with
   | true =>
    have hf:r=some 0:=by simpa using hf
    subst hf
    refine ⟨⟨fun hs=>?_,fun hs _=>?_,?_⟩,fun j hj=>?_⟩
    ·subst hs; simp at n1; simp [Instr.findNow,n1]
    ·subst hs; simp at n1; simp [Instr.findNow,n1]
    ·simp only [Instr.findAsking,Sem.run_bind,n2,Result.andThen_ok,if_true]; simp
    ·cases hj; exact ⟨y,rfl,n3 rfl⟩
   | false =>
    simp only [Bool.false_eq_true,if_false] at hf
    obtain ⟨r',hf',rfl⟩:=hf
    obtain ⟨⟨k1,k2,k3⟩,k4⟩:=ih ys r' (i+1) hf' hys
    have hr:((r'.map (· + 1)).bind fun j=>((y::ys)[j]?).map fun e=>(i+j,e.val))=r'.bind fun j=>(ys[j]?).map fun e=>(i+1+j,e.val):=by
     cases r' with
     | none=>rfl
     | some j=>simp [Nat.add_assoc,Nat.add_comm 1 j]
    refine ⟨⟨fun hs=>?_,fun hs _=>?_,?_⟩,fun j hj=>?_⟩
    ·subst hs; simp at n1; rw [hr]; simp only [Instr.findNow,n1]; exact k1 rfl
    ·subst hs; simp at n1; simp [Instr.findNow,n1]
    ·rw [hr]
     simp only [Instr.findAsking,Sem.run_bind,n2,Result.andThen_ok,Bool.false_eq_true,if_false]
     exact k3
    ·cases r' with
     | none=>cases hj
     | some j'=>simp at hj; subst hj; simpa using k4 j' rfl
 intro es ents r hf he
 obtain ⟨⟨k1,k2,k3⟩,k4⟩:=key es ents r 0 hf he
 simp only [Nat.zero_add] at k1 k3
 refine ⟨?_,fun i hi=>?_⟩
 ·simp only [Instr.findKey,Sem.run_bind,run_underlying hu,Result.andThen_ok]
  cases sc with
  | true=>rw [k1 rfl]; rfl
  | false =>
   cases hen:ents with
   | nil=>rw [hen] at k3; simp only [Instr.findNow]; exact k3
   | cons e l=>rw [←hen,k2 rfl (by rw [hen]; simp)]; exact k3
 ·obtain ⟨e,h1,h2⟩:=k4 i hi
  exact ⟨e,h1,h2⟩
end
end Go.Ev
