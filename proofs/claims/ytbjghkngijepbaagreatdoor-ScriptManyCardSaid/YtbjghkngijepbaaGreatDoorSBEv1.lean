/- AN EVALUATOR OF THE MODEL OF Go, PROVED SOUND, PART 1: what it says of a call holds in every world, on every tape. Conditions: none of its own; each theorem bears its premises. -/
import Derived.Below
import Derived.Laws.Append
import Derived.Laws.Bits
import Derived.Laws.Cells
import Derived.Laws.Entries
import Derived.Laws.Sem
import Derived.Laws.Strings
import Derived.Laws.StructEq
import Derived.Laws.Tables
import Derived.Laws.World
import Derived.Orders
noncomputable section
set_option linter.unusedSimpArgs false
set_option linter.unusedVariables false
namespace Go.Ev
set_option linter.unusedVariables false
inductive D where
 | d0 | d1 | d2 | d3 | d4 | d5 | d6 | d7 | d8 | d9 | d10 | d11 | d12 | d13 | d14 | d15
def D.toN (d:D):Nat:=@D.rec (fun _=>Nat) 0 1 2 3 4 5 6 7 8 9 10 11 12 13 14 15 d
theorem D.toN_lt (d:D):d.toN<16:=by cases d <;> decide
theorem D.toN_inj {a b:D} (h:a.toN=b.toN):a=b:=by
 cases a <;> cases b <;> first | rfl | exact absurd h (by decide)
def D.nx {β:Type} (d:D):(D->β)->β->β :=
 @D.rec (fun _=>(D->β)->β->β) (fun k _=>k .d1) (fun k _=>k .d2) (fun k _=>k .d3) (fun k _=>k .d4) (fun k _=>k .d5) (fun k _=>k .d6) (fun k _=>k .d7) (fun k _=>k .d8) (fun k _=>k .d9) (fun k _=>k .d10) (fun k _=>k .d11) (fun k _=>k .d12) (fun k _=>k .d13) (fun k _=>k .d14) (fun k _=>k .d15) (fun _ c=>c) d
theorem D.nx_eq {β:Type} (d:D) (k:D->β) (c:β):(d.nx k c=c∧d.toN=15)∨(∃ e:D,e.toN=d.toN+1∧d.nx k c=k e):=by
 cases d
 case d0=>exact .inr ⟨.d1,rfl,rfl⟩
 case d1=>exact .inr ⟨.d2,rfl,rfl⟩
 case d2=>exact .inr ⟨.d3,rfl,rfl⟩
 case d3=>exact .inr ⟨.d4,rfl,rfl⟩
 case d4=>exact .inr ⟨.d5,rfl,rfl⟩
 case d5=>exact .inr ⟨.d6,rfl,rfl⟩
 case d6=>exact .inr ⟨.d7,rfl,rfl⟩
 case d7=>exact .inr ⟨.d8,rfl,rfl⟩
 case d8=>exact .inr ⟨.d9,rfl,rfl⟩
 case d9=>exact .inr ⟨.d10,rfl,rfl⟩
 case d10=>exact .inr ⟨.d11,rfl,rfl⟩
 case d11=>exact .inr ⟨.d12,rfl,rfl⟩
 case d12=>exact .inr ⟨.d13,rfl,rfl⟩
 case d13=>exact .inr ⟨.d14,rfl,rfl⟩
 case d14=>exact .inr ⟨.d15,rfl,rfl⟩
 case d15=>exact .inl ⟨rfl,rfl⟩
def D.ofN:Nat->D
 | 0=>.d0 | 1=>.d1 | 2=>.d2 | 3=>.d3 | 4=>.d4 | 5=>.d5 | 6=>.d6 | 7=>.d7 | 8=>.d8 | 9=>.d9 | 10=>.d10 | 11=>.d11 | 12=>.d12 | 13=>.d13 | 14=>.d14 | _=>.d15
theorem D.toN_ofN:∀ n,n<16->(D.ofN n).toN=n
 | 0,_=>rfl | 1,_=>rfl | 2,_=>rfl | 3,_=>rfl | 4,_=>rfl | 5,_=>rfl | 6,_=>rfl | 7,_=>rfl | 8,_=>rfl | 9,_=>rfl | 10,_=>rfl | 11,_=>rfl | 12,_=>rfl | 13,_=>rfl | 14,_=>rfl | 15,_=>rfl
 | n+16,h=>by omega
def D.beq (a b:D):Bool:=Nat.beq a.toN b.toN
theorem D.beq_iff {a b:D}:a.beq b=true ↔ a=b:=by
 unfold D.beq
 exact ⟨fun h=>D.toN_inj (Nat.eq_of_beq_eq_true h),fun h=>by subst h; exact Nat.beq_refl _⟩
structure K4 where
 a:D
 b:D
 c:D
 d:D
inductive Nl where
 | ptr
 | sl
 | map
 | fn
 | iface
inductive Ot where
 | any
 | sym (i:Nat)
 | yl (p:K4)
 | no
 | iv (k:IntKind) (lo hi:Nat)
 | os (lo hi:Nat)
 | bl
 | rs (m j:Nat)
 | ss (lo hi n c:Nat)
 | ro (i lo hi z:Nat)
 | ap (i j m:Nat)
 | sy (k:IntKind) (i:Nat)
inductive V where
 | int (k:IntKind) (r:Nat)
 | bool (b:Bool)
 | ptr (p:K4) (off:Nat)
 | sl (p:K4) (off len cap:Nat) (ex:Bool) (esz:Nat)
 | str (n c:Nat)
 | agg (l:List V)
 | nil (w:Nl)
 | map (p:K4)
 | fn (f:Nat) (caps:List V)
 | tup (l:List V)
 | oth (o:Ot)
inductive Cs where
 | l (xs:List V)
 | b (n c:Nat)
inductive Ob where
 | c (cs:Cs) (sup:Bool) (prev:Option K4)
 | m (es:List (V×V)) (bs:List Nat) (clk:Nat)
 | it (p:K4) (since:Nat) (seen:List Nat) (c:Nat)
 | it0
 | lp (f:Nat) (box:K4)
abbrev Cj:=Option Ob
inductive VP where
 | mk (A B C E F G I J L M N O P Q T U:V)
def VP.all (x:V):VP:=.mk x x x x x x x x x x x x x x x x
def VP.sel (d:D) (p:VP):V :=
 @VP.rec (fun _=>V) (fun A B C E F G I J L M N O P Q T U=>@D.rec (fun _=>V) A B C E F G I J L M N O P Q T U d) p
def Zs {β:Type} (p:VP) (v:V) (k:VP->β):β:=@VP.rec (fun _=>β) (fun A B C E F G I J L M N O P Q T U=>k (.mk v B C E F G I J L M N O P Q T U)) p
def vs1 {β:Type} (p:VP) (v:V) (k:VP->β):β:=@VP.rec (fun _=>β) (fun A B C E F G I J L M N O P Q T U=>k (.mk A v C E F G I J L M N O P Q T U)) p
def ZR {β:Type} (p:VP) (v:V) (k:VP->β):β:=@VP.rec (fun _=>β) (fun A B C E F G I J L M N O P Q T U=>k (.mk A B v E F G I J L M N O P Q T U)) p
def ZE {β:Type} (p:VP) (v:V) (k:VP->β):β:=@VP.rec (fun _=>β) (fun A B C E F G I J L M N O P Q T U=>k (.mk A B C v F G I J L M N O P Q T U)) p
def ZG {β:Type} (p:VP) (v:V) (k:VP->β):β:=@VP.rec (fun _=>β) (fun A B C E F G I J L M N O P Q T U=>k (.mk A B C E v G I J L M N O P Q T U)) p
def ZY {β:Type} (p:VP) (v:V) (k:VP->β):β:=@VP.rec (fun _=>β) (fun A B C E F G I J L M N O P Q T U=>k (.mk A B C E F v I J L M N O P Q T U)) p
def vs6 {β:Type} (p:VP) (v:V) (k:VP->β):β:=@VP.rec (fun _=>β) (fun A B C E F G I J L M N O P Q T U=>k (.mk A B C E F G v J L M N O P Q T U)) p
def vs7 {β:Type} (p:VP) (v:V) (k:VP->β):β:=@VP.rec (fun _=>β) (fun A B C E F G I J L M N O P Q T U=>k (.mk A B C E F G I v L M N O P Q T U)) p
def ZP {β:Type} (p:VP) (v:V) (k:VP->β):β:=@VP.rec (fun _=>β) (fun A B C E F G I J L M N O P Q T U=>k (.mk A B C E F G I J v M N O P Q T U)) p
def ZW {β:Type} (p:VP) (v:V) (k:VP->β):β:=@VP.rec (fun _=>β) (fun A B C E F G I J L M N O P Q T U=>k (.mk A B C E F G I J L v N O P Q T U)) p
def WM {β:Type} (p:VP) (v:V) (k:VP->β):β:=@VP.rec (fun _=>β) (fun A B C E F G I J L M N O P Q T U=>k (.mk A B C E F G I J L M v O P Q T U)) p
def Yy {β:Type} (p:VP) (v:V) (k:VP->β):β:=@VP.rec (fun _=>β) (fun A B C E F G I J L M N O P Q T U=>k (.mk A B C E F G I J L M N v P Q T U)) p
def Xo {β:Type} (p:VP) (v:V) (k:VP->β):β:=@VP.rec (fun _=>β) (fun A B C E F G I J L M N O P Q T U=>k (.mk A B C E F G I J L M N O v Q T U)) p
def XD {β:Type} (p:VP) (v:V) (k:VP->β):β:=@VP.rec (fun _=>β) (fun A B C E F G I J L M N O P Q T U=>k (.mk A B C E F G I J L M N O P v T U)) p
def XU {β:Type} (p:VP) (v:V) (k:VP->β):β:=@VP.rec (fun _=>β) (fun A B C E F G I J L M N O P Q T U=>k (.mk A B C E F G I J L M N O P Q v U)) p
def YT {β:Type} (p:VP) (v:V) (k:VP->β):β:=@VP.rec (fun _=>β) (fun A B C E F G I J L M N O P Q T U=>k (.mk A B C E F G I J L M N O P Q T v)) p
def vg0 {β:Type} (p:VP) (k:V->β):β:=@VP.rec (fun _=>β) (fun A B C E F G I J L M N O P Q T U=>k A) p
def vg1 {β:Type} (p:VP) (k:V->β):β:=@VP.rec (fun _=>β) (fun A B C E F G I J L M N O P Q T U=>k B) p
def vg2 {β:Type} (p:VP) (k:V->β):β:=@VP.rec (fun _=>β) (fun A B C E F G I J L M N O P Q T U=>k C) p
def vg3 {β:Type} (p:VP) (k:V->β):β:=@VP.rec (fun _=>β) (fun A B C E F G I J L M N O P Q T U=>k E) p
def vg4 {β:Type} (p:VP) (k:V->β):β:=@VP.rec (fun _=>β) (fun A B C E F G I J L M N O P Q T U=>k F) p
def ZD {β:Type} (p:VP) (k:V->β):β:=@VP.rec (fun _=>β) (fun A B C E F G I J L M N O P Q T U=>k G) p
def vg6 {β:Type} (p:VP) (k:V->β):β:=@VP.rec (fun _=>β) (fun A B C E F G I J L M N O P Q T U=>k I) p
def vg7 {β:Type} (p:VP) (k:V->β):β:=@VP.rec (fun _=>β) (fun A B C E F G I J L M N O P Q T U=>k J) p
def ZK {β:Type} (p:VP) (k:V->β):β:=@VP.rec (fun _=>β) (fun A B C E F G I J L M N O P Q T U=>k L) p
def ZC {β:Type} (p:VP) (k:V->β):β:=@VP.rec (fun _=>β) (fun A B C E F G I J L M N O P Q T U=>k M) p
def X8 {β:Type} (p:VP) (k:V->β):β:=@VP.rec (fun _=>β) (fun A B C E F G I J L M N O P Q T U=>k N) p
def Y8 {β:Type} (p:VP) (k:V->β):β:=@VP.rec (fun _=>β) (fun A B C E F G I J L M N O P Q T U=>k O) p
def Yb {β:Type} (p:VP) (k:V->β):β:=@VP.rec (fun _=>β) (fun A B C E F G I J L M N O P Q T U=>k P) p
def XX {β:Type} (p:VP) (k:V->β):β:=@VP.rec (fun _=>β) (fun A B C E F G I J L M N O P Q T U=>k Q) p
def Z2 {β:Type} (p:VP) (k:V->β):β:=@VP.rec (fun _=>β) (fun A B C E F G I J L M N O P Q T U=>k T) p
def YS {β:Type} (p:VP) (k:V->β):β:=@VP.rec (fun _=>β) (fun A B C E F G I J L M N O P Q T U=>k U) p
def VP.selK {β:Type} (d:D):VP->(V->β)->β :=
 @D.rec (fun _=>VP->(V->β)->β) vg0 vg1 vg2 vg3 vg4 ZD vg6 vg7 ZK ZC X8 Y8 Yb XX Z2 YS d
theorem VP.selK_eq {β:Type} (d:D) (p:VP) (k:V->β):VP.selK d p k=k (VP.sel d p):=by
 cases d <;> cases p <;> rfl
def VP.setK {β:Type} (d:D):VP->V->(VP->β)->β :=
 @D.rec (fun _=>VP->V->(VP->β)->β) Zs vs1 ZR ZE ZG ZY vs6 vs7 ZP ZW WM Yy Xo XD XU YT d
def VP.setS (d:D) (p:VP) (v:V):VP:=VP.setK d p v id
theorem VP.setK_eq {β:Type} (d:D) (p:VP) (v:V) (k:VP->β):VP.setK d p v k=k (VP.setS d p v):=by
 cases d <;> cases p <;> rfl
theorem VP.sel_setS_same (d:D) (p:VP) (v:V):VP.sel d (VP.setS d p v)=v:=by
 cases d <;> cases p <;> rfl
theorem VP.sel_setS_ne {d e:D} (p:VP) (v:V) (h:d≠e):VP.sel e (VP.setS d p v)=VP.sel e p:=by
 cases p; cases d <;> cases e <;> first | rfl | exact absurd rfl h
theorem VP.sel_all (d:D) (x:V):VP.sel d (VP.all x)=x:=by cases d <;> rfl
inductive Regs where
 | mk (A B C E F G I J L M N O P Q T U:VP)
def Regs.all (x:VP):Regs:=.mk x x x x x x x x x x x x x x x x
def Regs.sel (d:D) (p:Regs):VP :=
 @Regs.rec (fun _=>VP) (fun A B C E F G I J L M N O P Q T U=>@D.rec (fun _=>VP) A B C E F G I J L M N O P Q T U d) p
def ZT {β:Type} (p:Regs) (v:VP) (k:Regs->β):β:=@Regs.rec (fun _=>β) (fun A B C E F G I J L M N O P Q T U=>k (.mk v B C E F G I J L M N O P Q T U)) p
def qs1 {β:Type} (p:Regs) (v:VP) (k:Regs->β):β:=@Regs.rec (fun _=>β) (fun A B C E F G I J L M N O P Q T U=>k (.mk A v C E F G I J L M N O P Q T U)) p
def qs2 {β:Type} (p:Regs) (v:VP) (k:Regs->β):β:=@Regs.rec (fun _=>β) (fun A B C E F G I J L M N O P Q T U=>k (.mk A B v E F G I J L M N O P Q T U)) p
def qs3 {β:Type} (p:Regs) (v:VP) (k:Regs->β):β:=@Regs.rec (fun _=>β) (fun A B C E F G I J L M N O P Q T U=>k (.mk A B C v F G I J L M N O P Q T U)) p
def ZF {β:Type} (p:Regs) (v:VP) (k:Regs->β):β:=@Regs.rec (fun _=>β) (fun A B C E F G I J L M N O P Q T U=>k (.mk A B C E v G I J L M N O P Q T U)) p
def qs5 {β:Type} (p:Regs) (v:VP) (k:Regs->β):β:=@Regs.rec (fun _=>β) (fun A B C E F G I J L M N O P Q T U=>k (.mk A B C E F v I J L M N O P Q T U)) p
def ZX {β:Type} (p:Regs) (v:VP) (k:Regs->β):β:=@Regs.rec (fun _=>β) (fun A B C E F G I J L M N O P Q T U=>k (.mk A B C E F G v J L M N O P Q T U)) p
def qs7 {β:Type} (p:Regs) (v:VP) (k:Regs->β):β:=@Regs.rec (fun _=>β) (fun A B C E F G I J L M N O P Q T U=>k (.mk A B C E F G I v L M N O P Q T U)) p
def qs8 {β:Type} (p:Regs) (v:VP) (k:Regs->β):β:=@Regs.rec (fun _=>β) (fun A B C E F G I J L M N O P Q T U=>k (.mk A B C E F G I J v M N O P Q T U)) p
def ZJ {β:Type} (p:Regs) (v:VP) (k:Regs->β):β:=@Regs.rec (fun _=>β) (fun A B C E F G I J L M N O P Q T U=>k (.mk A B C E F G I J L v N O P Q T U)) p
def XO {β:Type} (p:Regs) (v:VP) (k:Regs->β):β:=@Regs.rec (fun _=>β) (fun A B C E F G I J L M N O P Q T U=>k (.mk A B C E F G I J L M v O P Q T U)) p
def Xk {β:Type} (p:Regs) (v:VP) (k:Regs->β):β:=@Regs.rec (fun _=>β) (fun A B C E F G I J L M N O P Q T U=>k (.mk A B C E F G I J L M N v P Q T U)) p
def XM {β:Type} (p:Regs) (v:VP) (k:Regs->β):β:=@Regs.rec (fun _=>β) (fun A B C E F G I J L M N O P Q T U=>k (.mk A B C E F G I J L M N O v Q T U)) p
def YR {β:Type} (p:Regs) (v:VP) (k:Regs->β):β:=@Regs.rec (fun _=>β) (fun A B C E F G I J L M N O P Q T U=>k (.mk A B C E F G I J L M N O P v T U)) p
def XR {β:Type} (p:Regs) (v:VP) (k:Regs->β):β:=@Regs.rec (fun _=>β) (fun A B C E F G I J L M N O P Q T U=>k (.mk A B C E F G I J L M N O P Q v U)) p
def YW {β:Type} (p:Regs) (v:VP) (k:Regs->β):β:=@Regs.rec (fun _=>β) (fun A B C E F G I J L M N O P Q T U=>k (.mk A B C E F G I J L M N O P Q T v)) p
def qg0 {β:Type} (p:Regs) (k:VP->β):β:=@Regs.rec (fun _=>β) (fun A B C E F G I J L M N O P Q T U=>k A) p
def qg1 {β:Type} (p:Regs) (k:VP->β):β:=@Regs.rec (fun _=>β) (fun A B C E F G I J L M N O P Q T U=>k B) p
def qg2 {β:Type} (p:Regs) (k:VP->β):β:=@Regs.rec (fun _=>β) (fun A B C E F G I J L M N O P Q T U=>k C) p
def qg3 {β:Type} (p:Regs) (k:VP->β):β:=@Regs.rec (fun _=>β) (fun A B C E F G I J L M N O P Q T U=>k E) p
def ZZ {β:Type} (p:Regs) (k:VP->β):β:=@Regs.rec (fun _=>β) (fun A B C E F G I J L M N O P Q T U=>k F) p
def qg5 {β:Type} (p:Regs) (k:VP->β):β:=@Regs.rec (fun _=>β) (fun A B C E F G I J L M N O P Q T U=>k G) p
def qg6 {β:Type} (p:Regs) (k:VP->β):β:=@Regs.rec (fun _=>β) (fun A B C E F G I J L M N O P Q T U=>k I) p
def qg7 {β:Type} (p:Regs) (k:VP->β):β:=@Regs.rec (fun _=>β) (fun A B C E F G I J L M N O P Q T U=>k J) p
def qg8 {β:Type} (p:Regs) (k:VP->β):β:=@Regs.rec (fun _=>β) (fun A B C E F G I J L M N O P Q T U=>k L) p
def qg9 {β:Type} (p:Regs) (k:VP->β):β:=@Regs.rec (fun _=>β) (fun A B C E F G I J L M N O P Q T U=>k M) p
def Zf {β:Type} (p:Regs) (k:VP->β):β:=@Regs.rec (fun _=>β) (fun A B C E F G I J L M N O P Q T U=>k N) p
def Yi {β:Type} (p:Regs) (k:VP->β):β:=@Regs.rec (fun _=>β) (fun A B C E F G I J L M N O P Q T U=>k O) p
def Xi {β:Type} (p:Regs) (k:VP->β):β:=@Regs.rec (fun _=>β) (fun A B C E F G I J L M N O P Q T U=>k P) p
def Yc {β:Type} (p:Regs) (k:VP->β):β:=@Regs.rec (fun _=>β) (fun A B C E F G I J L M N O P Q T U=>k Q) p
def XA {β:Type} (p:Regs) (k:VP->β):β:=@Regs.rec (fun _=>β) (fun A B C E F G I J L M N O P Q T U=>k T) p
def Xx {β:Type} (p:Regs) (k:VP->β):β:=@Regs.rec (fun _=>β) (fun A B C E F G I J L M N O P Q T U=>k U) p
def Regs.selK {β:Type} (d:D):Regs->(VP->β)->β :=
 @D.rec (fun _=>Regs->(VP->β)->β) qg0 qg1 qg2 qg3 ZZ qg5 qg6 qg7 qg8 qg9 Zf Yi Xi Yc XA Xx d
theorem Regs.selK_eq {β:Type} (d:D) (p:Regs) (k:VP->β):Regs.selK d p k=k (Regs.sel d p):=by
 cases d <;> cases p <;> rfl
def Regs.setK {β:Type} (d:D):Regs->VP->(Regs->β)->β :=
 @D.rec (fun _=>Regs->VP->(Regs->β)->β) ZT qs1 qs2 qs3 ZF qs5 ZX qs7 qs8 ZJ XO Xk XM YR XR YW d
def Regs.setS (d:D) (p:Regs) (v:VP):Regs:=Regs.setK d p v id
theorem Regs.setK_eq {β:Type} (d:D) (p:Regs) (v:VP) (k:Regs->β):Regs.setK d p v k=k (Regs.setS d p v):=by
 cases d <;> cases p <;> rfl
theorem Regs.sel_setS_same (d:D) (p:Regs) (v:VP):Regs.sel d (Regs.setS d p v)=v:=by
 cases d <;> cases p <;> rfl
theorem Regs.sel_setS_ne {d e:D} (p:Regs) (v:VP) (h:d≠e):Regs.sel e (Regs.setS d p v)=Regs.sel e p:=by
 cases p; cases d <;> cases e <;> first | rfl | exact absurd rfl h
theorem Regs.sel_all (d:D) (x:VP):Regs.sel d (Regs.all x)=x:=by cases d <;> rfl
inductive HA where
 | mk (A B C E F G I J L M N O P Q T U:Cj)
def HA.all (x:Cj):HA:=.mk x x x x x x x x x x x x x x x x
def HA.sel (d:D) (p:HA):Cj :=
 @HA.rec (fun _=>Cj) (fun A B C E F G I J L M N O P Q T U=>@D.rec (fun _=>Cj) A B C E F G I J L M N O P Q T U d) p
def Xf {β:Type} (p:HA) (v:Cj) (k:HA->β):β:=@HA.rec (fun _=>β) (fun A B C E F G I J L M N O P Q T U=>k (.mk v B C E F G I J L M N O P Q T U)) p
def Z3 {β:Type} (p:HA) (v:Cj) (k:HA->β):β:=@HA.rec (fun _=>β) (fun A B C E F G I J L M N O P Q T U=>k (.mk A v C E F G I J L M N O P Q T U)) p
def Xv {β:Type} (p:HA) (v:Cj) (k:HA->β):β:=@HA.rec (fun _=>β) (fun A B C E F G I J L M N O P Q T U=>k (.mk A B v E F G I J L M N O P Q T U)) p
def Xr {β:Type} (p:HA) (v:Cj) (k:HA->β):β:=@HA.rec (fun _=>β) (fun A B C E F G I J L M N O P Q T U=>k (.mk A B C v F G I J L M N O P Q T U)) p
def XW {β:Type} (p:HA) (v:Cj) (k:HA->β):β:=@HA.rec (fun _=>β) (fun A B C E F G I J L M N O P Q T U=>k (.mk A B C E v G I J L M N O P Q T U)) p
def X3 {β:Type} (p:HA) (v:Cj) (k:HA->β):β:=@HA.rec (fun _=>β) (fun A B C E F G I J L M N O P Q T U=>k (.mk A B C E F v I J L M N O P Q T U)) p
def Xn {β:Type} (p:HA) (v:Cj) (k:HA->β):β:=@HA.rec (fun _=>β) (fun A B C E F G I J L M N O P Q T U=>k (.mk A B C E F G v J L M N O P Q T U)) p
def WU {β:Type} (p:HA) (v:Cj) (k:HA->β):β:=@HA.rec (fun _=>β) (fun A B C E F G I J L M N O P Q T U=>k (.mk A B C E F G I v L M N O P Q T U)) p
def Y0 {β:Type} (p:HA) (v:Cj) (k:HA->β):β:=@HA.rec (fun _=>β) (fun A B C E F G I J L M N O P Q T U=>k (.mk A B C E F G I J v M N O P Q T U)) p
def XP {β:Type} (p:HA) (v:Cj) (k:HA->β):β:=@HA.rec (fun _=>β) (fun A B C E F G I J L M N O P Q T U=>k (.mk A B C E F G I J L v N O P Q T U)) p
def UT {β:Type} (p:HA) (v:Cj) (k:HA->β):β:=@HA.rec (fun _=>β) (fun A B C E F G I J L M N O P Q T U=>k (.mk A B C E F G I J L M v O P Q T U)) p
def UM {β:Type} (p:HA) (v:Cj) (k:HA->β):β:=@HA.rec (fun _=>β) (fun A B C E F G I J L M N O P Q T U=>k (.mk A B C E F G I J L M N v P Q T U)) p
def UX {β:Type} (p:HA) (v:Cj) (k:HA->β):β:=@HA.rec (fun _=>β) (fun A B C E F G I J L M N O P Q T U=>k (.mk A B C E F G I J L M N O v Q T U)) p
def UD {β:Type} (p:HA) (v:Cj) (k:HA->β):β:=@HA.rec (fun _=>β) (fun A B C E F G I J L M N O P Q T U=>k (.mk A B C E F G I J L M N O P v T U)) p
def UG {β:Type} (p:HA) (v:Cj) (k:HA->β):β:=@HA.rec (fun _=>β) (fun A B C E F G I J L M N O P Q T U=>k (.mk A B C E F G I J L M N O P Q v U)) p
def W8 {β:Type} (p:HA) (v:Cj) (k:HA->β):β:=@HA.rec (fun _=>β) (fun A B C E F G I J L M N O P Q T U=>k (.mk A B C E F G I J L M N O P Q T v)) p
def X9 {β:Type} (p:HA) (k:Cj->β):β:=@HA.rec (fun _=>β) (fun A B C E F G I J L M N O P Q T U=>k A) p
def Y1 {β:Type} (p:HA) (k:Cj->β):β:=@HA.rec (fun _=>β) (fun A B C E F G I J L M N O P Q T U=>k B) p
def X7 {β:Type} (p:HA) (k:Cj->β):β:=@HA.rec (fun _=>β) (fun A B C E F G I J L M N O P Q T U=>k C) p
def WX {β:Type} (p:HA) (k:Cj->β):β:=@HA.rec (fun _=>β) (fun A B C E F G I J L M N O P Q T U=>k E) p
def WW {β:Type} (p:HA) (k:Cj->β):β:=@HA.rec (fun _=>β) (fun A B C E F G I J L M N O P Q T U=>k F) p
def Yz {β:Type} (p:HA) (k:Cj->β):β:=@HA.rec (fun _=>β) (fun A B C E F G I J L M N O P Q T U=>k G) p
def Xw {β:Type} (p:HA) (k:Cj->β):β:=@HA.rec (fun _=>β) (fun A B C E F G I J L M N O P Q T U=>k I) p
def WN {β:Type} (p:HA) (k:Cj->β):β:=@HA.rec (fun _=>β) (fun A B C E F G I J L M N O P Q T U=>k J) p
def YX {β:Type} (p:HA) (k:Cj->β):β:=@HA.rec (fun _=>β) (fun A B C E F G I J L M N O P Q T U=>k L) p
def Yw {β:Type} (p:HA) (k:Cj->β):β:=@HA.rec (fun _=>β) (fun A B C E F G I J L M N O P Q T U=>k M) p
def Vg {β:Type} (p:HA) (k:Cj->β):β:=@HA.rec (fun _=>β) (fun A B C E F G I J L M N O P Q T U=>k N) p
def Vf {β:Type} (p:HA) (k:Cj->β):β:=@HA.rec (fun _=>β) (fun A B C E F G I J L M N O P Q T U=>k O) p
def V7 {β:Type} (p:HA) (k:Cj->β):β:=@HA.rec (fun _=>β) (fun A B C E F G I J L M N O P Q T U=>k P) p
def UO {β:Type} (p:HA) (k:Cj->β):β:=@HA.rec (fun _=>β) (fun A B C E F G I J L M N O P Q T U=>k Q) p
def UA {β:Type} (p:HA) (k:Cj->β):β:=@HA.rec (fun _=>β) (fun A B C E F G I J L M N O P Q T U=>k T) p
def VH {β:Type} (p:HA) (k:Cj->β):β:=@HA.rec (fun _=>β) (fun A B C E F G I J L M N O P Q T U=>k U) p
def HA.selK {β:Type} (d:D):HA->(Cj->β)->β :=
 @D.rec (fun _=>HA->(Cj->β)->β) X9 Y1 X7 WX WW Yz Xw WN YX Yw Vg Vf V7 UO UA VH d
theorem HA.selK_eq {β:Type} (d:D) (p:HA) (k:Cj->β):HA.selK d p k=k (HA.sel d p):=by
 cases d <;> cases p <;> rfl
def HA.setK {β:Type} (d:D):HA->Cj->(HA->β)->β :=
 @D.rec (fun _=>HA->Cj->(HA->β)->β) Xf Z3 Xv Xr XW X3 Xn WU Y0 XP UT UM UX UD UG W8 d
def HA.setS (d:D) (p:HA) (v:Cj):HA:=HA.setK d p v id
theorem HA.setK_eq {β:Type} (d:D) (p:HA) (v:Cj) (k:HA->β):HA.setK d p v k=k (HA.setS d p v):=by
 cases d <;> cases p <;> rfl
theorem HA.sel_setS_same (d:D) (p:HA) (v:Cj):HA.sel d (HA.setS d p v)=v:=by
 cases d <;> cases p <;> rfl
theorem HA.sel_setS_ne {d e:D} (p:HA) (v:Cj) (h:d≠e):HA.sel e (HA.setS d p v)=HA.sel e p:=by
 cases p; cases d <;> cases e <;> first | rfl | exact absurd rfl h
theorem HA.sel_all (d:D) (x:Cj):HA.sel d (HA.all x)=x:=by cases d <;> rfl
inductive HB where
 | mk (A B C E F G I J L M N O P Q T U:HA)
def HB.all (x:HA):HB:=.mk x x x x x x x x x x x x x x x x
def HB.sel (d:D) (p:HB):HA :=
 @HB.rec (fun _=>HA) (fun A B C E F G I J L M N O P Q T U=>@D.rec (fun _=>HA) A B C E F G I J L M N O P Q T U d) p
def WD {β:Type} (p:HB) (v:HA) (k:HB->β):β:=@HB.rec (fun _=>β) (fun A B C E F G I J L M N O P Q T U=>k (.mk v B C E F G I J L M N O P Q T U)) p
def YE {β:Type} (p:HB) (v:HA) (k:HB->β):β:=@HB.rec (fun _=>β) (fun A B C E F G I J L M N O P Q T U=>k (.mk A v C E F G I J L M N O P Q T U)) p
def Z4 {β:Type} (p:HB) (v:HA) (k:HB->β):β:=@HB.rec (fun _=>β) (fun A B C E F G I J L M N O P Q T U=>k (.mk A B v E F G I J L M N O P Q T U)) p
def YD {β:Type} (p:HB) (v:HA) (k:HB->β):β:=@HB.rec (fun _=>β) (fun A B C E F G I J L M N O P Q T U=>k (.mk A B C v F G I J L M N O P Q T U)) p
def Yt {β:Type} (p:HB) (v:HA) (k:HB->β):β:=@HB.rec (fun _=>β) (fun A B C E F G I J L M N O P Q T U=>k (.mk A B C E v G I J L M N O P Q T U)) p
def Zn {β:Type} (p:HB) (v:HA) (k:HB->β):β:=@HB.rec (fun _=>β) (fun A B C E F G I J L M N O P Q T U=>k (.mk A B C E F v I J L M N O P Q T U)) p
def Xu {β:Type} (p:HB) (v:HA) (k:HB->β):β:=@HB.rec (fun _=>β) (fun A B C E F G I J L M N O P Q T U=>k (.mk A B C E F G v J L M N O P Q T U)) p
def Z5 {β:Type} (p:HB) (v:HA) (k:HB->β):β:=@HB.rec (fun _=>β) (fun A B C E F G I J L M N O P Q T U=>k (.mk A B C E F G I v L M N O P Q T U)) p
def YL {β:Type} (p:HB) (v:HA) (k:HB->β):β:=@HB.rec (fun _=>β) (fun A B C E F G I J L M N O P Q T U=>k (.mk A B C E F G I J v M N O P Q T U)) p
def XF {β:Type} (p:HB) (v:HA) (k:HB->β):β:=@HB.rec (fun _=>β) (fun A B C E F G I J L M N O P Q T U=>k (.mk A B C E F G I J L v N O P Q T U)) p
def W4 {β:Type} (p:HB) (v:HA) (k:HB->β):β:=@HB.rec (fun _=>β) (fun A B C E F G I J L M N O P Q T U=>k (.mk A B C E F G I J L M v O P Q T U)) p
def Vz {β:Type} (p:HB) (v:HA) (k:HB->β):β:=@HB.rec (fun _=>β) (fun A B C E F G I J L M N O P Q T U=>k (.mk A B C E F G I J L M N v P Q T U)) p
def VC {β:Type} (p:HB) (v:HA) (k:HB->β):β:=@HB.rec (fun _=>β) (fun A B C E F G I J L M N O P Q T U=>k (.mk A B C E F G I J L M N O v Q T U)) p
def Va {β:Type} (p:HB) (v:HA) (k:HB->β):β:=@HB.rec (fun _=>β) (fun A B C E F G I J L M N O P Q T U=>k (.mk A B C E F G I J L M N O P v T U)) p
def Vt {β:Type} (p:HB) (v:HA) (k:HB->β):β:=@HB.rec (fun _=>β) (fun A B C E F G I J L M N O P Q T U=>k (.mk A B C E F G I J L M N O P Q v U)) p
def V0 {β:Type} (p:HB) (v:HA) (k:HB->β):β:=@HB.rec (fun _=>β) (fun A B C E F G I J L M N O P Q T U=>k (.mk A B C E F G I J L M N O P Q T v)) p
def WF {β:Type} (p:HB) (k:HA->β):β:=@HB.rec (fun _=>β) (fun A B C E F G I J L M N O P Q T U=>k A) p
def Yu {β:Type} (p:HB) (k:HA->β):β:=@HB.rec (fun _=>β) (fun A B C E F G I J L M N O P Q T U=>k B) p
def Xm {β:Type} (p:HB) (k:HA->β):β:=@HB.rec (fun _=>β) (fun A B C E F G I J L M N O P Q T U=>k C) p
def Yd {β:Type} (p:HB) (k:HA->β):β:=@HB.rec (fun _=>β) (fun A B C E F G I J L M N O P Q T U=>k E) p
def YI {β:Type} (p:HB) (k:HA->β):β:=@HB.rec (fun _=>β) (fun A B C E F G I J L M N O P Q T U=>k F) p
def Xt {β:Type} (p:HB) (k:HA->β):β:=@HB.rec (fun _=>β) (fun A B C E F G I J L M N O P Q T U=>k G) p
def Yk {β:Type} (p:HB) (k:HA->β):β:=@HB.rec (fun _=>β) (fun A B C E F G I J L M N O P Q T U=>k I) p
def WJ {β:Type} (p:HB) (k:HA->β):β:=@HB.rec (fun _=>β) (fun A B C E F G I J L M N O P Q T U=>k J) p
def Yp {β:Type} (p:HB) (k:HA->β):β:=@HB.rec (fun _=>β) (fun A B C E F G I J L M N O P Q T U=>k L) p
def Xc {β:Type} (p:HB) (k:HA->β):β:=@HB.rec (fun _=>β) (fun A B C E F G I J L M N O P Q T U=>k M) p
def UU {β:Type} (p:HB) (k:HA->β):β:=@HB.rec (fun _=>β) (fun A B C E F G I J L M N O P Q T U=>k N) p
def VZ {β:Type} (p:HB) (k:HA->β):β:=@HB.rec (fun _=>β) (fun A B C E F G I J L M N O P Q T U=>k O) p
def VR {β:Type} (p:HB) (k:HA->β):β:=@HB.rec (fun _=>β) (fun A B C E F G I J L M N O P Q T U=>k P) p
def VF {β:Type} (p:HB) (k:HA->β):β:=@HB.rec (fun _=>β) (fun A B C E F G I J L M N O P Q T U=>k Q) p
def VQ {β:Type} (p:HB) (k:HA->β):β:=@HB.rec (fun _=>β) (fun A B C E F G I J L M N O P Q T U=>k T) p
def V9 {β:Type} (p:HB) (k:HA->β):β:=@HB.rec (fun _=>β) (fun A B C E F G I J L M N O P Q T U=>k U) p
def HB.selK {β:Type} (d:D):HB->(HA->β)->β :=
 @D.rec (fun _=>HB->(HA->β)->β) WF Yu Xm Yd YI Xt Yk WJ Yp Xc UU VZ VR VF VQ V9 d
theorem HB.selK_eq {β:Type} (d:D) (p:HB) (k:HA->β):HB.selK d p k=k (HB.sel d p):=by
 cases d <;> cases p <;> rfl
def HB.setK {β:Type} (d:D):HB->HA->(HB->β)->β :=
 @D.rec (fun _=>HB->HA->(HB->β)->β) WD YE Z4 YD Yt Zn Xu Z5 YL XF W4 Vz VC Va Vt V0 d
def HB.setS (d:D) (p:HB) (v:HA):HB:=HB.setK d p v id
theorem HB.setK_eq {β:Type} (d:D) (p:HB) (v:HA) (k:HB->β):HB.setK d p v k=k (HB.setS d p v):=by
 cases d <;> cases p <;> rfl
theorem HB.sel_setS_same (d:D) (p:HB) (v:HA):HB.sel d (HB.setS d p v)=v:=by
 cases d <;> cases p <;> rfl
theorem HB.sel_setS_ne {d e:D} (p:HB) (v:HA) (h:d≠e):HB.sel e (HB.setS d p v)=HB.sel e p:=by
 cases p; cases d <;> cases e <;> first | rfl | exact absurd rfl h
theorem HB.sel_all (d:D) (x:HA):HB.sel d (HB.all x)=x:=by cases d <;> rfl
inductive HC where
 | mk (A B C E F G I J L M N O P Q T U:HB)
def HC.all (x:HB):HC:=.mk x x x x x x x x x x x x x x x x
def HC.sel (d:D) (p:HC):HB :=
 @HC.rec (fun _=>HB) (fun A B C E F G I J L M N O P Q T U=>@D.rec (fun _=>HB) A B C E F G I J L M N O P Q T U d) p
def WI {β:Type} (p:HC) (v:HB) (k:HC->β):β:=@HC.rec (fun _=>β) (fun A B C E F G I J L M N O P Q T U=>k (.mk v B C E F G I J L M N O P Q T U)) p
def Z6 {β:Type} (p:HC) (v:HB) (k:HC->β):β:=@HC.rec (fun _=>β) (fun A B C E F G I J L M N O P Q T U=>k (.mk A v C E F G I J L M N O P Q T U)) p
def Yo {β:Type} (p:HC) (v:HB) (k:HC->β):β:=@HC.rec (fun _=>β) (fun A B C E F G I J L M N O P Q T U=>k (.mk A B v E F G I J L M N O P Q T U)) p
def XT {β:Type} (p:HC) (v:HB) (k:HC->β):β:=@HC.rec (fun _=>β) (fun A B C E F G I J L M N O P Q T U=>k (.mk A B C v F G I J L M N O P Q T U)) p
def YV {β:Type} (p:HC) (v:HB) (k:HC->β):β:=@HC.rec (fun _=>β) (fun A B C E F G I J L M N O P Q T U=>k (.mk A B C E v G I J L M N O P Q T U)) p
def XI {β:Type} (p:HC) (v:HB) (k:HC->β):β:=@HC.rec (fun _=>β) (fun A B C E F G I J L M N O P Q T U=>k (.mk A B C E F v I J L M N O P Q T U)) p
def YU {β:Type} (p:HC) (v:HB) (k:HC->β):β:=@HC.rec (fun _=>β) (fun A B C E F G I J L M N O P Q T U=>k (.mk A B C E F G v J L M N O P Q T U)) p
def Yr {β:Type} (p:HC) (v:HB) (k:HC->β):β:=@HC.rec (fun _=>β) (fun A B C E F G I J L M N O P Q T U=>k (.mk A B C E F G I v L M N O P Q T U)) p
def X4 {β:Type} (p:HC) (v:HB) (k:HC->β):β:=@HC.rec (fun _=>β) (fun A B C E F G I J L M N O P Q T U=>k (.mk A B C E F G I J v M N O P Q T U)) p
def XB {β:Type} (p:HC) (v:HB) (k:HC->β):β:=@HC.rec (fun _=>β) (fun A B C E F G I J L M N O P Q T U=>k (.mk A B C E F G I J L v N O P Q T U)) p
def VX {β:Type} (p:HC) (v:HB) (k:HC->β):β:=@HC.rec (fun _=>β) (fun A B C E F G I J L M N O P Q T U=>k (.mk A B C E F G I J L M v O P Q T U)) p
def UY {β:Type} (p:HC) (v:HB) (k:HC->β):β:=@HC.rec (fun _=>β) (fun A B C E F G I J L M N O P Q T U=>k (.mk A B C E F G I J L M N v P Q T U)) p
def Vp {β:Type} (p:HC) (v:HB) (k:HC->β):β:=@HC.rec (fun _=>β) (fun A B C E F G I J L M N O P Q T U=>k (.mk A B C E F G I J L M N O v Q T U)) p
def Wf {β:Type} (p:HC) (v:HB) (k:HC->β):β:=@HC.rec (fun _=>β) (fun A B C E F G I J L M N O P Q T U=>k (.mk A B C E F G I J L M N O P v T U)) p
def VD {β:Type} (p:HC) (v:HB) (k:HC->β):β:=@HC.rec (fun _=>β) (fun A B C E F G I J L M N O P Q T U=>k (.mk A B C E F G I J L M N O P Q v U)) p
def VN {β:Type} (p:HC) (v:HB) (k:HC->β):β:=@HC.rec (fun _=>β) (fun A B C E F G I J L M N O P Q T U=>k (.mk A B C E F G I J L M N O P Q T v)) p
def Y4 {β:Type} (p:HC) (k:HB->β):β:=@HC.rec (fun _=>β) (fun A B C E F G I J L M N O P Q T U=>k A) p
def YY {β:Type} (p:HC) (k:HB->β):β:=@HC.rec (fun _=>β) (fun A B C E F G I J L M N O P Q T U=>k B) p
def YA {β:Type} (p:HC) (k:HB->β):β:=@HC.rec (fun _=>β) (fun A B C E F G I J L M N O P Q T U=>k C) p
def Y5 {β:Type} (p:HC) (k:HB->β):β:=@HC.rec (fun _=>β) (fun A B C E F G I J L M N O P Q T U=>k E) p
def Zi {β:Type} (p:HC) (k:HB->β):β:=@HC.rec (fun _=>β) (fun A B C E F G I J L M N O P Q T U=>k F) p
def YF {β:Type} (p:HC) (k:HB->β):β:=@HC.rec (fun _=>β) (fun A B C E F G I J L M N O P Q T U=>k G) p
def Y3 {β:Type} (p:HC) (k:HB->β):β:=@HC.rec (fun _=>β) (fun A B C E F G I J L M N O P Q T U=>k I) p
def Y6 {β:Type} (p:HC) (k:HB->β):β:=@HC.rec (fun _=>β) (fun A B C E F G I J L M N O P Q T U=>k J) p
def Xh {β:Type} (p:HC) (k:HB->β):β:=@HC.rec (fun _=>β) (fun A B C E F G I J L M N O P Q T U=>k L) p
def X5 {β:Type} (p:HC) (k:HB->β):β:=@HC.rec (fun _=>β) (fun A B C E F G I J L M N O P Q T U=>k M) p
def VT {β:Type} (p:HC) (k:HB->β):β:=@HC.rec (fun _=>β) (fun A B C E F G I J L M N O P Q T U=>k N) p
def VM {β:Type} (p:HC) (k:HB->β):β:=@HC.rec (fun _=>β) (fun A B C E F G I J L M N O P Q T U=>k O) p
def Vh {β:Type} (p:HC) (k:HB->β):β:=@HC.rec (fun _=>β) (fun A B C E F G I J L M N O P Q T U=>k P) p
def Vy {β:Type} (p:HC) (k:HB->β):β:=@HC.rec (fun _=>β) (fun A B C E F G I J L M N O P Q T U=>k Q) p
def VE {β:Type} (p:HC) (k:HB->β):β:=@HC.rec (fun _=>β) (fun A B C E F G I J L M N O P Q T U=>k T) p
def UQ {β:Type} (p:HC) (k:HB->β):β:=@HC.rec (fun _=>β) (fun A B C E F G I J L M N O P Q T U=>k U) p
def HC.selK {β:Type} (d:D):HC->(HB->β)->β :=
 @D.rec (fun _=>HC->(HB->β)->β) Y4 YY YA Y5 Zi YF Y3 Y6 Xh X5 VT VM Vh Vy VE UQ d
theorem HC.selK_eq {β:Type} (d:D) (p:HC) (k:HB->β):HC.selK d p k=k (HC.sel d p):=by
 cases d <;> cases p <;> rfl
def HC.setK {β:Type} (d:D):HC->HB->(HC->β)->β :=
 @D.rec (fun _=>HC->HB->(HC->β)->β) WI Z6 Yo XT YV XI YU Yr X4 XB VX UY Vp Wf VD VN d
def HC.setS (d:D) (p:HC) (v:HB):HC:=HC.setK d p v id
theorem HC.setK_eq {β:Type} (d:D) (p:HC) (v:HB) (k:HC->β):HC.setK d p v k=k (HC.setS d p v):=by
 cases d <;> cases p <;> rfl
theorem HC.sel_setS_same (d:D) (p:HC) (v:HB):HC.sel d (HC.setS d p v)=v:=by
 cases d <;> cases p <;> rfl
theorem HC.sel_setS_ne {d e:D} (p:HC) (v:HB) (h:d≠e):HC.sel e (HC.setS d p v)=HC.sel e p:=by
 cases p; cases d <;> cases e <;> first | rfl | exact absurd rfl h
theorem HC.sel_all (d:D) (x:HB):HC.sel d (HC.all x)=x:=by cases d <;> rfl
inductive Heap where
 | mk (A B C E F G I J L M N O P Q T U:HC)
def Heap.all (x:HC):Heap:=.mk x x x x x x x x x x x x x x x x
def Heap.sel (d:D) (p:Heap):HC :=
 @Heap.rec (fun _=>HC) (fun A B C E F G I J L M N O P Q T U=>@D.rec (fun _=>HC) A B C E F G I J L M N O P Q T U d) p
def Za {β:Type} (p:Heap) (v:HC) (k:Heap->β):β:=@Heap.rec (fun _=>β) (fun A B C E F G I J L M N O P Q T U=>k (.mk v B C E F G I J L M N O P Q T U)) p
def YQ {β:Type} (p:Heap) (v:HC) (k:Heap->β):β:=@Heap.rec (fun _=>β) (fun A B C E F G I J L M N O P Q T U=>k (.mk A v C E F G I J L M N O P Q T U)) p
def Xy {β:Type} (p:Heap) (v:HC) (k:Heap->β):β:=@Heap.rec (fun _=>β) (fun A B C E F G I J L M N O P Q T U=>k (.mk A B v E F G I J L M N O P Q T U)) p
def WZ {β:Type} (p:Heap) (v:HC) (k:Heap->β):β:=@Heap.rec (fun _=>β) (fun A B C E F G I J L M N O P Q T U=>k (.mk A B C v F G I J L M N O P Q T U)) p
def Wx {β:Type} (p:Heap) (v:HC) (k:Heap->β):β:=@Heap.rec (fun _=>β) (fun A B C E F G I J L M N O P Q T U=>k (.mk A B C E v G I J L M N O P Q T U)) p
def XZ {β:Type} (p:Heap) (v:HC) (k:Heap->β):β:=@Heap.rec (fun _=>β) (fun A B C E F G I J L M N O P Q T U=>k (.mk A B C E F v I J L M N O P Q T U)) p
def Xg {β:Type} (p:Heap) (v:HC) (k:Heap->β):β:=@Heap.rec (fun _=>β) (fun A B C E F G I J L M N O P Q T U=>k (.mk A B C E F G v J L M N O P Q T U)) p
def WL {β:Type} (p:Heap) (v:HC) (k:Heap->β):β:=@Heap.rec (fun _=>β) (fun A B C E F G I J L M N O P Q T U=>k (.mk A B C E F G I v L M N O P Q T U)) p
def Xp {β:Type} (p:Heap) (v:HC) (k:Heap->β):β:=@Heap.rec (fun _=>β) (fun A B C E F G I J L M N O P Q T U=>k (.mk A B C E F G I J v M N O P Q T U)) p
def Yh {β:Type} (p:Heap) (v:HC) (k:Heap->β):β:=@Heap.rec (fun _=>β) (fun A B C E F G I J L M N O P Q T U=>k (.mk A B C E F G I J L v N O P Q T U)) p
def VL {β:Type} (p:Heap) (v:HC) (k:Heap->β):β:=@Heap.rec (fun _=>β) (fun A B C E F G I J L M N O P Q T U=>k (.mk A B C E F G I J L M v O P Q T U)) p
def Vn {β:Type} (p:Heap) (v:HC) (k:Heap->β):β:=@Heap.rec (fun _=>β) (fun A B C E F G I J L M N O P Q T U=>k (.mk A B C E F G I J L M N v P Q T U)) p
def UV {β:Type} (p:Heap) (v:HC) (k:Heap->β):β:=@Heap.rec (fun _=>β) (fun A B C E F G I J L M N O P Q T U=>k (.mk A B C E F G I J L M N O v Q T U)) p
def Wd {β:Type} (p:Heap) (v:HC) (k:Heap->β):β:=@Heap.rec (fun _=>β) (fun A B C E F G I J L M N O P Q T U=>k (.mk A B C E F G I J L M N O P v T U)) p
def Vd {β:Type} (p:Heap) (v:HC) (k:Heap->β):β:=@Heap.rec (fun _=>β) (fun A B C E F G I J L M N O P Q T U=>k (.mk A B C E F G I J L M N O P Q v U)) p
def W7 {β:Type} (p:Heap) (v:HC) (k:Heap->β):β:=@Heap.rec (fun _=>β) (fun A B C E F G I J L M N O P Q T U=>k (.mk A B C E F G I J L M N O P Q T v)) p
def Yn {β:Type} (p:Heap) (k:HC->β):β:=@Heap.rec (fun _=>β) (fun A B C E F G I J L M N O P Q T U=>k A) p
def Y2 {β:Type} (p:Heap) (k:HC->β):β:=@Heap.rec (fun _=>β) (fun A B C E F G I J L M N O P Q T U=>k B) p
def Z0 {β:Type} (p:Heap) (k:HC->β):β:=@Heap.rec (fun _=>β) (fun A B C E F G I J L M N O P Q T U=>k C) p
def Zb {β:Type} (p:Heap) (k:HC->β):β:=@Heap.rec (fun _=>β) (fun A B C E F G I J L M N O P Q T U=>k E) p
def YB {β:Type} (p:Heap) (k:HC->β):β:=@Heap.rec (fun _=>β) (fun A B C E F G I J L M N O P Q T U=>k F) p
def WS {β:Type} (p:Heap) (k:HC->β):β:=@Heap.rec (fun _=>β) (fun A B C E F G I J L M N O P Q T U=>k G) p
def Zp {β:Type} (p:Heap) (k:HC->β):β:=@Heap.rec (fun _=>β) (fun A B C E F G I J L M N O P Q T U=>k I) p
def Xl {β:Type} (p:Heap) (k:HC->β):β:=@Heap.rec (fun _=>β) (fun A B C E F G I J L M N O P Q T U=>k J) p
def YH {β:Type} (p:Heap) (k:HC->β):β:=@Heap.rec (fun _=>β) (fun A B C E F G I J L M N O P Q T U=>k L) p
def Zc {β:Type} (p:Heap) (k:HC->β):β:=@Heap.rec (fun _=>β) (fun A B C E F G I J L M N O P Q T U=>k M) p
def VA {β:Type} (p:Heap) (k:HC->β):β:=@Heap.rec (fun _=>β) (fun A B C E F G I J L M N O P Q T U=>k N) p
def VK {β:Type} (p:Heap) (k:HC->β):β:=@Heap.rec (fun _=>β) (fun A B C E F G I J L M N O P Q T U=>k O) p
def VO {β:Type} (p:Heap) (k:HC->β):β:=@Heap.rec (fun _=>β) (fun A B C E F G I J L M N O P Q T U=>k P) p
def V6 {β:Type} (p:Heap) (k:HC->β):β:=@Heap.rec (fun _=>β) (fun A B C E F G I J L M N O P Q T U=>k Q) p
def Wa {β:Type} (p:Heap) (k:HC->β):β:=@Heap.rec (fun _=>β) (fun A B C E F G I J L M N O P Q T U=>k T) p
def Vr {β:Type} (p:Heap) (k:HC->β):β:=@Heap.rec (fun _=>β) (fun A B C E F G I J L M N O P Q T U=>k U) p
def Heap.selK {β:Type} (d:D):Heap->(HC->β)->β :=
 @D.rec (fun _=>Heap->(HC->β)->β) Yn Y2 Z0 Zb YB WS Zp Xl YH Zc VA VK VO V6 Wa Vr d
theorem Heap.selK_eq {β:Type} (d:D) (p:Heap) (k:HC->β):Heap.selK d p k=k (Heap.sel d p):=by
 cases d <;> cases p <;> rfl
def Heap.setK {β:Type} (d:D):Heap->HC->(Heap->β)->β :=
 @D.rec (fun _=>Heap->HC->(Heap->β)->β) Za YQ Xy WZ Wx XZ Xg WL Xp Yh VL Vn UV Wd Vd W7 d
def Heap.setS (d:D) (p:Heap) (v:HC):Heap:=Heap.setK d p v id
theorem Heap.setK_eq {β:Type} (d:D) (p:Heap) (v:HC) (k:Heap->β):Heap.setK d p v k=k (Heap.setS d p v):=by
 cases d <;> cases p <;> rfl
theorem Heap.sel_setS_same (d:D) (p:Heap) (v:HC):Heap.sel d (Heap.setS d p v)=v:=by
 cases d <;> cases p <;> rfl
theorem Heap.sel_setS_ne {d e:D} (p:Heap) (v:HC) (h:d≠e):Heap.sel e (Heap.setS d p v)=Heap.sel e p:=by
 cases p; cases d <;> cases e <;> first | rfl | exact absurd rfl h
theorem Heap.sel_all (d:D) (x:HC):Heap.sel d (Heap.all x)=x:=by cases d <;> rfl
inductive O8 where
 | d0 | d1 | d2 | d3 | d4 | d5 | d6 | d7
inductive O4 where
 | d0 | d1 | d2 | d3
inductive SQ where
 | mk (c0 c1 c2 c3:V)
def SQ.all (x:V):SQ:=.mk x x x x
def SQ.sel (d:O4) (p:SQ):V :=
 @SQ.rec (fun _=>V) (fun c0 c1 c2 c3=>@O4.rec (fun _=>V) c0 c1 c2 c3 d) p
def YG {β:Type} (p:SQ) (v:V) (k:SQ->β):β:=@SQ.rec (fun _=>β) (fun c0 c1 c2 c3=>k (.mk v c1 c2 c3)) p
def XS {β:Type} (p:SQ) (v:V) (k:SQ->β):β:=@SQ.rec (fun _=>β) (fun c0 c1 c2 c3=>k (.mk c0 v c2 c3)) p
def Xe {β:Type} (p:SQ) (v:V) (k:SQ->β):β:=@SQ.rec (fun _=>β) (fun c0 c1 c2 c3=>k (.mk c0 c1 v c3)) p
def Y9 {β:Type} (p:SQ) (v:V) (k:SQ->β):β:=@SQ.rec (fun _=>β) (fun c0 c1 c2 c3=>k (.mk c0 c1 c2 v)) p
def WT {β:Type} (p:SQ) (k:V->β):β:=@SQ.rec (fun _=>β) (fun c0 c1 c2 c3=>k c0) p
def Xa {β:Type} (p:SQ) (k:V->β):β:=@SQ.rec (fun _=>β) (fun c0 c1 c2 c3=>k c1) p
def XJ {β:Type} (p:SQ) (k:V->β):β:=@SQ.rec (fun _=>β) (fun c0 c1 c2 c3=>k c2) p
def WO {β:Type} (p:SQ) (k:V->β):β:=@SQ.rec (fun _=>β) (fun c0 c1 c2 c3=>k c3) p
def SQ.selK {β:Type} (d:O4):SQ->(V->β)->β :=
 @O4.rec (fun _=>SQ->(V->β)->β) WT Xa XJ WO d
theorem SQ.selK_eq {β:Type} (d:O4) (p:SQ) (k:V->β):SQ.selK d p k=k (SQ.sel d p):=by
 cases d <;> cases p <;> rfl
def SQ.setK {β:Type} (d:O4):SQ->V->(SQ->β)->β :=
 @O4.rec (fun _=>SQ->V->(SQ->β)->β) YG XS Xe Y9 d
def SQ.setS (d:O4) (p:SQ) (v:V):SQ:=SQ.setK d p v id
theorem SQ.setK_eq {β:Type} (d:O4) (p:SQ) (v:V) (k:SQ->β):SQ.setK d p v k=k (SQ.setS d p v):=by
 cases d <;> cases p <;> rfl
theorem SQ.sel_setS_same (d:O4) (p:SQ) (v:V):SQ.sel d (SQ.setS d p v)=v:=by
 cases d <;> cases p <;> rfl
theorem SQ.sel_setS_ne {d e:O4} (p:SQ) (v:V) (h:d≠e):SQ.sel e (SQ.setS d p v)=SQ.sel e p:=by
 cases p; cases d <;> cases e <;> first | rfl | exact absurd rfl h
theorem SQ.sel_all (d:O4) (x:V):SQ.sel d (SQ.all x)=x:=by cases d <;> rfl
inductive S where
 | mk (c0 c1 c2 c3 c4 c5 c6 c7:SQ)
def S.all (x:SQ):S:=.mk x x x x x x x x
def S.sel (d:O8) (p:S):SQ :=
 @S.rec (fun _=>SQ) (fun c0 c1 c2 c3 c4 c5 c6 c7=>@O8.rec (fun _=>SQ) c0 c1 c2 c3 c4 c5 c6 c7 d) p
def Ym {β:Type} (p:S) (v:SQ) (k:S->β):β:=@S.rec (fun _=>β) (fun c0 c1 c2 c3 c4 c5 c6 c7=>k (.mk v c1 c2 c3 c4 c5 c6 c7)) p
def Wy {β:Type} (p:S) (v:SQ) (k:S->β):β:=@S.rec (fun _=>β) (fun c0 c1 c2 c3 c4 c5 c6 c7=>k (.mk c0 v c2 c3 c4 c5 c6 c7)) p
def X6 {β:Type} (p:S) (v:SQ) (k:S->β):β:=@S.rec (fun _=>β) (fun c0 c1 c2 c3 c4 c5 c6 c7=>k (.mk c0 c1 v c3 c4 c5 c6 c7)) p
def WC {β:Type} (p:S) (v:SQ) (k:S->β):β:=@S.rec (fun _=>β) (fun c0 c1 c2 c3 c4 c5 c6 c7=>k (.mk c0 c1 c2 v c4 c5 c6 c7)) p
def Yj {β:Type} (p:S) (v:SQ) (k:S->β):β:=@S.rec (fun _=>β) (fun c0 c1 c2 c3 c4 c5 c6 c7=>k (.mk c0 c1 c2 c3 v c5 c6 c7)) p
def WV {β:Type} (p:S) (v:SQ) (k:S->β):β:=@S.rec (fun _=>β) (fun c0 c1 c2 c3 c4 c5 c6 c7=>k (.mk c0 c1 c2 c3 c4 v c6 c7)) p
def XH {β:Type} (p:S) (v:SQ) (k:S->β):β:=@S.rec (fun _=>β) (fun c0 c1 c2 c3 c4 c5 c6 c7=>k (.mk c0 c1 c2 c3 c4 c5 v c7)) p
def WB {β:Type} (p:S) (v:SQ) (k:S->β):β:=@S.rec (fun _=>β) (fun c0 c1 c2 c3 c4 c5 c6 c7=>k (.mk c0 c1 c2 c3 c4 c5 c6 v)) p
def Zm {β:Type} (p:S) (k:SQ->β):β:=@S.rec (fun _=>β) (fun c0 c1 c2 c3 c4 c5 c6 c7=>k c0) p
def YK {β:Type} (p:S) (k:SQ->β):β:=@S.rec (fun _=>β) (fun c0 c1 c2 c3 c4 c5 c6 c7=>k c1) p
def Yf {β:Type} (p:S) (k:SQ->β):β:=@S.rec (fun _=>β) (fun c0 c1 c2 c3 c4 c5 c6 c7=>k c2) p
def YN {β:Type} (p:S) (k:SQ->β):β:=@S.rec (fun _=>β) (fun c0 c1 c2 c3 c4 c5 c6 c7=>k c3) p
def Y7 {β:Type} (p:S) (k:SQ->β):β:=@S.rec (fun _=>β) (fun c0 c1 c2 c3 c4 c5 c6 c7=>k c4) p
def Xj {β:Type} (p:S) (k:SQ->β):β:=@S.rec (fun _=>β) (fun c0 c1 c2 c3 c4 c5 c6 c7=>k c5) p
def Yq {β:Type} (p:S) (k:SQ->β):β:=@S.rec (fun _=>β) (fun c0 c1 c2 c3 c4 c5 c6 c7=>k c6) p
def Ze {β:Type} (p:S) (k:SQ->β):β:=@S.rec (fun _=>β) (fun c0 c1 c2 c3 c4 c5 c6 c7=>k c7) p
def S.selK {β:Type} (d:O8):S->(SQ->β)->β :=
 @O8.rec (fun _=>S->(SQ->β)->β) Zm YK Yf YN Y7 Xj Yq Ze d
theorem S.selK_eq {β:Type} (d:O8) (p:S) (k:SQ->β):S.selK d p k=k (S.sel d p):=by
 cases d <;> cases p <;> rfl
def S.setK {β:Type} (d:O8):S->SQ->(S->β)->β :=
 @O8.rec (fun _=>S->SQ->(S->β)->β) Ym Wy X6 WC Yj WV XH WB d
def S.setS (d:O8) (p:S) (v:SQ):S:=S.setK d p v id
theorem S.setK_eq {β:Type} (d:O8) (p:S) (v:SQ) (k:S->β):S.setK d p v k=k (S.setS d p v):=by
 cases d <;> cases p <;> rfl
theorem S.sel_setS_same (d:O8) (p:S) (v:SQ):S.sel d (S.setS d p v)=v:=by
 cases d <;> cases p <;> rfl
theorem S.sel_setS_ne {d e:O8} (p:S) (v:SQ) (h:d≠e):S.sel e (S.setS d p v)=S.sel e p:=by
 cases p; cases d <;> cases e <;> first | rfl | exact absurd rfl h
theorem S.sel_all (d:O8) (x:SQ):S.sel d (S.all x)=x:=by cases d <;> rfl
end Go.Ev

namespace Go.Ev
set_option linter.unusedVariables false
def K4.toN (p:K4):Nat:=p.a.toN*4096+p.b.toN*256+p.c.toN*16+p.d.toN
theorem K4.toN_inj {p q:K4} (h:p.toN=q.toN):p=q:=by
 obtain ⟨a,b,c,d⟩:=p
 obtain ⟨a',b',c',d'⟩:=q
 simp only [K4.toN] at h
 have:=a.toN_lt; have:=b.toN_lt; have:=c.toN_lt; have:=d.toN_lt
 have:=a'.toN_lt; have:=b'.toN_lt; have:=c'.toN_lt; have:=d'.toN_lt
 have ha:a=a':=D.toN_inj (by omega)
 have hb:b=b':=D.toN_inj (by omega)
 have hc:c=c':=D.toN_inj (by omega)
 have hd:d=d':=D.toN_inj (by omega)
 subst ha hb hc hd; rfl
def K4.beq (p q:K4):Bool:=and (p.d.beq q.d) (and (p.c.beq q.c) (and (p.b.beq q.b) (p.a.beq q.a)))
theorem K4.beq_iff {p q:K4}:p.beq q=true ↔ p=q:=by
 obtain ⟨a,b,c,d⟩:=p
 obtain ⟨a',b',c',d'⟩:=q
 simp only [K4.beq,Bool.and_eq_true,D.beq_iff,K4.mk.injEq]
 constructor
 ·rintro ⟨rfl,rfl,rfl,rfl⟩; exact ⟨rfl,rfl,rfl,rfl⟩
 ·rintro ⟨rfl,rfl,rfl,rfl⟩; exact ⟨rfl,rfl,rfl,rfl⟩
inductive Ex where
 | nrm
 | exit (id:Nat)
 | ret
inductive R where
 | ok (e:Ex) (t:S) (h:Heap) (n:K4)
 | rv (v:V) (h:Heap) (n:K4)
 | fail (why:String)
 | both (a b:R)
abbrev KV:=V->Heap->K4->R
def AE (p:K4) (h:Heap):Option Ob:=HA.sel p.d (HB.sel p.c (HC.sel p.b (Heap.sel p.a h)))
def Ps {β:Type} (p:K4) (h:Heap) (κ:Option Ob->β):β :=
 @K4.rec (fun _=>β) (fun a b c d=>Heap.selK a h fun x=>HC.selK b x fun y=>HB.selK c y fun z=>HA.selK d z κ) p
theorem Dp {β:Type} (p:K4) (h:Heap) (κ:Option Ob->β):Ps p h κ=κ (AE p h):=by
 cases p; simp only [Ps,Heap.selK_eq,HC.selK_eq,HB.selK_eq,HA.selK_eq,AE]
def Fj {β:Type} (p:K4) (h:Heap) (o:Option Ob) (k:Heap->β):β :=
 @K4.rec (fun _=>β) (fun a b c d=>Heap.selK a h fun x=>HC.selK b x fun y=>HB.selK c y fun z =>
  HA.setK d z o fun z=>HB.setK c y z fun y=>HC.setK b x y fun x=>Heap.setK a h x k) p
def AZ (p:K4) (h:Heap) (o:Option Ob):Heap:=Fj p h o id
theorem Bz {β:Type} (p:K4) (h:Heap) (o:Option Ob) (k:Heap->β):Fj p h o k=k (AZ p h o):=by
 cases p; simp only [Fj,AZ,Heap.setK_eq,HC.setK_eq,HB.setK_eq,HA.setK_eq,Heap.selK_eq,HC.selK_eq,HB.selK_eq]; rfl
theorem AB (p:K4) (h:Heap) (o:Option Ob):AE p (AZ p h o)=o:=by
 cases p; simp only [AE,AZ,Fj,Heap.setK_eq,HC.setK_eq,HB.setK_eq,HA.setK_eq,Heap.selK_eq,HC.selK_eq,HB.selK_eq,HA.selK_eq,id,Heap.sel_setS_same,HC.sel_setS_same,HB.sel_setS_same,HA.sel_setS_same]
theorem Aq {p q:K4} (h:Heap) (o:Option Ob) (hne:p≠q):AE q (AZ p h o)=AE q h:=by
 obtain ⟨a,b,c,d⟩:=p
 obtain ⟨a',b',c',d'⟩:=q
 simp only [AE,AZ,Fj,Heap.setK_eq,HC.setK_eq,HB.setK_eq,HA.setK_eq,Heap.selK_eq,HC.selK_eq,HB.selK_eq,HA.selK_eq,id]
 by_cases ha:a=a'
 ·subst ha
  rw [Heap.sel_setS_same]
  by_cases hb:b=b'
  ·subst hb
   rw [HC.sel_setS_same]
   by_cases hc:c=c'
   ·subst hc
    rw [HB.sel_setS_same]
    by_cases hd:d=d'
    ·subst hd; exact absurd rfl hne
    ·rw [HA.sel_setS_ne _ _ hd]
   ·rw [HB.sel_setS_ne _ _ hc]
  ·rw [HC.sel_setS_ne _ _ hb]
 ·rw [Heap.sel_setS_ne _ _ ha]
def AM:Heap:=Heap.all (HC.all (HB.all (HA.all none)))
theorem DW (p:K4):AE p AM=none:=by simp only [AE,AM,Heap.sel_all,HC.sel_all,HB.sel_all,HA.sel_all]
def K4.nx (p:K4) (k:K4->R):R :=
 @K4.rec (fun _=>R) (fun a b c d=>d.nx (fun d=>k ⟨a,b,c,d⟩)
  (c.nx (fun c=>k ⟨a,b,c,.d0⟩)
   (b.nx (fun b=>k ⟨a,b,.d0,.d0⟩)
    (a.nx (fun a=>k ⟨a,.d0,.d0,.d0⟩) (.fail ""))))) p
theorem K4.nx_eq (p:K4) (k:K4->R):(∃ w,p.nx k = .fail w) ∨ ∃ q:K4,q.toN=p.toN+1∧p.nx k=k q:=by
 obtain ⟨a,b,c,d⟩:=p
 simp only [K4.nx,K4.toN]
 have hd0:D.d0.toN=0:=rfl
 rcases d.nx_eq (fun d=>k ⟨a,b,c,d⟩) (c.nx (fun c=>k ⟨a,b,c,.d0⟩) (b.nx (fun b=>k ⟨a,b,.d0,.d0⟩) (a.nx (fun a=>k ⟨a,.d0,.d0,.d0⟩) (.fail "")))) with ⟨h,hd⟩ | ⟨e,he,h⟩
 ·rw [h]
  rcases c.nx_eq (fun c=>k ⟨a,b,c,.d0⟩) (b.nx (fun b=>k ⟨a,b,.d0,.d0⟩) (a.nx (fun a=>k ⟨a,.d0,.d0,.d0⟩) (.fail ""))) with ⟨h,hc⟩ | ⟨e,he,h⟩
  ·rw [h]
   rcases b.nx_eq (fun b=>k ⟨a,b,.d0,.d0⟩) (a.nx (fun a=>k ⟨a,.d0,.d0,.d0⟩) (.fail "")) with ⟨h,hb⟩ | ⟨e,he,h⟩
   ·rw [h]
    rcases a.nx_eq (fun a=>k ⟨a,.d0,.d0,.d0⟩) (.fail "") with ⟨h,ha⟩ | ⟨e,he,h⟩
    ·exact .inl ⟨_,h⟩
    ·exact .inr ⟨⟨e,.d0,.d0,.d0⟩,by simp only [he]; omega,h⟩
   ·exact .inr ⟨⟨a,e,.d0,.d0⟩,by simp only [he]; omega,h⟩
  ·exact .inr ⟨⟨a,b,e,.d0⟩,by simp only [he]; omega,h⟩
 ·exact .inr ⟨⟨a,b,c,e⟩,by simp only [he]; omega,h⟩
def K4.nx16 (p:K4) (k:K4->R):R :=
 @K4.rec (fun _=>R) (fun a b c d=>c.nx (fun c=>k ⟨a,b,c,.d0⟩)
  (b.nx (fun b=>k ⟨a,b,.d0,.d0⟩)
   (a.nx (fun a=>k ⟨a,.d0,.d0,.d0⟩) (.fail "")))) p
def K4.at (p:K4) (j:D) (k:K4->R):R:=@K4.rec (fun _=>R) (fun a b c _=>k ⟨a,b,c,j⟩) p
theorem K4.at_eq (p:K4) (j:D) (k:K4->R):p.at j k=k ⟨p.a,p.b,p.c,j⟩:=by cases p; rfl
theorem K4.nx16_eq (p:K4) (k:K4->R):(∃ w,p.nx16 k = .fail w) ∨ ∃ q:K4,q.toN=(p.a.toN*256+p.b.toN*16+p.c.toN+1)*16∧q.d = .d0∧p.nx16 k=k q:=by
 obtain ⟨a,b,c,d⟩:=p
 simp only [K4.nx16,K4.toN]
 have hd0:D.d0.toN=0:=rfl
 rcases c.nx_eq (fun c=>k ⟨a,b,c,.d0⟩) (b.nx (fun b=>k ⟨a,b,.d0,.d0⟩) (a.nx (fun a=>k ⟨a,.d0,.d0,.d0⟩) (.fail ""))) with ⟨h,hc⟩ | ⟨e,he,h⟩
 ·rw [h]
  rcases b.nx_eq (fun b=>k ⟨a,b,.d0,.d0⟩) (a.nx (fun a=>k ⟨a,.d0,.d0,.d0⟩) (.fail "")) with ⟨h,hb⟩ | ⟨e,he,h⟩
  ·rw [h]
   rcases a.nx_eq (fun a=>k ⟨a,.d0,.d0,.d0⟩) (.fail "") with ⟨h,ha⟩ | ⟨e,he,h⟩
   ·exact .inl ⟨_,h⟩
   ·exact .inr ⟨⟨e,.d0,.d0,.d0⟩,by simp only [he]; omega,rfl,h⟩
  ·exact .inr ⟨⟨a,e,.d0,.d0⟩,by simp only [he]; omega,rfl,h⟩
 ·exact .inr ⟨⟨a,b,e,.d0⟩,by simp only [he]; omega,rfl,h⟩
structure K2 where
 a:D
 b:D
def C8:V:=.tup []
def EE:S:=S.all (SQ.all C8)
def Bf (p:K2) (t:Regs):V:=VP.sel p.b (Regs.sel p.a t)
def GB {β:Type} (p:K2) (t:Regs) (κ:V->β):β :=
 @K2.rec (fun _=>β) (fun a b=>Regs.selK a t fun x=>VP.selK b x κ) p
theorem Cp {β:Type} (p:K2) (t:Regs) (κ:V->β):GB p t κ=κ (Bf p t):=by
 cases p; simp only [GB,Regs.selK_eq,VP.selK_eq,Bf]
def Mu {β:Type} (p:K2) (t:Regs) (v:V) (k:Regs->β):β :=
 @K2.rec (fun _=>β) (fun a b=>Regs.selK a t fun x=>VP.setK b x v fun x=>Regs.setK a t x k) p
def E6 (p:K2) (t:Regs) (v:V):Regs:=Mu p t v id
theorem M4 {β:Type} (p:K2) (t:Regs) (v:V) (k:Regs->β):Mu p t v k=k (E6 p t v):=by
 cases p; simp only [Mu,E6,Regs.setK_eq,VP.setK_eq,Regs.selK_eq,VP.selK_eq]; rfl
theorem B9 (p:K2) (t:Regs) (v:V):Bf p (E6 p t v)=v:=by
 cases p; simp only [Bf,E6,Mu,Regs.setK_eq,VP.setK_eq,Regs.selK_eq,VP.selK_eq,id,Regs.sel_setS_same,VP.sel_setS_same]
theorem Bu {p q:K2} (t:Regs) (v:V) (hne:p≠q):Bf q (E6 p t v)=Bf q t:=by
 obtain ⟨a,b⟩:=p
 obtain ⟨a',b'⟩:=q
 simp only [Bf,E6,Mu,Regs.setK_eq,VP.setK_eq,Regs.selK_eq,VP.selK_eq,id]
 by_cases ha:a=a'
 ·subst ha
  rw [Regs.sel_setS_same]
  by_cases hb:b=b'
  ·subst hb; exact absurd rfl hne
  ·rw [VP.sel_setS_ne _ _ hb]
 ·rw [Regs.sel_setS_ne _ _ ha]
def JW:Regs:=Regs.all (VP.all C8)
theorem MR (p:K2):Bf p JW=C8:=by simp only [Bf,JW,Regs.sel_all,VP.sel_all]
def K2.ofN (n:Nat):Option K2:=if n<256 then some ⟨D.ofN (n / 16),D.ofN (n % 16)⟩ else none
theorem K2.ofN_inj {m n:Nat} {p:K2} (h:K2.ofN m=some p) (h':K2.ofN n=some p):m=n:=by
 unfold K2.ofN at h h'
 split at h
 ·split at h'
  ·simp only [Option.some.injEq] at h h'
   rw [←h] at h'
   simp only [K2.mk.injEq] at h'
   have h1:=congrArg D.toN h'.1
   have h2:=congrArg D.toN h'.2
   rw [D.toN_ofN _ (by omega),D.toN_ofN _ (by omega)] at h1
   rw [D.toN_ofN _ (by omega),D.toN_ofN _ (by omega)] at h2
   omega
  ·simp at h'
 ·simp at h
theorem K2.ofN_lt {n:Nat} {p:K2} (h:K2.ofN n=some p):n<256:=by
 unfold K2.ofN at h; split at h
 ·assumption
 ·simp at h
end Go.Ev

namespace Go.Ev
set_option linter.unusedVariables false
def br {β:Type} (c:Bool) (t f:β):β:=@Bool.rec (fun _=>β) f t c
theorem AI {β:Type} (t f:β):br true t f=t:=rfl
theorem AH {β:Type} (t f:β):br false t f=f:=rfl
def Ah {β:Type} (n:Nat) (k:Nat->β):β:=@Nat.rec (fun _=>β) (k 0) (fun m _=>k (Nat.succ m)) n
theorem Af {β:Type} (n:Nat) (k:Nat->β):Ah n k=k n:=by cases n <;> rfl
def Cz {β:Type} (b:Bool) (k:Bool->β):β:=@Bool.rec (fun _=>β) (k false) (k true) b
theorem BS {β:Type} (b:Bool) (k:Bool->β):Cz b k=k b:=by cases b <;> rfl
def R.good:R->Prop
 | .fail _=>False
 | _=>True
theorem Ak {c:Bool} {t:R} {s:String} (h:(br c t (.fail s)).good):c=true∧br c t (.fail s)=t:=by
 cases c
 ·exact h.elim
 ·exact ⟨rfl,rfl⟩
theorem Fa {c:Bool} {t:R} {s:String} (h:(br c (.fail s) t).good):c=false∧br c (.fail s) t=t:=by
 cases c
 ·exact ⟨rfl,rfl⟩
 ·exact h.elim
def Mk (k:IntKind):Nat:=@IntKind.rec (fun _=>Nat) 256 65536 4294967296 18446744073709551616 256 65536 4294967296 18446744073709551616 k
def Hk (k:IntKind):Nat:=@IntKind.rec (fun _=>Nat) 128 32768 2147483648 9223372036854775808 256 65536 4294967296 18446744073709551616 k
def WY (k:IntKind):Nat:=@IntKind.rec (fun _=>Nat) 0 1 2 3 4 5 6 7 k
def BG (k:IntKind) (r:Nat):Int:=if r<Hk k then (r:Int) else (r:Int) - (Mk k:Int)
def Bi (k j:IntKind):Bool:=Nat.beq (WY k) (WY j)
theorem Ba {k j:IntKind}:Bi k j=true ↔ k=j:=by
 cases k <;> cases j <;> simp [Bi,WY]
theorem DZ (k:IntKind):0<Mk k:=by cases k <;> simp [Mk]
theorem G4 (k:IntKind):Hk k≤Mk k:=by cases k <;> simp [Mk,Hk]
theorem E8 (k:IntKind):Mk k=2 ^ k.bits:=by cases k <;> rfl
theorem FE {k:IntKind} {z:Int} {r:Nat} (h:z % (Mk k:Int)=r):k.wrap z=BG k r:=by
 cases k <;> simp [Mk,BG,Hk,IntKind.wrap,IntKind.bits,IntKind.signed] at h ⊢ <;> (repeat' split) <;> omega
theorem DX (k:IntKind) (a:Nat):BG k a % (Mk k:Int)=((a % Mk k:Nat):Int):=by
 unfold BG
 split
 ·exact (Int.natCast_emod a (Mk k)).symm
 ·rw [Int.sub_emod_right]; exact (Int.natCast_emod a (Mk k)).symm
theorem At {k:IntKind} {a:Nat} (h:a<Hk k):BG k a=a:=by unfold BG; rw [if_pos h]
theorem CG {k:IntKind} {a:Nat} (h:¬ a<Hk k):BG k a=a - Mk k:=by unfold BG; rw [if_neg h]
theorem IW {k:IntKind} {a b:Nat} (ha:a<Mk k) (hb:b<Mk k) (h:BG k a=BG k b):a=b:=by
 have h1:=DX k a
 have h2:=DX k b
 rw [h,h2,Nat.mod_eq_of_lt ha,Nat.mod_eq_of_lt hb] at h1
 omega
def Ha (k:IntKind) (a b:Nat):Bool :=
 br (Nat.ble (Hk k) a) (br (Nat.ble (Hk k) b) (Nat.ble (Nat.succ a) b) true) (br (Nat.ble (Hk k) b) false (Nat.ble (Nat.succ a) b))
theorem Al {a b:Nat}:Nat.ble a b=true ↔ a≤b:=⟨Nat.le_of_ble_eq_true,Nat.ble_eq_true_of_le⟩
theorem Bg {a b:Nat} (h:b<a):Nat.ble a b=false:=Bool.eq_false_iff.2 (fun e=>by have:=Al.1 e; omega)
theorem GS (a b:Nat):Nat.ble a b=decide (a≤b):=by rw [Bool.eq_iff_iff,Al]; simp
theorem Ee {k:IntKind} {a b:Nat} (ha:a<Mk k) (hb:b<Mk k):Ha k a b=decide (BG k a<BG k b):=by
 have hH:=G4 k
 unfold Ha
 by_cases h1:Hk k≤a
 ·rw [Al.2 h1,AI,CG (by omega)]
  by_cases h2:Hk k≤b
  ·rw [Al.2 h2,AI,CG (by omega),GS]; apply decide_eq_decide.2; omega
  ·rw [Bg (by omega),AH,At (by omega)]; symm; apply decide_eq_true; omega
 ·rw [Bg (by omega),AH,At (by omega)]
  by_cases h2:Hk k≤b
  ·rw [Al.2 h2,AI,CG (by omega)]; symm; apply decide_eq_false; omega
  ·rw [Bg (by omega),AH,At (by omega),GS]; apply decide_eq_decide.2; omega
def AV:List UInt8->Nat
 | []=>0
 | b::l=>b.toNat+256*AV l
theorem SU (l:List UInt8):AV l<256 ^ l.length:=by
 induction l with
 | nil=>simp [AV]
 | cons b l ih =>
  have:=b.toNat_lt
  simp only [AV,List.length_cons,Nat.pow_succ]
  omega
theorem Iv (a b:List UInt8):AV (a++b)=AV a+256 ^ a.length*AV b:=by
 induction a with
 | nil=>simp [AV]
 | cons x a ih=>simp only [List.cons_append,AV,ih,List.length_cons,Nat.pow_succ,Nat.mul_add,Nat.mul_assoc,Nat.add_assoc]; rw [Nat.mul_left_comm]
theorem J4 {a b:List UInt8} (hl:a.length=b.length) (h:AV a=AV b):a=b:=by
 induction a generalizing b with
 | nil=>cases b with
  | nil=>rfl
  | cons=>simp at hl
 | cons x a ih =>
  cases b with
  | nil=>simp at hl
  | cons y b =>
   simp only [AV] at h
   have hx:=x.toNat_lt; have hy:=y.toNat_lt
   have h1:x.toNat=y.toNat:=by omega
   have h2:AV a=AV b:=by omega
   rw [ih (by simpa using hl) h2,UInt8.toNat_inj.1 h1]
theorem No (l:List UInt8):∀ n,AV l / 256 ^ n=AV (l.drop n):=by
 intro n
 induction n generalizing l with
 | zero=>simp
 | succ n ih =>
  cases l with
  | nil=>simp [AV]
  | cons b l =>
   have:=b.toNat_lt
   rw [Nat.pow_succ,Nat.mul_comm,←Nat.div_div_eq_div_mul]
   have:AV (b::l) / 256=AV l:=by simp only [AV]; omega
   rw [this,ih,List.drop_succ_cons]
theorem QZ (l:List UInt8):∀ n,AV l % 256 ^ n=AV (l.take n):=by
 intro n
 have h:=Iv (l.take n) (l.drop n)
 rw [List.take_append_drop] at h
 have hlt:=SU (l.take n)
 by_cases hn:n≤l.length
 ·have hlen:(l.take n).length=n:=by simp [hn]
  rw [hlen] at h hlt
  rw [h,Nat.add_mul_mod_self_left,Nat.mod_eq_of_lt hlt]
 ·rw [List.take_of_length_le (by omega)] at hlt ⊢
  exact Nat.mod_eq_of_lt (Nat.lt_of_lt_of_le hlt (Nat.pow_le_pow_right (by omega) (by omega)))
theorem HO (l:List UInt8) (i:Nat) (h:i<l.length):(AV l / 256 ^ i) % 256=l[i].toNat:=by
 rw [No,List.drop_eq_getElem_cons h]
 have:=l[i].toNat_lt
 simp only [AV]; omega
def sh (c i:Nat):Nat:=Nat.shiftRight c (Nat.mul 8 i)
theorem Eo (c i:Nat):sh c i=c / 256 ^ i:=by
 show c >>> (8*i)=_
 rw [Nat.shiftRight_eq_div_pow,Nat.pow_mul]
def lo (c i:Nat):Nat:=Nat.mod c (Nat.pow 256 i)
theorem Du (c i:Nat):lo c i=c % 256 ^ i:=rfl
def up (c i:Nat):Nat:=Nat.shiftLeft c (Nat.mul 8 i)
theorem RD (c i:Nat):up c i=256 ^ i*c:=by
 show c <<< (8*i)=_
 rw [Nat.shiftLeft_eq,Nat.pow_mul,Nat.mul_comm]
structure ApC where
 asg:Code
 bod:Code
 par:Nat
 box:Nat
 ntm:Nat
structure Env where
 v:Nat->Value
 ap:Nat->Option ApC
 gl:Nat->Option (Array Value×TypeId×(Nat×Nat)):=fun _=>none
abbrev B0:=K4->Option (Nat×Nat×Nat)
def BX:Nl->Value
 | .ptr=>.pointer none
 | .sl=>.slice none 0 0
 | .map=>.map none
 | .fn=>.nilFunc
 | .iface=>.nilIface
def P2 (i j:Nat):Bool:=Nat.beq (Nat.mod (Nat.div (Nat.mod i 4294967296) (Nat.pow 2 j)) 2) 1
def Uo (i:Nat):Nat:=Nat.div (Nat.sub i 73786976294838206464) 281474976710656
def Ws (i:Nat):Nat:=Nat.mod (Nat.div (Nat.sub i 73786976294838206464) 1099511627776) 256
def Wj (i j:Nat):Nat:=Nat.mod (Nat.div (Nat.mod (Nat.sub i 73786976294838206464) 1099511627776) (Nat.pow (Uo i) j)) (Uo i)
def HG (i:Nat):Nat:=Nat.mod (Nat.div (Nat.sub i 36893488147419103233) 65536) 65536
def VB (i:Nat):Nat:=Nat.div (Nat.sub i 36893488147419103233) 4294967296
def P1 (i:Nat):Nat:=Nat.mod (Nat.sub i 36893488147419103233) 65536
def Ki (ρ:Env) (i j:Nat) (y:Value):Prop:=(i=0 ∧ ∃ b,y = .bool b)∨(1≤i∧i<18446744073709551616∧y=ρ.v (i+j) ∧ ∃ r,r<Mk .i64∧y = .int .i64 (BG .i64 r)) ∨
 (18446744073709551616≤i∧i<36893488147419103232 ∧ ∃ b,y = .bool b∧(j<(i - 18446744073709551616) / 4294967296->b=P2 i j))∨(36893488147419103232≤i∧i<73786976294838206464 ∧ ∃ r,r<Mk .i64∧y = .int .i64 (BG .i64 r)∧(36893488147419103232<i->j=VB i->(BG .i64 r).tmod (HG i:Nat)+(HG i:Nat)=(P1 i:Nat))) ∨
 (73786976294838206464≤i ∧ ∃ z:Int,y = .int .i64 z ∧ -9223372036854775808≤z∧z<9223372036854775808∧(j<Ws i->z.natAbs % Uo i=Wj i j))
section
variable (ρ:Env) (φ:B0)
mutual
def AF:V->Value->Prop
 | .int k r,x=>r<Mk k∧x = .int k (BG k r)
 | .bool b,x=>x = .bool b
 | .ptr p off,x=>∃ b s tot,φ p=some (b,s,tot)∧x = .pointer (some ⟨b,s+off,none⟩)
 | .sl p off len cap ex esz,x=>∃ b s tot o cap',φ p=some (b,s,tot)∧x = .slice (some ⟨b,o,none⟩) len cap'∧len≤cap∧cap≤cap' ∧
   (ex=true->cap'=cap)∧(0<cap'->o=s+off∧o+cap'*esz≤tot)
 | .str n c,x=>∃ s:ByteArray,x = .string s∧s.size=n∧AV s.data.toList=c
 | .agg l,x=>∃ cs:Array Value,x = .agg cs∧Bs l cs.toList ∧ ∀ y∈cs.toList,y.oneCell'=true
 | .nil w,x=>x=BX w
 | .map p,x=>∃ b s tot,φ p=some (b,s,tot)∧x = .map (some b)
 | .fn f caps,x=>∃ cs:Array Value,x = .func (.func f) #[] cs∧Bs caps cs.toList
 | .tup l,x=>∃ cs:Array Value,x = .tuple cs∧Bs l cs.toList
 | .oth o,x=>match o with | .any=>True | .sym i=>x=ρ.v i | .yl p=>(∃ b s tot,φ p=some (b,s,tot)∧x = .func (.yield b) #[] #[]) | .no=>False | .iv k lo hi=>∃ r,lo≤r∧r≤hi∧r<Mk k∧x = .int k (BG k r) | .os lo hi=>∃ p len cap,x = .slice p len cap∧lo≤len∧len≤hi∧len≤cap | .bl=>∃ b,x = .bool b | .rs m j=>∃ z:Int,x = .int .i64 z ∧ -9223372036854775808≤z∧z<9223372036854775808∧(m<36893488147419103232∧z.natAbs % (m % 18446744073709551616)=j∨(36893488147419103232≤m∧j % 18446744073709551616≤z.natAbs % (m % 18446744073709551616)∧z.natAbs % (m % 18446744073709551616)≤j / 18446744073709551616))∧(18446744073709551616≤m->m<36893488147419103232->0≤z)∧(73786976294838206464≤m->z<0) | .ss lo hi n c=>∃ s:ByteArray,x = .string s∧lo≤s.size∧s.size≤hi ∧ ¬ (s.size=n∧AV s.data.toList=c) | .ro i lo hi z=>∃ b o len cap c e fr,x = .slice (some ⟨b,o,none⟩) len cap∧lo≤len∧len≤hi∧len≤cap∧ρ.gl b=some (c,e,fr) ∧ ∀ j,j<len*z->∃ y,c[o+j]? = some y∧Ki ρ i j y | .ap i j m=>∃ b o c e fr,x = .pointer (some ⟨b,o,none⟩)∧ρ.gl b=some (c,e,fr) ∧ ∀ q,q<m->∃ y,c[o+q]? = some y∧Ki ρ i (j+q) y | .sy k i=>x=ρ.v i ∧ ∃ r,r<Mk k∧x = .int k (BG k r)
def Bs:List V->List Value->Prop
 | [],l=>l=[]
 | v::vs,l=>∃ y ys,l=y::ys∧AF v y∧Bs vs ys
end
end
end Go.Ev

namespace Go.Ev
abbrev B2 {A0:Sort _} (s:String):A0->R:=fun _=>.fail s
abbrev AN {A0 A1:Sort _} (s:String):A0->A1->R:=fun _ _=>.fail s
abbrev BR {A0 A1 A2:Sort _} (s:String):A0->A1->A2->R:=fun _ _ _=>.fail s
abbrev Fe {A0 A1 A2 A3:Sort _} (s:String):A0->A1->A2->A3->R:=fun _ _ _ _=>.fail s
abbrev fF5 {A0 A1 A2 A3 A4:Sort _} (s:String):A0->A1->A2->A3->A4->R:=fun _ _ _ _ _=>.fail s
abbrev Dl {A0 A1 A2 A3 A4 A5:Sort _} (s:String):A0->A1->A2->A3->A4->A5->R:=fun _ _ _ _ _ _=>.fail s
set_option linter.unusedVariables false
def Di (m:Nat):List V->(List V->R)->R :=
 @Nat.rec (fun _=>List V->(List V->R)->R) (fun _ k=>k [])
  (fun _ ih xs k=>@List.rec V (fun _=>R) (.fail "") (fun x ys _=>ih ys fun zs=>k (x::zs)) xs) m
def DR (m:Nat):List V->(List V->R)->R :=
 @Nat.rec (fun _=>List V->(List V->R)->R) (fun xs k=>k xs)
  (fun _ ih xs k=>@List.rec V (fun _=>R) (.fail "") (fun _ ys _=>ih ys k) xs) m
def DY (m:Nat):List V->(V->R)->R :=
 @Nat.rec (fun _=>List V->(V->R)->R) (fun xs k=>@List.rec V (fun _=>R) (.fail "") (fun x _ _=>k x) xs)
  (fun _ ih xs k=>@List.rec V (fun _=>R) (.fail "") (fun _ ys _=>ih ys k) xs) m
def EJ (xs ys:List V):(List V->R)->R :=
 @List.rec V (fun _=>(List V->R)->R) (fun k=>k ys) (fun x _ ih k=>ih fun zs=>k (x::zs)) xs
def G5 (xs:List V):(Nat->R)->R :=
 @List.rec V (fun _=>(Nat->R)->R) (fun k=>k 0) (fun _ _ ih k=>ih fun n=>Ah (Nat.succ n) k) xs
theorem Es {m:Nat} {xs:List V} {k:List V->R} (h:(Di m xs k).good):m≤xs.length∧Di m xs k=k (xs.take m):=by
 induction m generalizing xs k with
 | zero=>exact ⟨Nat.zero_le _,rfl⟩
 | succ m ih =>
  cases xs with
  | nil=>exact h.elim
  | cons x xs =>
   have:=ih (xs:=xs) (k:=fun zs=>k (x::zs)) h
   exact ⟨by simpa using this.1,this.2⟩
theorem EC {m:Nat} {xs:List V} {k:List V->R} (h:(DR m xs k).good):m≤xs.length∧DR m xs k=k (xs.drop m):=by
 induction m generalizing xs with
 | zero=>exact ⟨Nat.zero_le _,rfl⟩
 | succ m ih =>
  cases xs with
  | nil=>exact h.elim
  | cons x xs =>
   have:=ih (xs:=xs) h
   exact ⟨by simpa using this.1,this.2⟩
theorem Eh {m:Nat} {xs:List V} {k:V->R} (h:(DY m xs k).good):∃ v,xs[m]? = some v∧DY m xs k=k v:=by
 induction m generalizing xs with
 | zero =>
  cases xs with
  | nil=>exact h.elim
  | cons x xs=>exact ⟨x,rfl,rfl⟩
 | succ m ih =>
  cases xs with
  | nil=>exact h.elim
  | cons x xs =>
   obtain ⟨v,h1,h2⟩:=ih (xs:=xs) h
   exact ⟨v,by simpa using h1,h2⟩
theorem Ea (xs ys:List V) (k:List V->R):EJ xs ys k=k (xs++ys):=by
 induction xs generalizing k with
 | nil=>rfl
 | cons x xs ih=>exact ih fun zs=>k (x::zs)
theorem D8 (xs:List V) (k:Nat->R):G5 xs k=k xs.length:=by
 induction xs generalizing k with
 | nil=>rfl
 | cons x xs ih=>exact (ih fun n=>Ah (Nat.succ n) k).trans (Af _ _)
def FJ (v:V) (κ:IntKind->Nat->R):R :=
 @V.rec (fun _=>R) (fun _=>Unit) (fun k r=>κ k r) (B2 "") (AN "") (Dl "") (AN "") (AN "") (B2 "") (B2 "") (BR "") (AN "") (B2 "") () (fun _ _ _ _=>()) v
def NM (v:V) (κ:Bool->R):R :=
 @V.rec (fun _=>R) (fun _=>Unit) (AN "") (fun b=>κ b) (AN "") (Dl "") (AN "") (AN "") (B2 "") (B2 "") (BR "") (AN "") (B2 "") () (fun _ _ _ _=>()) v
def I3 (v:V) (κ:K4->Nat->R):R :=
 @V.rec (fun _=>R) (fun _=>Unit) (AN "") (B2 "") (fun p off=>κ p off) (Dl "") (AN "") (AN "") (B2 "") (B2 "") (BR "") (AN "") (B2 "") () (fun _ _ _ _=>()) v
def CM (v:V) (κn:R) (κ:K4->Nat->Nat->Nat->Bool->Nat->R):R :=
 @V.rec (fun _=>R) (fun _=>Unit) (AN "") (B2 "") (AN "") (fun p off len cap ex esz=>κ p off len cap ex esz) (AN "") (AN "") (fun w=>@Nl.rec (fun _=>R) (.fail "") κn (.fail "") (.fail "") (.fail "") w) (B2 "") (BR "") (AN "") (B2 "") () (fun _ _ _ _=>()) v
def Bd (v:V) (κ:Nat->Nat->R):R :=
 @V.rec (fun _=>R) (fun _=>Unit) (AN "") (B2 "") (AN "") (Dl "") (fun n c=>κ n c) (AN "") (B2 "") (B2 "") (BR "") (AN "") (B2 "") () (fun _ _ _ _=>()) v
def asAgg (v:V) (κ:List V->R):R :=
 @V.rec (fun _=>R) (fun _=>Unit) (AN "") (B2 "") (AN "") (Dl "") (AN "") (fun l _i=>κ l) (B2 "") (B2 "") (BR "") (AN "") (B2 "") () (fun _ _ _ _=>()) v
def Jj (v:V) (κ:List V->R):R :=
 @V.rec (fun _=>R) (fun _=>Unit) (AN "") (B2 "") (AN "") (Dl "") (AN "") (AN "") (B2 "") (B2 "") (BR "") (fun l _i=>κ l) (B2 "") () (fun _ _ _ _=>()) v
def Dt (v:V) (κn:R) (κ:K4->R):R :=
 @V.rec (fun _=>R) (fun _=>Unit) (AN "") (B2 "") (AN "") (Dl "") (AN "") (AN "") (fun w=>@Nl.rec (fun _=>R) (.fail "") (.fail "") κn (.fail "") (.fail "") w) (fun p=>κ p) (BR "") (AN "") (B2 "") () (fun _ _ _ _=>()) v
def Ov (v:V) (κ:Nat->List V->R):R :=
 @V.rec (fun _=>R) (fun _=>Unit) (AN "") (B2 "") (AN "") (Dl "") (AN "") (AN "") (B2 "") (B2 "") (fun f caps _i=>κ f caps) (AN "") (B2 "") () (fun _ _ _ _=>()) v
def DI (v:V) (κ:List V->R):R :=
 @V.rec (fun _=>R) (fun _=>Unit) (fun _ _=>κ [v]) (fun _=>κ [v]) (fun _ _=>κ [v]) (fun _ _ _ _ _ _=>κ [v]) (fun _ _=>κ [v]) (fun l _i=>κ l) (fun _=>κ [v]) (fun _=>κ [v]) (fun _ _ _=>κ [v]) (fun l _i=>.fail "") (fun o=>@Ot.rec (fun _=>R) (.fail "") (fun _=>κ [v]) (B2 "") (.fail "") (fun _ _ _=>κ [v]) (fun _ _=>κ [v]) (κ [v]) (fun _ _=>κ [v]) (fun _ _ _ _=>κ [v]) (fun _ _ _ _=>κ [v]) (fun _ _ _=>κ [v]) (fun _ _=>κ [v]) o) () (fun _ _ _ _=>()) v
def UK (v:V) (κ:Nat->Nat->R) (e:R):R :=
 @V.rec (fun _=>R) (fun _=>Unit) (fun _ _=>e) (fun _=>e) (fun _ _=>e) (fun _ _ _ _ _ _=>e) (fun _ _=>e) (fun _ _=>e) (fun _=>e) (fun _=>e) (fun _ _ _=>e) (fun _ _=>e) (fun o=>@Ot.rec (fun _=>R) e (fun _=>e) (fun _=>e) e (fun _ _ _=>e) (fun lo hi=>κ lo hi) e (fun _ _=>e) (fun _ _ _ _=>e) (fun _ _ _ _=>e) (fun _ _ _=>e) (fun _ _=>e) o) () (fun _ _ _ _=>()) v
theorem Qy (v:V) (κ:Nat->Nat->R) (e:R):(∃ lo hi,v = .oth (.os lo hi)∧UK v κ e=κ lo hi)∨UK v κ e=e:=by
 cases v with
 | oth o=>cases o with
  | os lo hi=>exact .inl ⟨lo,hi,rfl,rfl⟩
  | _=>exact .inr rfl
 | _=>exact .inr rfl
def YP (v:V) (κ:Nat->Nat->R) (e:R):R :=
 @V.rec (fun _=>R) (fun _=>Unit) (fun _ _=>e) (fun _=>e) (fun _ _=>e) (fun _ _ _ _ _ _=>e) (fun _ _=>e) (fun _ _=>e) (fun _=>e) (fun _=>e) (fun _ _ _=>e) (fun _ _=>e) (fun o=>@Ot.rec (fun _=>R) e (fun _=>e) (fun _=>e) e (fun _ _ _=>e) (fun _ _=>e) e (fun m j=>κ m j) (fun _ _ _ _=>e) (fun _ _ _ _=>e) (fun _ _ _=>e) (fun _ _=>e) o) () (fun _ _ _ _=>()) v
theorem Ql (v:V) (κ:Nat->Nat->R) (e:R):(∃ m j,v = .oth (.rs m j)∧YP v κ e=κ m j)∨YP v κ e=e:=by
 cases v with
 | oth o=>cases o with
  | rs m j=>exact .inl ⟨m,j,rfl,rfl⟩
  | _=>exact .inr rfl
 | _=>exact .inr rfl
def Sf (v:V) (κ:Nat->Nat->Nat->Nat->R) (e:R):R :=
 @V.rec (fun _=>R) (fun _=>Unit) (fun _ _=>e) (fun _=>e) (fun _ _=>e) (fun _ _ _ _ _ _=>e) (fun _ _=>e) (fun _ _=>e) (fun _=>e) (fun _=>e) (fun _ _ _=>e) (fun _ _=>e) (fun o=>@Ot.rec (fun _=>R) e (fun _=>e) (fun _=>e) e (fun _ _ _=>e) (fun _ _=>e) e (fun _ _=>e) (fun lo hi n c=>κ lo hi n c) (fun _ _ _ _=>e) (fun _ _ _=>e) (fun _ _=>e) o) () (fun _ _ _ _=>()) v
theorem If (v:V) (κ:Nat->Nat->Nat->Nat->R) (e:R):(∃ lo hi n c,v = .oth (.ss lo hi n c)∧Sf v κ e=κ lo hi n c)∨Sf v κ e=e:=by
 cases v with
 | oth o=>cases o with
  | ss lo hi n c=>exact .inl ⟨lo,hi,n,c,rfl,rfl⟩
  | _=>exact .inr rfl
 | _=>exact .inr rfl
def NT (v:V) (κ:K4->Nat->R) (κo:Ot->R):R :=
 @V.rec (fun _=>R) (fun _=>Unit) (AN "") (B2 "") (fun p off=>κ p off) (Dl "") (AN "") (AN "") (B2 "") (B2 "") (BR "") (AN "") (fun o=>κo o) () (fun _ _ _ _=>()) v
def GK (v:V) (κn:R) (κ:K4->Nat->Nat->Nat->Bool->Nat->R) (κo:Ot->R):R :=
 @V.rec (fun _=>R) (fun _=>Unit) (AN "") (B2 "") (AN "") (fun p off len cap ex esz=>κ p off len cap ex esz) (AN "") (AN "") (fun w=>@Nl.rec (fun _=>R) (.fail "") κn (.fail "") (.fail "") (.fail "") w) (B2 "") (BR "") (AN "") (fun o=>κo o) () (fun _ _ _ _=>()) v
theorem K9 {v:V} {κ:K4->Nat->R} {κo:Ot->R} (h:(NT v κ κo).good):(∃ p off,v = .ptr p off∧NT v κ κo=κ p off)∨(∃ o,v = .oth o∧NT v κ κo=κo o):=by
 cases v with
 | ptr p off=>exact .inl ⟨p,off,rfl,rfl⟩
 | oth o=>exact .inr ⟨o,rfl,rfl⟩
 | _=>exact h.elim
theorem IL {v:V} {κn:R} {κ:K4->Nat->Nat->Nat->Bool->Nat->R} {κo:Ot->R} (h:(GK v κn κ κo).good) :
  (v = .nil .sl∧GK v κn κ κo=κn)∨(∃ p off len cap ex esz,v = .sl p off len cap ex esz∧GK v κn κ κo=κ p off len cap ex esz)∨(∃ o,v = .oth o∧GK v κn κ κo=κo o):=by
 cases v with
 | sl p off len cap ex esz=>exact .inr (.inl ⟨p,off,len,cap,ex,esz,rfl,rfl⟩)
 | nil w=>cases w with
  | sl=>exact .inl ⟨rfl,rfl⟩
  | _=>exact h.elim
 | oth o=>exact .inr (.inr ⟨o,rfl,rfl⟩)
 | _=>exact h.elim
def Ua (o:Ot) (κ:Nat->Nat->R) (e:R):R :=
 @Ot.rec (fun _=>R) e (fun _=>e) (fun _=>e) e (fun _ _ _=>e) (fun lo hi=>κ lo hi) e (fun _ _=>e) (fun _ _ _ _=>e) (fun _ _ _ _=>e) (fun _ _ _=>e) (fun _ _=>e) o
def NV (o:Ot) (κ:Nat->Nat->Nat->Nat->R) (e:R):R :=
 @Ot.rec (fun _=>R) e (fun _=>e) (fun _=>e) e (fun _ _ _=>e) (fun _ _=>e) e (fun _ _=>e) (fun _ _ _ _=>e) (fun i lo hi z=>κ i lo hi z) (fun _ _ _=>e) (fun _ _=>e) o
def Qj (o:Ot) (κ:Nat->Nat->Nat->R) (e:R):R :=
 @Ot.rec (fun _=>R) e (fun _=>e) (fun _=>e) e (fun _ _ _=>e) (fun _ _=>e) e (fun _ _=>e) (fun _ _ _ _=>e) (fun _ _ _ _=>e) (fun i j m=>κ i j m) (fun _ _=>e) o
def TX (o:Ot) (κ:IntKind->Nat->R) (e:R):R :=
 @Ot.rec (fun _=>R) e (fun _=>e) (fun _=>e) e (fun _ _ _=>e) (fun _ _=>e) e (fun _ _=>e) (fun _ _ _ _=>e) (fun _ _ _ _=>e) (fun _ _ _=>e) (fun k i=>κ k i) o
theorem NP (o:Ot) (κ:IntKind->Nat->R) (e:R):(∃ k i,o = .sy k i∧TX o κ e=κ k i)∨TX o κ e=e:=by
 cases o with
 | sy k i=>exact .inl ⟨k,i,rfl,rfl⟩
 | _=>exact .inr rfl
def DM {α:Type} (o:Option α):Bool:=@Option.rec α (fun _=>Bool) false (fun _=>true) o
theorem Cb {v:V} {κ:IntKind->Nat->R} (h:(FJ v κ).good):∃ k r,v = .int k r∧FJ v κ=κ k r:=by
 cases v with
 | int k r=>exact ⟨k,r,rfl,rfl⟩
 | _=>exact h.elim
theorem ED {v:V} {κ:Bool->R} (h:(NM v κ).good):∃ b,v = .bool b∧NM v κ=κ b:=by
 cases v with
 | bool b=>exact ⟨b,rfl,rfl⟩
 | _=>exact h.elim
theorem CP {v:V} {κ:K4->Nat->R} (h:(I3 v κ).good):∃ p off,v = .ptr p off∧I3 v κ=κ p off:=by
 cases v with
 | ptr p off=>exact ⟨p,off,rfl,rfl⟩
 | _=>exact h.elim
theorem Cx {v:V} {κn:R} {κ:K4->Nat->Nat->Nat->Bool->Nat->R} (h:(CM v κn κ).good) :
  (v = .nil .sl∧CM v κn κ=κn) ∨ ∃ p off len cap ex esz,v = .sl p off len cap ex esz∧CM v κn κ=κ p off len cap ex esz:=by
 cases v with
 | sl p off len cap ex esz=>exact .inr ⟨p,off,len,cap,ex,esz,rfl,rfl⟩
 | nil w=>cases w with
  | sl=>exact .inl ⟨rfl,rfl⟩
  | _=>exact h.elim
 | _=>exact h.elim
theorem BM {v:V} {κ:Nat->Nat->R} (h:(Bd v κ).good):∃ n c,v = .str n c∧Bd v κ=κ n c:=by
 cases v with
 | str n c=>exact ⟨n,c,rfl,rfl⟩
 | _=>exact h.elim
theorem Cn {v:V} {κ:List V->R} (h:(asAgg v κ).good):∃ l,v = .agg l∧asAgg v κ=κ l:=by
 cases v with
 | agg l=>exact ⟨l,rfl,rfl⟩
 | _=>exact h.elim
theorem JM {v:V} {κ:List V->R} (h:(Jj v κ).good):∃ l,v = .tup l∧Jj v κ=κ l:=by
 cases v with
 | tup l=>exact ⟨l,rfl,rfl⟩
 | _=>exact h.elim
theorem Dd {v:V} {κn:R} {κ:K4->R} (h:(Dt v κn κ).good) :
  (v = .nil .map∧Dt v κn κ=κn) ∨ ∃ p,v = .map p∧Dt v κn κ=κ p:=by
 cases v with
 | map p=>exact .inr ⟨p,rfl,rfl⟩
 | nil w=>cases w with
  | map=>exact .inl ⟨rfl,rfl⟩
  | _=>exact h.elim
 | _=>exact h.elim
theorem LX {v:V} {κ:Nat->List V->R} (h:(Ov v κ).good):∃ f caps,v = .fn f caps∧Ov v κ=κ f caps:=by
 cases v with
 | fn f caps=>exact ⟨f,caps,rfl,rfl⟩
 | _=>exact h.elim
def V.cl:V->List V
 | .agg l=>l
 | v=>[v]
def V.celled:V->Prop
 | .tup _=>False
 | .oth .any=>False
 | .oth (.yl _)=>False
 | .oth .no=>False
 | _=>True
theorem ER {v:V} {κ:List V->R} (h:(DI v κ).good):v.celled∧DI v κ=κ v.cl:=by
 cases v with
 | tup l=>exact h.elim
 | oth o=>cases o with
  | any=>exact h.elim
  | yl p=>exact h.elim
  | no=>exact h.elim
  | _=>exact ⟨trivial,rfl⟩
 | _=>exact ⟨trivial,rfl⟩
def Cs.at (cs:Cs) (i:Nat):Option V :=
 match cs with
 | .l xs=>xs[i]?
 | .b n c=>if i<n then some (.int .u8 (c / 256 ^ i % 256)) else none
def Cs.len:Cs->Nat
 | .l xs=>xs.length
 | .b n _=>n
theorem Cs.at_lt {cs:Cs} {i:Nat} (h:i<cs.len):∃ v,cs.at i=some v:=by
 cases cs with
 | l xs=>exact ⟨xs[i],by simp [Cs.at,List.getElem?_eq_getElem h]⟩
 | b n c=>exact ⟨_,if_pos h⟩
theorem Cs.at_none {cs:Cs} {i:Nat} (h:cs.len≤i):cs.at i=none:=by
 cases cs with
 | l xs=>simp only [Cs.at]; exact List.getElem?_eq_none h
 | b n c=>exact if_neg (Nat.not_lt.2 h)
theorem Cs.lt_of_at {cs:Cs} {i:Nat} {v:V} (h:cs.at i=some v):i<cs.len:=by
 rcases Nat.lt_or_ge i cs.len with h' | h'
 ·exact h'
 ·rw [Cs.at_none h'] at h; exact absurd h (by simp)
def FI (cs:Cs) (i:Nat) (κ:V->R):R :=
 @Cs.rec (fun _=>R) (fun xs=>DY i xs κ) (fun n c=>br (Nat.ble (Nat.succ i) n) (Ah (lo (sh c i) 1) fun r=>κ (.int .u8 r)) (.fail "")) cs
theorem Tn (c i:Nat):lo (sh c i) 1=c / 256 ^ i % 256:=by rw [Du,Eo]
theorem Gn {cs:Cs} {i:Nat} {κ:V->R} (h:(FI cs i κ).good):∃ v,cs.at i=some v∧FI cs i κ=κ v:=by
 cases cs with
 | l xs=>exact Eh h
 | b n c =>
  obtain ⟨h1,h2⟩:=Ak (show R.good (br (Nat.ble (Nat.succ i) n) _ (.fail _)) from h)
  refine ⟨.int .u8 (c / 256 ^ i % 256),?_,?_⟩
  ·exact if_pos (show i<n from Al.1 h1)
  ·show br (Nat.ble (Nat.succ i) n) _ _=_
   rw [h2,Af,Tn]
theorem Gc (d i m:Nat) (hi:i<m):d % 256 ^ m / 256 ^ i % 256=d / 256 ^ i % 256:=by
 have hm:256 ^ m=256 ^ i*(256*256 ^ (m - i - 1)):=by
  rw [←Nat.pow_succ',←Nat.pow_add]; congr 1; omega
 rw [hm,Nat.mod_mul_right_div_self,Nat.mod_mul_right_mod]
def BN (cs:Cs) (off m:Nat) (κ:Cs->R):R :=
 @Cs.rec (fun _=>R) (fun xs=>DR off xs fun ys=>Di m ys fun zs=>κ (.l zs))
  (fun n c=>br (Nat.ble (Nat.add off m) n) (Ah (lo (sh c off) m) fun r=>κ (.b m r)) (.fail "")) cs
theorem Cl {cs:Cs} {off m:Nat} {κ:Cs->R} (h:(BN cs off m κ).good) :
  off+m≤cs.len ∧ ∃ y:Cs,y.len=m∧(∀ i,i<m->y.at i=cs.at (off+i))∧BN cs off m κ=κ y:=by
 cases cs with
 | l xs =>
  obtain ⟨h1,e1⟩:=EC (h:(DR off xs _).good)
  have h':(Di m (xs.drop off) fun zs=>κ (.l zs)).good:=by rw [←e1]; exact h
  obtain ⟨h2,e2⟩:=Es h'
  simp only [List.length_drop] at h2
  refine ⟨by simp only [Cs.len]; omega,.l ((xs.drop off).take m),by simp [Cs.len]; omega,fun i hi=>?_,e1.trans e2⟩
  simp [Cs.at,hi]
 | b n c =>
  obtain ⟨h1,h2⟩:=Ak (show R.good (br (Nat.ble (Nat.add off m) n) _ (.fail _)) from h)
  have h1:off+m≤n:=Al.1 h1
  refine ⟨h1,.b m (c / 256 ^ off % 256 ^ m),rfl,fun i hi=>?_,?_⟩
  ·simp only [Cs.at]
   rw [if_pos hi,if_pos (by omega)]
   congr 2
   rw [Nat.pow_add,←Nat.div_div_eq_div_mul]
   generalize c / 256 ^ off=d
   exact (Gc d i m hi)
  ·show br (Nat.ble (Nat.add off m) n) _ _=_
   rw [h2,Af,Du,Eo]
end Go.Ev

namespace Go.Ev
set_option linter.unusedVariables false
theorem Cs.b_pos {n c i:Nat} (h:i<n):(Cs.b n c).at i=some (.int .u8 (c / 256 ^ i % 256)):=if_pos h
theorem Cs.b_neg {n c i:Nat} (h:¬ i<n):(Cs.b n c).at i=none:=if_neg h
def Lc (v:V) (κ:Nat->R) (e:R):R :=
 @V.rec (fun _=>R) (fun _=>Unit) (fun k r=>br (Bi k .u8) (br (Nat.ble r 255) (κ r) e) e) (fun _=>e) (fun _ _=>e) (fun _ _ _ _ _ _=>e) (fun _ _=>e) (fun _ _=>e) (fun _=>e) (fun _=>e) (fun _ _ _=>e) (fun _ _=>e) (fun _=>e) () (fun _ _ _ _=>()) v
theorem RV (v:V) (κ:Nat->R) (e:R):Lc v κ e=e ∨ ∃ r,v = .int .u8 r∧r<256∧Lc v κ e=κ r:=by
 cases v with
 | int k r =>
  by_cases hk:Bi k .u8=true
  ·have:=Ba.1 hk
   subst this
   by_cases hr:Nat.ble r 255=true
   ·refine .inr ⟨r,rfl,by have:=Al.1 hr; omega,?_⟩
    show br (Bi .u8 .u8) (br (Nat.ble r 255) (κ r) e) e=_
    rw [hk,hr]; rfl
   ·refine .inl ?_
    show br (Bi .u8 .u8) (br (Nat.ble r 255) (κ r) e) e=_
    rw [hk,Bool.eq_false_iff.2 hr]; rfl
  ·refine .inl ?_
   show br (Bi k .u8) (br (Nat.ble r 255) (κ r) e) e=_
   rw [Bool.eq_false_iff.2 hk]; rfl
 | _=>exact .inl rfl
def CE (xs:List V):(Nat->Nat->R)->R->R :=
 @List.rec V (fun _=>(Nat->Nat->R)->R->R) (fun κ _=>κ 0 0)
  (fun x _ ih κ e=>Lc x (fun r=>ih (fun n c=>Ah (Nat.succ n) fun n=>Ah (Nat.add r (Nat.mul 256 c)) fun c=>κ n c) e) e) xs
theorem Ka (xs:List V):∀ (κ:Nat->Nat->R) (e:R),CE xs κ e=e ∨ ∃ n c,CE xs κ e=κ n c∧(Cs.b n c).len=xs.length∧(∀ i,(Cs.b n c).at i=xs[i]?)∧c<256 ^ n:=by
 induction xs with
 | nil=>exact fun κ e=>.inr ⟨0,0,rfl,rfl,fun i=>by simp [Cs.at],by simp⟩
 | cons x xs ih =>
  intro κ e
  rcases RV x (fun r=>CE xs (fun n c=>Ah (Nat.succ n) fun n=>Ah (Nat.add r (Nat.mul 256 c)) fun c=>κ n c) e) e with h | ⟨r,rfl,hr,h⟩
  ·exact .inl h
  ·rcases ih (fun n c=>Ah (Nat.succ n) fun n=>Ah (Nat.add r (Nat.mul 256 c)) fun c=>κ n c) e with h' | ⟨n,c,h',hl,hc,hlt⟩
   ·exact .inl (h.trans h')
   ·refine .inr ⟨n+1,r+256*c,?_,?_,fun i=>?_,by rw [Nat.pow_succ]; omega⟩
    ·refine (h.trans h').trans ?_
     rw [Af,Af]; rfl
    ·simp only [Cs.len] at hl ⊢; simp [hl]
    ·cases i with
     | zero =>
      simp only [Cs.at,List.getElem?_cons_zero]
      rw [if_pos (by omega)]
      congr 2
      simp; omega
     | succ i =>
      rw [List.getElem?_cons_succ,←hc i]
      simp only [Cs.at]
      by_cases hi:i<n
      ·rw [if_pos (by omega),if_pos hi]
       congr 2
       rw [Nat.pow_succ,Nat.mul_comm (256 ^ i) 256,←Nat.div_div_eq_div_mul]
       congr 2
       omega
      ·rw [if_neg (by omega),if_neg hi]
def Eb (n:Nat):Nat->(List V->R)->R :=
 @Nat.rec (fun _=>Nat->(List V->R)->R) (fun _ κ=>κ [])
  (fun _ ih c κ=>Ah (lo c 1) fun r=>Ah (sh c 1) fun d=>ih d fun zs=>κ (.int .u8 r::zs)) n
theorem JV (n:Nat):∀ (c:Nat) (κ:List V->R),∃ zs,Eb n c κ=κ zs∧zs.length=n ∧ ∀ i,zs[i]? = (Cs.b n c).at i:=by
 induction n with
 | zero=>exact fun c κ=>⟨[],rfl,rfl,fun i=>by simp [Cs.at]⟩
 | succ n ih =>
  intro c κ
  obtain ⟨zs,h1,h2,h3⟩:=ih (sh c 1) (fun zs=>κ (.int .u8 (lo c 1)::zs))
  refine ⟨.int .u8 (lo c 1)::zs,?_,by simp [h2],fun i=>?_⟩
  ·refine Eq.trans ?_ h1
   exact (Af (lo c 1) (fun r=>Ah (sh c 1) fun d=>Eb n d fun zs=>κ (.int .u8 r::zs))).trans (Af (sh c 1) _)
  ·cases i with
   | zero=>simp [Cs.at,Du]
   | succ i =>
    rw [List.getElem?_cons_succ,h3]
    simp only [Cs.at,Eo]
    by_cases hi:i<n
    ·rw [if_pos hi,if_pos (show i+1<n+1 by omega),Nat.div_div_eq_div_mul,←Nat.pow_add,Nat.add_comm 1 i]
    ·rw [if_neg hi,if_neg (show ¬ i+1<n+1 by omega)]
def E5 (cs:Cs) (κ:List V->R):R:=@Cs.rec (fun _=>R) (fun xs=>κ xs) (fun n c=>Eb n c κ) cs
theorem Fo (cs:Cs) (κ:List V->R):∃ zs,E5 cs κ=κ zs∧zs.length=cs.len ∧ ∀ i,zs[i]? = cs.at i:=by
 cases cs with
 | l xs=>exact ⟨xs,rfl,rfl,fun _=>rfl⟩
 | b n c=>exact JV n c κ
def Un (cs:Cs) (κ:Nat->R):R:=@Cs.rec (fun _=>R) (fun xs=>G5 xs κ) (fun n _=>κ n) cs
theorem Tg (cs:Cs) (κ:Nat->R):Un cs κ=κ cs.len:=by
 cases cs with
 | l xs=>exact D8 xs κ
 | b n c=>rfl
def Nw (n c off m d:Nat) (κ:Cs->R):R :=
 br (Nat.ble (Nat.add off m) n) (Ah (Nat.add (lo c off) (up (Nat.add (lo d m) (up (sh c (Nat.add off m)) m)) off)) fun r=>κ (.b n r)) (.fail "")
def Nt (cs:Cs) (off:Nat) (y:Cs) (κ:Cs->R):R :=
 @Cs.rec (fun _=>R)
  (fun xs=>E5 y fun ys=>Di off xs fun a=>G5 ys fun m=>Ah (Nat.add off m) fun j=>DR j xs fun b=>EJ ys b fun t=>EJ a t fun zs=>κ (.l zs))
  (fun n c=>@Cs.rec (fun _=>R) (fun ys=>CE ys (fun m d=>Nw n c off m d κ) (.fail "")) (fun m d=>Nw n c off m d κ) y) cs
def Pz (cs:Cs) (off:Nat) (y z:Cs):Prop :=
 off+y.len≤cs.len∧z.len=cs.len∧(∀ i,i<off->z.at i=cs.at i)∧(∀ i,i<y.len->z.at (off+i)=y.at i)∧(∀ i,off+y.len≤i->z.at i=cs.at i)
theorem Ja (a b j i:Nat) (hi:i<j):(a % 256 ^ j+256 ^ j*b) / 256 ^ i % 256=a / 256 ^ i % 256:=by
 have h:(a % 256 ^ j+256 ^ j*b) % 256 ^ j=a % 256 ^ j:=by rw [Nat.add_mul_mod_self_left,Nat.mod_mod]
 rw [←Gc _ i j hi,h,Gc _ i j hi]
theorem Gk (a b j i:Nat):(a % 256 ^ j+256 ^ j*b) / 256 ^ (j+i) % 256=b / 256 ^ i % 256:=by
 have hp:0<256 ^ j:=Nat.pow_pos (by omega)
 rw [Nat.pow_add,←Nat.div_div_eq_div_mul,Nat.add_mul_div_left _ _ hp,Nat.div_eq_of_lt (Nat.mod_lt _ hp),Nat.zero_add]
theorem Lp {n c off m d:Nat} {κ:Cs->R} (h:(Nw n c off m d κ).good):∃ z,Pz (.b n c) off (.b m d) z∧Nw n c off m d κ=κ z:=by
 obtain ⟨h1,h2⟩:=Ak (show R.good (br (Nat.ble (Nat.add off m) n) _ (.fail _)) from h)
 have h1:off+m≤n:=Al.1 h1
 refine ⟨.b n (c % 256 ^ off+256 ^ off*(d % 256 ^ m+256 ^ m*(c / 256 ^ (off+m)))),⟨h1,rfl,fun i hi=>?_,fun i hi=>?_,fun i hi=>?_⟩,?_⟩
 ·simp only [Cs.at]
  rw [Ja _ _ _ _ hi]
 ·simp only [Cs.len] at hi
  simp only [Cs.at]
  rw [if_pos (by omega),if_pos hi,Gk,Ja _ _ _ _ hi]
 ·simp only [Cs.len] at hi
  simp only [Cs.at]
  obtain ⟨e,rfl⟩:∃ e,i=off+(m+e):=⟨i - off - m,by omega⟩
  rw [Gk,Gk,Nat.div_div_eq_div_mul,←Nat.pow_add,Nat.add_assoc]
 ·show br (Nat.ble (Nat.add off m) n) _ _=_
  rw [h2,Af]
  simp only [Du,RD,Eo]
  rfl
theorem Q6 {cs:Cs} {off:Nat} {y:Cs} {κ:Cs->R} (h:(Nt cs off y κ).good):∃ z,Pz cs off y z∧Nt cs off y κ=κ z:=by
 cases cs with
 | l xs =>
  obtain ⟨ys,e0,hyl,hya⟩:=Fo y (fun ys=>Di off xs fun a=>G5 ys fun m=>Ah (Nat.add off m) fun j=>DR j xs fun b=>EJ ys b fun t=>EJ a t fun zs=>κ (.l zs))
  have e0:Nt (.l xs) off y κ=_:=e0
  rw [e0] at h
  obtain ⟨h1,e1⟩:=Es h
  rw [e1,D8,Af] at h
  obtain ⟨h2,e2⟩:=EC h
  simp only [Nat.add_eq] at h2
  have hlen:ys.length=y.len:=hyl
  refine ⟨.l (xs.take off++(ys++xs.drop (off+ys.length))),⟨?_,?_,fun i hi=>?_,fun i hi=>?_,fun i hi=>?_⟩,?_⟩
  ·show off+y.len≤xs.length
   omega
  ·show (xs.take off++(ys++xs.drop (off+ys.length))).length=xs.length
   simp only [List.length_append,List.length_take,List.length_drop]; omega
  ·simp only [Cs.at]
   rw [List.getElem?_append_left (by rw [List.length_take]; omega),List.getElem?_take,if_pos hi]
  ·simp only [Cs.at]
   rw [List.getElem?_append_right (by rw [List.length_take]; omega),List.length_take,Nat.min_eq_left h1,Nat.add_sub_cancel_left,
    List.getElem?_append_left (by omega)]
   exact hya i
  ·simp only [Cs.at]
   rw [List.getElem?_append_right (by rw [List.length_take]; omega),List.length_take,Nat.min_eq_left h1,
    List.getElem?_append_right (by omega),List.getElem?_drop]
   congr 1; omega
  ·rw [e0,e1,D8,Af,e2,Ea,Ea]; rfl
 | b n c =>
  cases y with
  | l ys =>
   rcases Ka ys (fun m d=>Nw n c off m d κ) (.fail "") with e | ⟨m,d,e,hl,ha,_⟩
   ·have e:Nt (.b n c) off (.l ys) κ=_:=e
    rw [e] at h; exact h.elim
   ·have e:Nt (.b n c) off (.l ys) κ=_:=e
    rw [e] at h
    obtain ⟨z,⟨g1,g2,g3,g4,g5⟩,e'⟩:=Lp h
    refine ⟨z,⟨?_,g2,g3,fun i hi=>?_,fun i hi=>g5 i ?_⟩,e.trans e'⟩
    ·rw [hl] at g1; exact g1
    ·rw [g4 i (by rw [hl]; exact hi)]; exact ha i
    ·rw [hl]; exact hi
  | b m d=>exact Lp h
def RW (n c m d:Nat) (κ:Cs->R):R :=
 Ah (Nat.add n m) fun l=>Ah (Nat.add (lo c n) (up d n)) fun r=>κ (.b l r)
def TV (x y:Cs) (κ:Cs->R):R :=
 @Cs.rec (fun _=>R) (fun xs=>E5 y fun ys=>EJ xs ys fun zs=>κ (.l zs))
  (fun n c=>@Cs.rec (fun _=>R) (fun ys=>CE ys (fun m d=>RW n c m d κ) (Eb n c fun xs=>EJ xs ys fun zs=>κ (.l zs))) (fun m d=>RW n c m d κ) y) x
def Pi (x y z:Cs):Prop:=z.len=x.len+y.len∧(∀ i,i<x.len->z.at i=x.at i)∧(∀ i,z.at (x.len+i)=y.at i)
theorem VJ (xs ys:List V) (x y:Cs) (hx:xs.length=x.len) (hxa:∀ i,xs[i]? = x.at i) (hy:ys.length=y.len) (hya:∀ i,ys[i]? = y.at i):Pi x y (.l (xs++ys)):=by
 refine ⟨by simp [Cs.len,hx,hy],fun i hi=>?_,fun i=>?_⟩
 ·simp only [Cs.at]; rw [List.getElem?_append_left (by omega)]; exact hxa i
 ·simp only [Cs.at]; rw [List.getElem?_append_right (by omega),hx,Nat.add_sub_cancel_left]; exact hya i
theorem P3 (n c m d:Nat) (κ:Cs->R):∃ z,Pi (.b n c) (.b m d) z∧RW n c m d κ=κ z:=by
 refine ⟨.b (n+m) (c % 256 ^ n+256 ^ n*d),⟨rfl,fun i hi=>?_,fun i=>?_⟩,?_⟩
 ·simp only [Cs.len] at hi
  simp only [Cs.at]
  rw [if_pos (by omega),if_pos hi,Ja _ _ _ _ hi]
 ·show (Cs.b (n+m) _).at (n+i)=(Cs.b m d).at i
  by_cases hi:i<m
  ·rw [Cs.b_pos (by omega),Cs.b_pos hi,Gk]
  ·rw [Cs.b_neg (by omega),Cs.b_neg hi]
 ·simp only [RW,Af,Du,RD]; rfl
theorem SS (x y:Cs) (κ:Cs->R):∃ z,Pi x y z∧TV x y κ=κ z:=by
 cases x with
 | l xs =>
  obtain ⟨ys,e0,hyl,hya⟩:=Fo y (fun ys=>EJ xs ys fun zs=>κ (.l zs))
  exact ⟨_,VJ xs ys (.l xs) y rfl (fun _=>rfl) hyl hya,e0.trans (Ea _ _ _)⟩
 | b n c =>
  cases y with
  | l ys =>
   rcases Ka ys (fun m d=>RW n c m d κ) (Eb n c fun xs=>EJ xs ys fun zs=>κ (.l zs)) with e | ⟨m,d,e,hl,ha,_⟩
   ·obtain ⟨xs,e1,h2,h3⟩:=JV n c (fun xs=>EJ xs ys fun zs=>κ (.l zs))
    exact ⟨_,VJ xs ys (.b n c) (.l ys) h2 h3 rfl (fun _=>rfl),(e.trans e1).trans (Ea _ _ _)⟩
   ·obtain ⟨z,⟨g1,g2,g3⟩,e'⟩:=P3 n c m d κ
    refine ⟨z,⟨by rw [g1,hl]; rfl,g2,fun i=>(g3 i).trans (ha i)⟩,e.trans e'⟩
  | b m d=>exact P3 n c m d κ
def Ve (m:Nat):List V->(List V->R)->R :=
 @Nat.rec (fun _=>List V->(List V->R)->R) (fun _ κ=>κ []) (fun _ ih z κ=>ih z fun zs=>EJ z zs κ) m
theorem SF (m:Nat) (z:List V) (κ:List V->R):∃ zs,Ve m z κ=κ zs∧zs.length=m*z.length ∧ ∀ i,i<m*z.length->zs[i]? = z[i % z.length]?:=by
 induction m generalizing κ with
 | zero=>exact ⟨[],rfl,by simp,fun i hi=>by simp at hi⟩
 | succ m ih =>
  obtain ⟨zs,h1,h2,h3⟩:=ih (fun zs=>EJ z zs κ)
  refine ⟨z++zs,h1.trans (Ea _ _ _),by rw [List.length_append,h2,Nat.succ_mul]; omega,fun i hi=>?_⟩
  by_cases hz:i<z.length
  ·rw [List.getElem?_append_left hz,Nat.mod_eq_of_lt hz]
  ·rw [List.getElem?_append_right (by omega),h3 _ (by rw [Nat.succ_mul] at hi; omega)]
   congr 1
   rw [←Nat.mod_eq_sub_mod (by omega)]
def Em (u8:Bool) (z:List V) (m:Nat) (κ:Cs->R):R :=
 br u8 (κ (.b m 0)) (Ve m z fun zs=>κ (.l zs))
theorem Gu (u8:Bool) (z:List V) (m:Nat) (κ:Cs->R) (hu:u8=true->z=[.int .u8 0]) :
  ∃ y:Cs,Em u8 z m κ=κ y∧y.len=m*z.length ∧ ∀ i,i<m*z.length->y.at i=z[i % z.length]?:=by
 cases u8 with
 | true =>
  rw [hu rfl]
  refine ⟨.b m 0,rfl,by simp [Cs.len],fun i hi=>?_⟩
  simp only [Cs.at]
  rw [if_pos (by simpa using hi)]
  simp [Nat.mod_one]
 | false =>
  obtain ⟨zs,h1,h2,h3⟩:=SF m z (fun zs=>κ (.l zs))
  exact ⟨.l zs,h1,h2,h3⟩
end Go.Ev

namespace Go.Ev
set_option linter.unusedVariables false
inductive Opd where
 | t (p:K2)
 | c (v:V)
inductive Sc where
 | i
 | s
 | b
inductive Plan where
 | sc (k:Sc)
 | st (fs:List (Nat×Sc))
 | ks (l:List Sc)
 | rf (w:Nl)
structure Part where
 off:Nat
 size:Nat
 x:Opd
def CI (o:Opd) (t:Regs) (κ:V->R):R:=@Opd.rec (fun _=>R) (fun p=>GB p t κ) (fun v=>κ v) o
def ev (o:Opd) (t:Regs):V:=match o with | .t p=>Bf p t | .c v=>v
theorem AJ (o:Opd) (t:Regs) (κ:V->R):CI o t κ=κ (ev o t):=by
 cases o with
 | t p=>exact Cp p t κ
 | c v=>rfl
def NK (l:List Opd) (t:Regs):(List V->R)->R :=
 @List.rec Opd (fun _=>(List V->R)->R) (fun κ=>κ []) (fun o _ ih κ=>CI o t fun v=>ih fun vs=>κ (v::vs)) l
theorem ET (l:List Opd) (t:Regs) (κ:List V->R):NK l t κ=κ (l.map (ev · t)):=by
 induction l generalizing κ with
 | nil=>rfl
 | cons o l ih =>
  show CI o t _=_
  rw [AJ]
  exact ih _
inductive AK where
 | mv (x:Opd)
 | pick (c a b:Opd)
 | alc (cs:Cs)
 | box (x:Opd)
 | build (zero:List V) (parts:List Part)
 | bslice (u8:Bool) (len esz:Nat) (zero:List V) (parts:List Part)
 | ld (x:Opd)
 | ldn (m:Nat) (x:Opd)
 | st (m:Nat) (a x:Opd)
 | nilck (x:Opd)
 | bin (op:BinOp) (x y:Opd)
 | eq (neg:Bool) (pl:Plan) (x y:Opd)
 | not (x:Opd)
 | neg (x:Opd)
 | com (x:Opd)
 | cvi (k:IntKind) (x:Opd)
 | b2s (x:Opd)
 | s2b (x:Opd)
 | idn (x:Opd)
 | bsl (x:Opd)
 | mkfn (f:Nat) (caps:List Opd)
 | mkmap 
 | mksl (eb:Nat) (u8:Bool) (zero:List V) (l c:Opd)
 | slS (x:Opd) (lo hi:Option Opd)
 | slL (esz:Nat) (x:Opd) (lo hi:Option Opd)
 | slA (m esz:Nat) (x:Opd) (lo hi:Option Opd)
 | fad (off:Nat) (x:Opd)
 | fld (off size:Nat) (ag:Bool) (x:Opd)
 | ixS (esz:Nat) (x i:Opd)
 | ixA (m esz:Nat) (x i:Opd)
 | idS (x i:Opd)
 | idA (m esz:Nat) (ag:Bool) (x i:Opd)
 | lk (pl:Plan) (zero:V) (ok:Bool) (m k:Opd)
 | mu (pl:Plan) (m k v:Opd)
 | del (pl:Plan) (m k:Opd)
 | ext (i:Nat) (x:Opd)
 | call (f:Nat) (args:List Opd)
 | calld (x:Opd) (args:List Opd)
 | lnS (x:Opd)
 | lnL (x:Opd)
 | lnM (x:Opd)
 | min (x y:Opd)
 | max (x y:Opd)
 | app (esz eb:Nat) (x y:Opd)
 | appz (esz eb:Nat) (u8:Bool) (zero:List V) (x c:Opd)
 | cpy (esz:Nat) (x y:Opd)
 | max3 (x y z:Opd)
 | cpL (x:Opd)
 | clr (u8:Bool) (zero:List V) (x:Opd)
 | bad (why:String)
def Sq (k:IntKind) (a:Nat) (j:IntKind) (b:Nat) (κ:V->R):R:=br (Bi k j) (Ah (Nat.mod (Nat.add a b) (Mk k)) fun r=>κ (.int k r)) (.fail "")
def Ms (k:IntKind) (a:Nat) (j:IntKind) (b:Nat) (κ:V->R):R:=br (Bi k j) (Ah (Nat.mod (Nat.add a (Nat.sub (Mk k) b)) (Mk k)) fun r=>κ (.int k r)) (.fail "")
def Sh (k:IntKind) (a:Nat) (j:IntKind) (b:Nat) (κ:V->R):R:=br (Bi k j) (Ah (Nat.mod (Nat.mul a b) (Mk k)) fun r=>κ (.int k r)) (.fail "")
def Ny (k:IntKind) (a:Nat) (j:IntKind) (b:Nat) (κ:R):R :=
 br (Bi k j) (br (Nat.ble (Nat.succ a) (Hk k)) (br (Nat.ble (Nat.succ b) (Hk k)) κ (.fail "")) (.fail "")) (.fail "")
def Qa (k:IntKind) (a:Nat) (j:IntKind) (b:Nat) (κ:V->R):R:=Ny k a j b (br (Nat.ble 1 b) (Ah (Nat.div a b) fun r=>κ (.int k r)) (.fail ""))
def PH (k:IntKind) (a:Nat) (j:IntKind) (b:Nat) (κ:V->R):R:=Ny k a j b (br (Nat.ble 1 b) (Ah (Nat.mod a b) fun r=>κ (.int k r)) (.fail ""))
def Rf (k:IntKind) (a:Nat) (j:IntKind) (b:Nat) (κ:V->R):R:=br (Bi k j) (Ah (Nat.land a b) fun r=>κ (.int k r)) (.fail "")
def VV (k:IntKind) (a:Nat) (j:IntKind) (b:Nat) (κ:V->R):R:=br (Bi k j) (Ah (Nat.lor a b) fun r=>κ (.int k r)) (.fail "")
def R7 (k:IntKind) (a:Nat) (j:IntKind) (b:Nat) (κ:V->R):R:=br (Bi k j) (Ah (Nat.xor a b) fun r=>κ (.int k r)) (.fail "")
def Nh (k:IntKind) (a:Nat) (j:IntKind) (b:Nat) (κ:V->R):R:=br (Bi k j) (Ah (Nat.land a (Nat.sub (Nat.sub (Mk k) 1) b)) fun r=>κ (.int k r)) (.fail "")
def RC (k:IntKind) (a:Nat) (j:IntKind) (b:Nat) (κ:V->R):R :=
 br (Nat.ble (Nat.succ b) (Hk j)) (br (Nat.ble b 64) (Ah (Nat.mod (Nat.shiftLeft a b) (Mk k)) fun r=>κ (.int k r)) (κ (.int k 0))) (.fail "")
def Q5 (k:IntKind) (a:Nat) (j:IntKind) (b:Nat) (κ:V->R):R :=
 br (Nat.ble (Nat.succ b) (Hk j)) (br (Nat.ble (Nat.succ a) (Hk k)) (br (Nat.ble b 64) (Ah (Nat.shiftRight a b) fun r=>κ (.int k r)) (κ (.int k 0))) (.fail "")) (.fail "")
def Wi (k:IntKind) (a:Nat) (j:IntKind) (b:Nat) (κ:V->R):R:=br (Bi k j) (Cz (Nat.beq a b) fun r=>κ (.bool r)) (.fail "")
def Wp (k:IntKind) (a:Nat) (j:IntKind) (b:Nat) (κ:V->R):R:=br (Bi k j) (br (Nat.beq a b) (κ (.bool false)) (κ (.bool true))) (.fail "")
def Wu (k:IntKind) (a:Nat) (j:IntKind) (b:Nat) (κ:V->R):R:=br (Bi k j) (Cz (Ha k a b) fun r=>κ (.bool r)) (.fail "")
def Wq (k:IntKind) (a:Nat) (j:IntKind) (b:Nat) (κ:V->R):R:=br (Bi k j) (Cz (Ha k b a) fun r=>κ (.bool r)) (.fail "")
def Wl (k:IntKind) (a:Nat) (j:IntKind) (b:Nat) (κ:V->R):R:=br (Bi k j) (br (Ha k b a) (κ (.bool false)) (κ (.bool true))) (.fail "")
def Wr (k:IntKind) (a:Nat) (j:IntKind) (b:Nat) (κ:V->R):R:=br (Bi k j) (br (Ha k a b) (κ (.bool false)) (κ (.bool true))) (.fail "")
def Kk (op:BinOp):IntKind->Nat->IntKind->Nat->(V->R)->R :=
 @BinOp.rec (fun _=>IntKind->Nat->IntKind->Nat->(V->R)->R) Sq Ms Sh Qa PH Rf VV R7 RC Q5 Nh Wi Wp Wu Wl Wq Wr op
def TZ (n c m d:Nat) (κ:V->R):R :=
 Ah (Nat.add n m) fun l=>br (Nat.ble l 1000000000) (Ah (Nat.add c (up d n)) fun r=>κ (.str l r)) (.fail "")
def IP (n c m d:Nat):Bool:=and (Nat.beq n m) (Nat.beq c d)
def NU (n:Nat):Nat->Nat->Nat->Bool :=
 @Nat.rec (fun _=>Nat->Nat->Nat->Bool) (fun _ m _=>Nat.ble 1 m)
  (fun _ ih c m d=>@Nat.rec (fun _=>Bool) false (fun m _=>br (Nat.beq (lo c 1) (lo d 1)) (ih (sh c 1) m (sh d 1)) (Nat.ble (Nat.succ (lo c 1)) (lo d 1))) m) n
def KB (n c m d:Nat) (κ:V->R):R:=.fail ""
def TK (n c m d:Nat) (κ:V->R):R:=Cz (IP n c m d) fun r=>κ (.bool r)
def Z9 (n c m d:Nat) (κ:V->R):R:=br (IP n c m d) (κ (.bool false)) (κ (.bool true))
def Wz (n c m d:Nat) (κ:V->R):R:=Cz (NU n c m d) fun r=>κ (.bool r)
def sgt (n c m d:Nat) (κ:V->R):R:=.fail ""
def ZV (n c m d:Nat) (κ:V->R):R:=.fail ""
def XC (n c m d:Nat) (κ:V->R):R:=br (NU n c m d) (κ (.bool false)) (κ (.bool true))
def IQ (op:BinOp):Nat->Nat->Nat->Nat->(V->R)->R :=
 @BinOp.rec (fun _=>Nat->Nat->Nat->Nat->(V->R)->R) TZ KB KB KB KB KB KB KB KB KB KB TK Z9 Wz ZV sgt XC op
def Im (v:V) (κ:IntKind->Nat->Nat->R):R :=
 @V.rec (fun _=>R) (fun _=>Unit) (fun k r=>κ k r r) (B2 "") (AN "") (Dl "") (AN "") (AN "") (B2 "") (B2 "") (BR "") (AN "") (fun o=>@Ot.rec (fun _=>R) (.fail "") (fun _=>(.fail "")) (fun _=>(.fail "")) (.fail "") (fun k lo hi=>κ k lo hi) (fun _ _=>(.fail "")) (.fail "") (fun m _=>br (Nat.ble 18446744073709551616 m) (br (Nat.ble (Nat.succ m) 36893488147419103232) (κ .i64 0 9223372036854775807) (.fail "")) (.fail "")) (fun _ _ _ _=>(.fail "")) (fun _ _ _ _=>(.fail "")) (fun _ _ _=>(.fail "")) (fun k _=>κ k 0 (Nat.sub (Mk k) 1)) o) () (fun _ _ _ _=>()) v
def Bq (H M r:Nat):Nat:=br (Nat.ble H r) (Nat.sub r H) (Nat.add r (Nat.sub M H))
def Et (H lo hi:Nat):Bool:=br (Nat.ble (Nat.succ hi) H) true (Nat.ble H lo)
def Th (a b c d:Nat) (κ:V->R):R:=br (Nat.ble (Nat.succ b) c) (κ (.bool true)) (br (Nat.ble d a) (κ (.bool false)) (κ (.oth .bl)))
def SW (a b c d:Nat) (κ:V->R):R:=br (Nat.ble (Nat.succ b) c) (κ (.bool false)) (br (Nat.ble d a) (κ (.bool true)) (κ (.oth .bl)))
def LH (a b c d:Nat):Bool:=br (Nat.beq a b) (br (Nat.beq b c) (Nat.beq c d) false) false
def U4 (a b c d:Nat) (κ:V->R):R:=br (Nat.ble (Nat.succ b) c) (κ (.bool false)) (br (Nat.ble (Nat.succ d) a) (κ (.bool false)) (br (LH a b c d) (κ (.bool true)) (κ (.oth .bl))))
def U7 (a b c d:Nat) (κ:V->R):R:=br (Nat.ble (Nat.succ b) c) (κ (.bool true)) (br (Nat.ble (Nat.succ d) a) (κ (.bool true)) (br (LH a b c d) (κ (.bool false)) (κ (.oth .bl))))
def FX (a b c d:Nat) (κ:V->R):R:=.fail ""
def V2 (op:BinOp):Nat->Nat->Nat->Nat->(V->R)->R :=
 @BinOp.rec (fun _=>Nat->Nat->Nat->Nat->(V->R)->R) FX FX FX FX FX FX FX FX FX FX FX U4 U7 Th (fun a b c d κ=>SW c d a b κ) (fun a b c d κ=>Th c d a b κ) SW op
def GA (op:BinOp) (κ:V->R):R :=
 @BinOp.rec (fun _=>R) (.fail "") (.fail "") (.fail "") (.fail "") (.fail "") (.fail "") (.fail "") (.fail "") (.fail "") (.fail "") (.fail "") (κ (.oth .bl)) (κ (.oth .bl)) (κ (.oth .bl)) (κ (.oth .bl)) (κ (.oth .bl)) (κ (.oth .bl)) op
def Tc (op:BinOp) (κ:V->R) (e:R):R:=@BinOp.rec (fun _=>R) e e e e e e e e e e e (κ (.bool false)) (κ (.bool true)) e e e e op
def Rg (op:BinOp) (a b c d:Nat) (κ:V->R):R:=br (br (Nat.ble (Nat.succ b) c) true (Nat.ble (Nat.succ d) a)) (Tc op κ (GA op κ)) (GA op κ)
def FQ (op:BinOp) (x y:V) (κ:V->R):R :=
 Im x fun k a b=>Im y fun j c d=>br (Bi k j) (br (Et (Hk k) a b) (br (Et (Hk k) c d) (V2 op (Bq (Hk k) (Mk k) a) (Bq (Hk k) (Mk k) b) (Bq (Hk k) (Mk k) c) (Bq (Hk k) (Mk k) d) κ) (Rg op a b c d κ)) (Rg op a b c d κ)) (.fail "")
def Py (x y:V) (κ:V->R):R :=
 Im x fun k a b=>Im y fun j c d=>br (Bi k j) (Ah (Nat.add a c) fun lo=>Ah (Nat.add b d) fun hi=>br (Nat.ble (Nat.succ hi) (Hk k)) (κ (.oth (.iv k lo hi))) (Ah (Nat.sub (Mk k) 1) fun m=>κ (.oth (.iv k 0 m)))) (.fail "")
def Pu (x y:V) (κ:V->R):R :=
 Im x fun k a b=>Im y fun j c d=>br (Bi k j) (br (Nat.ble d a) (br (Nat.ble (Nat.succ b) (Hk k)) (Ah (Nat.sub a d) fun lo=>Ah (Nat.sub b c) fun hi=>κ (.oth (.iv k lo hi))) (.fail "")) (.fail "")) (.fail "")
def OT (x y:V) (κ:V->R):R :=
 Im x fun k a b=>FJ y fun j d=>br (Bi k .i64) (br (Bi j .i64) (br (Nat.ble 1 d) (br (Nat.ble (Nat.succ d) 9223372036854775808)
  (br (Nat.ble (Nat.succ b) 9223372036854775808) (Ah (Nat.sub d 1) fun e=>κ (.oth (.iv .i64 0 e))) (κ (.oth (.iv .i64 0 18446744073709551615)))) (.fail "")) (.fail "")) (.fail "")) (.fail "")
def Fp (op:BinOp) (x y:V) (κ:V->R):R :=
 @BinOp.rec (fun _=>R) (Py x y κ) (Pu x y κ) (FQ op x y κ) (FQ op x y κ) (OT x y κ) (FQ op x y κ) (FQ op x y κ) (FQ op x y κ) (FQ op x y κ) (FQ op x y κ) (FQ op x y κ) (FQ op x y κ) (FQ op x y κ) (FQ op x y κ) (FQ op x y κ) (FQ op x y κ) (FQ op x y κ) op
def Uw (a b c d:Nat) (yes no:R):R:=br (Nat.ble (Nat.succ b) c) yes (br (Nat.ble d a) no (.fail ""))
def Uv (u v:V) (κ:V->R):R :=
 Im u fun k a b=>Im v fun j c d=>br (Bi k j) (br (Et (Hk k) a b) (br (Et (Hk k) c d) (Uw (Bq (Hk k) (Mk k) a) (Bq (Hk k) (Mk k) b) (Bq (Hk k) (Mk k) c) (Bq (Hk k) (Mk k) d) (κ v) (κ u)) (.fail "")) (.fail "")) (.fail "")
def Uz (u v:V) (κ:V->R):R :=
 Im u fun k a b=>Im v fun j c d=>br (Bi k j) (br (Et (Hk k) a b) (br (Et (Hk k) c d) (Uw (Bq (Hk k) (Mk k) c) (Bq (Hk k) (Mk k) d) (Bq (Hk k) (Mk k) a) (Bq (Hk k) (Mk k) b) (κ v) (κ u)) (.fail "")) (.fail "")) (.fail "")
def Tx (m j b:Nat) (κ:V->R):R:=br (Nat.beq m (Nat.add 73786976294838206464 b)) (Ah (Nat.mod j 18446744073709551616) fun d=>br (Nat.beq d (Nat.div j 18446744073709551616)) (br (Nat.ble 1 d) (Ah (Nat.sub 18446744073709551616 d) fun r=>κ (.int .i64 r)) (.fail "")) (.fail "")) (.fail "")
def Pg (op:BinOp) (x y:V) (κ:V->R) (e:R):R :=
 @BinOp.rec (fun _=>R) e e e e (YP x (fun m j=>FJ y fun k b=>br (Bi k .i64) (br (Nat.ble 1 b) (br (Nat.ble (Nat.succ b) 9223372036854775808) (br (Nat.beq m (Nat.add 18446744073709551616 b)) (κ (.int .i64 j)) (br (Nat.beq m b) (br (Nat.beq j 0) (κ (.int .i64 0)) (κ (.oth (.iv .i64 1 18446744073709551615)))) (Tx m j b κ))) (.fail "")) (.fail "")) (.fail "")) e) e e e e e e e e e e e e op
def UN (v:V) (κ:IntKind->Nat->R) (e:R):R :=
 @V.rec (fun _=>R) (fun _=>Unit) (fun _ _=>e) (fun _=>e) (fun _ _=>e) (fun _ _ _ _ _ _=>e) (fun _ _=>e) (fun _ _=>e) (fun _=>e) (fun _=>e) (fun _ _ _=>e) (fun _ _=>e) (fun o=>TX o κ e) () (fun _ _ _ _=>()) v
def JX (x y:V) (a e:R):R:=UN x (fun k i=>UN y (fun j i'=>br (Bi k j) (br (Nat.beq i i') a e) e) e) e
def Wt (op:BinOp) (x y:V) (κ:V->R) (e:R):R:=@BinOp.rec (fun _=>R) e e e e e e e e e e e (JX x y (κ (.bool true)) e) (JX x y (κ (.bool false)) e) e e e e op
def J0 (op:BinOp) (x y:V) (κ:V->R):R:=Wt op x y κ (Pg op x y κ (Fp op x y κ))
def Pw (op:BinOp) (l0 l1 n c m d:Nat) (κ:V->R):R :=
 br (br (Nat.ble l0 m) (br (Nat.ble m l1) (br (Nat.beq m n) (Nat.beq d c) false) true) true)
  (@BinOp.rec (fun _=>R) (.fail "") (.fail "") (.fail "") (.fail "") (.fail "") (.fail "") (.fail "") (.fail "") (.fail "") (.fail "") (.fail "") (κ (.bool false)) (κ (.bool true)) (.fail "") (.fail "") (.fail "") (.fail "") op) (.fail "")
def Cd (op:BinOp) (x y:V) (κ:V->R):R:=Sf x (fun l0 l1 n c=>Bd y fun m d=>Pw op l0 l1 n c m d κ) (J0 op x y κ)
def Mi (op:BinOp) (x y:V) (κ:V->R):R :=
 @V.rec (fun _=>R) (fun _=>Unit) (fun k r=>@V.rec (fun _=>R) (fun _=>Unit) (fun j b=>Kk op k r j b κ) (B2 "") (AN "") (Dl "") (AN "") (AN "") (B2 "") (B2 "") (BR "") (AN "") (fun _=>J0 op x y κ) () (fun _ _ _ _=>()) y) (B2 "") (AN "") (Dl "") (fun n c=>Bd y fun m d=>IQ op n c m d κ) (AN "") (B2 "") (B2 "") (BR "") (AN "") (fun _=>Cd op x y κ) () (fun _ _ _ _=>()) x
def eqI (x y:V) (κ:Bool->R):R:=FJ x fun k a=>FJ y fun j b=>br (Bi k j) (Cz (Nat.beq a b) κ) (.fail "")
def eqS (x y:V) (κ:Bool->R):R:=Bd x fun n c=>Bd y fun m d=>Cz (IP n c m d) κ
def eqB (x y:V) (κ:Bool->R):R:=NM x fun b=>NM y fun c=>br b (br c (κ true) (κ false)) (br c (κ false) (κ true))
def KA (k:Sc):V->V->(Bool->R)->R:=@Sc.rec (fun _=>V->V->(Bool->R)->R) eqI eqS eqB k
def Nl.ix (w:Nl):Nat:=@Nl.rec (fun _=>Nat) 0 1 2 3 4 w
def FN (w:Nl) (v:V) (κn κo:R):R :=
 @V.rec (fun _=>R) (fun _=>Unit) (AN "") (B2 "") (fun p off=>br (Nat.beq w.ix 0) κo (.fail "")) (fun p off len cap ex esz=>br (Nat.beq w.ix 1) κo (.fail "")) (AN "") (AN "") (fun w'=>br (Nat.beq w'.ix w.ix) κn (.fail "")) (fun p=>br (Nat.beq w.ix 2) κo (.fail "")) (fun f caps _i=>br (Nat.beq w.ix 3) κo (.fail "")) (AN "") (B2 "") () (fun _ _ _ _=>()) v
def IT (w:Nl) (x y:V) (κ:Bool->R):R :=
 FN w x (FN w y (κ true) (κ false)) (FN w y (κ false) (I3 x fun p o=>I3 y fun q o'=>br (K4.beq p q) (Cz (Nat.beq o o') κ) (.fail "")))
def I9 (fs:List (Nat×Sc)) (x y:List V) (κ:Bool->R):R :=
 @List.rec (Nat×Sc) (fun _=>R) (κ true) (fun f _ ih=>@Prod.rec Nat Sc (fun _=>R) (fun o k=>DY o x fun u=>DY o y fun v=>KA k u v fun r=>br r ih (κ false)) f) fs
def N9 (ks:List Sc):List V->List V->(Bool->R)->R :=
 @List.rec Sc (fun _=>List V->List V->(Bool->R)->R)
  (fun a b κ=>@List.rec V (fun _=>R) (@List.rec V (fun _=>R) (κ true) (BR "") b) (BR "") a)
  (fun k _ ih a b κ=>@List.rec V (fun _=>R) (.fail "") (fun u a _=>@List.rec V (fun _=>R) (.fail "") (fun v b _=>KA k u v fun r=>br r (ih a b κ) (κ false)) b) a) ks
def Kh (pl:Plan) (x y:V) (κ:Bool->R):R :=
 @Plan.rec (fun _=>R) (fun k=>KA k x y κ) (fun fs=>asAgg x fun a=>asAgg y fun b=>I9 fs a b κ) (fun l=>asAgg x fun a=>asAgg y fun b=>N9 l a b κ) (fun w=>IT w x y κ) pl
def MN (ks:List Sc):List V->R->R :=
 @List.rec Sc (fun _=>List V->R->R) (fun a κ=>@List.rec V (fun _=>R) κ (BR "") a) (fun _ _ ih a κ=>@List.rec V (fun _=>R) (.fail "") (fun _ l _=>ih l κ) a) ks
def JS (pl:Plan) (v:V) (κ:R):R :=
 @Plan.rec (fun _=>R) (fun k=>@Sc.rec (fun _=>R) (FJ v fun _ _=>κ) (Bd v fun _ _=>κ) (NM v fun _=>κ) k) (B2 "") (fun l=>asAgg v fun a=>MN l a κ) (B2 "") pl
def GG (pl:Plan) (k:V) (es:List (V×V)) (κf:V->R) (κn:R):R :=
 @List.rec (V×V) (fun _=>R) κn (fun e _ ih=>@Prod.rec V V (fun _=>R) (fun a b=>Kh pl k a fun r=>br r (κf b) ih) e) es
def GR (pl:Plan) (k v:V) (es:List (V×V)):(List (V×V)->R)->R :=
 @List.rec (V×V) (fun _=>(List (V×V)->R)->R) (fun κ=>κ [(k,v)])
  (fun e tl ih κ=>@Prod.rec V V (fun _=>R) (fun a _=>Kh pl k a fun r=>br r (κ ((k,v)::tl)) (ih fun l=>κ (e::l))) e) es
def Kz (pl:Plan) (k:V) (es:List (V×V)):(List (V×V)->R)->R :=
 @List.rec (V×V) (fun _=>(List (V×V)->R)->R) (fun κ=>κ [])
  (fun e tl ih κ=>@Prod.rec V V (fun _=>R) (fun a _=>Kh pl k a fun r=>br r (κ tl) (ih fun l=>κ (e::l))) e) es
def GN (es:List (V×V)):List Nat->Bool :=
 @List.rec (V×V) (fun _=>List Nat->Bool) (fun bs=>@List.rec Nat (fun _=>Bool) true (fun _ _ _=>false) bs) (fun _ _ ih bs=>@List.rec Nat (fun _=>Bool) false (fun _ bs _=>ih bs) bs) es
def RM (bs:List Nat) (c:Nat):(List Nat->R)->R :=
 @List.rec Nat (fun _=>(List Nat->R)->R) (fun κ=>κ [c]) (fun b _ ih κ=>ih fun l=>κ (b::l)) bs
def Um (es:List (V×V)) (bs:List Nat) (c:Nat) (κ:List Nat->Nat->R):R :=
 br (GN es bs) (κ bs c) (RM bs c fun bs=>Ah (Nat.succ c) fun c=>κ bs c)
def Kt (pl:Plan) (k:V) (es:List (V×V)):List Nat->(List Nat->R)->R :=
 @List.rec (V×V) (fun _=>List Nat->(List Nat->R)->R) (fun bs κ=>κ bs)
  (fun e _ ih bs κ=>@List.rec Nat (fun _=>R) (.fail "") (fun b tl _=>@Prod.rec V V (fun _=>R) (fun a _=>Kh pl k a fun r=>br r (κ tl) (ih tl fun l=>κ (b::l))) e) bs) es
def TF (es:List (V×V)):(Nat->R)->R :=
 @List.rec (V×V) (fun _=>(Nat->R)->R) (fun κ=>κ 0) (fun _ _ ih κ=>ih fun n=>Ah (Nat.succ n) κ) es
def Ie (p:K4) (h:Heap) (κ:Cs->Bool->Option K4->R):R :=
 Ps p h fun o=>@Option.rec Ob (fun _=>R) (.fail "") (fun o=>@Ob.rec (fun _=>R) κ (BR "") (Fe "") (.fail "") (AN "") o) o
def NL (p:K4) (h:Heap) (κ:List (V×V)->List Nat->Nat->R):R :=
 Ps p h fun o=>@Option.rec Ob (fun _=>R) (.fail "") (fun o=>@Ob.rec (fun _=>R) (BR "") κ (Fe "") (.fail "") (AN "") o) o
def CS (h:Heap) (n:K4) (o:Ob) (κ:Heap->K4->R):R:=Fj n h (some o) fun h'=>n.nx fun n'=>κ h' n'
def KZ (prev:Option K4) (h:Heap) (κ:Heap->R):R:=@Option.rec K4 (fun _=>R) (κ h) (fun q=>Fj q h none κ) prev
def E1 (h:Heap) (p:K4) (off:Nat) (y:Cs) (κ:Heap->R):R :=
 Ie p h fun cs sup prev=>br sup (.fail "") (Nt cs off y fun cs'=>KZ prev h fun h=>Fj p h (some (.c cs' false none)) κ)
def HV (v:V) (κ:Nat->R):R:=FJ v fun k r=>br (Nat.ble (Nat.succ r) (Hk k)) (κ r) (.fail "")
def Ci (o:Option Opd) (t:Regs) (d:Nat) (κ:Nat->R):R:=@Option.rec Opd (fun _=>R) (κ d) (fun x=>CI x t fun v=>HV v κ) o
def FP (n:Nat) (κ:V->R):R:=br (Nat.ble (Nat.succ n) 9223372036854775808) (κ (.int .i64 n)) (.fail "")
def Km (xs:List V) (off:Nat) (ys:List V) (κ:List V->R):R :=
 Di off xs fun a=>G5 ys fun m=>Ah (Nat.add off m) fun j=>DR j xs fun b=>EJ ys b fun t=>EJ a t κ
def CY (parts:List Part) (t:Regs):List V->(List V->R)->R :=
 @List.rec Part (fun _=>List V->(List V->R)->R) (fun z κ=>κ z)
  (fun p _ ih z κ=>@Part.rec (fun _=>R) (fun off size x=>CI x t fun v=>DI v fun l=>G5 l fun m=>br (Nat.beq m size) (Km z off l fun z=>ih z κ) (.fail "")) p) parts
def V3 (i j:Nat) (κ:V->R):R:=br (Nat.ble (Nat.succ j) (Ws i)) (Ah (Uo i) fun m=>br (Nat.ble (Nat.succ m) 18446744073709551616) (Ah (Wj i j) fun d=>κ (.oth (.rs m d))) (.fail "")) (κ (.oth (.iv .i64 0 18446744073709551615)))
def Vs (i j:Nat) (κ:V->R):R:=br (Nat.ble i 36893488147419103232) (κ (.oth (.iv .i64 0 18446744073709551615))) (br (Nat.beq j (VB i))
 (Ah (HG i) fun m=>Ah (P1 i) fun t=>br (Nat.ble (Nat.succ m) t) (Ah (Nat.sub t m) fun d=>κ (.oth (.rs (Nat.add 18446744073709551616 m) d)))
  (br (Nat.beq t m) (br (Nat.ble 1 m) (κ (.oth (.rs m 0))) (.fail "")) (Ah (Nat.sub m t) fun d=>κ (.oth (.rs (Nat.add 73786976294838206464 m) (Nat.add (Nat.mul d 18446744073709551616) d))))))
 (κ (.oth (.iv .i64 0 18446744073709551615))))
def Tq (i j:Nat) (κ:V->R):R:=br (Nat.beq i 0) (κ (.oth .bl)) (br (Nat.ble i 18446744073709551615) (Ah (Nat.add i j) fun q=>κ (.oth (.sy .i64 q)))
 (br (Nat.ble i 36893488147419103231) (br (Nat.ble (Nat.succ j) (Nat.div (Nat.sub i 18446744073709551616) 4294967296)) (br (P2 i j) (κ (.bool true)) (κ (.bool false))) (κ (.oth .bl))) (br (Nat.ble i 73786976294838206463) (Vs i j κ) (V3 i j κ))))
def Ix (m:Nat):Nat->List V:=@Nat.rec (fun _=>Nat->List V) (fun _=>[]) (fun _ ih i=>.oth (.sy .i64 i)::ih (Nat.succ i)) m
def Mc (esz:Nat) (v:V) (h:Heap) (κ:Nat->Cs->R):R :=
 @V.rec (fun _=>R) (fun _=>Unit) (AN "") (B2 "") (AN "") (fun p off len cap ex esz'=>br (Nat.beq esz' esz) (Ie p h fun cs _ _=>Ah (Nat.mul len esz) fun m=>BN cs off m fun y=>κ len y) (.fail "")) (fun n c=>br (Nat.beq esz 1) (κ n (.b n c)) (.fail "")) (AN "") (fun w=>@Nl.rec (fun _=>R) (.fail "") (κ 0 (.l [])) (.fail "") (.fail "") (.fail "") w) (B2 "") (BR "") (AN "") (fun o=>NV o (fun i l0 l1 z=>br (Nat.beq z esz) (br (Nat.beq l0 l1) (br (and (Nat.ble 1 i) (Nat.ble i 18446744073709551615)) (Ah (Nat.mul l0 esz) fun m=>κ l0 (.l (Ix m i))) (.fail "")) (.fail "")) (.fail "")) (.fail "")) () (fun _ _ _ _=>()) v
def DP (esz eb:Nat) (x:V) (m:Nat) (y:Cs) (h:Heap) (n:K4) (κ:KV):R :=
 CM x
  (br (Nat.beq m 0) (κ (.nil .sl) h n) (br (Nat.ble (Nat.mul (Nat.add (Nat.mul 4 m) 4096) eb) 281474976710656) (CS h n (.c y false none) fun h' n'=>κ (.sl n 0 m m false esz) h' n') (.fail "")))
  (fun p off len cap ex esz'=>br (Nat.beq esz' esz) (br (Nat.beq m 0) (κ x h n) (Ah (Nat.add len m) fun need =>
   br (Nat.ble need cap)
    (Ah (Nat.add off (Nat.mul len esz)) fun j=>E1 h p j y fun h'=>κ (.sl p off need cap ex esz) h' n)
    (br (Nat.ble (Nat.mul (Nat.add (Nat.mul 4 need) 4096) eb) 281474976710656)
     (Ie p h fun cs sup prev=>Ah (Nat.mul len esz) fun l=>BN cs off l fun a=>TV a y fun z =>
      br ex
       (CS h n (.c z false none) fun h' n'=>κ (.sl n 0 need need false esz) h' n')
       (br sup (.fail "")
        (Ah (Nat.add off l) fun j=>BN cs 0 j fun old=>KZ prev h fun h=>Fj p h (some (.c old true none)) fun h =>
         CS h n (.c z false (some p)) fun h' n'=>κ (.sl n 0 need need false esz) h' n')))
     (.fail "")))) (.fail ""))
abbrev CF:=Nat->List V->Heap->K4->R
def Sj (x:Opd) (cf:CF) (t:Regs) (h:Heap) (n:K4) (κ:KV):R :=
 CI x t fun v=>κ v h n
def H8 (c a b:Opd) (cf:CF) (t:Regs) (h:Heap) (n:K4) (κ:KV):R :=
 CI c t fun v=>NM v fun q=>br q (CI a t fun v=>κ v h n) (CI b t fun v=>κ v h n)
def Nb (cs:Cs) (cf:CF) (t:Regs) (h:Heap) (n:K4) (κ:KV):R :=
 CS h n (.c cs false none) fun h' n'=>κ (.ptr n 0) h' n'
def Hm (x:Opd) (cf:CF) (t:Regs) (h:Heap) (n:K4) (κ:KV):R :=
 CI x t fun v=>DI v fun l=>CS h n (.c (.l l) false none) fun h' n'=>κ (.ptr n 0) h' n'
def OY (zero:List V) (parts:List Part) (cf:CF) (t:Regs) (h:Heap) (n:K4) (κ:KV):R :=
 CY parts t zero fun l=>κ (.agg l) h n
def FZ (u8:Bool) (len esz:Nat) (zero:List V) (parts:List Part) (cf:CF) (t:Regs) (h:Heap) (n:K4) (κ:KV):R :=
 CY parts t zero fun l=>br u8 (CE l (fun m c=>CS h n (.c (.b m c) false none) fun h' n'=>κ (.sl n 0 len len true esz) h' n') (.fail "")) (CS h n (.c (.l l) false none) fun h' n'=>κ (.sl n 0 len len true esz) h' n')
def QA (x:Opd) (cf:CF) (t:Regs) (h:Heap) (n:K4) (κ:KV):R :=
 CI x t fun v=>NT v (fun p off=>Ie p h fun cs _ _=>FI cs off fun v=>κ v h n) (fun o=>Qj o (fun i j m=>br (Nat.ble 1 m) (Tq i j fun v=>κ v h n) (.fail "")) (.fail ""))
def LF (m:Nat) (x:Opd) (cf:CF) (t:Regs) (h:Heap) (n:K4) (κ:KV):R :=
 CI x t fun v=>I3 v fun p off=>Ie p h fun cs _ _=>BN cs off m fun y=>E5 y fun l=>κ (.agg l) h n
def Qw (m:Nat) (a x:Opd) (cf:CF) (t:Regs) (h:Heap) (n:K4) (κ:KV):R :=
 CI a t fun u=>I3 u fun p off=>CI x t fun v=>DI v fun l=>G5 l fun k=>br (Nat.beq k m) (E1 h p off (.l l) fun h'=>κ C8 h' n) (.fail "")
def DL (x:Opd) (cf:CF) (t:Regs) (h:Heap) (n:K4) (κ:KV):R :=
 CI x t fun v=>@V.rec (fun _=>R) (fun _=>Unit) (AN "") (B2 "") (fun p off=>κ v h n) (Dl "") (AN "") (AN "") (B2 "") (B2 "") (fun f caps _i=>κ v h n) (AN "") (B2 "") () (fun _ _ _ _=>()) v
def Jn (op:BinOp) (x y:Opd) (cf:CF) (t:Regs) (h:Heap) (n:K4) (κ:KV):R :=
 CI x t fun u=>CI y t fun v=>Mi op u v fun r=>κ r h n
def PL (neg:Bool) (pl:Plan) (x y:Opd) (cf:CF) (t:Regs) (h:Heap) (n:K4) (κ:KV):R :=
 CI x t fun u=>CI y t fun v=>Kh pl u v fun r=>br neg (br r (κ (.bool false) h n) (κ (.bool true) h n)) (κ (.bool r) h n)
def KX (x:Opd) (cf:CF) (t:Regs) (h:Heap) (n:K4) (κ:KV):R :=
 CI x t fun v=>NM v fun q=>br q (κ (.bool false) h n) (κ (.bool true) h n)
def Lb (x:Opd) (cf:CF) (t:Regs) (h:Heap) (n:K4) (κ:KV):R :=
 CI x t fun v=>FJ v fun k r=>Ms k 0 k r fun v=>κ v h n
def KT (x:Opd) (cf:CF) (t:Regs) (h:Heap) (n:K4) (κ:KV):R :=
 CI x t fun v=>FJ v fun k r=>Ah (Nat.xor (Nat.sub (Mk k) 1) r) fun r=>κ (.int k r) h n
def Lq (k:IntKind) (x:Opd) (cf:CF) (t:Regs) (h:Heap) (n:K4) (κ:KV):R :=
 CI x t fun v=>FJ v fun j r=>br (Nat.ble (Nat.succ r) (Hk j)) (Ah (Nat.mod r (Mk k)) fun r=>κ (.int k r) h n) (br (Nat.ble (Mk k) (Mk j)) (Ah (Nat.mod r (Mk k)) fun r=>κ (.int k r) h n) (Ah (Nat.sub (Mk k) (Nat.sub (Mk j) r)) fun r=>κ (.int k r) h n))
def IH (x:Opd) (cf:CF) (t:Regs) (h:Heap) (n:K4) (κ:KV):R :=
 CI x t fun v=>CM v (κ (.str 0 0) h n) (fun p off len cap ex esz=>br (Nat.beq esz 1) (Ie p h fun cs _ _=>BN cs off len fun y=>E5 y fun l=>CE l (fun m c=>κ (.str m c) h n) (.fail "")) (.fail ""))
def Hd (x:Opd) (cf:CF) (t:Regs) (h:Heap) (n:K4) (κ:KV):R :=
 CI x t fun v=>Bd v fun m c=>CS h n (.c (.b m c) false none) fun h' n'=>κ (.sl n 0 m m false 1) h' n'
def LP (x:Opd) (cf:CF) (t:Regs) (h:Heap) (n:K4) (κ:KV):R :=
 CI x t fun v=>Bd v fun _ _=>κ v h n
def KI (x:Opd) (cf:CF) (t:Regs) (h:Heap) (n:K4) (κ:KV):R :=
 CI x t fun v=>CM v (.fail "") (fun p _ _ _ _ _=>Ie p h fun _ _ _=>κ v h n)
def On (f:Nat) (caps:List Opd) (cf:CF) (t:Regs) (h:Heap) (n:K4) (κ:KV):R :=
 NK caps t fun l=>κ (.fn f l) h n
def HE  (cf:CF) (t:Regs) (h:Heap) (n:K4) (κ:KV):R :=
 CS h n (.m [] [] 0) fun h' n'=>κ (.map n) h' n'
def FG (eb:Nat) (u8:Bool) (zero:List V) (l c:Opd) (cf:CF) (t:Regs) (h:Heap) (n:K4) (κ:KV):R :=
 CI l t fun u=>HV u fun a=>CI c t fun v=>HV v fun b=>br (Nat.ble a b) (br (Nat.ble (Nat.mul eb b) 281474976710656) (Em u8 zero b fun y=>CS h n (.c y false none) fun h' n'=>G5 zero fun esz=>κ (.sl n 0 a b true esz) h' n') (.fail "")) (.fail "")
def HF (x:Opd) (lo hi:Option Opd) (cf:CF) (t:Regs) (h:Heap) (n:K4) (κ:KV):R :=
 CI x t fun v=>Sf v (fun l0 l1 _ _=>br (br (DM hi) true (Nat.beq l0 l1)) (Ci hi t l0 fun b=>Ci lo t 0 fun a=>br (Nat.ble a b) (br (Nat.ble b l0) (Ah (Nat.sub b a) fun l=>κ (.oth (.ss l l (Nat.succ l) 0)) h n) (.fail "")) (.fail "")) (.fail ""))<|Bd v fun m c=>Ci hi t m fun b=>Ci lo t 0 fun a=>br (Nat.ble a b) (br (Nat.ble b m) (Ah (Nat.sub b a) fun l=>Ah (Ev.lo (sh c a) l) fun r=>κ (.str l r) h n) (.fail "")) (.fail "")
def HN (esz:Nat) (x:Opd) (lo hi:Option Opd) (cf:CF) (t:Regs) (h:Heap) (n:K4) (κ:KV):R :=
 CI x t fun v=>UK v (fun l0 l1=>br (br (DM hi) true (Nat.beq l0 l1)) (Ci hi t l0 fun b=>Ci lo t 0 fun a=>br (Nat.ble a b) (br (Nat.ble b l0) (Ah (Nat.sub b a) fun l=>κ (.oth (.os l l)) h n) (.fail "")) (.fail "")) (.fail ""))<|CM v (Ci hi t 0 fun b=>Ci lo t 0 fun a=>br (Nat.beq b 0) (br (Nat.beq a 0) (κ (.nil .sl) h n) (.fail "")) (.fail "")) (fun p off len cap ex esz'=>Ci hi t len fun b=>Ci lo t 0 fun a=>br (Nat.beq esz' esz) (br (Nat.ble a b) (br (Nat.ble b cap) (Ah (Nat.sub b a) fun l=>Ah (Nat.sub cap a) fun c=>Ah (Nat.add off (Nat.mul a esz)) fun o=>κ (.sl p o l c ex esz) h n) (.fail "")) (.fail "")) (.fail ""))
def HL (m esz:Nat) (x:Opd) (lo hi:Option Opd) (cf:CF) (t:Regs) (h:Heap) (n:K4) (κ:KV):R :=
 CI x t fun v=>I3 v fun p off=>Ie p h fun cs _ _=>Un cs fun z=>br (Nat.ble (Nat.add off (Nat.mul m esz)) z) (Ci hi t m fun b=>Ci lo t 0 fun a=>br (Nat.ble a b) (br (Nat.ble b m) (Ah (Nat.sub b a) fun l=>Ah (Nat.sub m a) fun c=>Ah (Nat.add off (Nat.mul a esz)) fun o=>κ (.sl p o l c true esz) h n) (.fail "")) (.fail "")) (.fail "")
def LQ (off:Nat) (x:Opd) (cf:CF) (t:Regs) (h:Heap) (n:K4) (κ:KV):R :=
 CI x t fun v=>NT v (fun p o=>Ah (Nat.add o off) fun o=>κ (.ptr p o) h n) (fun o=>Qj o (fun i j m=>br (Nat.ble (Nat.succ off) m) (Ah (Nat.add j off) fun j=>Ah (Nat.sub m off) fun m=>κ (.oth (.ap i j m)) h n) (.fail "")) (.fail ""))
def L3 (off size:Nat) (ag:Bool) (x:Opd) (cf:CF) (t:Regs) (h:Heap) (n:K4) (κ:KV):R :=
 CI x t fun v=>asAgg v fun l=>br ag (DR off l fun r=>Di size r fun r=>κ (.agg r) h n) (DY off l fun v=>κ v h n)
def Ld (esz:Nat) (x i:Opd) (cf:CF) (t:Regs) (h:Heap) (n:K4) (κ:KV):R :=
 CI x t fun v=>CI i t fun u=>HV u fun a=>GK v (.fail "") (fun p off len cap ex esz'=>br (Nat.beq esz' esz) (br (Nat.ble (Nat.succ a) len) (Ah (Nat.add off (Nat.mul a esz)) fun o=>κ (.ptr p o) h n) (.fail "")) (.fail "")) (fun o=>NV o (fun i lo hi z=>br (Nat.beq z esz) (br (Nat.ble (Nat.succ a) lo) (Ah (Nat.mul a esz) fun j=>κ (.oth (.ap i j esz)) h n) (.fail "")) (.fail "")) (.fail ""))
def Ln (m esz:Nat) (x i:Opd) (cf:CF) (t:Regs) (h:Heap) (n:K4) (κ:KV):R :=
 CI x t fun v=>CI i t fun u=>HV u fun a=>I3 v fun p off=>br (Nat.ble (Nat.succ a) m) (Ah (Nat.add off (Nat.mul a esz)) fun o=>κ (.ptr p o) h n) (.fail "")
def KM (x i:Opd) (cf:CF) (t:Regs) (h:Heap) (n:K4) (κ:KV):R :=
 CI x t fun v=>CI i t fun u=>HV u fun a=>Bd v fun m c=>br (Nat.ble (Nat.succ a) m) (Ah (Ev.lo (sh c a) 1) fun r=>κ (.int .u8 r) h n) (.fail "")
def M3 (m esz:Nat) (ag:Bool) (x i:Opd) (cf:CF) (t:Regs) (h:Heap) (n:K4) (κ:KV):R :=
 CI x t fun v=>CI i t fun u=>HV u fun a=>asAgg v fun l=>br (Nat.ble (Nat.succ a) m) (Ah (Nat.mul a esz) fun j=>br ag (DR j l fun r=>Di esz r fun r=>κ (.agg r) h n) (DY j l fun v=>κ v h n)) (.fail "")
def Q8 (pl:Plan) (zero:V) (ok:Bool) (m k:Opd) (cf:CF) (t:Regs) (h:Heap) (n:K4) (κ:KV):R :=
 CI m t fun u=>CI k t fun v=>JS pl v<|Dt u (br ok (κ (.tup [zero,.bool false]) h n) (κ zero h n)) (fun p=>NL p h fun es _ _=>GG pl v es (fun r=>br ok (κ (.tup [r,.bool true]) h n) (κ r h n)) (br ok (κ (.tup [zero,.bool false]) h n) (κ zero h n)))
def PX (pl:Plan) (m k v:Opd) (cf:CF) (t:Regs) (h:Heap) (n:K4) (κ:KV):R :=
 CI m t fun u=>CI k t fun a=>CI v t fun b=>JS pl a<|Dt u (.fail "") (fun p=>NL p h fun es bs c=>GR pl a b es fun es=>Um es bs c fun bs c=>Fj p h (some (.m es bs c)) fun h'=>κ C8 h' n)
def LS (pl:Plan) (m k:Opd) (cf:CF) (t:Regs) (h:Heap) (n:K4) (κ:KV):R :=
 CI m t fun u=>CI k t fun a=>JS pl a<|Dt u (κ (.tup []) h n) (fun p=>NL p h fun es bs c=>Kz pl a es fun es'=>Kt pl a es bs fun bs=>Fj p h (some (.m es' bs c)) fun h'=>κ (.tup []) h' n)
def LL (i:Nat) (x:Opd) (cf:CF) (t:Regs) (h:Heap) (n:K4) (κ:KV):R :=
 CI x t fun v=>Jj v fun l=>DY i l fun v=>κ v h n
def Me (f:Nat) (args:List Opd) (cf:CF) (t:Regs) (h:Heap) (n:K4) (κ:KV):R :=
 NK args t fun l=>@R.rec (fun _=>R) (Fe "") (fun v h n=>κ v h n) (fun w=>.fail w) (Fe "") (cf f l h n)
def Ed (x:Opd) (args:List Opd) (cf:CF) (t:Regs) (h:Heap) (n:K4) (κ:KV):R :=
 CI x t fun v=>Ov v fun f caps=>NK args t fun l=>EJ l caps fun l=>@R.rec (fun _=>R) (Fe "") (fun v h n=>κ v h n) (fun w=>.fail w) (Fe "") (cf f l h n)
def La (x:Opd) (cf:CF) (t:Regs) (h:Heap) (n:K4) (κ:KV):R :=
 CI x t fun v=>Sf v (fun l0 l1 _ _=>br (Nat.ble (Nat.succ l1) 9223372036854775808) (κ (.oth (.iv .i64 l0 l1)) h n) (.fail ""))<|Bd v fun m _=>FP m fun v=>κ v h n
def KK (x:Opd) (cf:CF) (t:Regs) (h:Heap) (n:K4) (κ:KV):R :=
 CI x t fun v=>GK v (κ (.int .i64 0) h n) (fun p off len cap ex esz=>FP len fun v=>κ v h n) (fun o=>Ua o (fun l0 l1=>br (Nat.ble (Nat.succ l1) 9223372036854775808) (κ (.oth (.iv .i64 l0 l1)) h n) (.fail "")) (NV o (fun i l0 l1 z=>br (Nat.ble (Nat.succ l1) 9223372036854775808) (br (Nat.beq l0 l1) (κ (.int .i64 l0) h n) (κ (.oth (.iv .i64 l0 l1)) h n)) (.fail "")) (.fail "")))
def L1 (x:Opd) (cf:CF) (t:Regs) (h:Heap) (n:K4) (κ:KV):R :=
 CI x t fun v=>Dt v (κ (.int .i64 0) h n) (fun p=>NL p h fun es _ _=>TF es fun m=>FP m fun v=>κ v h n)
def Le (x y:Opd) (cf:CF) (t:Regs) (h:Heap) (n:K4) (κ:KV):R :=
 CI x t fun u=>CI y t fun v=>Uz u v fun v=>κ v h n
def LA (x y:Opd) (cf:CF) (t:Regs) (h:Heap) (n:K4) (κ:KV):R :=
 CI x t fun u=>CI y t fun v=>Uv u v fun v=>κ v h n
def LB (esz eb:Nat) (x y:Opd) (cf:CF) (t:Regs) (h:Heap) (n:K4) (κ:KV):R :=
 CI x t fun u=>CI y t fun v=>Mc esz v h fun m y=>DP esz eb u m y h n κ
def I5 (esz eb:Nat) (u8:Bool) (zero:List V) (x c:Opd) (cf:CF) (t:Regs) (h:Heap) (n:K4) (κ:KV):R :=
 CI x t fun u=>CI c t fun v=>HV v fun m=>br (Nat.ble (Nat.mul eb m) 281474976710656) (Em u8 zero m fun y=>DP esz eb u m y h n κ) (.fail "")
def Ll (esz:Nat) (x y:Opd) (cf:CF) (t:Regs) (h:Heap) (n:K4) (κ:KV):R :=
 CI x t fun u=>CI y t fun v=>Mc esz v h fun m y=>CM u (κ (.int .i64 0) h n) (fun p off len cap ex esz'=>br (Nat.beq esz' esz) (Ah (@Bool.rec (fun _=>Nat) len m (Nat.ble m len)) fun k=>br (Nat.beq k 0) (κ (.int .i64 0) h n) (Ah (Nat.mul k esz) fun j=>BN y 0 j fun y=>E1 h p off y fun h=>FP k fun v=>κ v h n)) (.fail ""))
def Il (x y z:Opd) (cf:CF) (t:Regs) (h:Heap) (n:K4) (κ:KV):R :=
 CI x t fun u=>CI y t fun v=>CI z t fun w=>FJ u fun k a=>FJ v fun j b=>FJ w fun i c=>br (Bi k j) (br (Bi k i) (br (Ha k a b) (br (Ha k b c) (κ w h n) (κ v h n)) (br (Ha k a c) (κ w h n) (κ u h n))) (.fail "")) (.fail "")
def L4 (x:Opd) (cf:CF) (t:Regs) (h:Heap) (n:K4) (κ:KV):R :=
 CI x t fun v=>CM v (κ (.int .i64 0) h n) (fun p off len cap ex esz=>br ex (FP cap fun v=>κ v h n) (.fail ""))
def LW (u8:Bool) (zero:List V) (x:Opd) (cf:CF) (t:Regs) (h:Heap) (n:K4) (κ:KV):R :=
 CI x t fun v=>CM v (κ (.tup []) h n) (fun p off len cap ex esz=>G5 zero fun m=>br (Nat.beq m esz) (br (Nat.beq len 0) (κ (.tup []) h n) (Em u8 zero len fun y=>E1 h p off y fun h=>κ (.tup []) h n)) (.fail ""))
def PA (why:String) (cf:CF) (t:Regs) (h:Heap) (n:K4) (κ:KV):R :=
 .fail ""
def Gy (o:AK):CF->Regs->Heap->K4->KV->R :=
 @AK.rec (fun _=>CF->Regs->Heap->K4->KV->R) Sj H8 Nb Hm OY FZ QA LF Qw DL Jn PL KX Lb KT Lq IH Hd LP KI On HE FG HF HN HL LQ L3 Ld Ln KM M3 Q8 PX LS LL Me Ed La KK L1 Le LA LB I5 Ll Il L4 LW PA o
end Go.Ev

namespace Go.Ev
set_option linter.unusedVariables false
structure AOp where
 dst:Option K2
 g:Option (K2×Bool)
 k:AK
inductive Item where
 | rd (i:Nat) (o:AOp)
 | ef (i:Nat) (o:AOp)
 | al (i:Nat) (j:D) (o:AOp)
 | ck (i:Nat) (o:AOp)
 | no (j:D)
 | rn (i:Nat) (j:D) (o:AOp)
inductive Sp where
 | rng (x:Opd)
 | nxt (x:Opd)
 | ent (x:Opd)
 | tcl (f:Nat) (l:List Opd)
 | dcl (x:Opd) (l:List Opd)
inductive AC where
 | skip
 | seq (a b:AC)
 | ops (l:List AOp)
 | drawn (al:Bool) (l:List Item)
 | cond (c:Opd) (a b:AC)
 | block (id:Nat) (b:AC)
 | loop (b:AC)
 | exit (id:Nat)
 | ret
 | bad (why:String)
 | spl (pre:List AOp) (sp:Sp) (d:Option K2) (post:List AOp)
inductive ARes where
 | tmp (p:K2)
 | cel (p:K2) (m:Option Nat)
structure AFn where
 ps:List K2
 code:AC
 rs:List ARes
abbrev HY:=List V->Heap->K4->R
def Cy (g:Option (K2×Bool)) (t:Regs) (yes no:R):R :=
 @Option.rec (K2×Bool) (fun _=>R) yes (fun p=>@Prod.rec K2 Bool (fun _=>R) (fun r want=>GB r t fun v =>
  @V.rec (fun _=>R) (fun _=>Unit) (fun _ _=>no) (fun b=>br (Bool.rec (Bool.rec true false b) b want) yes no) (fun _ _=>no) (fun _ _ _ _ _ _=>no) (fun _ _=>no) (fun _ _=>no) (fun _=>no) (fun _=>no) (fun _ _ _=>no) (fun _ _=>no) (fun o=>.fail "") () (fun _ _ _ _=>()) v) p) g
def ZA (v:V) (κ:Ot->R):R :=
 @V.rec (fun _=>R) (fun _=>Unit) (fun _ _=>(.fail "")) (fun _=>(.fail "")) (fun _ _=>(.fail "")) (fun _ _ _ _ _ _=>(.fail "")) (fun _ _=>(.fail "")) (fun _ _=>(.fail "")) (fun _=>(.fail "")) (fun _=>(.fail "")) (fun _ _ _=>(.fail "")) (fun _ _=>(.fail "")) (fun o=>κ o) () (fun _ _ _ _=>()) v
def W9 (u:Ot) (κ:R):R:=@Ot.rec (fun _=>R) κ (fun _=>(.fail "")) (fun _=>(.fail "")) (.fail "") (fun _ _ _=>(.fail "")) (fun _ _=>(.fail "")) (.fail "") (fun _ _=>(.fail "")) (fun _ _ _ _=>(.fail "")) (fun _ _ _ _=>(.fail "")) (fun _ _ _=>(.fail "")) (fun _ _=>(.fail "")) u
def Yl (u:Ot) (κ:R):R:=@Ot.rec (fun _=>R) (.fail "") (fun _=>(.fail "")) (fun _=>(.fail "")) (.fail "") (fun _ _ _=>(.fail "")) (fun _ _=>(.fail "")) κ (fun _ _=>(.fail "")) (fun _ _ _ _=>(.fail "")) (fun _ _ _ _=>(.fail "")) (fun _ _ _=>(.fail "")) (fun _ _=>(.fail "")) u
def XQ (u:Ot) (κ:IntKind->Nat->Nat->R):R:=@Ot.rec (fun _=>R) (.fail "") (fun _=>(.fail "")) (fun _=>(.fail "")) (.fail "") (fun k lo hi=>κ k lo hi) (fun _ _=>(.fail "")) (.fail "") (fun _ _=>(.fail "")) (fun _ _ _ _=>(.fail "")) (fun _ _ _ _=>(.fail "")) (fun _ _ _=>(.fail "")) (fun _ _=>(.fail "")) u
def Ul (o u:Ot) (κ:R):R :=
 @Ot.rec (fun _=>R) (W9 u κ) (fun _=>(.fail "")) (fun _=>(.fail "")) (.fail "") (fun k lo hi=>XQ u fun k' lo' hi'=>br (Bi k k') (br (Nat.beq lo lo') (br (Nat.beq hi hi') κ (.fail "")) (.fail "")) (.fail "")) (fun _ _=>(.fail "")) (Yl u κ) (fun _ _=>(.fail "")) (fun _ _ _ _=>(.fail "")) (fun _ _ _ _=>(.fail "")) (fun _ _ _=>(.fail "")) (fun _ _=>(.fail "")) o
def Aw (x:V):V->R->R :=
 @V.rec (fun _=>V->R->R) (fun _=>List V->R->R)
  (fun k r y κ=>FJ y fun j b=>br (Bi k j) (br (Nat.beq r b) κ (.fail "")) (.fail ""))
  (fun b y κ=>NM y fun c=>br (Bool.rec (Bool.rec true false b) b c) κ (.fail ""))
  (fun p off y κ=>I3 y fun q o=>br (K4.beq p q) (br (Nat.beq off o) κ (.fail "")) (.fail ""))
  (fun p off len cap ex esz y κ=>CM y (.fail "") fun q o l c e z=>br (K4.beq p q) (br (and (Nat.beq off o) (and (Nat.beq len l) (and (Nat.beq cap c) (and (Bool.rec (Bool.rec true false ex) ex e) (Nat.beq esz z))))) κ (.fail "")) (.fail ""))
  (fun n c y κ=>Bd y fun m d=>br (IP n c m d) κ (.fail ""))
  (fun _ ih y κ=>asAgg y fun l=>ih l κ)
  (fun w y κ=>@V.rec (fun _=>R) (fun _=>Unit) (AN "") (B2 "") (AN "") (Dl "") (AN "") (AN "")
   (fun u=>br (Nat.beq (@Nl.rec (fun _=>Nat) 0 1 2 3 4 w) (@Nl.rec (fun _=>Nat) 0 1 2 3 4 u)) κ (.fail "")) (B2 "") (BR "") (AN "") (B2 "") () (fun _ _ _ _=>()) y)
  (fun p y κ=>Dt y (.fail "") fun q=>br (K4.beq p q) κ (.fail ""))
  (fun f _ ih y κ=>Ov y fun g l=>br (Nat.beq f g) (ih l κ) (.fail ""))
  (fun _ ih y κ=>Jj y fun l=>ih l κ)
  (fun o y κ=>ZA y fun u=>Ul o u κ)
  (fun l κ=>@List.rec V (fun _=>R) κ (BR "") l)
  (fun _ _ ihx ihl l κ=>@List.rec V (fun _=>R) (.fail "") (fun y ys _=>ihx y (ihl ys κ)) l) x
def IY:KV:=fun v _ _=>.rv v AM ⟨.d0,.d0,.d0,.d0⟩
def B1 (r:R) (κ:V->Heap->K4->R):R:=@R.rec (fun _=>R) (Fe "") (fun v h n=>κ v h n) (fun w=>.fail w) (Fe "") r
def GH (o:Option Ob) (κ:R):R:=@Option.rec Ob (fun _=>R) κ (B2 "") o
def U9 (o:Option Ob) (κ:Ob->R):R:=@Option.rec Ob (fun _=>R) (.fail "") κ o
def Rm (d:Option K2) (κ:K2->R):R:=@Option.rec K2 (fun _=>R) (.fail "") κ d
def Ej (body:S->Heap->K4->R) (m:Nat):S->Heap->K4->R :=
 @Nat.rec (fun _=>S->Heap->K4->R) (BR "")
  (fun _ rec t h n=>@R.rec (fun _=>R) (fun e t h n=>@Ex.rec (fun _=>R) (rec t h n) (fun id=>.ok (.exit id) t h n) (.ok .ret t h n) e) (BR "") (fun w=>.fail w) (fun _ _ a b=>.both a b) (body t h n)) m
def QD (args:List V):List K2->Regs->(Regs->R)->R :=
 @List.rec V (fun _=>List K2->Regs->(Regs->R)->R) (fun ps t κ=>@List.rec K2 (fun _=>R) (κ t) (BR "") ps)
  (fun v _ ih ps t κ=>@List.rec K2 (fun _=>R) (.fail "") (fun p qs _=>Mu p t v fun t=>ih qs t κ) ps) args
def Jv (r:ARes) (t:Regs) (h:Heap) (κ:V->R):R :=
 @ARes.rec (fun _=>R) (fun p=>GB p t κ) (fun p m=>GB p t fun v=>I3 v fun q off=>Ie q h fun cs _ _ =>
  @Option.rec Nat (fun _=>R) (FI cs off κ) (fun m=>BN cs off m fun y=>E5 y fun l=>κ (.agg l)) m) r
def IR (rs:List ARes) (t:Regs) (h:Heap):(List V->R)->R :=
 @List.rec ARes (fun _=>(List V->R)->R) (fun κ=>κ []) (fun r _ ih κ=>Jv r t h fun v=>ih fun vs=>κ (v::vs)) rs
def OO (rs:List ARes) (t:Regs) (h:Heap) (n:K4):R :=
 IR rs t h fun l=>@List.rec V (fun _=>R) (.rv (.tup []) h n) (fun v vs _=>@List.rec V (fun _=>R) (.rv v h n) (fun _ _ _=>.rv (.tup l) h n) vs) l
end Go.Ev

namespace Go.Ev
set_option linter.unusedVariables false
def IX (v:Value):Option V :=
 match v with
 | .bool b=>some (.bool b)
 | .int k n=>match n with
  | .ofNat m=>if Nat.ble (Nat.succ m) (Hk k) then some (.int k m) else none
  | .negSucc m=>if Nat.ble (Nat.add (Hk k) (Nat.succ m)) (Mk k) then some (.int k (Nat.sub (Mk k) (Nat.succ m))) else none
 | .string s=>some (.str s.size (AV s.data.toList))
 | .pointer none=>some (.nil .ptr)
 | .slice none 0 0=>some (.nil .sl)
 | .map none=>some (.nil .map)
 | .nilFunc=>some (.nil .fn)
 | .nilIface=>some (.nil .iface)
 | _=>none
def GD:List Value->Option (List V)
 | []=>some []
 | v::l=>match IX v,GD l with
  | some x,some xs=>some (x::xs)
  | _,_=>none
def Ig (v:Value):Option V :=
 match v with
 | .agg cs=>(GD cs.toList).map .agg
 | .tuple cs=>if cs.toList.isEmpty then some (.tup []) else none
 | .func (.func f) first caps=>if first.toList.isEmpty&&caps.toList.isEmpty then some (.fn f []) else none
 | v=>IX v
section
variable (P:Program) (N:Nat)
def FK (t:Nat):Option K2:=if t<N then K2.ofN t else none
def AR:Operand->Option Opd
 | .tmp t=>(FK N t).map .t
 | .const v=>(Ig v).map .c
 | .func f=>some (.c (.fn f []))
 | .global _=>none
def Bt:List Operand->Option (List Opd)
 | []=>some []
 | o::l=>match AR N o,Bt l with
  | some x,some xs=>some (x::xs)
  | _,_=>none
def Fh:Option Operand->Option (Option Opd)
 | none=>some none
 | some o=>(AR N o).map some
def CZ (t:TypeId):Option (List V):=((P.info? t).bind (·.zero)).bind fun z=>GD z.cells.toList
def Bp (t:TypeId):Option Nat:=(P.info? t).map (·.size)
def Ey (t:TypeId):Option Nat:=(P.info? t).map (·.bytes)
def Jc (t:TypeId):Option Bool:=(P.underlying t).map fun d=>match d with | .struct _ | .array _ _=>true | _=>false
def Uq (t:TypeId):Bool:=match P.underlying t with | some (.int .u8)=>true | _=>false
def NN (t:TypeId):Option Sc :=
 match P.underlying t with
 | some (.int _)=>some .i
 | some .string=>some .s
 | some .bool=>some .b
 | _=>none
def G1:List Field->Option (List (Nat×Sc))
 | []=>some []
 | f::l=>if f.name ≠ "_" then
   match NN P f.type,G1 l with
   | some k,some r=>some ((f.offset,k)::r)
   | _,_=>none
  else none
def Jh (t:TypeId):Option Plan :=
 match P.underlying t with
 | some .bool=>some (.sc .b)
 | some (.struct fs)=>if P.stoodInHeld t then none else (G1 P fs.toList).map .st
 | some (.pointer e)=>match Bp P e with
  | some (_+1)=>some (.rf .ptr)
  | _=>none
 | some (.slice _)=>some (.rf .sl)
 | some (.map _ _)=>some (.rf .map)
 | some (.func _ _ _)=>some (.rf .fn)
 | _=>none
def Gv (t:TypeId):Option Plan :=
 match P.underlying t with
 | some (.struct fs) =>
  if P.stoodInHeld t then none else
  match G1 P fs.toList with
  | some offs=>if offs.map (·.1)=List.range offs.length then some (.ks (offs.map (·.2))) else none
  | none=>none
 | _=>(NN P t).map .sc
def F2 (place:Nat->Option (Nat×Nat)):List (Nat×Operand)->Option (List Part)
 | []=>some []
 | (i,o)::l=>match place i,AR N o,F2 place l with
  | some (off,size),some x,some xs=>some (⟨off,size,x⟩::xs)
  | _,_,_=>none
def DA (z:List V):Nat->List V
 | 0=>[]
 | n+1=>z++DA z n
def Kv:List V->Bool
 | [.int .u8 0]=>true
 | _=>false
def Ew (b:Builtin) (argTypes:Array TypeId) (args:List Opd):Option AK :=
 match b,argTypes.toList,args with
 | .len,t::_,x::_ =>
  match P.underlying t with
  | some .string=>some (.lnS x)
  | some (.slice _)=>some (.lnL x)
  | some (.map _ _)=>some (.lnM x)
  | _=>none
 | .min,_,[x,y]=>some (.min x y)
 | .max,_,[x,y]=>some (.max x y)
 | .max,_,[x,y,z]=>some (.max3 x y z)
 | .append,[t,u],[x,y] =>
  match P.underlying t,P.underlying u with
  | some (.slice e),some (.int _) =>
   match Bp P e,Ey P e,CZ P e with
   | some s,some b,some z=>if s == z.length&&0<s&&0<b then some (.appz s b (Kv z) z x y) else none
   | _,_,_=>none
  | some (.slice e),some _ =>
   match Bp P e,Ey P e,CZ P e with
   | some s,some b,some z=>if s == z.length&&0<s&&0<b then some (.app s b x y) else none
   | _,_,_=>none
  | _,_=>none
 | .copy,t::_,[x,y] =>
  match P.underlying t with
  | some (.slice e)=>match Bp P e with
   | some s=>if 0<s then some (.cpy s x y) else none
   | none=>none
  | _=>none
 | .delete,t::_,[m,k] =>
  match P.underlying t with
  | some (.map kt _)=>(Gv P kt).map fun pl=>.del pl m k
  | _=>none
 | .cap,t::_,x::_ =>
  match P.underlying t with
  | some (.slice _)=>some (.cpL x)
  | _=>none
 | .clear,t::_,x::_ =>
  match P.underlying t with
  | some (.slice e)=>match Bp P e,CZ P e with
   | some s,some z=>if s == z.length&&0<s then some (.clr (Kv z) z x) else none
   | _,_=>none
  | _=>none
 | _,_,_=>none
def EX (o:Oper):Option AK :=
 match o.op with
 | .move x | .assign x=>(AR N x).map .mv
 | .pick c a b=>match AR N c,AR N a,AR N b with
  | some c,some a,some b=>some (.pick c a b)
  | _,_,_=>none
 | .alloc e=>(CZ P e).map fun z=>.alc (.l z)
 | .box _ x=>(AR N x).map .box
 | .build t parts =>
  match P.underlying t,CZ P t with
  | some (.struct fs),some z=>(fs.toList.mapM fun f=>(P.info? f.type).map fun i=>(f.offset,i.size)).bind fun places=>(F2 N (places.toArray[·]?) parts.toList).map fun ps=>.build z ps
  | some (.array _ e),some z=>(Bp P e).bind fun s=>(F2 N (fun i=>some (i*s,s)) parts.toList).map fun ps=>.build z ps
  | _,_=>none
 | .buildSlice t len parts =>
  match P.underlying t with
  | some (.slice e) =>
   match Bp P e,CZ P e with
   | some s,some z=>if s == z.length&&0<s&&len*s≤2 ^ 24 then
     (F2 N (fun i=>some (i*s,s)) parts.toList).map fun ps=>.bslice (Uq P e&&s == 1) len s (DA z len) ps else none
   | _,_=>none
  | _=>none
 | .load t a=>match Jc P t,Bp P t,AR N a with
  | some true,some s,some a=>some (.ldn s a)
  | some false,_,some a=>some (.ld a)
  | _,_,_=>none
 | .store t a x=>match Bp P t,AR N a,AR N x with
  | some s,some a,some x=>some (.st s a x)
  | _,_,_=>none
 | .nilCheck x=>(AR N x).map .nilck
 | .binOp op t x y _ =>
  match AR N x,AR N y with
  | some a,some b =>
   match op,P.underlying t with
   | .eql,some (.int _) | .eql,some .string=>some (.bin .eql a b)
   | .neq,some (.int _) | .neq,some .string=>some (.bin .neq a b)
   | .eql,_=>if P.eqGuardType P.depth t then none else (Jh P t).map fun pl=>.eq false pl a b
   | .neq,_=>if P.eqGuardType P.depth t then none else (Jh P t).map fun pl=>.eq true pl a b
   | op,_=>some (.bin op a b)
  | _,_=>none
 | .unOp op _ x =>
  match op,AR N x with
  | .not,some x=>some (.not x)
  | .neg,some x=>some (.neg x)
  | .xor,some x=>some (.com x)
  | _,_=>none
 | .convert src dst x =>
  match P.underlying src,P.underlying dst,AR N x with
  | some (.int _),some (.int k),some x=>some (.cvi k x)
  | some .string,some .string,some x=>some (.idn x)
  | some .string,some (.slice e),some x=>if Uq P e then some (.s2b x) else none
  | some (.slice e),some .string,some x=>if Uq P e then some (.b2s x) else none
  | some (.slice _),some (.slice e),some x=>if src == dst&&Uq P e then some (.bsl x) else none
  | _,_,_=>none
 | .makeFunc fn first caps =>
  match fn,first.toList,Bt N caps.toList with
  | .func f,[],some l=>some (.mkfn f l)
  | _,_,_=>none
 | .makeMap _ none=>some .mkmap
 | .makeSlice t l c =>
  match P.underlying t,AR N l,AR N c with
  | some (.slice e),some l,some c =>
   match Bp P e,Ey P e,CZ P e with
   | some s,some b,some z=>if s == z.length&&0<s&&0<b then some (.mksl b (Kv z) z l c) else none
   | _,_,_=>none
  | _,_,_=>none
 | .slice t x lo hi none =>
  match P.underlying t,AR N x,Fh N lo,Fh N hi with
  | some .string,some x,some lo,some hi=>some (.slS x lo hi)
  | some (.slice e),some x,some lo,some hi=>(Bp P e).map fun s=>.slL s x lo hi
  | some (.array m e),some x,some lo,some hi=>(Bp P e).map fun s=>.slA m s x lo hi
  | _,_,_,_=>none
 | .fieldAddr s x f =>
  match P.underlying s,AR N x with
  | some (.struct fs),some x=>(fs[f]?).bind fun f=>match Bp P f.type with
   | some (_+1)=>some (.fad f.offset x)
   | _=>none
  | _,_=>none
 | .field s x f =>
  match P.underlying s,AR N x with
  | some (.struct fs),some x=>(fs[f]?).bind fun f=>match Jc P f.type,Bp P f.type with
   | some ag,some sz=>some (.fld f.offset sz ag x)
   | _,_=>none
  | _,_=>none
 | .indexAddr t x i =>
  match P.underlying t,AR N x,AR N i with
  | some (.slice e),some x,some i=>(Bp P e).map fun s=>.ixS s x i
  | some (.array m e),some x,some i=>(Bp P e).map fun s=>.ixA m s x i
  | _,_,_=>none
 | .index t x i =>
  match P.underlying t,AR N x,AR N i with
  | some .string,some x,some i=>some (.idS x i)
  | some (.array m e),some x,some i=>match Jc P e,Bp P e with
   | some ag,some s=>some (.idA m s ag x i)
   | _,_=>none
  | _,_,_=>none
 | .lookup t m k ok =>
  match P.underlying t,AR N m,AR N k with
  | some (.map kt e),some m,some k =>
   match Gv P kt,(P.info? e).bind (·.zero) with
   | some pl,some z=>(Ig z).map fun z=>.lk pl z ok m k
   | _,_=>none
  | _,_,_=>none
 | .mapUpdate t m k v | .insert t m k v =>
  match P.underlying t,AR N m,AR N k,AR N v with
  | some (.map kt _),some m,some k,some v=>(Gv P kt).map fun pl=>.mu pl m k v
  | _,_,_,_=>none
 | .extract x i=>(AR N x).map fun x=>.ext i x
 | .call c =>
  match c.callee,Bt N c.args.toList with
  | .builtin b,some args=>Ew P b c.argTypes args
  | .value (.func f),some args=>some (.call f args)
  | .value x,some args=>(AR N x).map fun x=>.calld x args
  | _,_=>none
 | _=>none
def IF (ops:Array Oper) (o:Oper):Option AOp :=
 match (match o.dst with | none=>some none | some d=>(FK N d).map some:Option (Option K2)),
  (match o.guard with | none=>some none | some (j,w)=>((ops[j]?).bind (·.dst)).bind fun d=>(FK N d).map fun s=>some (s,w):Option (Option (K2×Bool))) with
 | some d,some g=>some ⟨d,g,(EX P N o).getD (.bad o.pos)⟩
 | _,_=>none
def Gx (ops:Array Oper):List Oper->Option (List AOp)
 | []=>some []
 | o::l=>match IF P N ops o,Gx ops l with
  | some x,some xs=>some (x::xs)
  | _,_=>none
def AK.sort:AK->Nat
 | .ld _ | .ldn _ _ | .b2s _ | .slA _ _ _ _ _ | .lk _ _ _ _ _ | .lnM _=>1
 | .alc _ | .box _ | .bslice _ _ _ _ _ | .s2b _ | .mkmap | .mksl _ _ _ _ _=>2
 | .st _ _ _ | .mu _ _ _ _ | .del _ _ _ | .call _ _ | .calld _ _ | .app _ _ _ _ | .appz _ _ _ _ _ _ | .cpy _ _ _ | .clr _ _ _ | .bsl _ | .bad _=>3
 | _=>0
def CQ (o:Oper):List Nat:=o.after.toList.filterMap fun e=>if Region.binds .any e then some e.on else none
def WK (deps:List (List Nat)):List Nat :=
 deps.foldl (fun acc ds=>acc++[ds.foldl (fun s d=>s ||| 2 ^ d ||| acc.getD d 0) 0]) []
def AK.opds:AK->List Opd
 | .mv x | .box x | .ld x | .ldn _ x | .nilck x | .not x | .neg x | .com x | .cvi _ x | .b2s x | .s2b x | .idn x | .bsl x | .fad _ x | .fld _ _ _ x | .ext _ x | .lnS x | .lnL x | .lnM x | .cpL x | .clr _ _ x=>[x]
 | .pick c a b | .max3 c a b=>[c,a,b]
 | .alc _ | .mkmap | .bad _=>[]
 | .build _ ps | .bslice _ _ _ _ ps=>ps.map (·.x)
 | .st _ a x | .bin _ a x | .eq _ _ a x | .ixS _ a x | .ixA _ _ a x | .idS a x | .idA _ _ _ a x | .lk _ _ _ a x | .del _ a x | .min a x | .max a x | .app _ _ a x | .appz _ _ _ _ a x | .cpy _ a x
 | .mksl _ _ _ a x=>[a,x]
 | .mu _ m k v=>[m,k,v]
 | .mkfn _ l | .call _ l=>l
 | .calld x l=>x::l
 | .slS x lo hi | .slL _ x lo hi | .slA _ _ x lo hi=>x::(lo.toList++hi.toList)
def K2.beq (p q:K2):Bool:=and (p.b.beq q.b) (p.a.beq q.a)
def Sn (p:K2) (l:List K2):Bool:=l.any (K2.beq p)
def AOp.slots (o:AOp):List K2 :=
 (o.k.opds.filterMap fun x=>match x with | .t p=>some p | .c _=>none)++(match o.g with | some (p,_)=>[p] | none=>[])
inductive SI where
 | rd (i:Nat)
 | ef (i:Nat)
 | al (i:Nat) (j:D)
 | ck (i:Nat)
 | no (j:D)
 | rn (i a:Nat) (j:D)
def SI.ix:SI->Option Nat
 | .rd i=>some i
 | .ef i=>some i
 | .al i _=>some i
 | .rn i _ _=>some i
 | _=>none
def SI.isEf:SI->Bool
 | .ef _=>true
 | _=>false
def SI.isAl:SI->Bool
 | .al _ _=>true
 | _=>false
def SI.reads:SI->Option Nat
 | .rd i=>some i
 | .ck i=>some i
 | _=>none
def SI.isCk (i:Nat):SI->Bool
 | .ck j=>Nat.beq i j
 | _=>false
def BY:AOp:=⟨none,none,.bad "no such operation"⟩
def Kn (os:List AOp):SI->Item
 | .rd i=>.rd i (os.getD i BY)
 | .ef i=>.ef i (os.getD i BY)
 | .al i j=>.al i j (os.getD i BY)
 | .ck i=>.ck i (os.getD i BY)
 | .no j=>.no j
 | .rn i _ j=>.rn i j (os.getD i BY)
structure Plot where
 so:List Nat
 ds:List (Option K2)
 sl:List (List K2)
 de:List (List Nat)
 an:List Nat
 sk:List SI
namespace Plot
variable (p:Plot)
def m:Nat:=p.so.length
def sort (i:Nat):Nat:=p.so.getD i 9
def dst (i:Nat):Option K2:=p.ds.getD i none
def slots (i:Nat):List K2:=p.sl.getD i []
def deps (i:Nat):List Nat:=p.de.getD i []
def anc (i d:Nat):Bool:=(p.an.getD i 0).testBit d
def pos (i:Nat):Nat:=p.sk.findIdx fun x=>match x.ix with | some j=>Nat.beq i j | none=>false
def bat (l:Nat):Nat:=((p.sk.take l).filter SI.isEf).length
def effs:List Nat:=p.sk.filterMap fun x=>match x with | .ef i=>some i | _=>none
def all (f:Nat->Bool):Bool:=(List.range p.m).all f
structure Tab where
 po:List Nat
 ba:List Nat
 ef:List Nat
def tab:Tab:=⟨(List.range p.m).map p.pos,(List.range (p.sk.length+1)).map p.bat,p.effs⟩
def writes (w:Nat) (l:List K2):Bool:=match p.dst w with | some d=>Sn d l | none=>false
def okDst:Bool:=p.all fun i=>p.all fun j=>Nat.beq i j || match p.dst i with | some d=>!(match p.dst j with | some e=>d.beq e | none=>false) | none=>true
def okDeps:Bool:=p.all fun i=>(p.deps i).all fun d=>Nat.blt d i
def okAnc:Bool:=p.all fun i=>p.all fun d=>!p.anc i d || (p.deps i).any fun c=>Nat.beq c d || p.anc c d
def okPos (t:Tab):Bool:=p.all fun i=>match p.sk[t.po.getD i 0]? with
 | some (.ef j)=>Nat.beq i j&&Nat.beq (p.sort i) 3
 | some (.al j _)=>Nat.beq i j&&Nat.beq (p.sort i) 2
 | some (.rd j)=>Nat.beq i j&&Nat.ble (p.sort i) 1
 | some (.rn j a d)=>Nat.beq i j&&(Nat.ble (p.sort i) 1&&(Nat.blt a p.m&&(p.anc i a&&(Nat.blt (t.po.getD a 0) (t.po.getD i 0)&&(Nat.beq (t.ba.getD (t.po.getD a 0) 0) (t.ba.getD (t.po.getD i 0) 0) &&
   match p.sk[t.po.getD a 0]? with | some (.al a' d')=>Nat.beq a a'&&d.beq d' | _=>false)))))
 | _=>false
def okUniq (t:Tab):Bool:=(List.range p.sk.length).all fun l=>match p.sk[l]? with
 | some x=>match x.ix with
  | some i=>Nat.blt i p.m&&Nat.beq (t.po.getD i 0) l
  | none=>match x with
   | .ck i=>Nat.blt i p.m&&Nat.blt (t.po.getD i 0) l&&Nat.ble (p.sort i) 1
   | _=>true
 | none=>false
def okSlots (t:Tab):Bool:=p.all fun i=>p.all fun w=>!p.writes w (p.slots i) || (!Nat.beq i w&&((p.anc i w&&Nat.blt (t.po.getD w 0) (t.po.getD i 0)) ||
 (p.anc w i&&Nat.blt (t.po.getD i 0) (t.po.getD w 0)&&(List.range p.sk.length).all fun l=>match p.sk[l]? with | some x=>!x.isCk i || Nat.blt l (t.po.getD w 0) | none=>true)))
def okEff (t:Tab):Bool:=t.ef.all fun i=>t.ef.all fun j=>!Nat.blt (t.po.getD i 0) (t.po.getD j 0) || p.anc j i
def never (t:Tab) (i j:Nat):Bool:=t.ef.any fun e=>(p.anc i e&&Nat.ble j (t.ba.getD (t.po.getD e 0) 0)) || (p.anc e i&&Nat.blt (t.ba.getD (t.po.getD e 0) 0) j)
def fresh (t:Tab) (i j:Nat):Bool:=match p.sk[t.po.getD i 0]? with | some (.rn _ a _)=>Nat.ble j (t.ba.getD (t.po.getD a 0) 0) | _=>false
def okRead (t:Tab):Bool:=p.all fun i=>!Nat.beq (p.sort i) 1 || (List.range (t.ef.length+1)).all fun j=>p.never t i j || p.fresh t i j ||
 (List.range p.sk.length).any fun l=>Nat.beq (t.ba.getD l 0) j&&match p.sk[l]? with | some x=>(match x.reads with | some i'=>Nat.beq i i' | none=>false) | none=>false
def okAl (t:Tab):Bool:=p.all fun i=>!Nat.beq (p.sort i) 2 || match p.sk[t.po.getD i 0]? with
 | some (.al _ d)=>((List.range (t.ef.length+1)).all fun j=>if Nat.ble j (t.ba.getD (t.po.getD i 0) 0) then
    (List.range p.sk.length).any fun l=>Nat.beq (t.ba.getD l 0) j&&match p.sk[l]? with | some (.no d')=>d.beq d' | _=>false
   else t.ef.any fun e=>p.anc e i&&Nat.blt (t.ba.getD (t.po.getD e 0) 0) j) &&
  p.all fun i'=>Nat.beq i i' || match p.sk[t.po.getD i' 0]? with | some (.al _ d')=>!d.beq d' | _=>true
 | _=>false
def ok:Bool :=
 let t:=p.tab
 p.okDst&&(p.okDeps&&(p.okAnc&&(p.okPos t&&(p.okUniq t&&(p.okSlots t&&(p.okEff t&&(p.okRead t&&p.okAl t)))))))
end Plot
def W3 (effs:List Nat) (anc:Nat):Nat:=(effs.filter (anc.testBit ·)).length
def UP (effs:List (Nat×Nat)) (i:Nat):Nat:=(effs.takeWhile fun e=>!e.2.testBit i).length
def OU (effs:List (Nat×Nat)):List (Nat×List Nat×Nat×Nat)->List Nat->List Nat
 | [],acc=>acc
 | (i,deps,anc,sort)::l,acc =>
  let b:=deps.foldl (fun m d=>max m (acc.getD d 0)) 0
  let b:=match sort with
   | 1=>max b (W3 (effs.map (·.1)) anc)
   | 2=>max b (UP effs i)
   | 3=>W3 (effs.map (·.1)) anc+1
   | _=>b
  OU effs l (acc++[b])
def TQ (so:List Nat) (de:List (List Nat)) (an:List Nat) (ro:List (Option Nat)):List SI :=
 let idx:=List.range so.length
 let ef:=(idx.filter fun i=>so.getD i 0 == 3).map fun i=>(i,an.getD i 0)
 let ba:=OU ef (idx.map fun i=>(i,de.getD i [],an.getD i 0,so.getD i 0)) []
 let al:=idx.filter fun i=>so.getD i 0 == 2
 let dig:=fun i=>D.ofN (al.takeWhile (· != i)).length
 let item:=fun i=>if so.getD i 0 == 2 then SI.al i (dig i) else match ro.getD i none with
  | some a=>if so.getD i 0 == 1&&ba.getD i 0 == ba.getD a 0 then SI.rn i a (dig a) else SI.rd i
  | none=>SI.rd i
 (List.range (ef.length+1)).flatMap fun j =>
  ((idx.filter fun i=>so.getD i 0 == 3&&ba.getD i 0 == j).map SI.ef) ++
  ((al.filter fun i=>Nat.ble j (ba.getD i 0)).map fun i=>SI.no (dig i)) ++
  ((idx.filter fun i=>so.getD i 0 != 3&&ba.getD i 0 == j).map item) ++
  ((idx.filter fun i=>so.getD i 0 == 1&&Nat.blt (ba.getD i 0) j&&Nat.ble j (UP ef i)).map SI.ck)
def AK.base:AK->Option K2
 | .ld (.t p) | .ldn _ (.t p) | .b2s (.t p) | .slA _ _ (.t p) _ _ | .lk _ _ _ (.t p) _ | .lnM (.t p) | .ixS _ (.t p) _ | .ixA _ _ (.t p) _ | .fad _ (.t p) | .slL _ (.t p) _ _ | .nilck (.t p) | .idn (.t p)=>some p
 | _=>none
def Sd (os:List AOp):Nat->Nat->Option Nat
 | 0,_=>none
 | fuel+1,i=>match os[i]? with
  | some o=>match o.k.base with
   | some q =>
    let j:=os.findIdx fun x=>match x.dst with | some d=>d.beq q | none=>false
    match os[j]? with
    | some x=>if x.k.sort == 2 then some j else if Nat.blt j i then Sd os fuel j else none
    | none=>none
   | none=>none
  | none=>none
def C0 (deps:List (List Nat)) (os:List AOp):Plot :=
 let so:=os.map (·.k.sort)
 let an:=WK deps
 ⟨so,os.map (·.dst),os.map AOp.slots,deps,an,TQ so deps an ((List.range so.length).map fun i=>if so.getD i 0 == 1 then Sd os 6 i else none)⟩
def Ch (ops:Array Oper) (draw:Bool):AC :=
 match Gx P N ops ops.toList with
 | none=>.bad "a region of it registers"
 | some os =>
  if draw then
   let p:=C0 (ops.toList.map CQ) os
   if p.ok then .drawn (p.sk.any SI.isAl) (p.sk.map (Kn os)) else .bad "a region of it order"
  else .ops os
def U1 (f:FuncId):Bool:=match P.funcs[f]? with
 | some fn=>fn.origin == "slices.Collect" || fn.origin == "slices.AppendSeq" || fn.name == "stillroom/stillroomtop.small"
 | none=>false
def Wv (o:Oper):Option Sp:=match o.op with
 | .range ty x=>match P.underlying ty with | some (.map _ _)=>(AR N x).map .rng | _=>none
 | .next x s=>if s then none else (AR N x).map .nxt
 | .entry x=>(AR N x).map .ent
 | .call ct=>match ct.callee with
  | .value (.func f)=>if U1 P f then (Bt N ct.args.toList).map (.tcl f) else none
  | .value (.tmp s)=>match AR N (.tmp s),Bt N ct.args.toList with
   | some x,some l=>some (.dcl x l)
   | _,_=>none
  | _=>none
 | _=>none
def U6 (o:Oper):Option (Option K2):=match o.dst with | none=>some none | some d=>(FK N d).map some
def NG (ops:Array Oper):List Oper->Option (List AOp×Sp×Option K2×List AOp)
 | []=>none
 | o::l=>match Wv P N o with
  | some sp=>match o.guard,U6 N o,Gx P N ops l with
   | none,some d,some post=>some ([],sp,d,post)
   | _,_,_=>none
  | none=>match NG ops l with
   | none=>none
   | some r=>match IF P N ops o with
    | some x=>some (x::r.1,r.2)
    | none=>none
def T7 (ops:Array Oper) (draw:Bool):AC :=
 if draw then Ch P N ops true else match NG P N ops ops.toList with
 | some r=>.spl r.1 r.2.1 r.2.2.1 r.2.2.2
 | none=>Ch P N ops false
def Bb:Code->AC
 | .skip=>.skip
 | .region _ ops draw=>T7 P N ops draw
 | .seq a b=>.seq (Bb a) (Bb b)
 | .cond c a b=>match AR N c with
  | some c=>.cond c (Bb a) (Bb b)
  | none=>.bad "a test"
 | .block id b=>.block id (Bb b)
 | .loop b=>.loop (Bb b)
 | .exit id=>.exit id
 | .label _=>.skip
 | .ret=>.ret
 | .rangeFunc _ _ _ _=>.bad "a range over a function"
 | .scope _=>.bad "a scope"
 | .goto _=>.bad "a goto"
 | .refuse why=>.bad why
def EZ:List Nat->Option (List K2)
 | []=>some []
 | t::l=>match FK N t,EZ l with
  | some x,some xs=>some (x::xs)
  | _,_=>none
def Ca:List ResultVar->Option (List ARes)
 | []=>some []
 | .tmp t::l=>match FK N t,Ca l with
  | some x,some xs=>some (.tmp x::xs)
  | _,_=>none
 | .cell t ty::l=>match FK N t,Jc P ty,Bp P ty,Ca l with
  | some x,some ag,some m,some xs=>some (.cel x (if ag then some m else none)::xs)
  | _,_,_,_=>none
end
def JY (P:Program) (f:FuncId):Option AFn :=
 match P.funcs[f]? with
 | some fn =>
  match fn.body,EZ fn.ntmps (List.range (fn.params.size+fn.nfree)),Ca P fn.ntmps fn.results.toList with
  | some c,some ps,some rs=>if fn.name == "runtime.NumGoroutine" then none else some ⟨ps,Bb P fn.ntmps c,rs⟩
  | _,_,_=>none
 | none=>none
end Go.Ev

namespace Go.Ev
set_option linter.unusedVariables false
section
variable {ρ:Env}
def B0.le (φ φ':B0):Prop:=∀ p x,φ p=some x->φ' p=some x
theorem B0.le_refl (φ:B0):B0.le φ φ:=fun _ _ h=>h
theorem B0.le_trans {a b c:B0} (h:B0.le a b) (k:B0.le b c):B0.le a c:=fun p x hx=>k p x (h p x hx)
mutual
theorem EB {φ φ':B0} (h:B0.le φ φ'):∀ {v:V} {x:Value},AF ρ φ v x->AF ρ φ' v x
 | .int _ _,_,r=>by simpa only [AF] using r
 | .bool _,_,r=>by simpa only [AF] using r
 | .ptr _ _,_,r=>by
  simp only [AF] at r ⊢
  obtain ⟨b,s,tot,hp,e⟩:=r
  exact ⟨b,s,tot,h _ _ hp,e⟩
 | .sl _ _ _ _ _ _,_,r=>by
  simp only [AF] at r ⊢
  obtain ⟨b,s,tot,o,c,hp,e⟩:=r
  exact ⟨b,s,tot,o,c,h _ _ hp,e⟩
 | .str _ _,_,r=>by simpa only [AF] using r
 | .agg l,_,r=>by
  simp only [AF] at r ⊢
  obtain ⟨cs,e,hl,ho⟩:=r
  exact ⟨cs,e,F5 h hl,ho⟩
 | .nil _,_,r=>by simpa only [AF] using r
 | .map _,_,r=>by
  simp only [AF] at r ⊢
  obtain ⟨b,s,tot,hp,e⟩:=r
  exact ⟨b,s,tot,h _ _ hp,e⟩
 | .fn _ l,_,r=>by
  simp only [AF] at r ⊢
  obtain ⟨cs,e,hl⟩:=r
  exact ⟨cs,e,F5 h hl⟩
 | .tup l,_,r=>by
  simp only [AF] at r ⊢
  obtain ⟨cs,e,hl⟩:=r
  exact ⟨cs,e,F5 h hl⟩
 | .oth o,_,r=>by
  cases o with
  | yl p =>
   simp only [AF] at r ⊢
   obtain ⟨b,s,tot,hp,e⟩:=r
   exact ⟨b,s,tot,h _ _ hp,e⟩
  | _=>simp only [AF] at r ⊢ <;> exact r
theorem F5 {φ φ':B0} (h:B0.le φ φ'):∀ {l:List V} {xs:List Value},Bs ρ φ l xs->Bs ρ φ' l xs
 | [],_,r=>by simpa only [Bs] using r
 | v::l,_,r=>by
  simp only [Bs] at r ⊢
  obtain ⟨y,ys,e,hy,hys⟩:=r
  exact ⟨y,ys,e,EB h hy,F5 h hys⟩
end
theorem AL {φ:B0} {xs:List Value}:Bs ρ φ [] xs ↔ xs=[]:=by simp only [Bs]
theorem AD {φ:B0} {v:V} {l:List V} {xs:List Value}:Bs ρ φ (v::l) xs ↔ ∃ y ys,xs=y::ys∧AF ρ φ v y∧Bs ρ φ l ys:=by simp only [Bs]
theorem B7 {φ:B0} {l:List V}:∀ {xs:List Value},Bs ρ φ l xs->xs.length=l.length:=by
 induction l with
 | nil=>intro xs h; rw [AL] at h; rw [h]; rfl
 | cons v l ih=>intro xs h; obtain ⟨y,ys,rfl,_,h⟩:=AD.1 h; simp [ih h]
theorem Cf {φ:B0} {l:List V}:∀ {xs:List Value},Bs ρ φ l xs ↔ xs.length=l.length ∧ ∀ (i:Nat) (v:V),l[i]? = some v->∃ x,xs[i]? = some x∧AF ρ φ v x:=by
 induction l with
 | nil =>
  intro xs; rw [AL]; constructor
  ·rintro rfl; exact ⟨rfl,fun i v h=>by simp at h⟩
  ·rintro ⟨h,_⟩; exact List.eq_nil_of_length_eq_zero h
 | cons v l ih =>
  intro xs
  rw [AD]
  constructor
  ·rintro ⟨y,ys,rfl,hy,hys⟩
   obtain ⟨h1,h2⟩:=ih.1 hys
   refine ⟨by simp [h1],fun i u hu=>?_⟩
   cases i with
   | zero=>simp at hu; subst hu; exact ⟨y,rfl,hy⟩
   | succ i=>simpa using h2 i u (by simpa using hu)
  ·rintro ⟨h1,h2⟩
   cases xs with
   | nil=>simp at h1
   | cons y ys =>
    obtain ⟨x,hx,hr⟩:=h2 0 v rfl
    simp at hx; subst hx
    exact ⟨y,ys,rfl,hr,ih.2 ⟨by simpa using h1,fun i u hu=>by simpa using h2 (i+1) u (by simpa using hu)⟩⟩
theorem EU {φ:B0} {a b:List V} {xs ys:List Value} (h:Bs ρ φ a xs) (k:Bs ρ φ b ys):Bs ρ φ (a++b) (xs++ys):=by
 induction a generalizing xs with
 | nil=>rw [AL] at h; subst h; exact k
 | cons v a ih=>obtain ⟨y,zs,rfl,hy,h⟩:=AD.1 h; exact AD.2 ⟨y,zs++ys,rfl,hy,ih h⟩
theorem I0 {φ:B0} {a:List V} {xs:List Value} (h:Bs ρ φ a xs) (k:Nat):Bs ρ φ (a.drop k) (xs.drop k):=by
 induction k generalizing a xs with
 | zero=>simpa using h
 | succ k ih=>cases a with
  | nil=>rw [AL] at h; subst h; simpa using AL.2 rfl
  | cons v a=>obtain ⟨y,zs,rfl,hy,h⟩:=AD.1 h; simpa using ih h
theorem I4 {φ:B0} {a:List V} {xs:List Value} (h:Bs ρ φ a xs) (k:Nat):Bs ρ φ (a.take k) (xs.take k):=by
 induction k generalizing a xs with
 | zero=>simpa using AL.2 rfl
 | succ k ih=>cases a with
  | nil=>rw [AL] at h; subst h; simpa using AL.2 rfl
  | cons v a=>obtain ⟨y,zs,rfl,hy,h⟩:=AD.1 h; simpa using AD.2 ⟨y,zs.take k,rfl,hy,ih h⟩
def Bn (ρ:Env):Prop:=∀ i,(ρ.v i).oneCell'=true
theorem Gi {φ:B0} (hρ:Bn ρ) {v:V} (hv:v.celled) {x:Value} (h:AF ρ φ v x) :
  Bs ρ φ v.cl x.cells.toList ∧ ∀ y∈x.cells.toList,y.oneCell'=true:=by
 cases v with
 | agg l =>
  simp only [AF] at h
  obtain ⟨cs,rfl,hl,ho⟩:=h
  exact ⟨hl,ho⟩
 | tup l=>exact hv.elim
 | int k r =>
  have h':=h; simp only [AF] at h'; obtain ⟨_,rfl⟩:=h'
  exact ⟨AD.2 ⟨_,[],rfl,h,AL.2 rfl⟩,by simp [Value.cells,Value.oneCell']⟩
 | bool b =>
  have h':=h; simp only [AF] at h'; subst h'
  exact ⟨AD.2 ⟨_,[],rfl,h,AL.2 rfl⟩,by simp [Value.cells,Value.oneCell']⟩
 | ptr p o =>
  have h':=h; simp only [AF] at h'; obtain ⟨_,_,_,_,rfl⟩:=h'
  exact ⟨AD.2 ⟨_,[],rfl,h,AL.2 rfl⟩,by simp [Value.cells,Value.oneCell']⟩
 | sl p o l c e z =>
  have h':=h; simp only [AF] at h'; obtain ⟨_,_,_,_,_,_,rfl,_⟩:=h'
  exact ⟨AD.2 ⟨_,[],rfl,h,AL.2 rfl⟩,by simp [Value.cells,Value.oneCell']⟩
 | str n c =>
  have h':=h; simp only [AF] at h'; obtain ⟨_,rfl,_⟩:=h'
  exact ⟨AD.2 ⟨_,[],rfl,h,AL.2 rfl⟩,by simp [Value.cells,Value.oneCell']⟩
 | nil w =>
  have h':=h; simp only [AF] at h'; subst h'
  exact ⟨AD.2 ⟨_,[],by cases w <;> rfl,h,AL.2 rfl⟩,by cases w <;> simp [BX,Value.cells,Value.oneCell']⟩
 | map p =>
  have h':=h; simp only [AF] at h'; obtain ⟨_,_,_,_,rfl⟩:=h'
  exact ⟨AD.2 ⟨_,[],rfl,h,AL.2 rfl⟩,by simp [Value.cells,Value.oneCell']⟩
 | fn f l =>
  have h':=h; simp only [AF] at h'; obtain ⟨_,rfl,_⟩:=h'
  exact ⟨AD.2 ⟨_,[],rfl,h,AL.2 rfl⟩,by simp [Value.cells,Value.oneCell']⟩
 | oth o =>
  cases o with
  | any=>exact hv.elim
  | yl p=>exact hv.elim
  | no=>exact hv.elim
  | sym i =>
   have h':=h; simp only [AF] at h'; subst h'
   have hone:=hρ i
   have hc:(ρ.v i).cells = #[ρ.v i]:=by
    cases hx:ρ.v i <;> first | rfl | (rw [hx] at hone; simp [Value.oneCell'] at hone)
   rw [hc]
   exact ⟨AD.2 ⟨_,[],rfl,h,AL.2 rfl⟩,by simpa using hone⟩
  | iv k lo hi =>
   have h':=h; simp only [AF] at h'; obtain ⟨_,_,_,_,rfl⟩:=h'
   exact ⟨AD.2 ⟨_,[],rfl,h,AL.2 rfl⟩,by simp [Value.cells,Value.oneCell']⟩
  | os lo hi =>
   have h':=h; simp only [AF] at h'; obtain ⟨_,_,_,rfl,_⟩:=h'
   exact ⟨AD.2 ⟨_,[],rfl,h,AL.2 rfl⟩,by simp [Value.cells,Value.oneCell']⟩
  | bl =>
   have h':=h; simp only [AF] at h'; obtain ⟨_,rfl⟩:=h'
   exact ⟨AD.2 ⟨_,[],rfl,h,AL.2 rfl⟩,by simp [Value.cells,Value.oneCell']⟩
  | rs m j =>
   have h':=h; simp only [AF] at h'; obtain ⟨_,rfl,_⟩:=h'
   exact ⟨AD.2 ⟨_,[],rfl,h,AL.2 rfl⟩,by simp [Value.cells,Value.oneCell']⟩
  | ss lo hi n c =>
   have h':=h; simp only [AF] at h'; obtain ⟨_,rfl,_⟩:=h'
   exact ⟨AD.2 ⟨_,[],rfl,h,AL.2 rfl⟩,by simp [Value.cells,Value.oneCell']⟩
  | ro i lo hi z =>
   have h':=h; simp only [AF] at h'; obtain ⟨_,_,_,_,_,_,_,rfl,_⟩:=h'
   exact ⟨AD.2 ⟨_,[],rfl,h,AL.2 rfl⟩,by simp [Value.cells,Value.oneCell']⟩
  | ap i j m =>
   have h':=h; simp only [AF] at h'; obtain ⟨_,_,_,_,_,rfl,_⟩:=h'
   exact ⟨AD.2 ⟨_,[],rfl,h,AL.2 rfl⟩,by simp [Value.cells,Value.oneCell']⟩
  | sy k i =>
   have h':=h; simp only [AF] at h'; obtain ⟨_,_,_,rfl⟩:=h'
   exact ⟨AD.2 ⟨_,[],rfl,h,AL.2 rfl⟩,by simp [Value.cells,Value.oneCell']⟩
def BL:Ob->Option K4
 | .c _ _ p=>p
 | _=>none
def Iq:Ob->Bool
 | .c _ s _=>s
 | _=>false
def U5 (fr:Nat×Nat) (tot:Nat):Prop:=fr.1=fr.2∨tot≤fr.1
def G0 (ρ:Env) (φ:B0):List (V×V)->List MapEntry->Prop
 | [],l=>l=[]
 | e::es,l=>∃ y ys,l=y::ys∧AF ρ φ e.1 y.key∧AF ρ φ e.2 y.val∧G0 ρ φ es ys
def Ec (ρ:Env) (φ:B0) (cs:Cs) (f:Nat->Option Value):Prop :=
 ∀ i v,cs.at i=some v->∃ x,f i=some x∧AF ρ φ v x∧x.oneCell'=true
def Fu (ρ:Env) (φ:B0) (w:World) (o:Ob) (b s tot:Nat):Prop :=
 match o with
 | .c cs _ _=>∃ c e fr,w.heap[b]? = some (.cells c e fr)∧c.size=tot∧s+cs.len≤tot∧U5 fr tot∧Ec ρ φ cs fun i=>c[s+i]?
 | .m es bs clk=>∃ ents,w.heap[b]? = some (.map ents clk)∧G0 ρ φ es ents.toList∧ents.toList.map (·.born)=bs
 | .it p since seen c=>∃ bm sm tm,φ p=some (bm,sm,tm)∧s=0∧w.heap[b]? = some (.mapIter (some bm) since seen.reverse.toArray c)
 | .it0=>s=0∧w.heap[b]? = some (.mapIter none 0 #[] 0)
 | .lp f box=>s=0 ∧ ∃ (A:ApC) (fn:FuncId) (tmps:Array Value) (D:Nat),ρ.ap f=some A∧w.heap[b]? = some (.loop { state:=.ready,pending:=none,fn,tmps,params:=#[A.par],assign:=A.asg,body:=A.bod,defers:=D }) ∧
   tmps.size=A.ntm∧AF ρ φ (.ptr box 0) (tmps.getD A.box undef)
theorem L9 {φ φ':B0} (h:B0.le φ φ') {es:List (V×V)}:∀ {l:List MapEntry},G0 ρ φ es l->G0 ρ φ' es l:=by
 induction es with
 | nil=>exact fun h=>h
 | cons e es ih=>rintro l ⟨y,ys,rfl,h1,h2,h3⟩; exact ⟨y,ys,rfl,EB h h1,EB h h2,ih h3⟩
theorem Fk {φ φ':B0} (h:B0.le φ φ') {cs:Cs} {f:Nat->Option Value} (k:Ec ρ φ cs f):Ec ρ φ' cs f :=
 fun i v hv=>let ⟨x,h1,h2,h3⟩:=k i v hv; ⟨x,h1,EB h h2,h3⟩
theorem DH {φ φ':B0} (h:B0.le φ φ') {w:World} {o:Ob} {b s tot:Nat} (k:Fu ρ φ w o b s tot):Fu ρ φ' w o b s tot:=by
 cases o with
 | c cs sup prev =>
  obtain ⟨c,e,fr,h1,h2,h3,h4,h5⟩:=k
  exact ⟨c,e,fr,h1,h2,h3,h4,Fk h h5⟩
 | m es bs clk =>
  obtain ⟨ents,h1,h2,h3⟩:=k
  exact ⟨ents,h1,L9 h h2,h3⟩
 | it p since seen c =>
  obtain ⟨bm,sm,tm,h1,h2,h3⟩:=k
  exact ⟨bm,sm,tm,h _ _ h1,h2,h3⟩
 | it0=>exact k
 | lp f box =>
  obtain ⟨h0,A,fn,tmps,D,h1,h2,h3,h4⟩:=k
  exact ⟨h0,A,fn,tmps,D,h1,h2,h3,EB h h4⟩
theorem C1 {φ:B0} {w w':World} {o:Ob} {b s tot:Nat} (h:w'.heap[b]? = w.heap[b]?) (k:Fu ρ φ w o b s tot):Fu ρ φ w' o b s tot:=by
 cases o with
 | c cs sup prev=>obtain ⟨c,e,fr,h1,h2⟩:=k; exact ⟨c,e,fr,h.trans h1,h2⟩
 | m es bs clk=>obtain ⟨ents,h1,h2⟩:=k; exact ⟨ents,h.trans h1,h2⟩
 | it p since seen c=>obtain ⟨bm,sm,tm,h1,h2,h3⟩:=k; exact ⟨bm,sm,tm,h1,h2,h.trans h3⟩
 | it0=>exact ⟨k.1,h.trans k.2⟩
 | lp f box=>obtain ⟨h0,A,fn,tmps,D,h1,h2,h3⟩:=k; exact ⟨h0,A,fn,tmps,D,h1,h.trans h2,h3⟩
structure Gam (ρ:Env) (B:Nat) (h:Heap) (n:K4) (φ:B0) (w:World):Prop where
 base:B≤w.heap.size
 dom:∀ p x,φ p=some x->p.toN<n.toN
 blk:∀ p b s tot,φ p=some (b,s,tot)->B≤b∧b<w.heap.size
 obj:∀ p o b s tot,AE p h=some o->φ p=some (b,s,tot)->Fu ρ φ w o b s tot
 sep:∀ p q o o' b s tot s' tot',p≠q->AE p h=some o->AE q h=some o'->φ p=some (b,s,tot)->φ q=some (b,s',tot')->BL o=some q∨BL o'=some p
 sup:∀ p q o o' b s tot s' tot',AE p h=some o->BL o=some q->AE q h=some o'->φ p=some (b,s,tot)->φ q=some (b,s',tot')->Iq o'=true
 glob:∀ b c e fr,ρ.gl b=some (c,e,fr)->b<B∧w.heap[b]? = some (.cells c e fr)
structure Fr (h h':Heap) (φ φ':B0) (n n':K4) (w w':World):Prop where
 ext:B0.le φ φ'
 new:∀ p x,φ' p=some x->φ p=some x∨(n.toN≤p.toN∧p.toN<n'.toN)
 nn:n.toN≤n'.toN
 os:w'.os=w.os
 tape:w'.tape=w.tape
 out:w'.output=w.output
 size:w.heap.size≤w'.heap.size
 old:∀ b,b<w.heap.size->(∀ p s tot,φ p=some (b,s,tot)->AE p h=none)->w'.heap[b]? = w.heap[b]?
 fresh:∀ p b s tot,φ' p=some (b,s,tot)->φ p=some (b,s,tot)∨w.heap.size≤b ∨ ∃ q s' tot',φ q=some (b,s',tot')∧AE q h≠none
 dm:∀ p,φ p≠none->AE p h=none->AE p h'=none
theorem Fr.refl (h:Heap) (φ:B0) (n:K4) (w:World):Fr h h φ φ n n w w :=
 ⟨B0.le_refl φ,fun _ _ h=>.inl h,Nat.le_refl _,rfl,rfl,rfl,Nat.le_refl _,fun _ _ _=>rfl,fun _ _ _ _ h=>.inl h,fun _ _ h=>h⟩
theorem Fr.trans {h h1 h2:Heap} {φ φ1 φ2:B0} {n n1 n2:K4} {w w1 w2:World} (a:Fr h h1 φ φ1 n n1 w w1) (c:Fr h1 h2 φ1 φ2 n1 n2 w1 w2):Fr h h2 φ φ2 n n2 w w2 where
 ext:=B0.le_trans a.ext c.ext
 new:=fun p x hx=>by
  rcases c.new p x hx with h' | ⟨h1,h2⟩
  ·rcases a.new p x h' with h' | ⟨h1,h2⟩
   ·exact .inl h'
   ·exact .inr ⟨h1,Nat.lt_of_lt_of_le h2 c.nn⟩
  ·exact .inr ⟨Nat.le_trans a.nn h1,h2⟩
 nn:=Nat.le_trans a.nn c.nn
 os:=c.os.trans a.os
 tape:=c.tape.trans a.tape
 out:=c.out.trans a.out
 size:=Nat.le_trans a.size c.size
 old:=fun b hb hn=>by
  rw [←a.old b hb hn]
  refine c.old b (Nat.lt_of_lt_of_le hb a.size) fun p s tot hp=>?_
  rcases a.fresh p b s tot hp with h' | h' | ⟨q,s',tot',hq,hne⟩
  ·exact a.dm p (by rw [h']; simp) (hn p s tot h')
  ·omega
  ·exact absurd (hn q s' tot' hq) hne
 fresh:=fun p b s tot hp=>by
  rcases c.fresh p b s tot hp with h' | h' | ⟨q,s',tot',hq,hne⟩
  ·exact a.fresh p b s tot h'
  ·exact .inr (.inl (Nat.le_trans a.size h'))
  ·rcases a.fresh q b s' tot' hq with h' | h' | h'
   ·refine .inr (.inr ⟨q,s',tot',h',fun hn=>hne (a.dm q (by rw [h']; simp) hn)⟩)
   ·exact .inr (.inl h')
   ·exact .inr (.inr h')
 dm:=fun p hp hn=>c.dm p (by
  cases hx:φ p with
  | none=>exact absurd hx hp
  | some x=>rw [a.ext p x hx]; simp) (a.dm p hp hn)
theorem Fr.drew {h:Heap} {φ:B0} {n:K4} {w:World}:Fr h h φ φ n n w w.drew :=
 ⟨B0.le_refl φ,fun _ _ h=>.inl h,Nat.le_refl _,rfl,rfl,rfl,Nat.le_refl _,fun _ _ _=>rfl,fun _ _ _ _ h=>.inl h,fun _ _ h=>h⟩
theorem Gam.drew {B:Nat} {h:Heap} {φ:B0} {n:K4} {w:World} (g:Gam ρ B h n φ w):Gam ρ B h n φ w.drew :=
 ⟨g.base,g.dom,g.blk,fun p o b s tot h1 h2=>C1 (w:=w) rfl (g.obj p o b s tot h1 h2),g.sep,g.sup,g.glob⟩
theorem Gam.nx {B:Nat} {h:Heap} {φ:B0} {n n':K4} {w:World} (g:Gam ρ B h n φ w) (hn:n.toN≤n'.toN):Gam ρ B h n' φ w :=
 ⟨g.base,fun p x hx=>Nat.lt_of_lt_of_le (g.dom p x hx) hn,g.blk,g.obj,g.sep,g.sup,g.glob⟩
def DT (φ:B0) (p:K4) (x:Nat×Nat×Nat):B0:=fun q=>if p.beq q then some x else φ q
theorem BJ (φ:B0) (p:K4) (x:Nat×Nat×Nat):DT φ p x p=some x:=if_pos (K4.beq_iff.2 rfl)
theorem Gm {φ:B0} {p q:K4} {x:Nat×Nat×Nat} (h:p≠q):DT φ p x q=φ q:=if_neg fun e=>h (K4.beq_iff.1 e)
theorem CC {φ:B0} {p:K4} {x:Nat×Nat×Nat} (h:φ p=none):B0.le φ (DT φ p x):=fun q y hy=>by
 rw [Gm fun e=>by rw [e,hy] at h; cases h]; exact hy
theorem AO {φ:B0} {p q:K4} {x y:Nat×Nat×Nat} (h:DT φ p x q=some y):(p=q∧x=y)∨(p≠q∧φ q=some y):=by
 by_cases e:p=q
 ·subst e; rw [BJ] at h; exact .inl ⟨rfl,by simpa using h⟩
 ·rw [Gm e] at h; exact .inr ⟨e,h⟩
theorem Bx {h:Heap} {p q:K4} {o:Option Ob} {x:Ob} (k:AE q (AZ p h o)=some x):(p=q∧o=some x)∨(p≠q∧AE q h=some x):=by
 by_cases e:p=q
 ·subst e; rw [AB] at k; exact .inl ⟨rfl,k⟩
 ·rw [Aq _ _ e] at k; exact .inr ⟨e,k⟩
theorem Gam.alloc {B:Nat} {h:Heap} {φ:B0} {n n' p:K4} {w:World} (g:Gam ρ B h n φ w) (hp:φ p=none) (hpn:p.toN<n'.toN) (hn:n.toN≤n'.toN)
  (o:Ob) (ho:BL o=none) (O:Obj) (tot:Nat)
  (hok:∀ φ':B0,B0.le φ φ'->∀ w':World,w'.heap[w.heap.size]? = some O->Fu ρ φ' w' o w.heap.size 0 tot) :
  Gam ρ B (AZ p h (some o)) n' (DT φ p (w.heap.size,0,tot)) (w.alloc O) where
 base:=by have:=g.base; rw [World.size_alloc]; omega
 glob:=fun b c e fr hb=>⟨(g.glob b c e fr hb).1,by rw [Go.RowKit.Below.heap_alloc w O b (by have:=(g.glob b c e fr hb).1; have:=g.base; omega)]; exact (g.glob b c e fr hb).2⟩
 dom:=fun q x hx=>by
  rcases AO hx with ⟨rfl,_⟩ | ⟨_,hx⟩
  ·exact hpn
  ·exact Nat.lt_of_lt_of_le (g.dom q x hx) hn
 blk:=fun q b s t hx=>by
  rw [World.size_alloc]
  rcases AO hx with ⟨rfl,e⟩ | ⟨_,hx⟩
  ·simp only [Prod.mk.injEq] at e; have:=g.base; omega
  ·have:=g.blk q b s t hx; omega
 obj:=fun q o' b s t hq hx=>by
  rcases AO hx with ⟨rfl,e⟩ | ⟨hne,hx⟩
  ·rw [AB] at hq
   simp only [Prod.mk.injEq] at e
   obtain ⟨rfl,rfl,rfl⟩:=e
   cases hq
   exact hok _ (CC hp) _ (by show (w.heap.push O)[w.heap.size]? = some O; simp)
  ·rw [Aq _ _ hne] at hq
   have hb:=(g.blk q b s t hx).2
   refine C1 (w:=w) ?_ (DH (CC hp) (g.obj q o' b s t hq hx))
   exact Go.RowKit.Below.heap_alloc w O b hb
 sep:=fun q r o1 o2 b s t s' t' hne hq hr hx hy=>by
  rcases AO hx with ⟨rfl,e⟩ | ⟨hpq,hx⟩
  ·rcases AO hy with ⟨rfl,_⟩ | ⟨_,hy⟩
   ·exact absurd rfl hne
   ·simp only [Prod.mk.injEq] at e
    have:=(g.blk r b s' t' hy).2; omega
  ·rcases AO hy with ⟨rfl,e⟩ | ⟨hpr,hy⟩
   ·simp only [Prod.mk.injEq] at e
    have:=(g.blk q b s t hx).2; omega
   ·rw [Aq _ _ hpq] at hq
    rw [Aq _ _ hpr] at hr
    exact g.sep q r o1 o2 b s t s' t' hne hq hr hx hy
 sup:=fun q r o1 o2 b s t s' t' hq hpr hr hx hy=>by
  rcases AO hx with ⟨rfl,e⟩ | ⟨hpq,hx⟩
  ·rw [AB] at hq; cases hq; rw [ho] at hpr; cases hpr
  ·rcases AO hy with ⟨rfl,e⟩ | ⟨hpr',hy⟩
   ·simp only [Prod.mk.injEq] at e; have:=(g.blk q b s t hx).2; omega
   ·rw [Aq _ _ hpq] at hq
    rw [Aq _ _ hpr'] at hr
    exact g.sup q r o1 o2 b s t s' t' hq hpr hr hx hy
theorem Fr.alloc {h:Heap} {φ:B0} {n n' p:K4} {w:World} (hp:φ p=none) (hn:n.toN≤n'.toN) (h1:n.toN≤p.toN) (h2:p.toN<n'.toN)
  (o:Option Ob) (O:Obj) (tot:Nat):Fr h (AZ p h o) φ (DT φ p (w.heap.size,0,tot)) n n' w (w.alloc O) where
 ext:=CC hp
 new:=fun q x hx=>by
  rcases AO hx with ⟨rfl,_⟩ | ⟨_,hx⟩
  ·exact .inr ⟨h1,h2⟩
  ·exact .inl hx
 nn:=hn
 os:=rfl
 tape:=rfl
 out:=rfl
 size:=by rw [World.size_alloc]; omega
 old:=fun b hb _=>Go.RowKit.Below.heap_alloc w O b hb
 fresh:=fun q b s t hx=>by
  rcases AO hx with ⟨rfl,e⟩ | ⟨_,hx⟩
  ·simp only [Prod.mk.injEq] at e; exact .inr (.inl (by omega))
  ·exact .inl hx
 dm:=fun q hq hn=>by
  have hne:p≠q:=fun e=>hq (e ▸ hp)
  rw [Aq _ _ hne]; exact hn
def FO (prev:Option K4) (h:Heap):Heap:=match prev with | none=>h | some q=>AZ q h none
theorem JU (prev:Option K4) (h:Heap) (κ:Heap->R):KZ prev h κ=κ (FO prev h):=by
 cases prev with
 | none=>rfl
 | some q=>exact Bz q h none κ
theorem CU {prev:Option K4} {h:Heap} {q:K4} {x:Ob} (k:AE q (FO prev h)=some x):prev≠some q∧AE q h=some x:=by
 cases prev with
 | none=>exact ⟨by simp,k⟩
 | some r =>
  rcases Bx k with ⟨_,h⟩ | ⟨hne,h⟩
  ·cases h
  ·exact ⟨fun e=>hne (by simpa using e),h⟩
theorem O5 {prev:Option K4} {h:Heap} {q:K4} (k:AE q h=none):AE q (FO prev h)=none:=by
 cases hx:AE q (FO prev h) with
 | none=>rfl
 | some x=>rw [(CU hx).2] at k; cases k
def CH (w:World) (b:Nat) (O:Obj):World:={ w with heap:=w.heap.setIfInBounds b O }
theorem Dg {w:World} {b:Nat} {O:Obj} (h:b<w.heap.size):(CH w b O).heap[b]? = some O:=by
 simp [CH,h]
theorem Gr {w:World} {b k:Nat} {O:Obj} (h:b≠k):(CH w b O).heap[k]? = w.heap[k]?:=by
 simp [CH,Array.getElem?_setIfInBounds_ne h]
theorem DE {w:World} {b:Nat} {O:Obj}:(CH w b O).heap.size=w.heap.size:=by simp [CH]
theorem Gam.write {B:Nat} {h:Heap} {φ:B0} {n p:K4} {w:World} {o o':Ob} {b s tot:Nat} {O:Obj} (g:Gam ρ B h n φ w) (hp:AE p h=some o) (hφ:φ p=some (b,s,tot))
  (hs:Iq o=false) (ho':BL o'=none) (hok:Fu ρ φ (CH w b O) o' b s tot) :
  Gam ρ B (AZ p (FO (BL o) h) (some o')) n φ (CH w b O) where
 base:=by rw [DE]; exact g.base
 glob:=fun k c e fr hk=>⟨(g.glob k c e fr hk).1,by rw [Gr (by have:=(g.glob k c e fr hk).1; have:=(g.blk p b s tot hφ).1; omega)]; exact (g.glob k c e fr hk).2⟩
 dom:=g.dom
 blk:=fun q b s t hx=>by rw [DE]; exact g.blk q b s t hx
 obj:=fun q o1 b1 s1 t1 hq hx=>by
  rcases Bx hq with ⟨rfl,e⟩ | ⟨hne,hq⟩
  ·rw [hφ] at hx; simp only [Option.some.injEq,Prod.mk.injEq] at hx e
   obtain ⟨rfl,rfl,rfl⟩:=hx; subst e; exact hok
  ·obtain ⟨hk,hq⟩:=CU hq
   have hb:b≠b1:=fun e=>by
    subst e
    rcases g.sep p q o o1 b s tot s1 t1 hne hp hq hφ hx with h' | h'
    ·exact hk h'
    ·have:=g.sup q p o1 o b s1 t1 s tot hq h' hp hx hφ
     rw [this] at hs; cases hs
   exact C1 (Gr hb) (g.obj q o1 b1 s1 t1 hq hx)
 sep:=fun q r o1 o2 b1 s1 t1 s2 t2 hne hq hr hx hy=>by
  rcases Bx hq with ⟨rfl,e⟩ | ⟨hpq,hq⟩
  ·rcases Bx hr with ⟨rfl,e'⟩ | ⟨hpr,hr⟩
   ·exact absurd rfl hne
   ·obtain ⟨hk,hr⟩:=CU hr
    rcases g.sep p r o o2 b1 s1 t1 s2 t2 hne hp hr hx hy with h' | h'
    ·exact absurd h' hk
    ·exact .inr h'
  ·obtain ⟨hk,hq⟩:=CU hq
   rcases Bx hr with ⟨rfl,e'⟩ | ⟨hpr,hr⟩
   ·rcases g.sep q p o1 o b1 s1 t1 s2 t2 hne hq hp hx hy with h' | h'
    ·exact .inl h'
    ·exact absurd h' hk
   ·obtain ⟨_,hr⟩:=CU hr
    exact g.sep q r o1 o2 b1 s1 t1 s2 t2 hne hq hr hx hy
 sup:=fun q r o1 o2 b1 s1 t1 s2 t2 hq hpr hr hx hy=>by
  rcases Bx hq with ⟨rfl,e⟩ | ⟨hpq,hq⟩
  ·simp only [Option.some.injEq] at e; subst e; rw [ho'] at hpr; cases hpr
  ·obtain ⟨hk,hq⟩:=CU hq
   rcases Bx hr with ⟨rfl,e⟩ | ⟨_,hr⟩
   ·have:=g.sup q p o1 o b1 s1 t1 s2 t2 hq hpr hp hx hy
    rw [this] at hs; cases hs
   ·exact g.sup q r o1 o2 b1 s1 t1 s2 t2 hq hpr (CU hr).2 hx hy
theorem Fr.write {h:Heap} {φ:B0} {n p:K4} {w:World} {o:Ob} {o':Option Ob} {b s tot:Nat} {O:Obj} (hp:AE p h=some o) (hφ:φ p=some (b,s,tot)) :
  Fr h (AZ p (FO (BL o) h) o') φ φ n n w (CH w b O) where
 ext:=B0.le_refl φ
 new:=fun _ _ h=>.inl h
 nn:=Nat.le_refl _
 os:=rfl
 tape:=rfl
 out:=rfl
 size:=by rw [DE]; exact Nat.le_refl _
 old:=fun k hk hn=>Gr fun e=>by
  subst e
  have:=hn p s tot hφ; rw [hp] at this; cases this
 fresh:=fun _ _ _ _ h=>.inl h
 dm:=fun q hq hn=>by
  by_cases e:p=q
  ·subst e; rw [hp] at hn; cases hn
  ·rw [Aq _ _ e]; exact O5 hn
end
end Go.Ev

namespace Go.Ev
set_option linter.unusedVariables false
theorem kb {k j:IntKind} {t:R} {s:String} (h:(br (Bi k j) t (.fail s)).good):k=j∧br (Bi k j) t (.fail s)=t:=by
 obtain ⟨h1,h2⟩:=Ak h
 exact ⟨Ba.1 h1,h2⟩
theorem BI {a b:Nat} (h:Nat.ble (Nat.succ a) b=true):a<b:=Al.1 h
def Do (op:BinOp) (x y:Value) (v:V):Prop :=
 ∃ r:Value,(∀ (P:Program) (t:TypeId) (w:World),(Go.binOp op t x y).run P w = .ok r w) ∧ ∀ (ρ:Env) (φ:B0),AF ρ φ v r
theorem E7 (k:IntKind) (r:Nat) (hr:r<Mk k) (ρ:Env) (φ:B0):AF ρ φ (.int k r) (.int k (BG k r)):=by
 simp [AF,hr]
theorem BA (b:Bool) (ρ:Env) (φ:B0):AF ρ φ (.bool b) (.bool b):=by simp only [AF]
theorem Rk (k:IntKind) (a b:Nat):k.wrap (BG k a+BG k b)=BG k ((a+b) % Mk k):=by
 apply FE
 rw [Int.add_emod,DX,DX,←Int.natCast_add,←Int.natCast_emod,Nat.add_mod]; simp
theorem MG (k:IntKind) (a b:Nat) (hb:b<Mk k):k.wrap (BG k a - BG k b)=BG k ((a+(Mk k - b)) % Mk k):=by
 apply FE
 unfold BG
 cases k <;> simp only [Mk,Hk] at * <;> (repeat' split) <;> omega
theorem R2 (k:IntKind) (a b:Nat):k.wrap (BG k a*BG k b)=BG k (a*b % Mk k):=by
 apply FE
 rw [Int.mul_emod,DX,DX,←Int.natCast_mul,←Int.natCast_emod,Nat.mul_mod]; simp
theorem LM {k j:IntKind} {a b:Nat} {κ:R} (h:(Ny k a j b κ).good):k=j∧a<Hk k∧b<Hk k∧Ny k a j b κ=κ:=by
 obtain ⟨rfl,e1⟩:=kb h
 have e1:Ny k a k b κ=_:=e1
 rw [e1] at h
 obtain ⟨h2,e2⟩:=Ak h
 rw [e2] at h
 obtain ⟨h3,e3⟩:=Ak h
 exact ⟨rfl,BI h2,BI h3,e1.trans (e2.trans e3)⟩
theorem bv (k:IntKind) (a:Nat) (ha:a<Mk k):(BitVec.ofInt k.bits (BG k a)).toNat=a:=by
 rw [BitVec.toNat_ofInt]
 have h:=DX k a
 have e:((2 ^ k.bits:Nat):Int)=(Mk k:Int):=by rw [E8]
 rw [e,h,Nat.mod_eq_of_lt ha]; simp
theorem Ep (k:IntKind) (r:Nat) (hr:r<Mk k):k.wrap (r:Int)=BG k r :=
 FE (by rw [←Int.natCast_emod,Nat.mod_eq_of_lt hr])
theorem S4 (a b m:Nat) (h:a<m):Nat.land a b<m:=Nat.lt_of_le_of_lt Nat.and_le_left h
theorem Vv (k:IntKind) (a b:Nat) (ha:a<Mk k) (hb:b<Mk k):Nat.lor a b<Mk k:=by
 rw [E8] at *; exact Nat.or_lt_two_pow ha hb
theorem RY (k:IntKind) (a b:Nat) (ha:a<Mk k) (hb:b<Mk k):Nat.xor a b<Mk k:=by
 rw [E8] at *; exact Nat.xor_lt_two_pow ha hb
theorem Fm (op:BinOp) (k:IntKind) (a:Nat) (j:IntKind) (b:Nat) (κ:V->R) (ha:a<Mk k) (hb:b<Mk j) (h:(Kk op k a j b κ).good) :
  ∃ v,Kk op k a j b κ=κ v∧Do op (.int k (BG k a)) (.int j (BG j b)) v:=by
 cases op with
 | add =>
  obtain ⟨rfl,e⟩:=kb (show R.good (Sq k a j b κ) from h)
  refine ⟨_,(show Sq k a k b κ=_ from e).trans (Af _ _),.int k (BG k ((a+b) % Mk k)),fun P t w=>?_,E7 k _ (Nat.mod_lt _ (DZ k))⟩
  simp only [binOp_add,Op.intArith,Rk,Sem.run_pure]
 | sub =>
  obtain ⟨rfl,e⟩:=kb (show R.good (Ms k a j b κ) from h)
  refine ⟨_,(show Ms k a k b κ=_ from e).trans (Af _ _),.int k (BG k ((a+(Mk k - b)) % Mk k)),fun P t w=>?_,E7 k _ (Nat.mod_lt _ (DZ k))⟩
  simp only [binOp_sub,Op.intArith,MG _ _ _ hb,Sem.run_pure]
 | mul =>
  obtain ⟨rfl,e⟩:=kb (show R.good (Sh k a j b κ) from h)
  refine ⟨_,(show Sh k a k b κ=_ from e).trans (Af _ _),.int k (BG k (a*b % Mk k)),fun P t w=>?_,E7 k _ (Nat.mod_lt _ (DZ k))⟩
  simp only [binOp_mul,Op.intArith,R2,Sem.run_pure]
 | quo =>
  obtain ⟨rfl,h1,h2,e⟩:=LM (show R.good (Qa k a j b κ) from h)
  have e:Qa k a k b κ=_:=e
  have h:(Qa k a k b κ).good:=h
  rw [e] at h
  obtain ⟨h3,e3⟩:=Ak h
  have h3:=Al.1 h3
  refine ⟨_,e.trans (e3.trans (Af _ _)),.int k (BG k (a / b)),fun P t w=>?_,E7 k _ (Nat.lt_of_le_of_lt (Nat.div_le_self a b) ha)⟩
  have hd:a / b<Hk k:=Nat.lt_of_le_of_lt (Nat.div_le_self a b) h1
  rw [binOp_quo,At h1,At h2,At hd]
  have hw:k.wrap ((a / b:Nat):Int)=((a / b:Nat):Int):=by
   rw [Ep k _ (Nat.lt_of_lt_of_le hd (G4 k)),At hd]
  simp only [Op.intDiv]
  rw [if_neg (by omega)]
  simp only [Sem.run_pure]
  rw [←hw,Int.ofNat_tdiv]
 | rem =>
  obtain ⟨rfl,h1,h2,e⟩:=LM (show R.good (PH k a j b κ) from h)
  have e:PH k a k b κ=_:=e
  have h:(PH k a k b κ).good:=h
  rw [e] at h
  obtain ⟨h3,e3⟩:=Ak h
  have h3:=Al.1 h3
  have hd:a % b<Hk k:=Nat.lt_of_le_of_lt (Nat.mod_le a b) h1
  refine ⟨_,e.trans (e3.trans (Af _ _)),.int k (BG k (a % b)),fun P t w=>?_,E7 k _ (Nat.lt_of_lt_of_le hd (G4 k))⟩
  rw [binOp_rem,At h1,At h2,At hd]
  simp only [Op.intDiv]
  rw [if_neg (by omega)]
  simp only [Sem.run_pure]
  rw [←Int.ofNat_tmod]
 | and =>
  obtain ⟨rfl,e⟩:=kb (show R.good (Rf k a j b κ) from h)
  have hl:Nat.land a b<Mk k:=S4 a b _ ha
  refine ⟨_,(show Rf k a k b κ=_ from e).trans (Af _ _),.int k (BG k (Nat.land a b)),fun P t w=>?_,E7 k _ hl⟩
  simp only [binOp_and,Op.intBits,BitVec.toNat_and,bv _ _ ha,bv _ _ hb,Sem.run_pure]
  rw [Ep k (a &&& b) hl]; rfl
 | or =>
  obtain ⟨rfl,e⟩:=kb (show R.good (VV k a j b κ) from h)
  have hl:Nat.lor a b<Mk k:=Vv k a b ha hb
  refine ⟨_,(show VV k a k b κ=_ from e).trans (Af _ _),.int k (BG k (Nat.lor a b)),fun P t w=>?_,E7 k _ hl⟩
  simp only [binOp_or,Op.intBits,BitVec.toNat_or,bv _ _ ha,bv _ _ hb,Sem.run_pure]
  rw [Ep k (a ||| b) hl]; rfl
 | xor =>
  obtain ⟨rfl,e⟩:=kb (show R.good (R7 k a j b κ) from h)
  have hl:Nat.xor a b<Mk k:=RY k a b ha hb
  refine ⟨_,(show R7 k a k b κ=_ from e).trans (Af _ _),.int k (BG k (Nat.xor a b)),fun P t w=>?_,E7 k _ hl⟩
  simp only [binOp_xor,Op.intBits,BitVec.toNat_xor,bv _ _ ha,bv _ _ hb,Sem.run_pure]
  rw [Ep k (a ^^^ b) hl]; rfl
 | shl =>
  obtain ⟨h1,e1⟩:=Ak (show R.good (RC k a j b κ) from h)
  have e1:RC k a j b κ=_:=e1
  have h1:=BI h1
  have hr:∀ P t w,(Go.binOp .shl t (.int k (BG k a)) (.int j (BG j b))).run P w = .ok (.int k (k.wrap (BG k a*2 ^ min b k.bits))) w:=fun P t w=>by
   rw [binOp_shl,Op.shift,At h1,if_neg (by omega)]; simp
  by_cases hb64:b≤64
  ·refine ⟨_,e1.trans ((by rw [Al.2 hb64,AI]:br (Nat.ble b 64) _ _=_).trans (Af _ _)),.int k (BG k ((a <<< b) % Mk k)),fun P t w=>?_,E7 k _ (Nat.mod_lt _ (DZ k))⟩
   rw [hr]
   congr 2
   apply FE
   rw [Nat.shiftLeft_eq]
   by_cases hbb:b≤k.bits
   ·have e2:((2:Int) ^ b)=((2 ^ b:Nat):Int):=by simp
    rw [Nat.min_eq_left hbb,Int.mul_emod,DX,e2,←Int.natCast_emod,←Int.natCast_mul,←Int.natCast_emod,←Nat.mul_mod]
   ·rw [Nat.min_eq_right (by omega),Int.mul_emod]
    have h0:((2:Int) ^ k.bits) % (Mk k:Int)=0:=by rw [E8]; simp
    have h0':a*2 ^ b % Mk k=0:=by
     rw [E8,show b=k.bits+(b - k.bits) by omega,Nat.pow_add,←Nat.mul_assoc,Nat.mul_right_comm]; exact Nat.mul_mod_left _ _
    rw [h0,h0']; simp
  ·refine ⟨_,e1.trans (by rw [Bg (by omega),AH]:br (Nat.ble b 64) _ _=_),.int k (BG k 0),fun P t w=>?_,E7 k _ (DZ k)⟩
   rw [hr]
   congr 2
   apply FE
   have hbits:k.bits≤64:=by cases k <;> simp [IntKind.bits]
   rw [Nat.min_eq_right (by omega),Int.mul_emod]
   have h0:((2:Int) ^ k.bits) % (Mk k:Int)=0:=by rw [E8]; simp
   rw [h0]; simp
 | shr =>
  obtain ⟨h1,e1⟩:=Ak (show R.good (Q5 k a j b κ) from h)
  have e1:Q5 k a j b κ=_:=e1
  have h1:=BI h1
  have h:(Q5 k a j b κ).good:=h
  rw [e1] at h
  obtain ⟨h2,e2⟩:=Ak h
  have h2:=BI h2
  have hr:∀ P t w,(Go.binOp .shr t (.int k (BG k a)) (.int j (BG j b))).run P w = .ok (.int k ((a:Int).fdiv (2 ^ min b k.bits))) w:=fun P t w=>by
   rw [binOp_shr,Op.shift,At h1,At h2,if_neg (by omega)]; simp
  have hf:∀ n:Nat,(a:Int).fdiv (2 ^ n)=((a / 2 ^ n:Nat):Int):=fun n=>by
   rw [Int.fdiv_eq_ediv_of_nonneg _ (by exact Int.le_of_lt (Int.pow_pos (by omega)))]; simp
  have hlt:∀ n:Nat,a / 2 ^ n<Hk k:=fun n=>Nat.lt_of_le_of_lt (Nat.div_le_self _ _) h2
  by_cases hb64:b≤64
  ·refine ⟨_,e1.trans (e2.trans ((by rw [Al.2 hb64,AI]:br (Nat.ble b 64) _ _=_).trans (Af _ _))),.int k (BG k (a >>> b)),fun P t w=>?_,E7 k _ ?_⟩
   ·rw [hr,hf,Nat.shiftRight_eq_div_pow,At (hlt b)]
    congr 3
    by_cases hbb:b≤k.bits
    ·rw [Nat.min_eq_left hbb]
    ·rw [Nat.min_eq_right (by omega)]
     have ha':a<2 ^ k.bits:=by rw [←E8]; exact ha
     rw [Nat.div_eq_of_lt ha',Nat.div_eq_of_lt (Nat.lt_of_lt_of_le ha' (Nat.pow_le_pow_right (by omega) (by omega)))]
   ·show a >>> b<Mk k
    rw [Nat.shiftRight_eq_div_pow]; exact Nat.lt_of_lt_of_le (hlt b) (G4 k)
  ·refine ⟨_,e1.trans (e2.trans (by rw [Bg (by omega),AH]:br (Nat.ble b 64) _ _=_)),.int k (BG k 0),fun P t w=>?_,E7 k _ (DZ k)⟩
   have hbits:k.bits≤64:=by cases k <;> simp [IntKind.bits]
   have ha':a<2 ^ k.bits:=by rw [←E8]; exact ha
   rw [hr,hf,Nat.min_eq_right (by omega),Nat.div_eq_of_lt ha',At (by have:=Hk k; cases k <;> simp [Hk])]
 | andNot =>
  obtain ⟨rfl,e⟩:=kb (show R.good (Nh k a j b κ) from h)
  have hl:Nat.land a (Mk k - 1 - b)<Mk k:=S4 a _ _ ha
  refine ⟨_,(show Nh k a k b κ=_ from e).trans (Af _ _),.int k (BG k (Nat.land a (Mk k - 1 - b))),fun P t w=>?_,E7 k _ hl⟩
  simp only [binOp_andNot,Op.intBits,BitVec.toNat_and,BitVec.toNat_not,bv _ _ ha,bv _ _ hb,Sem.run_pure,←E8]
  rw [Ep k (a &&& (Mk k - 1 - b)) hl]; rfl
 | eql =>
  obtain ⟨rfl,e⟩:=kb (show R.good (Wi k a j b κ) from h)
  refine ⟨_,(show Wi k a k b κ=_ from e).trans (BS _ _),.bool (Nat.beq a b),fun P t w=>?_,BA _⟩
  rw [binOp_eql,Sem.run_pure]
  congr 2
  rw [Bool.eq_iff_iff,beq_iff_eq]
  exact ⟨fun h=>by have:=IW ha hb h; subst this; exact Nat.beq_refl _,fun h=>by rw [Nat.eq_of_beq_eq_true h]⟩
 | neq =>
  obtain ⟨rfl,e⟩:=kb (show R.good (Wp k a j b κ) from h)
  have e:Wp k a k b κ=_:=e
  by_cases hab:a=b
  ·subst hab
   refine ⟨_,e.trans (by rw [Nat.beq_refl,AI]:br (Nat.beq a a) _ _=_),.bool false,fun P t w=>?_,BA _⟩
   rw [binOp_neq,Sem.run_pure]; simp
  ·have hf:Nat.beq a b=false:=Bool.eq_false_iff.2 fun h=>hab (Nat.eq_of_beq_eq_true h)
   refine ⟨_,e.trans (by rw [hf,AH]:br (Nat.beq a b) _ _=_),.bool true,fun P t w=>?_,BA _⟩
   rw [binOp_neq,Sem.run_pure]
   congr 2
   rw [bne_iff_ne]
   exact fun h=>hab (IW ha hb h)
 | lss =>
  obtain ⟨rfl,e⟩:=kb (show R.good (Wu k a j b κ) from h)
  refine ⟨_,(show Wu k a k b κ=_ from e).trans (BS _ _),.bool (Ha k a b),fun P t w=>?_,BA _⟩
  rw [binOp_lss,Sem.run_pure,Ee ha hb]
 | gtr =>
  obtain ⟨rfl,e⟩:=kb (show R.good (Wq k a j b κ) from h)
  refine ⟨_,(show Wq k a k b κ=_ from e).trans (BS _ _),.bool (Ha k b a),fun P t w=>?_,BA _⟩
  rw [binOp_gtr,Sem.run_pure,Ee hb ha]
 | leq =>
  obtain ⟨rfl,e⟩:=kb (show R.good (Wl k a j b κ) from h)
  have e:Wl k a k b κ=_:=e
  cases hlt:Ha k b a with
  | true =>
   refine ⟨_,e.trans (by rw [hlt,AI]),.bool false,fun P t w=>?_,BA _⟩
   rw [Ee hb ha] at hlt
   rw [binOp_leq,Sem.run_pure]
   congr 2
   exact decide_eq_false (by have:=of_decide_eq_true hlt; omega)
  | false =>
   refine ⟨_,e.trans (by rw [hlt,AH]),.bool true,fun P t w=>?_,BA _⟩
   rw [Ee hb ha] at hlt
   rw [binOp_leq,Sem.run_pure]
   congr 2
   exact decide_eq_true (by have:=of_decide_eq_false hlt; omega)
 | geq =>
  obtain ⟨rfl,e⟩:=kb (show R.good (Wr k a j b κ) from h)
  have e:Wr k a k b κ=_:=e
  cases hlt:Ha k a b with
  | true =>
   refine ⟨_,e.trans (by rw [hlt,AI]),.bool false,fun P t w=>?_,BA _⟩
   rw [Ee ha hb] at hlt
   rw [binOp_geq,Sem.run_pure]
   congr 2
   exact decide_eq_false (by have:=of_decide_eq_true hlt; omega)
  | false =>
   refine ⟨_,e.trans (by rw [hlt,AH]),.bool true,fun P t w=>?_,BA _⟩
   rw [Ee ha hb] at hlt
   rw [binOp_geq,Sem.run_pure]
   congr 2
   exact decide_eq_true (by have:=of_decide_eq_false hlt; omega)
theorem P9 (s:ByteArray) (ρ:Env) (φ:B0):AF ρ φ (.str s.size (AV s.data.toList)) (.string s):=by
 simp only [AF]; exact ⟨s,rfl,rfl,rfl⟩
theorem BB (s:ByteArray):s.data.toList.length=s.size:=by simp
theorem Jz (x y:ByteArray):IP x.size (AV x.data.toList) y.size (AV y.data.toList)=(x.toList == y.toList):=by
 rw [ByteArray.toList_eq,ByteArray.toList_eq,Bool.eq_iff_iff,beq_iff_eq]
 simp only [IP,Bool.and_eq_true]
 constructor
 ·rintro ⟨h1,h2⟩
  exact J4 (by rw [BB,BB]; exact Nat.eq_of_beq_eq_true h1) (Nat.eq_of_beq_eq_true h2)
 ·intro h
  refine ⟨?_,by rw [h]; exact Nat.beq_refl _⟩
  rw [←BB,←BB,h]; exact Nat.beq_refl _
theorem QH (x y:List UInt8):NU x.length (AV x) y.length (AV y)=Op.bytesLess x y:=by
 induction x generalizing y with
 | nil=>cases y with
  | nil=>rfl
  | cons b y=>rfl
 | cons a x ih =>
  cases y with
  | nil=>rfl
  | cons b y =>
   show br (Nat.beq (lo (AV (a::x)) 1) (lo (AV (b::y)) 1)) (NU x.length (sh (AV (a::x)) 1) y.length (sh (AV (b::y)) 1)) (Nat.ble (Nat.succ (lo (AV (a::x)) 1)) (lo (AV (b::y)) 1))=_
   have ha:=a.toNat_lt; have hb:=b.toNat_lt
   have l1:lo (AV (a::x)) 1=a.toNat:=by rw [Du]; simp only [AV]; omega
   have l2:lo (AV (b::y)) 1=b.toNat:=by rw [Du]; simp only [AV]; omega
   have s1:sh (AV (a::x)) 1=AV x:=by rw [Eo]; simp only [AV]; omega
   have s2:sh (AV (b::y)) 1=AV y:=by rw [Eo]; simp only [AV]; omega
   rw [l1,l2,s1,s2,ih,Op.bytesLess]
   by_cases hab:a=b
   ·subst hab
    rw [Nat.beq_refl,AI]; simp
   ·have hne:a.toNat≠b.toNat:=fun h=>hab (UInt8.toNat_inj.1 h)
    rw [Bool.eq_false_iff.2 fun h=>hne (Nat.eq_of_beq_eq_true h),AH,GS]
    have:(a == b)=false:=by simpa using hab
    rw [this]; simp [UInt8.lt_iff_toNat_lt]; rfl
theorem Qo (op:BinOp) (x y:ByteArray) (κ:V->R) (h:(IQ op x.size (AV x.data.toList) y.size (AV y.data.toList) κ).good) :
  ∃ v,IQ op x.size (AV x.data.toList) y.size (AV y.data.toList) κ=κ v∧Do op (.string x) (.string y) v:=by
 have hlt:=fun (x y:ByteArray)=>(by
  have:=QH x.data.toList y.data.toList
  rw [BB,BB,←ByteArray.toList_eq,←ByteArray.toList_eq] at this
  rw [←ByteArray.toList_eq,←ByteArray.toList_eq]; exact this:NU x.size (AV x.data.toList) y.size (AV y.data.toList)=Op.bytesLess x.toList y.toList)
 have hrun:∀ P t w,(Go.binOp op t (.string x) (.string y)).run P w=(Op.stringOp op x y).run P w:=fun P t w=>by cases op <;> rfl
 cases op with
 | add =>
  have e:IQ .add x.size (AV x.data.toList) y.size (AV y.data.toList) κ=_:=Af (Nat.add x.size y.size) (fun l=>br (Nat.ble l 1000000000) (Ah (Nat.add (AV x.data.toList) (up (AV y.data.toList) x.size)) fun r=>κ (.str l r)) (.fail ""))
  rw [e] at h
  obtain ⟨h1,e1⟩:=Ak h
  have h1:x.size+y.size≤1000000000:=Al.1 h1
  refine ⟨_,e.trans (e1.trans (Af _ _)),.string (x++y),fun P t w=>?_,fun ρ φ=>?_⟩
  ·rw [hrun,Op.stringOp]
   rw [if_neg (by rw [IntKind.max_i64]; omega),Sem.run_pure]
  ·have:=P9 (x++y) ρ φ
   have e2:(x++y).data.toList=x.data.toList++y.data.toList:=by simp
   rw [e2,Iv,BB,ByteArray.size_append] at this
   rw [RD]; exact this
 | eql =>
  refine ⟨_,(BS (IP x.size (AV x.data.toList) y.size (AV y.data.toList)) (fun r=>κ (.bool r)):IQ .eql x.size (AV x.data.toList) y.size (AV y.data.toList) κ=_),.bool (x.toList == y.toList),fun P t w=>by rw [hrun]; rfl,fun ρ φ=>?_⟩
  rw [Jz]; exact BA _ ρ φ
 | neq =>
  have e:IQ .neq x.size (AV x.data.toList) y.size (AV y.data.toList) κ=br (x.toList == y.toList) (κ (.bool false)) (κ (.bool true)):=by rw [←Jz]; rfl
  refine ⟨.bool !(x.toList == y.toList),?_,.bool !(x.toList == y.toList),fun P t w=>by rw [hrun]; rfl,fun ρ φ=>BA _ ρ φ⟩
  rw [e]; cases (x.toList == y.toList) <;> rfl
 | lss =>
  refine ⟨_,(BS (NU x.size (AV x.data.toList) y.size (AV y.data.toList)) (fun r=>κ (.bool r)):IQ .lss x.size (AV x.data.toList) y.size (AV y.data.toList) κ=_),.bool (Op.bytesLess x.toList y.toList),fun P t w=>by rw [hrun]; rfl,fun ρ φ=>?_⟩
  rw [hlt]; exact BA _ ρ φ
 | geq =>
  have e:IQ .geq x.size (AV x.data.toList) y.size (AV y.data.toList) κ=br (Op.bytesLess x.toList y.toList) (κ (.bool false)) (κ (.bool true)):=by rw [←hlt]; rfl
  refine ⟨.bool !(Op.bytesLess x.toList y.toList),?_,.bool !(Op.bytesLess x.toList y.toList),fun P t w=>by rw [hrun]; rfl,fun ρ φ=>BA _ ρ φ⟩
  rw [e]; cases (Op.bytesLess x.toList y.toList) <;> rfl
 | leq=>exact h.elim
 | gtr=>exact h.elim
 | _=>exact h.elim
end Go.Ev

namespace Go.Ev
set_option linter.unusedVariables false
section
variable {P:Program} {ρ:Env} {φ:B0} {w:World}
theorem CJ (b off i:Nat):(⟨b,off,none⟩:Addr).add i=⟨b,off+i,none⟩:=by
 unfold Addr.add; split
 ·simp_all
 ·rfl
theorem Gh {b i:Nat} {c:Array Value} {e:TypeId} {fr:Nat×Nat} {x:Value} (h:w.heap[b]? = some (.cells c e fr)) (hx:c[i]? = some x):w.cell? ⟨b,i,none⟩=some x:=by
 simp [World.cell?,h,hx]
theorem Qi {b i:Nat} {c:Array Value} {e:TypeId} {fr:Nat×Nat} (h:w.heap[b]? = some (.cells c e fr)) (hf:U5 fr c.size) (hi:i<c.size):w.frozen? ⟨b,i,none⟩=false:=by
 obtain ⟨lo,hi'⟩:=fr
 simp only [World.frozen?,h,Bool.and_eq_false_iff,decide_eq_false_iff_not]
 rcases hf with hf | hf <;> simp at hf <;> omega
theorem Pj {b:Nat} {O:Obj} (h:w.heap[b]? = some O):CH w b O=w:=by
 obtain ⟨hb,e⟩:=Array.getElem?_eq_some_iff.1 h
 unfold CH
 cases w with
 | mk heap tape drawn os output =>
  simp only [World.mk.injEq,and_true]
  apply Array.ext_getElem?
  intro k
  rw [Array.getElem?_setIfInBounds]
  by_cases hk:b=k
  ·subst hk; rw [if_pos rfl,if_pos hb]; exact h.symm
  ·rw [if_neg hk]
theorem PO {b:Nat} {O O':Obj}:CH (CH w b O) b O'=CH w b O':=by
 simp [CH]
theorem MB {b i:Nat} {c:Array Value} {e:TypeId} {fr:Nat×Nat} {v:Value} (h:w.heap[b]? = some (.cells c e fr)) :
  w.setCell ⟨b,i,none⟩ v=CH w b (.cells (c.setIfInBounds i v) e fr):=by
 obtain ⟨hb,e'⟩:=Array.getElem?_eq_some_iff.1 h
 unfold World.setCell CH
 cases w with
 | mk heap tape drawn os output =>
  congr 1
  apply Array.ext_getElem?
  intro k
  rw [Array.getElem?_modify,Array.getElem?_setIfInBounds]
  by_cases hk:b=k
  ·subst hk; simp [hb,e']
  ·simp [hk]
theorem G9 {b off:Nat} {c:Array Value} {e:TypeId} {fr:Nat×Nat} (h:w.heap[b]? = some (.cells c e fr)) :
  w.freeze { block:=b,off:=off } 1=CH w b (.cells c e (if fr.1 == fr.2 then (off,off+1) else (min fr.1 off,max fr.2 (off+1)))):=by
 obtain ⟨hb,e'⟩:=Array.getElem?_eq_some_iff.1 h
 unfold World.freeze CH
 cases w with
 | mk heap tape drawn os output =>
  simp only [Nat.one_ne_zero,if_false]
  congr 1
  apply Array.ext_getElem?
  intro k
  rw [Array.getElem?_modify,Array.getElem?_setIfInBounds]
  by_cases hk:b=k
  ·subst hk; simp only at e'; simp [hb,e']
  ·simp [hk]
theorem JB {O O':Obj}:CH (w.alloc O) w.heap.size O'=w.alloc O':=by
 unfold CH World.alloc
 congr 1
 apply Array.ext_getElem?
 intro k
 rw [Array.getElem?_setIfInBounds]
 by_cases hk:w.heap.size=k
 ·subst hk; simp
 ·simp [hk,Array.getElem?_push,Ne.symm hk]
theorem Hw {O:Obj}:(w.alloc O).heap[w.heap.size]? = some O:=by show (w.heap.push O)[w.heap.size]? = _; simp
theorem G8 (vs:List Value):∀ (w:World) (b off i:Nat) (c:Array Value) (e:TypeId) (fr:Nat×Nat),w.heap[b]? = some (.cells c e fr)->off+i+vs.length≤c.size->U5 fr c.size →
  (∀ v∈vs,v.oneCell'=true)->∃ c':Array Value,c'.size=c.size∧(∀ j,(j<off+i∨off+i+vs.length≤j)->c'[j]? = c[j]?)∧(∀ (j:Nat) (v:Value),vs[j]? = some v->c'[off+i+j]? = some v) ∧
   (storeCells ⟨b,off,none⟩ vs i).run P w = .ok () (CH w b (.cells c' e fr)):=by
 induction vs with
 | nil=>intro w b off i c e fr h _ _ _; exact ⟨c,rfl,fun _ _=>rfl,fun j v hv=>by simp at hv,by rw [Pj h]; rfl⟩
 | cons v vs ih =>
  intro w b off i c e fr h hl hf h1
  simp only [List.length_cons] at hl
  have hi:off+i<c.size:=by omega
  have hst:(store ((⟨b,off,none⟩:Addr).add i) v).run P w = .ok () (CH w b (.cells (c.setIfInBounds (off+i) v) e fr)):=by
   rw [CJ,run_store P w _ v _ (h1 v (by simp)),Gh h (Array.getElem?_eq_getElem hi)]
   simp only [Qi h hf hi,Bool.false_eq_true,if_false]
   rw [MB h]
  have hb:b<w.heap.size:=(Array.getElem?_eq_some_iff.1 h).1
  obtain ⟨c',g1,g2,g3,g4⟩:=ih (CH w b (.cells (c.setIfInBounds (off+i) v) e fr)) b off (i+1) (c.setIfInBounds (off+i) v) e fr (Dg hb)
   (by simp; omega) (by simpa using hf) (fun x hx=>h1 x (by simp [hx]))
  refine ⟨c',by simpa using g1,fun j hj=>?_,fun j u hu=>?_,?_⟩
  ·rw [g2 j (by simp only [List.length_cons] at hj; omega)]
   rw [Array.getElem?_setIfInBounds,if_neg (by simp only [List.length_cons] at hj; omega)]
  ·cases j with
   | zero =>
    simp at hu; subst hu
    rw [g2 (off+i+0) (by omega),Array.getElem?_setIfInBounds]; simp [hi]
   | succ j =>
    have:=g3 j u (by simpa using hu)
    rw [←this]; congr 1; omega
  ·rw [storeCells]
   simp only [Sem.run_bind,hst,Result.andThen_ok,g4,PO]
theorem F9 {b off:Nat} {c:Array Value} {e:TypeId} {fr:Nat×Nat} (vs:List Value) (h:w.heap[b]? = some (.cells c e fr)) (hv:∀ (j:Nat) (v:Value),vs[j]? = some v->c[off+j]? = some v) :
  (loadCells ⟨b,off,none⟩ vs.length).run P w = .ok vs.toArray w :=
 run_loadCells_list w _ vs fun j v hj=>by rw [CJ]; exact Gh h (hv j v hj)
theorem HM {cs:Cs} {f:Nat->Option Value} (h:Ec ρ φ cs f):∃ vs:List Value,vs.length=cs.len∧(∀ (j:Nat) (v:Value),vs[j]? = some v->f j=some v)∧(∀ v∈vs,v.oneCell'=true) ∧
  (∀ l:List V,l.length=cs.len->(∀ i:Nat,l[i]? = cs.at i)->Bs ρ φ l vs):=by
 have key:∀ m,m≤cs.len->∃ vs:List Value,vs.length=m ∧ ∀ (j:Nat) (v:Value),vs[j]? = some v->f j=some v∧v.oneCell'=true ∧ ∀ u,cs.at j=some u->AF ρ φ u v:=by
  intro m
  induction m with
  | zero=>exact fun _=>⟨[],rfl,fun j v hv=>by simp at hv⟩
  | succ m ih =>
   intro hm
   obtain ⟨vs,h1,h2⟩:=ih (by omega)
   obtain ⟨u,hu⟩:=Cs.at_lt (cs:=cs) (i:=m) (by omega)
   obtain ⟨x,hx,hr,ho⟩:=h m u hu
   refine ⟨vs++[x],by simp [h1],fun j v hv=>?_⟩
   by_cases hj:j<m
   ·rw [List.getElem?_append_left (by omega)] at hv; exact h2 j v hv
   ·rw [List.getElem?_append_right (by omega),h1] at hv
    have hjm:j=m:=by
     rcases Nat.eq_or_lt_of_le (Nat.le_of_not_lt hj) with e | e
     ·exact e.symm
     ·rw [List.getElem?_eq_none (by simp; omega)] at hv; cases hv
    subst hjm
    simp at hv; subst hv
    exact ⟨hx,ho,fun u' hu'=>by rw [hu] at hu'; cases hu'; exact hr⟩
 obtain ⟨vs,h1,h2⟩:=key cs.len (Nat.le_refl _)
 refine ⟨vs,h1,fun j v hv=>(h2 j v hv).1,fun v hv=>?_,fun l hl hla=>?_⟩
 ·obtain ⟨j,hj,rfl⟩:=List.getElem_of_mem hv
  exact (h2 j _ (List.getElem?_eq_getElem hj)).2.1
 ·refine Cf.2 ⟨by omega,fun i u hu=>?_⟩
  have hi:i<vs.length:=by
   rcases Nat.lt_or_ge i vs.length with h' | h'
   ·exact h'
   ·rw [List.getElem?_eq_none (by omega)] at hu; cases hu
  exact ⟨vs[i],List.getElem?_eq_getElem hi,(h2 i _ (List.getElem?_eq_getElem hi)).2.2 u (by rw [←hla i]; exact hu)⟩
theorem FV {cs y:Cs} {off m:Nat} {f:Nat->Option Value} (h:Ec ρ φ cs f) (hl:y.len=m) (ha:∀ i,i<m->y.at i=cs.at (off+i)):Ec ρ φ y fun i=>f (off+i):=fun i v hv=>by
 have hi:=Cs.lt_of_at hv
 rw [ha i (by omega)] at hv
 exact h (off+i) v hv
end
structure TR (ρ:Env) (N:Nat) (φ:B0) (t:Regs) (a:Act):Prop where
 size:a.tmps.size=N
 defers:a.defers=[]
 at_:∀ s p,s<N->K2.ofN s=some p->AF ρ φ (Bf p t) (a.tmps.getD s undef)
theorem TR.mono {ρ:Env} {N:Nat} {φ φ':B0} {t:Regs} {a:Act} (h:TR ρ N φ t a) (hle:B0.le φ φ'):TR ρ N φ' t a :=
 ⟨h.size,h.defers,fun s p h1 h2=>EB hle (h.at_ s p h1 h2)⟩
section
variable (P:Program) (ρ:Env) (B N:Nat)
def FU (o:Oper) (t:Regs) (h:Heap) (n:K4) (v:V) (h1:Heap) (n1:K4):Prop :=
 ∀ (φ:B0) (a:Act) (w:World),TR ρ N φ t a->Gam ρ B h n φ w->∀ (K:Act->World->Prop) (Q:Exit->Act->World->Prop),
  (∀ φ' x w',Fr h h1 φ φ' n n1 w w'->Gam ρ B h1 n1 φ' w'->AF ρ φ' v x->K (a.put o.dst x) w')->o.wp P a w K Q
def Cr (o:Oper) (f:KV->R) (t:Regs) (h:Heap) (n:K4):Prop :=
 ∀ κ:KV,(f κ).good->∃ v h1 n1,f κ=κ v h1 n1∧FU P ρ B N o t h n v h1 n1
def RQ (o:Oper) (t:Regs) (h:Heap) (n:K4) (v:V):Prop :=
 ∀ φ a w,TR ρ N φ t a->Gam ρ B h n φ w->∃ x,(execOp a.eval o).run P w = .ok (.value x) w∧AF ρ φ v x
def Be (o:Oper) (f:KV->R) (t:Regs) (h:Heap) (n:K4):Prop :=
 ∀ κ:KV,(f κ).good->∃ v,f κ=κ v h n∧RQ P ρ B N o t h n v
end
section
variable {P:Program} {ρ:Env} {B N:Nat}
theorem FU.value {o:Oper} {t:Regs} {h h1:Heap} {n n1:K4} {v:V}
  (H:∀ φ a w,TR ρ N φ t a->Gam ρ B h n φ w->∃ φ' x w',(execOp a.eval o).run P w = .ok (.value x) w'∧Fr h h1 φ φ' n n1 w w'∧Gam ρ B h1 n1 φ' w'∧AF ρ φ' v x):FU P ρ B N o t h n v h1 n1:=by
 intro φ a w ht hg K Q hK
 obtain ⟨φ',x,w',e,h1,h2,h3⟩:=H φ a w ht hg
 unfold Oper.wp
 rw [e]
 exact hK φ' x w' h1 h2 h3
theorem FU.skip {o:Oper} {t:Regs} {h h1:Heap} {n n1:K4}
  (H:∀ φ a w,TR ρ N φ t a->Gam ρ B h n φ w->∃ φ' w',(execOp a.eval o).run P w = .ok .skip w'∧Fr h h1 φ φ' n n1 w w'∧Gam ρ B h1 n1 φ' w'):FU P ρ B N o t h n C8 h1 n1:=by
 intro φ a w ht hg K Q hK
 obtain ⟨φ',w',e,h1,h2⟩:=H φ a w ht hg
 unfold Oper.wp
 rw [e]
 exact hK φ' undef w' h1 h2 (by simp only [C8,AF,undef]; exact ⟨#[],rfl,by simp only [Bs]⟩)
theorem FU.pure {o:Oper} {t:Regs} {h:Heap} {n:K4} {v:V}
  (H:∀ φ a w,TR ρ N φ t a->Gam ρ B h n φ w->∃ x,(execOp a.eval o).run P w = .ok (.value x) w∧AF ρ φ v x):FU P ρ B N o t h n v h n :=
 .value fun φ a w ht hg=>let ⟨x,e,hr⟩:=H φ a w ht hg; ⟨φ,x,w,e,.refl h φ n w,hg,hr⟩
theorem Be.sound {o:Oper} {f:KV->R} {t:Regs} {h:Heap} {n:K4} (H:Be P ρ B N o f t h n):Cr P ρ B N o f t h n:=fun κ hg =>
 let ⟨v,e,hp⟩:=H κ hg
 ⟨v,h,n,e,.pure hp⟩
theorem IG {v:Value} {c:V} (h:IX v=some c) (φ:B0):AF ρ φ c v∧v.oneCell'=true:=by
 unfold IX at h
 split at h
 ·cases h; exact ⟨by simp only [AF],rfl⟩
 ·rename_i k n
  split at h
  ·split at h
   ·rename_i m hm
    cases h
    have:=BI hm
    refine ⟨?_,rfl⟩
    simp only [AF]
    exact ⟨Nat.lt_of_lt_of_le this (G4 k),by rw [At this]; rfl⟩
   ·cases h
  ·split at h
   ·rename_i m hm
    cases h
    have:=Al.1 hm
    simp only [Nat.add_eq] at this
    refine ⟨?_,rfl⟩
    simp only [AF]
    have hH:=DZ k
    refine ⟨by show Mk k - (m+1)<Mk k; omega,?_⟩
    rw [show Nat.sub (Mk k) (Nat.succ m)=Mk k - (m+1) from rfl,CG (by omega)]
    congr 1
    omega
   ·cases h
 all_goals first
  | (cases h; exact ⟨P9 _ ρ φ,rfl⟩)
  | (cases h; exact ⟨by simp only [AF,BX],rfl⟩)
  | (simp at h)
theorem Eg:∀ {vs:List Value} {l:List V},GD vs=some l->∀ φ:B0,Bs ρ φ l vs ∧ ∀ v∈vs,v.oneCell'=true
 | [],l,h,φ=>by simp only [GD,Option.some.injEq] at h; subst h; exact ⟨AL.2 rfl,by simp⟩
 | v::vs,l,h,φ=>by
  simp only [GD] at h
  split at h
  ·rename_i x xs hx hxs
   cases h
   obtain ⟨h1,h2⟩:=Eg hxs φ
   obtain ⟨h3,h4⟩:=IG (ρ:=ρ) hx φ
   exact ⟨AD.2 ⟨v,vs,rfl,h3,h1⟩,by simpa using ⟨h4,h2⟩⟩
  ·cases h
theorem JP {v:Value} {c:V} (h:Ig v=some c) (φ:B0):AF ρ φ c v:=by
 unfold Ig at h
 split at h
 ·rename_i cs
  cases hl:GD cs.toList with
  | none=>rw [hl] at h; cases h
  | some l =>
   rw [hl] at h; cases h
   simp only [AF]
   exact ⟨cs,rfl,(Eg hl φ).1,(Eg (ρ:=ρ) hl φ).2⟩
 ·rename_i cs
  split at h
  ·cases h
   rename_i he
   simp only [AF]
   exact ⟨cs,rfl,AL.2 (by simpa using he)⟩
  ·cases h
 ·rename_i f first caps
  split at h
  ·cases h
   rename_i he
   simp at he
   simp only [AF]
   exact ⟨#[],by rw [he.1,he.2],by simp only [Bs]⟩
  ·cases h
 ·exact (IG h φ).1
theorem Aj {o:Operand} {x:Opd} (h:AR N o=some x) {φ:B0} {t:Regs} {a:Act} (ht:TR ρ N φ t a):AF ρ φ (ev x t) (a.eval o):=by
 unfold AR at h
 split at h
 ·rename_i s
  unfold FK at h
  split at h
  ·rename_i hs
   cases hk:K2.ofN s with
   | none=>rw [hk] at h; cases h
   | some p=>rw [hk] at h; cases h; exact ht.at_ s p hs hk
  ·cases h
 ·rename_i v
  cases hc:Ig v with
  | none=>rw [hc] at h; cases h
  | some c=>rw [hc] at h; cases h; exact JP hc φ
 ·cases h
  simp only [ev,Act.eval,AF]
  exact ⟨#[],rfl,by simp only [Bs]⟩
 ·cases h
theorem Ei:∀ {os:List Operand} {xs:List Opd},Bt N os=some xs->∀ {φ:B0} {t:Regs} {a:Act},TR ρ N φ t a->Bs ρ φ (xs.map (ev · t)) (os.map a.eval)
 | [],xs,h,φ,t,a,ht=>by simp only [Bt,Option.some.injEq] at h; subst h; exact AL.2 rfl
 | o::os,xs,h,φ,t,a,ht=>by
  simp only [Bt] at h
  split at h
  ·rename_i x ys hx hys
   cases h
   exact AD.2 ⟨_,_,rfl,Aj hx ht,Ei hys ht⟩
  ·cases h
theorem B5 {t:TypeId} {s:Nat} (h:Bp P t=some s) (w:World):(sizeOf t).run P w = .ok s w:=by
 unfold Bp at h
 cases hi:P.info? t with
 | none=>rw [hi] at h; cases h
 | some i=>rw [hi] at h; cases h; simp [sizeOf,typeInfo,hi]
theorem Cw {t:TypeId} {b:Bool} (h:Jc P t=some b) (w:World):(isAgg t).run P w = .ok b w:=by
 unfold Jc at h
 cases hi:P.underlying t with
 | none=>rw [hi] at h; cases h
 | some d =>
  rw [hi] at h; cases h
  unfold isAgg
  cases d <;> simp [run_underlying hi]
theorem D5 {t:TypeId} {z:Value} (h:(P.info? t).bind (·.zero)=some z) (w:World):(zeroValue t).run P w = .ok z w:=by
 cases hi:P.info? t with
 | none=>rw [hi] at h; cases h
 | some i =>
  rw [hi] at h
  simp only [Option.bind_some] at h
  simp [zeroValue,typeInfo,hi,h]
end
end Go.Ev

namespace Go.Ev
set_option linter.unusedVariables false
section
variable {P:Program} {ρ:Env} {φ:B0} {w:World}
theorem C4 {k:IntKind} {r:Nat} {x:Value} (h:AF ρ φ (.int k r) x):r<Mk k∧x = .int k (BG k r):=by simpa only [AF] using h
theorem DV {b:Bool} {x:Value} (h:AF ρ φ (.bool b) x):x = .bool b:=by simpa only [AF] using h
theorem C9 {n c:Nat} {x:Value} (h:AF ρ φ (.str n c) x):∃ s:ByteArray,x = .string s∧s.size=n∧AV s.data.toList=c:=by simpa only [AF] using h
theorem DQ {l:List V} {x:Value} (h:AF ρ φ (.agg l) x):∃ cs:Array Value,x = .agg cs∧Bs ρ φ l cs.toList ∧ ∀ y∈cs.toList,y.oneCell'=true:=by simpa only [AF] using h
theorem OQ {l:List V} {x:Value} (h:AF ρ φ (.tup l) x):∃ cs:Array Value,x = .tuple cs∧Bs ρ φ l cs.toList:=by simpa only [AF] using h
theorem BK {u:Nl} {x:Value} (h:AF ρ φ (.nil u) x):x=BX u:=by simpa only [AF] using h
theorem CD {p:K4} {off:Nat} {x:Value} (h:AF ρ φ (.ptr p off) x):∃ b s tot,φ p=some (b,s,tot)∧x = .pointer (some ⟨b,s+off,none⟩):=by simpa only [AF] using h
theorem EY {p:K4} {x:Value} (h:AF ρ φ (.map p) x):∃ b s tot,φ p=some (b,s,tot)∧x = .map (some b):=by simpa only [AF] using h
theorem Ii {f:Nat} {l:List V} {x:Value} (h:AF ρ φ (.fn f l) x):∃ cs:Array Value,x = .func (.func f) #[] cs∧Bs ρ φ l cs.toList:=by simpa only [AF] using h
theorem CB {p:K4} {off len cap:Nat} {ex:Bool} {esz:Nat} {x:Value} (h:AF ρ φ (.sl p off len cap ex esz) x) :
  ∃ b s tot o cap',φ p=some (b,s,tot)∧x = .slice (some ⟨b,o,none⟩) len cap'∧len≤cap∧cap≤cap'∧(ex=true->cap'=cap)∧(0<cap'->o=s+off∧o+cap'*esz≤tot):=by simpa only [AF] using h
def So (k:Sc) (X Y:Value) (r:Bool):Prop :=
 match k with
 | .i=>∃ kd a b,X = .int kd a∧Y = .int kd b∧r=(a == b)
 | .s=>∃ s u,X = .string s∧Y = .string u∧r=(s.toList == u.toList)
 | .b=>∃ a b,X = .bool a∧Y = .bool b∧r=(a == b)
theorem Gf {k:Sc} {x y:V} {κ:Bool->R} (h:(KA k x y κ).good) :
  ∃ r,(∀ κ',KA k x y κ'=κ' r) ∧ ∀ X Y,AF ρ φ x X->AF ρ φ y Y->So k X Y r:=by
 cases k with
 | i =>
  obtain ⟨kd,a,rfl,e⟩:=Cb (show R.good (FJ x _) from h)
  have h:R.good (FJ y _):=h
  obtain ⟨j,b,rfl,e'⟩:=Cb h
  have h:R.good (br (Bi kd j) (Cz (Nat.beq a b) κ) (.fail "")):=h
  obtain ⟨rfl,_⟩:=kb h
  have hk:Bi kd kd=true:=Ba.2 rfl
  refine ⟨Nat.beq a b,fun κ'=>?_,fun X Y hx hy=>?_⟩
  ·show br (Bi kd kd) (Cz (Nat.beq a b) κ') (.fail "")=_
   rw [hk,AI,BS]
  ·obtain ⟨ha,rfl⟩:=C4 hx
   obtain ⟨hb,rfl⟩:=C4 hy
   refine ⟨kd,_,_,rfl,rfl,?_⟩
   rw [Bool.eq_iff_iff,beq_iff_eq]
   exact ⟨fun h=>by rw [Nat.eq_of_beq_eq_true h],fun h=>by have:=IW ha hb h; subst this; exact Nat.beq_refl _⟩
 | s =>
  obtain ⟨n,c,rfl,e⟩:=BM (show R.good (Bd x _) from h)
  have h:R.good (Bd y _):=h
  obtain ⟨m,d,rfl,e'⟩:=BM h
  refine ⟨IP n c m d,fun κ'=>BS _ _,fun X Y hx hy=>?_⟩
  obtain ⟨s,rfl,rfl,rfl⟩:=C9 hx
  obtain ⟨u,rfl,rfl,rfl⟩:=C9 hy
  exact ⟨s,u,rfl,rfl,Jz s u⟩
 | b =>
  obtain ⟨b,rfl,e⟩:=ED (show R.good (NM x _) from h)
  have h:R.good (NM y _):=h
  obtain ⟨c,rfl,e'⟩:=ED h
  refine ⟨b == c,fun κ'=>by cases b <;> cases c <;> rfl,fun X Y hx hy=>?_⟩
  exact ⟨b,c,DV hx,DV hy,rfl⟩
theorem FY {k:Sc} {t:TypeId} (hk:NN P t=some k) {X Y:Value} {r:Bool} (h:So k X Y r) (d:Nat):(Op.equalIn (d+1) t X Y).run P w = .ok r w:=by
 unfold NN at hk
 split at hk
 ·cases hk
  rename_i kd hu
  obtain ⟨kd',a,b,rfl,rfl,rfl⟩:=h
  simp [Op.equalIn,run_underlying hu]
 ·cases hk
  rename_i hu
  obtain ⟨s,u,rfl,rfl,rfl⟩:=h
  simp [Op.equalIn,run_underlying hu,beq_toListBytes]
 ·cases hk
  rename_i hu
  obtain ⟨s,u,rfl,rfl,rfl⟩:=h
  simp [Op.equalIn,run_underlying hu]
 ·cases hk
theorem R5 {k:Sc} {t:TypeId} (hk:NN P t=some k):(isAgg t).run P w = .ok false w:=by
 unfold NN at hk
 split at hk
 ·rename_i hu; simp [isAgg,run_underlying hu]
 ·rename_i hu; simp [isAgg,run_underlying hu]
 ·rename_i hu; simp [isAgg,run_underlying hu]
 ·cases hk
theorem FW {k:Sc} {t:TypeId} (hk:NN P t=some k) {cs:Array Value} {off:Nat} {v:Value} (h:cs[off]? = some v):(part t cs off).run P w = .ok v w:=by
 simp [part,R5 hk,h]
theorem KJ:∀ {fs:List Field} {offs:List (Nat×Sc)},G1 P fs=some offs->∀ {a b:List V} {κ:Bool->R},(I9 offs a b κ).good →
  ∃ r,(∀ κ',I9 offs a b κ'=κ' r) ∧ ∀ (xs ys:Array Value) (d:Nat) (w:World),Bs ρ φ a xs.toList->Bs ρ φ b ys.toList->(Op.eqFields (d+1) xs ys fs).run P w = .ok r w
 | [],offs,ho,a,b,κ,h=>by
  simp only [G1,Option.some.injEq] at ho; subst ho
  exact ⟨true,fun _=>rfl,fun xs ys d w _ _=>rfl⟩
 | f::fs,offs,ho,a,b,κ,h=>by
  simp only [G1] at ho
  split at ho
  ·rename_i hn
   split at ho
   ·rename_i k r hk hr
    cases ho
    obtain ⟨u,hu,e1⟩:=Eh (show R.good (DY f.offset a _) from h)
    have h:R.good (DY f.offset a _):=h
    rw [e1] at h
    obtain ⟨v,hv,e2⟩:=Eh h
    rw [e2] at h
    obtain ⟨q,e3,hq⟩:=Gf (ρ:=ρ) (φ:=φ) h
    rw [e3] at h
    have unf:∀ κ',I9 ((f.offset,k)::r) a b κ'=br q (I9 r a b κ') (κ' false):=fun κ'=>by
     show DY f.offset a (fun u=>DY f.offset b fun v=>KA k u v fun q=>br q (I9 r a b κ') (κ' false))=_
     have n1:∀ (l:List V) (i:Nat) (x:V) (κ:V->R),l[i]? = some x->DY i l κ=κ x:=fun l i=>by
      induction i generalizing l with
      | zero=>intro x κ hx; cases l with
       | nil=>simp at hx
       | cons y l=>simp at hx; subst hx; rfl
      | succ i ih=>intro x κ hx; cases l with
       | nil=>simp at hx
       | cons y l=>exact ih l x κ (by simpa using hx)
     rw [n1 _ _ _ _ hu,n1 _ _ _ _ hv,e3]
    have hrun:∀ (xs ys:Array Value) (d:Nat) (w:World),Bs ρ φ a xs.toList->Bs ρ φ b ys.toList →
      (Op.eqFields (d+1) xs ys (f::fs)).run P w=if q then (Op.eqFields (d+1) xs ys fs).run P w else .ok false w:=fun xs ys d w hxs hys=>by
     obtain ⟨X,hX,hrX⟩:=(Cf.1 hxs).2 _ _ hu
     obtain ⟨Y,hY,hrY⟩:=(Cf.1 hys).2 _ _ hv
     have:=hq X Y hrX hrY
     simp only [Op.eqFields,hn,ne_eq,not_false_eq_true,if_true,Sem.run_bind,FW hk (show xs[f.offset]? = some X by simpa using hX),
      FW hk (show ys[f.offset]? = some Y by simpa using hY),Result.andThen_ok,FY hk this]
     cases q <;> simp
    cases q with
    | true =>
     have h:(I9 r a b κ).good:=h
     obtain ⟨r',g1,g2⟩:=KJ hr h
     exact ⟨r',fun κ'=>(unf κ').trans (g1 κ'),fun xs ys d w hxs hys=>(hrun xs ys d w hxs hys).trans (g2 xs ys d w hxs hys)⟩
    | false=>exact ⟨false,fun κ'=>unf κ',fun xs ys d w hxs hys=>hrun xs ys d w hxs hys⟩
   ·cases ho
  ·cases ho
theorem Fy {u:Nl} {v:V} {κn κo:R} (h:(FN u v κn κo).good) :
  (v = .nil u ∧ ∀ a b:R,FN u v a b=a)∨((∀ a b:R,FN u v a b=b) ∧ ∀ X,AF ρ φ v X->match u with
   | .ptr=>∃ a,X = .pointer (some a) | .sl=>∃ a n c,X = .slice (some a) n c | .map=>∃ b,X = .map (some b) | .fn=>∃ f a c,X = .func f a c | .iface=>False):=by
 cases v with
 | nil w' =>
  left
  have h:R.good (br (Nat.beq w'.ix u.ix) κn (.fail "")):=h
  obtain ⟨h1,_⟩:=Ak h
  have:w'=u:=by cases w' <;> cases u <;> first | rfl | exact absurd h1 (by decide)
  subst this
  exact ⟨rfl,fun a b=>by cases w' <;> rfl⟩
 | ptr p o =>
  right
  cases u <;> first | exact h.elim | skip
  exact ⟨fun a b=>rfl,fun X hX=>by obtain ⟨_,_,_,_,rfl⟩:=CD hX; exact ⟨_,rfl⟩⟩
 | sl p o l c e z =>
  right
  cases u <;> first | exact h.elim | skip
  exact ⟨fun a b=>rfl,fun X hX=>by obtain ⟨_,_,_,_,_,_,rfl,_⟩:=CB hX; exact ⟨_,_,_,rfl⟩⟩
 | map p =>
  right
  cases u <;> first | exact h.elim | skip
  exact ⟨fun a b=>rfl,fun X hX=>by obtain ⟨_,_,_,_,rfl⟩:=EY hX; exact ⟨_,rfl⟩⟩
 | fn f l =>
  right
  cases u <;> first | exact h.elim | skip
  exact ⟨fun a b=>rfl,fun X hX=>by obtain ⟨_,rfl,_⟩:=Ii hX; exact ⟨_,_,_,rfl⟩⟩
 | _=>exact h.elim
def Vc (P:Program) (u:Nl) (t:TypeId):Prop :=
 match u with
 | .ptr=>∃ e s,P.underlying t=some (.pointer e)∧Bp P e=some (s+1)
 | .sl=>∃ e,P.underlying t=some (.slice e)
 | .map=>∃ k e,P.underlying t=some (.map k e)
 | .fn=>∃ a b c,P.underlying t=some (.func a b c)
 | .iface=>False
theorem Gg {u:Nl} {t:TypeId} (ht:Vc P u t) {x y:V} {κ:Bool->R} (h:(IT u x y κ).good) :
  ∃ r,(∀ κ',IT u x y κ'=κ' r) ∧ ∀ X Y d w,AF ρ φ x X->AF ρ φ y Y->(Op.equalIn (d+1) t X Y).run P w = .ok r w:=by
 rcases Fy (ρ:=ρ) (φ:=φ) (show R.good (FN u x _ _) from h) with ⟨rfl,e1⟩ | ⟨e1,hx⟩
 ·have h:R.good (FN u (.nil u) (FN u y (κ true) (κ false)) _):=h
  rw [e1] at h
  rcases Fy (ρ:=ρ) (φ:=φ) h with ⟨rfl,e2⟩ | ⟨e2,hy⟩
  ·refine ⟨true,fun κ'=>by unfold IT; rw [e1,e1],fun X Y d w hX hY=>?_⟩
   rw [BK hX,BK hY]
   cases u with
   | ptr=>obtain ⟨e,s,hu,hs⟩:=ht; simp [Op.equalIn,run_underlying hu,BX]
   | sl=>obtain ⟨e,hu⟩:=ht; simp [Op.equalIn,run_underlying hu,BX]
   | map=>obtain ⟨k,e,hu⟩:=ht; simp [Op.equalIn,run_underlying hu,BX]
   | fn=>obtain ⟨a,b,c,hu⟩:=ht; simp [Op.equalIn,run_underlying hu,BX]
   | iface=>exact ht.elim
  ·refine ⟨false,fun κ'=>by unfold IT; rw [e1,e2],fun X Y d w hX hY=>?_⟩
   rw [BK hX]
   have hy:=hy Y hY
   cases u with
   | ptr=>obtain ⟨e,s,hu,hs⟩:=ht; obtain ⟨a,rfl⟩:=hy; simp [Op.equalIn,run_underlying hu,BX]
   | sl=>obtain ⟨e,hu⟩:=ht; obtain ⟨a,n,c,rfl⟩:=hy; simp [Op.equalIn,run_underlying hu,BX]
   | map=>obtain ⟨k,e,hu⟩:=ht; obtain ⟨a,rfl⟩:=hy; simp [Op.equalIn,run_underlying hu,BX]
   | fn=>obtain ⟨a,b,c,hu⟩:=ht; obtain ⟨f,n,c,rfl⟩:=hy; simp [Op.equalIn,run_underlying hu,BX]
   | iface=>exact ht.elim
 ·have h:R.good (FN u x _ (FN u y (κ false) (I3 x fun p o=>I3 y fun q o'=>br (K4.beq p q) (Cz (Nat.beq o o') κ) (.fail "")))):=h
  rw [e1] at h
  rcases Fy (ρ:=ρ) (φ:=φ) h with ⟨rfl,e2⟩ | ⟨e2,hy⟩
  ·refine ⟨false,fun κ'=>by unfold IT; rw [e1,e2],fun X Y d w hX hY=>?_⟩
   rw [BK hY]
   have hx:=hx X hX
   cases u with
   | ptr=>obtain ⟨e,s,hu,hs⟩:=ht; obtain ⟨a,rfl⟩:=hx; simp [Op.equalIn,run_underlying hu,BX]
   | sl=>obtain ⟨e,hu⟩:=ht; obtain ⟨a,n,c,rfl⟩:=hx; simp [Op.equalIn,run_underlying hu,BX]
   | map=>obtain ⟨k,e,hu⟩:=ht; obtain ⟨a,rfl⟩:=hx; simp [Op.equalIn,run_underlying hu,BX]
   | fn=>obtain ⟨a,b,c,hu⟩:=ht; obtain ⟨f,n,c,rfl⟩:=hx; simp [Op.equalIn,run_underlying hu,BX]
   | iface=>exact ht.elim
  ·rw [e2] at h
   obtain ⟨p,o,rfl,e3⟩:=CP h
   rw [e3] at h
   obtain ⟨q,o',rfl,e4⟩:=CP h
   rw [e4] at h
   obtain ⟨h5,e5⟩:=Ak h
   have:=K4.beq_iff.1 h5
   subst this
   refine ⟨Nat.beq o o',fun κ'=>by unfold IT; rw [e1,e2]; show br (K4.beq p p) _ _=_; rw [h5,AI,BS],fun X Y d w hX hY=>?_⟩
   have hx:=hx X hX
   obtain ⟨b,s,tot,hp,rfl⟩:=CD hX
   obtain ⟨b',s',tot',hp',rfl⟩:=CD hY
   rw [hp] at hp'; cases hp'
   cases u with
   | ptr =>
    obtain ⟨e,sz,hu,hs⟩:=ht
    simp only [Op.equalIn,Sem.run_bind,run_underlying hu,Result.andThen_ok,B5 hs,ne_eq,Nat.add_eq_zero_iff,Nat.one_ne_zero,and_false,not_false_eq_true,if_true,sameAddr,beq_self_eq_true]
    simp only [Sem.run_pure]
    congr 1
    rw [Bool.eq_iff_iff,beq_iff_eq]
    constructor
    ·intro h; simp at h; rw [h]; exact Nat.beq_refl _
    ·intro h; rw [Nat.eq_of_beq_eq_true h]
   | sl=>obtain ⟨a,n,c,h⟩:=hx; cases h
   | map=>obtain ⟨a,h⟩:=hx; cases h
   | fn=>obtain ⟨f,n,c,h⟩:=hx; cases h
   | iface=>exact ht.elim
end
end Go.Ev

namespace Go.Ev
set_option linter.unusedVariables false
section
variable {P:Program} {ρ:Env} {φ:B0} {w:World}
theorem Nq {t:TypeId} {fs:Array Field} (h:P.underlying t=some (.struct fs)):P.underlying t=some (.struct (P.fieldsOf t)):=by
 unfold Program.fieldsOf; rw [h]
theorem Li {t:TypeId} {fs:Array Field} {offs:List (Nat×Sc)} (ht:P.underlying t=some (.struct fs)) (hs:P.stoodInHeld t=false) (ho:G1 P fs.toList=some offs)
  {x y:V} {κ:Bool->R} (h:(Kh (.st offs) x y κ).good) :
  ∃ r,(∀ κ',Kh (.st offs) x y κ'=κ' r) ∧ ∀ X Y d w,AF ρ φ x X->AF ρ φ y Y->(Op.equalIn (d+2) t X Y).run P w = .ok r w ∧ ∃ a b,X = .agg a∧Y = .agg b:=by
 obtain ⟨a,rfl,e⟩:=Cn (show R.good (asAgg x _) from h)
 obtain ⟨b,rfl,e'⟩:=Cn (show R.good (asAgg y _) from h)
 obtain ⟨r,g1,g2⟩:=KJ (ρ:=ρ) (φ:=φ) ho (show R.good (I9 offs a b κ) from h)
 refine ⟨r,fun κ'=>g1 κ',fun X Y d w hX hY=>?_⟩
 obtain ⟨xs,rfl,hx,_⟩:=DQ hX
 obtain ⟨ys,rfl,hy,_⟩:=DQ hY
 refine ⟨?_,xs,ys,rfl,rfl⟩
 have hf:P.fieldsOf t=fs:=by unfold Program.fieldsOf; rw [ht]
 rw [run_equalIn_struct w (d+1) t xs ys (Nq ht) hs,hf]
 exact g2 xs ys d w hx hy
theorem Is {t:TypeId} {pl:Plan} (hp:Jh P t=some pl) {x y:V} {κ:Bool->R} (h:(Kh pl x y κ).good) :
  ∃ r,(∀ κ',Kh pl x y κ'=κ' r) ∧ ∀ X Y w,AF ρ φ x X->AF ρ φ y Y->(Op.equal t X Y).run P w = .ok r w:=by
 unfold Jh at hp
 split at hp
 ·cases hp
  rename_i hu
  obtain ⟨r,g1,g2⟩:=Gf (ρ:=ρ) (φ:=φ) (show R.good (KA .b x y κ) from h)
  exact ⟨r,fun κ'=>g1 κ',fun X Y w hX hY=>FY (by unfold NN; rw [hu]) (g2 X Y hX hY) 9999⟩
 ·rename_i fs hu
  split at hp
  ·cases hp
  ·rename_i hs
   cases ho:G1 P fs.toList with
   | none=>rw [ho] at hp; cases hp
   | some offs =>
    rw [ho] at hp; cases hp
    obtain ⟨r,g1,g2⟩:=Li (ρ:=ρ) (φ:=φ) hu (by simpa using hs) ho h
    exact ⟨r,g1,fun X Y w hX hY=>(g2 X Y 9998 w hX hY).1⟩
 ·rename_i e hu
  split at hp
  ·rename_i s hs
   cases hp
   obtain ⟨r,g1,g2⟩:=Gg (P:=P) (ρ:=ρ) (φ:=φ) (u:=.ptr) (t:=t) ⟨e,s,hu,hs⟩ (show R.good (IT .ptr x y κ) from h)
   exact ⟨r,fun κ'=>g1 κ',fun X Y w hX hY=>g2 X Y 9999 w hX hY⟩
  ·cases hp
 ·rename_i e hu
  cases hp
  obtain ⟨r,g1,g2⟩:=Gg (P:=P) (ρ:=ρ) (φ:=φ) (u:=.sl) (t:=t) ⟨e,hu⟩ (show R.good (IT .sl x y κ) from h)
  exact ⟨r,fun κ'=>g1 κ',fun X Y w hX hY=>g2 X Y 9999 w hX hY⟩
 ·rename_i k e hu
  cases hp
  obtain ⟨r,g1,g2⟩:=Gg (P:=P) (ρ:=ρ) (φ:=φ) (u:=.map) (t:=t) ⟨k,e,hu⟩ (show R.good (IT .map x y κ) from h)
  exact ⟨r,fun κ'=>g1 κ',fun X Y w hX hY=>g2 X Y 9999 w hX hY⟩
 ·rename_i a b c hu
  cases hp
  obtain ⟨r,g1,g2⟩:=Gg (P:=P) (ρ:=ρ) (φ:=φ) (u:=.fn) (t:=t) ⟨a,b,c,hu⟩ (show R.good (IT .fn x y κ) from h)
  exact ⟨r,fun κ'=>g1 κ',fun X Y w hX hY=>g2 X Y 9999 w hX hY⟩
 ·cases hp
def Tm (P:Program) (sc:Bool) (d:TypeDesc) (t:TypeId) (X Y:Value) (r:Bool):Prop :=
 Instr.sameNow d X Y=(if sc then some r else none)∧(∀ w,(Op.equal t X Y).run P w = .ok r w)∧(r=true->Instr.sameBits 10000 Y X=true)
theorem GL {k:Sc} {X Y:Value} {n:Nat} (h:So k X Y true):Instr.sameBits n Y X=true:=by
 cases k with
 | i =>
  obtain ⟨kd,a,b,rfl,rfl,hr⟩:=h
  have:=eq_of_beq hr.symm
  simp [Instr.sameBits,this]
 | s =>
  obtain ⟨a,b,rfl,rfl,hr⟩:=h
  have:=eq_of_beq hr.symm
  simp only [Instr.sameBits,beq_toListBytes,this]; exact beq_self_eq_true _
 | b =>
  obtain ⟨a,b,rfl,rfl,hr⟩:=h
  have:=eq_of_beq hr.symm
  simp [Instr.sameBits,this]
theorem PG (ks:List Sc):∀ {a b:List V} {κ:Bool->R},(N9 ks a b κ).good →
  ∃ r,(∀ κ',N9 ks a b κ'=κ' r)∧(∀ (pa pb:List V) (offs:List (Nat×Sc)),pa.length=pb.length->offs=ks.zipIdx.map (fun p=>(pa.length+p.2,p.1))->∀ κ',I9 offs (pa++a) (pb++b) κ'=κ' r) ∧
   (r=true->∀ xs ys:List Value,Bs ρ φ a xs->Bs ρ φ b ys->xs.length=ys.length ∧ ∀ n,(ys.zip xs).all (fun (x,y)=>Instr.sameBits n x y)=true):=by
 induction ks with
 | nil =>
  intro a b κ h
  cases a with
  | cons u a=>exact h.elim
  | nil =>
   cases b with
   | cons v b=>exact h.elim
   | nil =>
    refine ⟨true,fun _=>rfl,fun pa pb offs _ ho κ'=>by subst ho; rfl,fun _ xs ys hx hy=>?_⟩
    rw [AL] at hx hy; subst hx hy; exact ⟨rfl,fun n=>rfl⟩
 | cons k ks ih =>
  intro a b κ h
  cases a with
  | nil=>exact h.elim
  | cons u a =>
   cases b with
   | nil=>exact h.elim
   | cons v b =>
    have h:R.good (KA k u v fun r=>br r (N9 ks a b κ) (κ false)):=h
    obtain ⟨q,e3,hq⟩:=Gf (ρ:=ρ) (φ:=φ) h
    rw [e3] at h
    have unf:∀ κ',N9 (k::ks) (u::a) (v::b) κ'=br q (N9 ks a b κ') (κ' false):=fun κ'=>e3 _
    have at1:∀ (pa pb:List V) (offs:List (Nat×Sc)),pa.length=pb.length->offs=(k::ks).zipIdx.map (fun p=>(pa.length+p.2,p.1))->∀ κ',I9 offs (pa++u::a) (pb++v::b) κ' =
      br q (I9 (ks.zipIdx.map (fun p=>((pa++[u]).length+p.2,p.1))) ((pa++[u])++a) ((pb++[v])++b) κ') (κ' false):=fun pa pb offs hl ho κ'=>by
     subst ho
     have n1:∀ (l m:List V) (x:V) (κ:V->R),DY l.length (l++x::m) κ=κ x:=fun l=>by
      induction l with
      | nil=>intro m x κ; rfl
      | cons y l ih=>intro m x κ; exact ih m x κ
     have hz:((k::ks).zipIdx.map (fun p=>(pa.length+p.2,p.1)))=(pa.length,k)::ks.zipIdx.map (fun p=>((pa++[u]).length+p.2,p.1)):=by
      rw [List.zipIdx_cons,List.map_cons]
      simp only [Nat.add_zero,List.cons.injEq,true_and]
      rw [List.zipIdx_eq_map_add,List.map_map]
      apply List.map_congr_left
      intro p _
      simp; omega
     rw [hz]
     show DY pa.length (pa++u::a) (fun u=>DY pa.length (pb++v::b) fun v=>KA k u v fun q=>br q (I9 _ (pa++_::a) (pb++_::b) κ') (κ' false))=_
     rw [n1,hl,n1,e3]
     simp
    cases q with
    | true =>
     obtain ⟨r,g1,g2,g3⟩:=ih (show R.good (N9 ks a b κ) from h)
     refine ⟨r,fun κ'=>(unf κ').trans (g1 κ'),fun pa pb offs hl ho κ'=>?_,fun hr xs ys hx hy=>?_⟩
     ·rw [at1 pa pb offs hl ho κ']
      exact g2 (pa++[u]) (pb++[v]) _ (by simp [hl]) rfl κ'
     ·obtain ⟨x,xs,rfl,hx,hxs⟩:=AD.1 hx
      obtain ⟨y,ys,rfl,hy,hys⟩:=AD.1 hy
      obtain ⟨h1,h2⟩:=g3 hr xs ys hxs hys
      refine ⟨by simp [h1],fun n=>?_⟩
      have h2:=h2 n
      simp only [List.zip_cons_cons,List.all_cons,GL (hq x y hx hy),Bool.true_and]
      exact h2
    | false =>
     exact ⟨false,fun κ'=>unf κ',fun pa pb offs hl ho κ'=>at1 pa pb offs hl ho κ',fun hr=>by cases hr⟩
theorem OP {k:Sc} {t:TypeId} (hk:NN P t=some k) {X Y:Value} {r:Bool} (h:So k X Y r):∃ d,P.underlying t=some d∧Instr.sameNow d X Y=some r ∧ ¬ ∃ fs,d = .struct fs:=by
 unfold NN at hk
 split at hk
 ·cases hk
  rename_i kd hu
  obtain ⟨kd',a,b,rfl,rfl,rfl⟩:=h
  exact ⟨_,hu,by simp [Instr.sameNow],by simp⟩
 ·cases hk
  rename_i hu
  obtain ⟨s,u,rfl,rfl,rfl⟩:=h
  exact ⟨_,hu,by simp [Instr.sameNow,beq_toListBytes],by simp⟩
 ·cases hk
  rename_i hu
  obtain ⟨s,u,rfl,rfl,rfl⟩:=h
  exact ⟨_,hu,by simp [Instr.sameNow],by simp⟩
 ·cases hk
theorem Ho {t:TypeId} {pl:Plan} (hp:Gv P t=some pl):∃ d sc,P.underlying t=some d ∧ ∀ {x y:V} {κ:Bool->R},(Kh pl x y κ).good →
  ∃ r,(∀ κ',Kh pl x y κ'=κ' r) ∧ ∀ X Y,AF ρ φ x X->AF ρ φ y Y->Tm P sc d t X Y r:=by
 unfold Gv at hp
 split at hp
 ·rename_i fs hu
  split at hp
  ·cases hp
  ·rename_i hs
   split at hp
   ·rename_i offs ho
    split at hp
    ·rename_i hr
     cases hp
     refine ⟨_,false,hu,fun {x y κ} h=>?_⟩
     obtain ⟨a,rfl,e⟩:=Cn (show R.good (asAgg x _) from h)
     obtain ⟨b,rfl,e'⟩:=Cn (show R.good (asAgg y _) from h)
     obtain ⟨r,g1,g2,g3⟩:=PG (ρ:=ρ) (φ:=φ) (offs.map (·.2)) (show R.good (N9 (offs.map (·.2)) a b κ) from h)
     refine ⟨r,fun κ'=>g1 κ',fun X Y hX hY=>?_⟩
     obtain ⟨xs,rfl,hx,_⟩:=DQ hX
     obtain ⟨ys,rfl,hy,_⟩:=DQ hY
     have hoffs:offs=(offs.map (·.2)).zipIdx.map (fun p=>(([]:List V).length+p.2,p.1)):=by
      apply List.ext_getElem?
      intro i
      rw [List.getElem?_map,List.getElem?_zipIdx,List.getElem?_map]
      cases hi:offs[i]? with
      | none=>rfl
      | some p =>
       have h1:(offs.map (·.1))[i]? = some p.1:=by rw [List.getElem?_map,hi]; rfl
       rw [hr] at h1
       have hlt:i<offs.length:=by
        rcases Nat.lt_or_ge i offs.length with h' | h'
        ·exact h'
        ·rw [List.getElem?_eq_none h'] at hi; cases hi
       rw [List.getElem?_range hlt] at h1
       obtain ⟨p1,p2⟩:=p
       simp at h1
       subst h1
       simp
     have hg:(Kh (.st offs) (.agg a) (.agg b) (fun q=>R.rv (.bool q) AM ⟨.d0,.d0,.d0,.d0⟩)).good:=by
      show R.good (I9 offs a b (fun q=>R.rv (.bool q) AM ⟨.d0,.d0,.d0,.d0⟩))
      have:=g2 [] [] offs rfl hoffs (fun q=>R.rv (.bool q) AM ⟨.d0,.d0,.d0,.d0⟩)
      simp only [List.nil_append] at this
      rw [this]; trivial
     obtain ⟨r',k1,k2⟩:=Li (ρ:=ρ) (φ:=φ) hu (by simpa using hs) ho hg
     have hrr:r'=r:=by
      have e1:=k1 (fun q=>R.rv (.bool q) AM ⟨.d0,.d0,.d0,.d0⟩)
      have e2:Kh (.st offs) (.agg a) (.agg b) (fun q=>R.rv (.bool q) AM ⟨.d0,.d0,.d0,.d0⟩)=_:=g2 [] [] offs rfl hoffs (fun q=>R.rv (.bool q) AM ⟨.d0,.d0,.d0,.d0⟩)
      rw [e1] at e2
      simpa using e2
     subst hrr
     refine ⟨by simp [Instr.sameNow],fun w=>(k2 _ _ 9998 w hX hY).1,fun hr'=>?_⟩
     obtain ⟨h1,h2⟩:=g3 hr' xs.toList ys.toList hx hy
     have h2:=h2 9999
     simp only [Instr.sameBits,Bool.and_eq_true,beq_iff_eq]
     exact ⟨by simpa using h1.symm,h2⟩
    ·cases hp
   ·cases hp
 ·cases hk:NN P t with
  | none=>rw [hk] at hp; cases hp
  | some k =>
   rw [hk] at hp; cases hp
   cases hu:P.underlying t with
   | none=>simp [NN,hu] at hk
   | some d =>
    refine ⟨d,true,rfl,fun {x y κ} h=>?_⟩
    obtain ⟨r,g1,g2⟩:=Gf (ρ:=ρ) (φ:=φ) (show R.good (KA k x y κ) from h)
    refine ⟨r,fun κ'=>g1 κ',fun X Y hX hY=>?_⟩
    obtain ⟨d',hd',hn,_⟩:=OP hk (g2 X Y hX hY)
    rw [hu] at hd'; cases hd'
    exact ⟨hn,fun w=>FY hk (g2 X Y hX hY) 9999,fun hr=>by subst hr; exact GL (g2 X Y hX hY)⟩
def TD (pl:Plan) (k:V):List (V×V)->Option Nat->Prop
 | [],r=>r=none
 | e::es,r=>∃ q:Bool,(∀ κ,Kh pl k e.1 κ=κ q)∧if q then r=some 0 else ∃ r',TD pl k es r'∧r=r'.map (· + 1)
theorem JL {t:TypeId} {pl:Plan} (hp:Gv P t=some pl) {k:V} {κf:V->R} {κn:R}:∀ {es:List (V×V)},(GG pl k es κf κn).good →
  ∃ r,TD pl k es r∧match r with | none=>GG pl k es κf κn=κn | some i=>∃ e,es[i]? = some e∧GG pl k es κf κn=κf e.2
 | [],h=>⟨none,rfl,rfl⟩
 | (a,b)::es,h=>by
  obtain ⟨d,sc,_,hk⟩:=Ho (ρ:={ v:=fun _=>.nilFunc,ap:=fun _=>none }) (φ:=fun _=>none) hp
  have h:R.good (Kh pl k a fun r=>br r (κf b) (GG pl k es κf κn)):=h
  obtain ⟨q,g1,_⟩:=hk h
  rw [g1] at h
  have unf:GG pl k ((a,b)::es) κf κn=br q (κf b) (GG pl k es κf κn):=g1 _
  cases q with
  | true=>exact ⟨some 0,⟨true,g1,rfl⟩,(a,b),rfl,unf⟩
  | false =>
   obtain ⟨r,h1,h2⟩:=JL hp (show R.good (GG pl k es κf κn) from h)
   refine ⟨r.map (· + 1),⟨false,g1,r,h1,rfl⟩,?_⟩
   cases r with
   | none=>exact unf.trans h2
   | some i=>obtain ⟨e,he,h2⟩:=h2; exact ⟨e,by simpa using he,unf.trans h2⟩
theorem LR {t:TypeId} {pl:Plan} (hp:Gv P t=some pl) {k v:V}:∀ {es:List (V×V)} {κ:List (V×V)->R},(GR pl k v es κ).good →
  ∃ r,TD pl k es r∧GR pl k v es κ=κ (match r with | none=>es++[(k,v)] | some i=>es.set i (k,v))
 | [],κ,h=>⟨none,rfl,rfl⟩
 | (a,b)::es,κ,h=>by
  obtain ⟨d,sc,_,hk⟩:=Ho (ρ:={ v:=fun _=>.nilFunc,ap:=fun _=>none }) (φ:=fun _=>none) hp
  have h:R.good (Kh pl k a fun r=>br r (κ ((k,v)::es)) (GR pl k v es fun l=>κ ((a,b)::l))):=h
  obtain ⟨q,g1,_⟩:=hk h
  rw [g1] at h
  have unf:GR pl k v ((a,b)::es) κ=br q (κ ((k,v)::es)) (GR pl k v es fun l=>κ ((a,b)::l)):=g1 _
  cases q with
  | true=>exact ⟨some 0,⟨true,g1,rfl⟩,unf⟩
  | false =>
   obtain ⟨r,h1,h2⟩:=LR hp (show R.good (GR pl k v es fun l=>κ ((a,b)::l)) from h)
   refine ⟨r.map (· + 1),⟨false,g1,r,h1,rfl⟩,?_⟩
   rw [unf]
   show GR pl k v es _=_
   rw [h2]
   cases r <;> rfl
theorem LI {t:TypeId} {pl:Plan} (hp:Gv P t=some pl) {k:V}:∀ {es:List (V×V)} {κ:List (V×V)->R},(Kz pl k es κ).good →
  ∃ r,TD pl k es r∧Kz pl k es κ=κ (match r with | none=>es | some i=>es.eraseIdx i)
 | [],κ,h=>⟨none,rfl,rfl⟩
 | (a,b)::es,κ,h=>by
  obtain ⟨d,sc,_,hk⟩:=Ho (ρ:={ v:=fun _=>.nilFunc,ap:=fun _=>none }) (φ:=fun _=>none) hp
  have h:R.good (Kh pl k a fun r=>br r (κ es) (Kz pl k es fun l=>κ ((a,b)::l))):=h
  obtain ⟨q,g1,_⟩:=hk h
  rw [g1] at h
  have unf:Kz pl k ((a,b)::es) κ=br q (κ es) (Kz pl k es fun l=>κ ((a,b)::l)):=g1 _
  cases q with
  | true=>exact ⟨some 0,⟨true,g1,rfl⟩,unf⟩
  | false =>
   obtain ⟨r,h1,h2⟩:=LI hp (show R.good (Kz pl k es fun l=>κ ((a,b)::l)) from h)
   refine ⟨r.map (· + 1),⟨false,g1,r,h1,rfl⟩,?_⟩
   rw [unf]
   show Kz pl k es _=_
   rw [h2]
   cases r <;> rfl
theorem Lu {pl:Plan} {k:V}:∀ {es:List (V×V)} {bs:List Nat} {κ:List Nat->R} {r:Option Nat},(Kt pl k es bs κ).good->TD pl k es r →
  Kt pl k es bs κ=κ (match r with | none=>bs | some i=>bs.eraseIdx i)
 | [],bs,κ,r,_,hf=>by have hf:r=none:=hf; subst hf; rfl
 | (a,b)::es,[],κ,r,h,_=>h.elim
 | (a,b)::es,c::bs,κ,r,h,hf=>by
  obtain ⟨q,g1,hf⟩:=hf
  have h:R.good (Kh pl k a fun r=>br r (κ bs) (Kt pl k es bs fun l=>κ (c::l))):=h
  rw [g1] at h
  have unf:Kt pl k ((a,b)::es) (c::bs) κ=br q (κ bs) (Kt pl k es bs fun l=>κ (c::l)):=g1 _
  cases q with
  | true =>
   have hf:r=some 0:=by simpa using hf
   subst hf; exact unf
  | false =>
   simp only [Bool.false_eq_true,if_false] at hf
   obtain ⟨r',hf',rfl⟩:=hf
   rw [unf]
   show Kt pl k es bs _=_
   rw [Lu (show R.good (Kt pl k es bs fun l=>κ (c::l)) from h) hf']
   cases r' <;> rfl
theorem Lv:∀ (es:List (V×V)) (bs:List Nat),GN es bs=decide (es.length=bs.length)
 | [],[]=>rfl
 | [],_::_=>rfl
 | _::_,[]=>rfl
 | _::es,_::bs=>by
  show GN es bs=_
  rw [Lv es bs]; simp
theorem Nm (c:Nat):∀ (bs:List Nat) (κ:List Nat->R),RM bs c κ=κ (bs++[c])
 | [],_=>rfl
 | b::bs,κ=>by
  show RM bs c (fun l=>κ (b::l))=_
  rw [Nm c bs]; rfl
theorem TA (es:List (V×V)) (bs:List Nat) (c:Nat) (κ:List Nat->Nat->R):Um es bs c κ=κ (if es.length=bs.length then bs else bs++[c]) (if es.length=bs.length then c else c+1):=by
 unfold Um
 rw [Lv,Nm,Af]
 by_cases h:es.length=bs.length <;> simp [h,br]
theorem EM {t:TypeId} {pl:Plan} (hp:Gv P t=some pl) {k:V} {K:Value} (hK:AF ρ φ k K):∀ {es:List (V×V)} {ents:List MapEntry} {r:Option Nat},TD pl k es r->G0 ρ φ es ents →
  (Instr.findKey t K ents).run P w = .ok (r.bind fun i=>(ents[i]?).map fun e=>(i,e.val)) w ∧
  (∀ i,r=some i->∃ e,ents[i]? = some e∧Instr.sameBits 10000 e.key K=true):=by
 obtain ⟨d,sc,hu,hk⟩:=Ho (ρ:=ρ) (φ:=φ) hp
 have gd:∀ (x y:V) (q:Bool),(∀ κ,Kh pl x y κ=κ q)->∀ X Y,AF ρ φ x X->AF ρ φ y Y->Tm P sc d t X Y q:=fun x y q hq X Y hX hY=>by
  obtain ⟨r,g1,g2⟩:=hk (x:=x) (y:=y) (κ:=fun q=>.rv (.bool q) AM ⟨.d0,.d0,.d0,.d0⟩) (by rw [hq]; trivial)
  have e1:=hq (fun q=>.rv (.bool q) AM ⟨.d0,.d0,.d0,.d0⟩)
  rw [g1] at e1
  simp at e1
  subst e1
  exact g2 X Y hX hY
 have key:∀ (es:List (V×V)) (ents:List MapEntry) (r:Option Nat) (i:Nat),TD pl k es r->G0 ρ φ es ents →
   ((sc=true->Instr.findNow d K ents i=some (r.bind fun j=>(ents[j]?).map fun e=>(i+j,e.val))) ∧
   (sc=false->ents≠[]->Instr.findNow d K ents i=none) ∧
   (Instr.findAsking t K ents i).run P w = .ok (r.bind fun j=>(ents[j]?).map fun e=>(i+j,e.val)) w) ∧
   (∀ j,r=some j->∃ e,ents[j]? = some e∧Instr.sameBits 10000 e.key K=true):=by
  intro es
  induction es with
  | nil =>
   intro ents r i hf he
   have hf:r=none:=hf
   have he:ents=[]:=he
   subst hf he
   exact ⟨⟨fun _=>rfl,fun _ h=>absurd rfl h,rfl⟩,fun j h=>by cases h⟩
  | cons e es ih =>
   intro ents r i hf he
   obtain ⟨q,hq,hf⟩:=hf
   obtain ⟨y,ys,rfl,hy1,hy2,hys⟩:=he
   obtain ⟨n1,n2,n3⟩:=gd k e.1 q hq K y.key hK hy1
   cases q with
   | true =>
    have hf:r=some 0:=by simpa using hf
    subst hf
    refine ⟨⟨fun hs=>?_,fun hs _=>?_,?_⟩,fun j hj=>?_⟩
    ·subst hs; simp at n1; simp [Instr.findNow,n1]
    ·subst hs; simp at n1; simp [Instr.findNow,n1]
    ·simp only [Instr.findAsking,Sem.run_bind,n2,Result.andThen_ok,if_true]; simp
    ·cases hj; exact ⟨y,rfl,n3 rfl⟩
   | false =>
    simp only [Bool.false_eq_true,if_false] at hf
    obtain ⟨r',hf',rfl⟩:=hf
    obtain ⟨⟨k1,k2,k3⟩,k4⟩:=ih ys r' (i+1) hf' hys
    have hr:((r'.map (· + 1)).bind fun j=>((y::ys)[j]?).map fun e=>(i+j,e.val))=r'.bind fun j=>(ys[j]?).map fun e=>(i+1+j,e.val):=by
     cases r' with
     | none=>rfl
     | some j=>simp [Nat.add_assoc,Nat.add_comm 1 j]
    refine ⟨⟨fun hs=>?_,fun hs _=>?_,?_⟩,fun j hj=>?_⟩
    ·subst hs; simp at n1; rw [hr]; simp only [Instr.findNow,n1]; exact k1 rfl
    ·subst hs; simp at n1; simp [Instr.findNow,n1]
    ·rw [hr]
     simp only [Instr.findAsking,Sem.run_bind,n2,Result.andThen_ok,Bool.false_eq_true,if_false]
     exact k3
    ·cases r' with
     | none=>cases hj
     | some j'=>simp at hj; subst hj; simpa using k4 j' rfl
 intro es ents r hf he
 obtain ⟨⟨k1,k2,k3⟩,k4⟩:=key es ents r 0 hf he
 simp only [Nat.zero_add] at k1 k3
 refine ⟨?_,fun i hi=>?_⟩
 ·simp only [Instr.findKey,Sem.run_bind,run_underlying hu,Result.andThen_ok]
  cases sc with
  | true=>rw [k1 rfl]; rfl
  | false =>
   cases hen:ents with
   | nil=>rw [hen] at k3; simp only [Instr.findNow]; exact k3
   | cons e l=>rw [←hen,k2 rfl (by rw [hen]; simp)]; exact k3
 ·obtain ⟨e,h1,h2⟩:=k4 i hi
  exact ⟨e,h1,h2⟩
end
end Go.Ev
