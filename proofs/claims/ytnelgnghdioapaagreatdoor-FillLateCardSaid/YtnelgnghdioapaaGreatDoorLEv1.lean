/- AN EVALUATOR OF THE MODEL OF Go, PROVED SOUND, PART 1: what it says of a call holds in every world, on every tape. Conditions: none of its own; each theorem bears its premises. -/
import Derived.Below
import Derived.Laws.Append
import Derived.Laws.Bits
import Derived.Laws.Cells
import Derived.Laws.Entries
import Derived.Laws.Sem
import Derived.Laws.Strings
import Derived.Laws.StructEq
import Derived.Laws.Tables
import Derived.Laws.World
import Derived.Orders
noncomputable section
set_option linter.unusedSimpArgs false
set_option linter.unusedVariables false
namespace Go.Ev
set_option linter.unusedVariables false
inductive D where
 | d0 | d1 | d2 | d3 | d4 | d5 | d6 | d7 | d8 | d9 | d10 | d11 | d12 | d13 | d14 | d15
def D.toN (d:D):Nat:=@D.rec (fun _=>Nat) 0 1 2 3 4 5 6 7 8 9 10 11 12 13 14 15 d
theorem D.toN_lt (d:D):d.toN<16:=by cases d <;> decide
theorem D.toN_inj {a b:D} (h:a.toN=b.toN):a=b:=by
 cases a <;> cases b <;> first | rfl | exact absurd h (by decide)
def D.nx {β:Type} (d:D):(D->β)->β->β :=
 @D.rec (fun _=>(D->β)->β->β) (fun k _=>k .d1) (fun k _=>k .d2) (fun k _=>k .d3) (fun k _=>k .d4) (fun k _=>k .d5) (fun k _=>k .d6) (fun k _=>k .d7) (fun k _=>k .d8) (fun k _=>k .d9) (fun k _=>k .d10) (fun k _=>k .d11) (fun k _=>k .d12) (fun k _=>k .d13) (fun k _=>k .d14) (fun k _=>k .d15) (fun _ c=>c) d
theorem D.nx_eq {β:Type} (d:D) (k:D->β) (c:β):(d.nx k c=c∧d.toN=15)∨(∃ e:D,e.toN=d.toN+1∧d.nx k c=k e):=by
 cases d
 case d0=>exact .inr ⟨.d1,rfl,rfl⟩
 case d1=>exact .inr ⟨.d2,rfl,rfl⟩
 case d2=>exact .inr ⟨.d3,rfl,rfl⟩
 case d3=>exact .inr ⟨.d4,rfl,rfl⟩
 case d4=>exact .inr ⟨.d5,rfl,rfl⟩
 case d5=>exact .inr ⟨.d6,rfl,rfl⟩
 case d6=>exact .inr ⟨.d7,rfl,rfl⟩
 case d7=>exact .inr ⟨.d8,rfl,rfl⟩
 case d8=>exact .inr ⟨.d9,rfl,rfl⟩
 case d9=>exact .inr ⟨.d10,rfl,rfl⟩
 case d10=>exact .inr ⟨.d11,rfl,rfl⟩
 case d11=>exact .inr ⟨.d12,rfl,rfl⟩
 case d12=>exact .inr ⟨.d13,rfl,rfl⟩
 case d13=>exact .inr ⟨.d14,rfl,rfl⟩
 case d14=>exact .inr ⟨.d15,rfl,rfl⟩
 case d15=>exact .inl ⟨rfl,rfl⟩
def D.ofN:Nat->D
 | 0=>.d0 | 1=>.d1 | 2=>.d2 | 3=>.d3 | 4=>.d4 | 5=>.d5 | 6=>.d6 | 7=>.d7 | 8=>.d8 | 9=>.d9 | 10=>.d10 | 11=>.d11 | 12=>.d12 | 13=>.d13 | 14=>.d14 | _=>.d15
theorem D.toN_ofN:∀ n,n<16->(D.ofN n).toN=n
 | 0,_=>rfl | 1,_=>rfl | 2,_=>rfl | 3,_=>rfl | 4,_=>rfl | 5,_=>rfl | 6,_=>rfl | 7,_=>rfl | 8,_=>rfl | 9,_=>rfl | 10,_=>rfl | 11,_=>rfl | 12,_=>rfl | 13,_=>rfl | 14,_=>rfl | 15,_=>rfl
 | n+16,h=>by omega
def D.beq (a b:D):Bool:=Nat.beq a.toN b.toN
theorem D.beq_iff {a b:D}:a.beq b=true ↔ a=b:=by
 unfold D.beq
 exact ⟨fun h=>D.toN_inj (Nat.eq_of_beq_eq_true h),fun h=>by subst h; exact Nat.beq_refl _⟩
structure K4 where
 a:D
 b:D
 c:D
 d:D
inductive Nl where
 | ptr
 | sl
 | map
 | fn
 | iface
inductive Ot where
 | any
 | sym (i:Nat)
 | yl (p:K4)
 | no
 | iv (k:IntKind) (lo hi:Nat)
 | os (lo hi:Nat)
 | bl
 | rs (m j:Nat)
 | ss (lo hi n c:Nat)
 | ro (i lo hi z:Nat)
 | ap (i j m:Nat)
 | sy (k:IntKind) (i:Nat)
inductive V where
 | int (k:IntKind) (r:Nat)
 | bool (b:Bool)
 | ptr (p:K4) (off:Nat)
 | sl (p:K4) (off len cap:Nat) (ex:Bool) (esz:Nat)
 | str (n c:Nat)
 | agg (l:List V)
 | nil (w:Nl)
 | map (p:K4)
 | fn (f:Nat) (caps:List V)
 | tup (l:List V)
 | oth (o:Ot)
inductive Cs where
 | l (xs:List V)
 | b (n c:Nat)
inductive Ob where
 | c (cs:Cs) (sup:Bool) (prev:Option K4)
 | m (es:List (V×V)) (bs:List Nat) (clk:Nat)
 | it (p:K4) (since:Nat) (seen:List Nat) (c:Nat)
 | it0
 | lp (f:Nat) (box:K4)
abbrev C3:=Option Ob
inductive VP where
 | mk (c0 c1 c2 c3 c4 c5 c6 c7 c8 c9 ca cb cc cd ce cf:V)
def VP.all (x:V):VP:=.mk x x x x x x x x x x x x x x x x
def VP.sel (d:D) (p:VP):V :=
 @VP.rec (fun _=>V) (fun c0 c1 c2 c3 c4 c5 c6 c7 c8 c9 ca cb cc cd ce cf=>@D.rec (fun _=>V) c0 c1 c2 c3 c4 c5 c6 c7 c8 c9 ca cb cc cd ce cf d) p
def ZG {β:Type} (p:VP) (v:V) (k:VP->β):β:=@VP.rec (fun _=>β) (fun c0 c1 c2 c3 c4 c5 c6 c7 c8 c9 ca cb cc cd ce cf=>k (.mk v c1 c2 c3 c4 c5 c6 c7 c8 c9 ca cb cc cd ce cf)) p
def ZI {β:Type} (p:VP) (v:V) (k:VP->β):β:=@VP.rec (fun _=>β) (fun c0 c1 c2 c3 c4 c5 c6 c7 c8 c9 ca cb cc cd ce cf=>k (.mk c0 v c2 c3 c4 c5 c6 c7 c8 c9 ca cb cc cd ce cf)) p
def ZP {β:Type} (p:VP) (v:V) (k:VP->β):β:=@VP.rec (fun _=>β) (fun c0 c1 c2 c3 c4 c5 c6 c7 c8 c9 ca cb cc cd ce cf=>k (.mk c0 c1 v c3 c4 c5 c6 c7 c8 c9 ca cb cc cd ce cf)) p
def vs3 {β:Type} (p:VP) (v:V) (k:VP->β):β:=@VP.rec (fun _=>β) (fun c0 c1 c2 c3 c4 c5 c6 c7 c8 c9 ca cb cc cd ce cf=>k (.mk c0 c1 c2 v c4 c5 c6 c7 c8 c9 ca cb cc cd ce cf)) p
def ZR {β:Type} (p:VP) (v:V) (k:VP->β):β:=@VP.rec (fun _=>β) (fun c0 c1 c2 c3 c4 c5 c6 c7 c8 c9 ca cb cc cd ce cf=>k (.mk c0 c1 c2 c3 v c5 c6 c7 c8 c9 ca cb cc cd ce cf)) p
def vs5 {β:Type} (p:VP) (v:V) (k:VP->β):β:=@VP.rec (fun _=>β) (fun c0 c1 c2 c3 c4 c5 c6 c7 c8 c9 ca cb cc cd ce cf=>k (.mk c0 c1 c2 c3 c4 v c6 c7 c8 c9 ca cb cc cd ce cf)) p
def ZK {β:Type} (p:VP) (v:V) (k:VP->β):β:=@VP.rec (fun _=>β) (fun c0 c1 c2 c3 c4 c5 c6 c7 c8 c9 ca cb cc cd ce cf=>k (.mk c0 c1 c2 c3 c4 c5 v c7 c8 c9 ca cb cc cd ce cf)) p
def ZN {β:Type} (p:VP) (v:V) (k:VP->β):β:=@VP.rec (fun _=>β) (fun c0 c1 c2 c3 c4 c5 c6 c7 c8 c9 ca cb cc cd ce cf=>k (.mk c0 c1 c2 c3 c4 c5 c6 v c8 c9 ca cb cc cd ce cf)) p
def vs8 {β:Type} (p:VP) (v:V) (k:VP->β):β:=@VP.rec (fun _=>β) (fun c0 c1 c2 c3 c4 c5 c6 c7 c8 c9 ca cb cc cd ce cf=>k (.mk c0 c1 c2 c3 c4 c5 c6 c7 v c9 ca cb cc cd ce cf)) p
def vs9 {β:Type} (p:VP) (v:V) (k:VP->β):β:=@VP.rec (fun _=>β) (fun c0 c1 c2 c3 c4 c5 c6 c7 c8 c9 ca cb cc cd ce cf=>k (.mk c0 c1 c2 c3 c4 c5 c6 c7 c8 v ca cb cc cd ce cf)) p
def Zw {β:Type} (p:VP) (v:V) (k:VP->β):β:=@VP.rec (fun _=>β) (fun c0 c1 c2 c3 c4 c5 c6 c7 c8 c9 ca cb cc cd ce cf=>k (.mk c0 c1 c2 c3 c4 c5 c6 c7 c8 c9 v cb cc cd ce cf)) p
def WX {β:Type} (p:VP) (v:V) (k:VP->β):β:=@VP.rec (fun _=>β) (fun c0 c1 c2 c3 c4 c5 c6 c7 c8 c9 ca cb cc cd ce cf=>k (.mk c0 c1 c2 c3 c4 c5 c6 c7 c8 c9 ca v cc cd ce cf)) p
def YQ {β:Type} (p:VP) (v:V) (k:VP->β):β:=@VP.rec (fun _=>β) (fun c0 c1 c2 c3 c4 c5 c6 c7 c8 c9 ca cb cc cd ce cf=>k (.mk c0 c1 c2 c3 c4 c5 c6 c7 c8 c9 ca cb v cd ce cf)) p
def Yg {β:Type} (p:VP) (v:V) (k:VP->β):β:=@VP.rec (fun _=>β) (fun c0 c1 c2 c3 c4 c5 c6 c7 c8 c9 ca cb cc cd ce cf=>k (.mk c0 c1 c2 c3 c4 c5 c6 c7 c8 c9 ca cb cc v ce cf)) p
def Yu {β:Type} (p:VP) (v:V) (k:VP->β):β:=@VP.rec (fun _=>β) (fun c0 c1 c2 c3 c4 c5 c6 c7 c8 c9 ca cb cc cd ce cf=>k (.mk c0 c1 c2 c3 c4 c5 c6 c7 c8 c9 ca cb cc cd v cf)) p
def YY {β:Type} (p:VP) (v:V) (k:VP->β):β:=@VP.rec (fun _=>β) (fun c0 c1 c2 c3 c4 c5 c6 c7 c8 c9 ca cb cc cd ce cf=>k (.mk c0 c1 c2 c3 c4 c5 c6 c7 c8 c9 ca cb cc cd ce v)) p
def vg0 {β:Type} (p:VP) (k:V->β):β:=@VP.rec (fun _=>β) (fun c0 c1 c2 c3 c4 c5 c6 c7 c8 c9 ca cb cc cd ce cf=>k c0) p
def ZM {β:Type} (p:VP) (k:V->β):β:=@VP.rec (fun _=>β) (fun c0 c1 c2 c3 c4 c5 c6 c7 c8 c9 ca cb cc cd ce cf=>k c1) p
def vg2 {β:Type} (p:VP) (k:V->β):β:=@VP.rec (fun _=>β) (fun c0 c1 c2 c3 c4 c5 c6 c7 c8 c9 ca cb cc cd ce cf=>k c2) p
def ZQ {β:Type} (p:VP) (k:V->β):β:=@VP.rec (fun _=>β) (fun c0 c1 c2 c3 c4 c5 c6 c7 c8 c9 ca cb cc cd ce cf=>k c3) p
def vg4 {β:Type} (p:VP) (k:V->β):β:=@VP.rec (fun _=>β) (fun c0 c1 c2 c3 c4 c5 c6 c7 c8 c9 ca cb cc cd ce cf=>k c4) p
def ZS {β:Type} (p:VP) (k:V->β):β:=@VP.rec (fun _=>β) (fun c0 c1 c2 c3 c4 c5 c6 c7 c8 c9 ca cb cc cd ce cf=>k c5) p
def ZX {β:Type} (p:VP) (k:V->β):β:=@VP.rec (fun _=>β) (fun c0 c1 c2 c3 c4 c5 c6 c7 c8 c9 ca cb cc cd ce cf=>k c6) p
def vg7 {β:Type} (p:VP) (k:V->β):β:=@VP.rec (fun _=>β) (fun c0 c1 c2 c3 c4 c5 c6 c7 c8 c9 ca cb cc cd ce cf=>k c7) p
def vg8 {β:Type} (p:VP) (k:V->β):β:=@VP.rec (fun _=>β) (fun c0 c1 c2 c3 c4 c5 c6 c7 c8 c9 ca cb cc cd ce cf=>k c8) p
def vg9 {β:Type} (p:VP) (k:V->β):β:=@VP.rec (fun _=>β) (fun c0 c1 c2 c3 c4 c5 c6 c7 c8 c9 ca cb cc cd ce cf=>k c9) p
def YP {β:Type} (p:VP) (k:V->β):β:=@VP.rec (fun _=>β) (fun c0 c1 c2 c3 c4 c5 c6 c7 c8 c9 ca cb cc cd ce cf=>k ca) p
def ZB {β:Type} (p:VP) (k:V->β):β:=@VP.rec (fun _=>β) (fun c0 c1 c2 c3 c4 c5 c6 c7 c8 c9 ca cb cc cd ce cf=>k cb) p
def Xp {β:Type} (p:VP) (k:V->β):β:=@VP.rec (fun _=>β) (fun c0 c1 c2 c3 c4 c5 c6 c7 c8 c9 ca cb cc cd ce cf=>k cc) p
def Zq {β:Type} (p:VP) (k:V->β):β:=@VP.rec (fun _=>β) (fun c0 c1 c2 c3 c4 c5 c6 c7 c8 c9 ca cb cc cd ce cf=>k cd) p
def Zo {β:Type} (p:VP) (k:V->β):β:=@VP.rec (fun _=>β) (fun c0 c1 c2 c3 c4 c5 c6 c7 c8 c9 ca cb cc cd ce cf=>k ce) p
def YH {β:Type} (p:VP) (k:V->β):β:=@VP.rec (fun _=>β) (fun c0 c1 c2 c3 c4 c5 c6 c7 c8 c9 ca cb cc cd ce cf=>k cf) p
def VP.selK {β:Type} (d:D):VP->(V->β)->β :=
 @D.rec (fun _=>VP->(V->β)->β) vg0 ZM vg2 ZQ vg4 ZS ZX vg7 vg8 vg9 YP ZB Xp Zq Zo YH d
theorem VP.selK_eq {β:Type} (d:D) (p:VP) (k:V->β):VP.selK d p k=k (VP.sel d p):=by
 cases d <;> cases p <;> rfl
def VP.setK {β:Type} (d:D):VP->V->(VP->β)->β :=
 @D.rec (fun _=>VP->V->(VP->β)->β) ZG ZI ZP vs3 ZR vs5 ZK ZN vs8 vs9 Zw WX YQ Yg Yu YY d
def VP.setS (d:D) (p:VP) (v:V):VP:=VP.setK d p v id
theorem VP.setK_eq {β:Type} (d:D) (p:VP) (v:V) (k:VP->β):VP.setK d p v k=k (VP.setS d p v):=by
 cases d <;> cases p <;> rfl
theorem VP.sel_setS_same (d:D) (p:VP) (v:V):VP.sel d (VP.setS d p v)=v:=by
 cases d <;> cases p <;> rfl
theorem VP.sel_setS_ne {d e:D} (p:VP) (v:V) (h:d≠e):VP.sel e (VP.setS d p v)=VP.sel e p:=by
 cases p; cases d <;> cases e <;> first | rfl | exact absurd rfl h
theorem VP.sel_all (d:D) (x:V):VP.sel d (VP.all x)=x:=by cases d <;> rfl
inductive Regs where
 | mk (c0 c1 c2 c3 c4 c5 c6 c7 c8 c9 ca cb cc cd ce cf:VP)
def Regs.all (x:VP):Regs:=.mk x x x x x x x x x x x x x x x x
def Regs.sel (d:D) (p:Regs):VP :=
 @Regs.rec (fun _=>VP) (fun c0 c1 c2 c3 c4 c5 c6 c7 c8 c9 ca cb cc cd ce cf=>@D.rec (fun _=>VP) c0 c1 c2 c3 c4 c5 c6 c7 c8 c9 ca cb cc cd ce cf d) p
def qs0 {β:Type} (p:Regs) (v:VP) (k:Regs->β):β:=@Regs.rec (fun _=>β) (fun c0 c1 c2 c3 c4 c5 c6 c7 c8 c9 ca cb cc cd ce cf=>k (.mk v c1 c2 c3 c4 c5 c6 c7 c8 c9 ca cb cc cd ce cf)) p
def ZL {β:Type} (p:Regs) (v:VP) (k:Regs->β):β:=@Regs.rec (fun _=>β) (fun c0 c1 c2 c3 c4 c5 c6 c7 c8 c9 ca cb cc cd ce cf=>k (.mk c0 v c2 c3 c4 c5 c6 c7 c8 c9 ca cb cc cd ce cf)) p
def qs2 {β:Type} (p:Regs) (v:VP) (k:Regs->β):β:=@Regs.rec (fun _=>β) (fun c0 c1 c2 c3 c4 c5 c6 c7 c8 c9 ca cb cc cd ce cf=>k (.mk c0 c1 v c3 c4 c5 c6 c7 c8 c9 ca cb cc cd ce cf)) p
def qs3 {β:Type} (p:Regs) (v:VP) (k:Regs->β):β:=@Regs.rec (fun _=>β) (fun c0 c1 c2 c3 c4 c5 c6 c7 c8 c9 ca cb cc cd ce cf=>k (.mk c0 c1 c2 v c4 c5 c6 c7 c8 c9 ca cb cc cd ce cf)) p
def qs4 {β:Type} (p:Regs) (v:VP) (k:Regs->β):β:=@Regs.rec (fun _=>β) (fun c0 c1 c2 c3 c4 c5 c6 c7 c8 c9 ca cb cc cd ce cf=>k (.mk c0 c1 c2 c3 v c5 c6 c7 c8 c9 ca cb cc cd ce cf)) p
def qs5 {β:Type} (p:Regs) (v:VP) (k:Regs->β):β:=@Regs.rec (fun _=>β) (fun c0 c1 c2 c3 c4 c5 c6 c7 c8 c9 ca cb cc cd ce cf=>k (.mk c0 c1 c2 c3 c4 v c6 c7 c8 c9 ca cb cc cd ce cf)) p
def qs6 {β:Type} (p:Regs) (v:VP) (k:Regs->β):β:=@Regs.rec (fun _=>β) (fun c0 c1 c2 c3 c4 c5 c6 c7 c8 c9 ca cb cc cd ce cf=>k (.mk c0 c1 c2 c3 c4 c5 v c7 c8 c9 ca cb cc cd ce cf)) p
def qs7 {β:Type} (p:Regs) (v:VP) (k:Regs->β):β:=@Regs.rec (fun _=>β) (fun c0 c1 c2 c3 c4 c5 c6 c7 c8 c9 ca cb cc cd ce cf=>k (.mk c0 c1 c2 c3 c4 c5 c6 v c8 c9 ca cb cc cd ce cf)) p
def qs8 {β:Type} (p:Regs) (v:VP) (k:Regs->β):β:=@Regs.rec (fun _=>β) (fun c0 c1 c2 c3 c4 c5 c6 c7 c8 c9 ca cb cc cd ce cf=>k (.mk c0 c1 c2 c3 c4 c5 c6 c7 v c9 ca cb cc cd ce cf)) p
def qs9 {β:Type} (p:Regs) (v:VP) (k:Regs->β):β:=@Regs.rec (fun _=>β) (fun c0 c1 c2 c3 c4 c5 c6 c7 c8 c9 ca cb cc cd ce cf=>k (.mk c0 c1 c2 c3 c4 c5 c6 c7 c8 v ca cb cc cd ce cf)) p
def XQ {β:Type} (p:Regs) (v:VP) (k:Regs->β):β:=@Regs.rec (fun _=>β) (fun c0 c1 c2 c3 c4 c5 c6 c7 c8 c9 ca cb cc cd ce cf=>k (.mk c0 c1 c2 c3 c4 c5 c6 c7 c8 c9 v cb cc cd ce cf)) p
def Yh {β:Type} (p:Regs) (v:VP) (k:Regs->β):β:=@Regs.rec (fun _=>β) (fun c0 c1 c2 c3 c4 c5 c6 c7 c8 c9 ca cb cc cd ce cf=>k (.mk c0 c1 c2 c3 c4 c5 c6 c7 c8 c9 ca v cc cd ce cf)) p
def Yq {β:Type} (p:Regs) (v:VP) (k:Regs->β):β:=@Regs.rec (fun _=>β) (fun c0 c1 c2 c3 c4 c5 c6 c7 c8 c9 ca cb cc cd ce cf=>k (.mk c0 c1 c2 c3 c4 c5 c6 c7 c8 c9 ca cb v cd ce cf)) p
def Xh {β:Type} (p:Regs) (v:VP) (k:Regs->β):β:=@Regs.rec (fun _=>β) (fun c0 c1 c2 c3 c4 c5 c6 c7 c8 c9 ca cb cc cd ce cf=>k (.mk c0 c1 c2 c3 c4 c5 c6 c7 c8 c9 ca cb cc v ce cf)) p
def Z6 {β:Type} (p:Regs) (v:VP) (k:Regs->β):β:=@Regs.rec (fun _=>β) (fun c0 c1 c2 c3 c4 c5 c6 c7 c8 c9 ca cb cc cd ce cf=>k (.mk c0 c1 c2 c3 c4 c5 c6 c7 c8 c9 ca cb cc cd v cf)) p
def XO {β:Type} (p:Regs) (v:VP) (k:Regs->β):β:=@Regs.rec (fun _=>β) (fun c0 c1 c2 c3 c4 c5 c6 c7 c8 c9 ca cb cc cd ce cf=>k (.mk c0 c1 c2 c3 c4 c5 c6 c7 c8 c9 ca cb cc cd ce v)) p
def qg0 {β:Type} (p:Regs) (k:VP->β):β:=@Regs.rec (fun _=>β) (fun c0 c1 c2 c3 c4 c5 c6 c7 c8 c9 ca cb cc cd ce cf=>k c0) p
def qg1 {β:Type} (p:Regs) (k:VP->β):β:=@Regs.rec (fun _=>β) (fun c0 c1 c2 c3 c4 c5 c6 c7 c8 c9 ca cb cc cd ce cf=>k c1) p
def qg2 {β:Type} (p:Regs) (k:VP->β):β:=@Regs.rec (fun _=>β) (fun c0 c1 c2 c3 c4 c5 c6 c7 c8 c9 ca cb cc cd ce cf=>k c2) p
def qg3 {β:Type} (p:Regs) (k:VP->β):β:=@Regs.rec (fun _=>β) (fun c0 c1 c2 c3 c4 c5 c6 c7 c8 c9 ca cb cc cd ce cf=>k c3) p
def ZU {β:Type} (p:Regs) (k:VP->β):β:=@Regs.rec (fun _=>β) (fun c0 c1 c2 c3 c4 c5 c6 c7 c8 c9 ca cb cc cd ce cf=>k c4) p
def qg5 {β:Type} (p:Regs) (k:VP->β):β:=@Regs.rec (fun _=>β) (fun c0 c1 c2 c3 c4 c5 c6 c7 c8 c9 ca cb cc cd ce cf=>k c5) p
def qg6 {β:Type} (p:Regs) (k:VP->β):β:=@Regs.rec (fun _=>β) (fun c0 c1 c2 c3 c4 c5 c6 c7 c8 c9 ca cb cc cd ce cf=>k c6) p
def ZW {β:Type} (p:Regs) (k:VP->β):β:=@Regs.rec (fun _=>β) (fun c0 c1 c2 c3 c4 c5 c6 c7 c8 c9 ca cb cc cd ce cf=>k c7) p
def qg8 {β:Type} (p:Regs) (k:VP->β):β:=@Regs.rec (fun _=>β) (fun c0 c1 c2 c3 c4 c5 c6 c7 c8 c9 ca cb cc cd ce cf=>k c8) p
def qg9 {β:Type} (p:Regs) (k:VP->β):β:=@Regs.rec (fun _=>β) (fun c0 c1 c2 c3 c4 c5 c6 c7 c8 c9 ca cb cc cd ce cf=>k c9) p
def WP {β:Type} (p:Regs) (k:VP->β):β:=@Regs.rec (fun _=>β) (fun c0 c1 c2 c3 c4 c5 c6 c7 c8 c9 ca cb cc cd ce cf=>k ca) p
def Xt {β:Type} (p:Regs) (k:VP->β):β:=@Regs.rec (fun _=>β) (fun c0 c1 c2 c3 c4 c5 c6 c7 c8 c9 ca cb cc cd ce cf=>k cb) p
def Za {β:Type} (p:Regs) (k:VP->β):β:=@Regs.rec (fun _=>β) (fun c0 c1 c2 c3 c4 c5 c6 c7 c8 c9 ca cb cc cd ce cf=>k cc) p
def Y3 {β:Type} (p:Regs) (k:VP->β):β:=@Regs.rec (fun _=>β) (fun c0 c1 c2 c3 c4 c5 c6 c7 c8 c9 ca cb cc cd ce cf=>k cd) p
def XB {β:Type} (p:Regs) (k:VP->β):β:=@Regs.rec (fun _=>β) (fun c0 c1 c2 c3 c4 c5 c6 c7 c8 c9 ca cb cc cd ce cf=>k ce) p
def YK {β:Type} (p:Regs) (k:VP->β):β:=@Regs.rec (fun _=>β) (fun c0 c1 c2 c3 c4 c5 c6 c7 c8 c9 ca cb cc cd ce cf=>k cf) p
def Regs.selK {β:Type} (d:D):Regs->(VP->β)->β :=
 @D.rec (fun _=>Regs->(VP->β)->β) qg0 qg1 qg2 qg3 ZU qg5 qg6 ZW qg8 qg9 WP Xt Za Y3 XB YK d
theorem Regs.selK_eq {β:Type} (d:D) (p:Regs) (k:VP->β):Regs.selK d p k=k (Regs.sel d p):=by
 cases d <;> cases p <;> rfl
def Regs.setK {β:Type} (d:D):Regs->VP->(Regs->β)->β :=
 @D.rec (fun _=>Regs->VP->(Regs->β)->β) qs0 ZL qs2 qs3 qs4 qs5 qs6 qs7 qs8 qs9 XQ Yh Yq Xh Z6 XO d
def Regs.setS (d:D) (p:Regs) (v:VP):Regs:=Regs.setK d p v id
theorem Regs.setK_eq {β:Type} (d:D) (p:Regs) (v:VP) (k:Regs->β):Regs.setK d p v k=k (Regs.setS d p v):=by
 cases d <;> cases p <;> rfl
theorem Regs.sel_setS_same (d:D) (p:Regs) (v:VP):Regs.sel d (Regs.setS d p v)=v:=by
 cases d <;> cases p <;> rfl
theorem Regs.sel_setS_ne {d e:D} (p:Regs) (v:VP) (h:d≠e):Regs.sel e (Regs.setS d p v)=Regs.sel e p:=by
 cases p; cases d <;> cases e <;> first | rfl | exact absurd rfl h
theorem Regs.sel_all (d:D) (x:VP):Regs.sel d (Regs.all x)=x:=by cases d <;> rfl
inductive HA where
 | mk (c0 c1 c2 c3 c4 c5 c6 c7 c8 c9 ca cb cc cd ce cf:C3)
def HA.all (x:C3):HA:=.mk x x x x x x x x x x x x x x x x
def HA.sel (d:D) (p:HA):C3 :=
 @HA.rec (fun _=>C3) (fun c0 c1 c2 c3 c4 c5 c6 c7 c8 c9 ca cb cc cd ce cf=>@D.rec (fun _=>C3) c0 c1 c2 c3 c4 c5 c6 c7 c8 c9 ca cb cc cd ce cf d) p
def XR {β:Type} (p:HA) (v:C3) (k:HA->β):β:=@HA.rec (fun _=>β) (fun c0 c1 c2 c3 c4 c5 c6 c7 c8 c9 ca cb cc cd ce cf=>k (.mk v c1 c2 c3 c4 c5 c6 c7 c8 c9 ca cb cc cd ce cf)) p
def Y5 {β:Type} (p:HA) (v:C3) (k:HA->β):β:=@HA.rec (fun _=>β) (fun c0 c1 c2 c3 c4 c5 c6 c7 c8 c9 ca cb cc cd ce cf=>k (.mk c0 v c2 c3 c4 c5 c6 c7 c8 c9 ca cb cc cd ce cf)) p
def Z2 {β:Type} (p:HA) (v:C3) (k:HA->β):β:=@HA.rec (fun _=>β) (fun c0 c1 c2 c3 c4 c5 c6 c7 c8 c9 ca cb cc cd ce cf=>k (.mk c0 c1 v c3 c4 c5 c6 c7 c8 c9 ca cb cc cd ce cf)) p
def Yr {β:Type} (p:HA) (v:C3) (k:HA->β):β:=@HA.rec (fun _=>β) (fun c0 c1 c2 c3 c4 c5 c6 c7 c8 c9 ca cb cc cd ce cf=>k (.mk c0 c1 c2 v c4 c5 c6 c7 c8 c9 ca cb cc cd ce cf)) p
def YC {β:Type} (p:HA) (v:C3) (k:HA->β):β:=@HA.rec (fun _=>β) (fun c0 c1 c2 c3 c4 c5 c6 c7 c8 c9 ca cb cc cd ce cf=>k (.mk c0 c1 c2 c3 v c5 c6 c7 c8 c9 ca cb cc cd ce cf)) p
def Yc {β:Type} (p:HA) (v:C3) (k:HA->β):β:=@HA.rec (fun _=>β) (fun c0 c1 c2 c3 c4 c5 c6 c7 c8 c9 ca cb cc cd ce cf=>k (.mk c0 c1 c2 c3 c4 v c6 c7 c8 c9 ca cb cc cd ce cf)) p
def XK {β:Type} (p:HA) (v:C3) (k:HA->β):β:=@HA.rec (fun _=>β) (fun c0 c1 c2 c3 c4 c5 c6 c7 c8 c9 ca cb cc cd ce cf=>k (.mk c0 c1 c2 c3 c4 c5 v c7 c8 c9 ca cb cc cd ce cf)) p
def X3 {β:Type} (p:HA) (v:C3) (k:HA->β):β:=@HA.rec (fun _=>β) (fun c0 c1 c2 c3 c4 c5 c6 c7 c8 c9 ca cb cc cd ce cf=>k (.mk c0 c1 c2 c3 c4 c5 c6 v c8 c9 ca cb cc cd ce cf)) p
def YS {β:Type} (p:HA) (v:C3) (k:HA->β):β:=@HA.rec (fun _=>β) (fun c0 c1 c2 c3 c4 c5 c6 c7 c8 c9 ca cb cc cd ce cf=>k (.mk c0 c1 c2 c3 c4 c5 c6 c7 v c9 ca cb cc cd ce cf)) p
def WL {β:Type} (p:HA) (v:C3) (k:HA->β):β:=@HA.rec (fun _=>β) (fun c0 c1 c2 c3 c4 c5 c6 c7 c8 c9 ca cb cc cd ce cf=>k (.mk c0 c1 c2 c3 c4 c5 c6 c7 c8 v ca cb cc cd ce cf)) p
def Vc {β:Type} (p:HA) (v:C3) (k:HA->β):β:=@HA.rec (fun _=>β) (fun c0 c1 c2 c3 c4 c5 c6 c7 c8 c9 ca cb cc cd ce cf=>k (.mk c0 c1 c2 c3 c4 c5 c6 c7 c8 c9 v cb cc cd ce cf)) p
def Vj {β:Type} (p:HA) (v:C3) (k:HA->β):β:=@HA.rec (fun _=>β) (fun c0 c1 c2 c3 c4 c5 c6 c7 c8 c9 ca cb cc cd ce cf=>k (.mk c0 c1 c2 c3 c4 c5 c6 c7 c8 c9 ca v cc cd ce cf)) p
def VV {β:Type} (p:HA) (v:C3) (k:HA->β):β:=@HA.rec (fun _=>β) (fun c0 c1 c2 c3 c4 c5 c6 c7 c8 c9 ca cb cc cd ce cf=>k (.mk c0 c1 c2 c3 c4 c5 c6 c7 c8 c9 ca cb v cd ce cf)) p
def UZ {β:Type} (p:HA) (v:C3) (k:HA->β):β:=@HA.rec (fun _=>β) (fun c0 c1 c2 c3 c4 c5 c6 c7 c8 c9 ca cb cc cd ce cf=>k (.mk c0 c1 c2 c3 c4 c5 c6 c7 c8 c9 ca cb cc v ce cf)) p
def V5 {β:Type} (p:HA) (v:C3) (k:HA->β):β:=@HA.rec (fun _=>β) (fun c0 c1 c2 c3 c4 c5 c6 c7 c8 c9 ca cb cc cd ce cf=>k (.mk c0 c1 c2 c3 c4 c5 c6 c7 c8 c9 ca cb cc cd v cf)) p
def VM {β:Type} (p:HA) (v:C3) (k:HA->β):β:=@HA.rec (fun _=>β) (fun c0 c1 c2 c3 c4 c5 c6 c7 c8 c9 ca cb cc cd ce cf=>k (.mk c0 c1 c2 c3 c4 c5 c6 c7 c8 c9 ca cb cc cd ce v)) p
def YU {β:Type} (p:HA) (k:C3->β):β:=@HA.rec (fun _=>β) (fun c0 c1 c2 c3 c4 c5 c6 c7 c8 c9 ca cb cc cd ce cf=>k c0) p
def Xf {β:Type} (p:HA) (k:C3->β):β:=@HA.rec (fun _=>β) (fun c0 c1 c2 c3 c4 c5 c6 c7 c8 c9 ca cb cc cd ce cf=>k c1) p
def Zd {β:Type} (p:HA) (k:C3->β):β:=@HA.rec (fun _=>β) (fun c0 c1 c2 c3 c4 c5 c6 c7 c8 c9 ca cb cc cd ce cf=>k c2) p
def YF {β:Type} (p:HA) (k:C3->β):β:=@HA.rec (fun _=>β) (fun c0 c1 c2 c3 c4 c5 c6 c7 c8 c9 ca cb cc cd ce cf=>k c3) p
def Xu {β:Type} (p:HA) (k:C3->β):β:=@HA.rec (fun _=>β) (fun c0 c1 c2 c3 c4 c5 c6 c7 c8 c9 ca cb cc cd ce cf=>k c4) p
def Xl {β:Type} (p:HA) (k:C3->β):β:=@HA.rec (fun _=>β) (fun c0 c1 c2 c3 c4 c5 c6 c7 c8 c9 ca cb cc cd ce cf=>k c5) p
def YO {β:Type} (p:HA) (k:C3->β):β:=@HA.rec (fun _=>β) (fun c0 c1 c2 c3 c4 c5 c6 c7 c8 c9 ca cb cc cd ce cf=>k c6) p
def XL {β:Type} (p:HA) (k:C3->β):β:=@HA.rec (fun _=>β) (fun c0 c1 c2 c3 c4 c5 c6 c7 c8 c9 ca cb cc cd ce cf=>k c7) p
def XU {β:Type} (p:HA) (k:C3->β):β:=@HA.rec (fun _=>β) (fun c0 c1 c2 c3 c4 c5 c6 c7 c8 c9 ca cb cc cd ce cf=>k c8) p
def Y1 {β:Type} (p:HA) (k:C3->β):β:=@HA.rec (fun _=>β) (fun c0 c1 c2 c3 c4 c5 c6 c7 c8 c9 ca cb cc cd ce cf=>k c9) p
def V3 {β:Type} (p:HA) (k:C3->β):β:=@HA.rec (fun _=>β) (fun c0 c1 c2 c3 c4 c5 c6 c7 c8 c9 ca cb cc cd ce cf=>k ca) p
def VS {β:Type} (p:HA) (k:C3->β):β:=@HA.rec (fun _=>β) (fun c0 c1 c2 c3 c4 c5 c6 c7 c8 c9 ca cb cc cd ce cf=>k cb) p
def VF {β:Type} (p:HA) (k:C3->β):β:=@HA.rec (fun _=>β) (fun c0 c1 c2 c3 c4 c5 c6 c7 c8 c9 ca cb cc cd ce cf=>k cc) p
def Wi {β:Type} (p:HA) (k:C3->β):β:=@HA.rec (fun _=>β) (fun c0 c1 c2 c3 c4 c5 c6 c7 c8 c9 ca cb cc cd ce cf=>k cd) p
def UW {β:Type} (p:HA) (k:C3->β):β:=@HA.rec (fun _=>β) (fun c0 c1 c2 c3 c4 c5 c6 c7 c8 c9 ca cb cc cd ce cf=>k ce) p
def Vh {β:Type} (p:HA) (k:C3->β):β:=@HA.rec (fun _=>β) (fun c0 c1 c2 c3 c4 c5 c6 c7 c8 c9 ca cb cc cd ce cf=>k cf) p
def HA.selK {β:Type} (d:D):HA->(C3->β)->β :=
 @D.rec (fun _=>HA->(C3->β)->β) YU Xf Zd YF Xu Xl YO XL XU Y1 V3 VS VF Wi UW Vh d
theorem HA.selK_eq {β:Type} (d:D) (p:HA) (k:C3->β):HA.selK d p k=k (HA.sel d p):=by
 cases d <;> cases p <;> rfl
def HA.setK {β:Type} (d:D):HA->C3->(HA->β)->β :=
 @D.rec (fun _=>HA->C3->(HA->β)->β) XR Y5 Z2 Yr YC Yc XK X3 YS WL Vc Vj VV UZ V5 VM d
def HA.setS (d:D) (p:HA) (v:C3):HA:=HA.setK d p v id
theorem HA.setK_eq {β:Type} (d:D) (p:HA) (v:C3) (k:HA->β):HA.setK d p v k=k (HA.setS d p v):=by
 cases d <;> cases p <;> rfl
theorem HA.sel_setS_same (d:D) (p:HA) (v:C3):HA.sel d (HA.setS d p v)=v:=by
 cases d <;> cases p <;> rfl
theorem HA.sel_setS_ne {d e:D} (p:HA) (v:C3) (h:d≠e):HA.sel e (HA.setS d p v)=HA.sel e p:=by
 cases p; cases d <;> cases e <;> first | rfl | exact absurd rfl h
theorem HA.sel_all (d:D) (x:C3):HA.sel d (HA.all x)=x:=by cases d <;> rfl
inductive HB where
 | mk (c0 c1 c2 c3 c4 c5 c6 c7 c8 c9 ca cb cc cd ce cf:HA)
def HB.all (x:HA):HB:=.mk x x x x x x x x x x x x x x x x
def HB.sel (d:D) (p:HB):HA :=
 @HB.rec (fun _=>HA) (fun c0 c1 c2 c3 c4 c5 c6 c7 c8 c9 ca cb cc cd ce cf=>@D.rec (fun _=>HA) c0 c1 c2 c3 c4 c5 c6 c7 c8 c9 ca cb cc cd ce cf d) p
def Zs {β:Type} (p:HB) (v:HA) (k:HB->β):β:=@HB.rec (fun _=>β) (fun c0 c1 c2 c3 c4 c5 c6 c7 c8 c9 ca cb cc cd ce cf=>k (.mk v c1 c2 c3 c4 c5 c6 c7 c8 c9 ca cb cc cd ce cf)) p
def ZC {β:Type} (p:HB) (v:HA) (k:HB->β):β:=@HB.rec (fun _=>β) (fun c0 c1 c2 c3 c4 c5 c6 c7 c8 c9 ca cb cc cd ce cf=>k (.mk c0 v c2 c3 c4 c5 c6 c7 c8 c9 ca cb cc cd ce cf)) p
def XW {β:Type} (p:HB) (v:HA) (k:HB->β):β:=@HB.rec (fun _=>β) (fun c0 c1 c2 c3 c4 c5 c6 c7 c8 c9 ca cb cc cd ce cf=>k (.mk c0 c1 v c3 c4 c5 c6 c7 c8 c9 ca cb cc cd ce cf)) p
def Yn {β:Type} (p:HB) (v:HA) (k:HB->β):β:=@HB.rec (fun _=>β) (fun c0 c1 c2 c3 c4 c5 c6 c7 c8 c9 ca cb cc cd ce cf=>k (.mk c0 c1 c2 v c4 c5 c6 c7 c8 c9 ca cb cc cd ce cf)) p
def Xr {β:Type} (p:HB) (v:HA) (k:HB->β):β:=@HB.rec (fun _=>β) (fun c0 c1 c2 c3 c4 c5 c6 c7 c8 c9 ca cb cc cd ce cf=>k (.mk c0 c1 c2 c3 v c5 c6 c7 c8 c9 ca cb cc cd ce cf)) p
def Yj {β:Type} (p:HB) (v:HA) (k:HB->β):β:=@HB.rec (fun _=>β) (fun c0 c1 c2 c3 c4 c5 c6 c7 c8 c9 ca cb cc cd ce cf=>k (.mk c0 c1 c2 c3 c4 v c6 c7 c8 c9 ca cb cc cd ce cf)) p
def Zy {β:Type} (p:HB) (v:HA) (k:HB->β):β:=@HB.rec (fun _=>β) (fun c0 c1 c2 c3 c4 c5 c6 c7 c8 c9 ca cb cc cd ce cf=>k (.mk c0 c1 c2 c3 c4 c5 v c7 c8 c9 ca cb cc cd ce cf)) p
def Zv {β:Type} (p:HB) (v:HA) (k:HB->β):β:=@HB.rec (fun _=>β) (fun c0 c1 c2 c3 c4 c5 c6 c7 c8 c9 ca cb cc cd ce cf=>k (.mk c0 c1 c2 c3 c4 c5 c6 v c8 c9 ca cb cc cd ce cf)) p
def Z1 {β:Type} (p:HB) (v:HA) (k:HB->β):β:=@HB.rec (fun _=>β) (fun c0 c1 c2 c3 c4 c5 c6 c7 c8 c9 ca cb cc cd ce cf=>k (.mk c0 c1 c2 c3 c4 c5 c6 c7 v c9 ca cb cc cd ce cf)) p
def WO {β:Type} (p:HB) (v:HA) (k:HB->β):β:=@HB.rec (fun _=>β) (fun c0 c1 c2 c3 c4 c5 c6 c7 c8 c9 ca cb cc cd ce cf=>k (.mk c0 c1 c2 c3 c4 c5 c6 c7 c8 v ca cb cc cd ce cf)) p
def VA {β:Type} (p:HB) (v:HA) (k:HB->β):β:=@HB.rec (fun _=>β) (fun c0 c1 c2 c3 c4 c5 c6 c7 c8 c9 ca cb cc cd ce cf=>k (.mk c0 c1 c2 c3 c4 c5 c6 c7 c8 c9 v cb cc cd ce cf)) p
def Wf {β:Type} (p:HB) (v:HA) (k:HB->β):β:=@HB.rec (fun _=>β) (fun c0 c1 c2 c3 c4 c5 c6 c7 c8 c9 ca cb cc cd ce cf=>k (.mk c0 c1 c2 c3 c4 c5 c6 c7 c8 c9 ca v cc cd ce cf)) p
def Wl {β:Type} (p:HB) (v:HA) (k:HB->β):β:=@HB.rec (fun _=>β) (fun c0 c1 c2 c3 c4 c5 c6 c7 c8 c9 ca cb cc cd ce cf=>k (.mk c0 c1 c2 c3 c4 c5 c6 c7 c8 c9 ca cb v cd ce cf)) p
def Vn {β:Type} (p:HB) (v:HA) (k:HB->β):β:=@HB.rec (fun _=>β) (fun c0 c1 c2 c3 c4 c5 c6 c7 c8 c9 ca cb cc cd ce cf=>k (.mk c0 c1 c2 c3 c4 c5 c6 c7 c8 c9 ca cb cc v ce cf)) p
def V9 {β:Type} (p:HB) (v:HA) (k:HB->β):β:=@HB.rec (fun _=>β) (fun c0 c1 c2 c3 c4 c5 c6 c7 c8 c9 ca cb cc cd ce cf=>k (.mk c0 c1 c2 c3 c4 c5 c6 c7 c8 c9 ca cb cc cd v cf)) p
def W2 {β:Type} (p:HB) (v:HA) (k:HB->β):β:=@HB.rec (fun _=>β) (fun c0 c1 c2 c3 c4 c5 c6 c7 c8 c9 ca cb cc cd ce cf=>k (.mk c0 c1 c2 c3 c4 c5 c6 c7 c8 c9 ca cb cc cd ce v)) p
def Yd {β:Type} (p:HB) (k:HA->β):β:=@HB.rec (fun _=>β) (fun c0 c1 c2 c3 c4 c5 c6 c7 c8 c9 ca cb cc cd ce cf=>k c0) p
def X9 {β:Type} (p:HB) (k:HA->β):β:=@HB.rec (fun _=>β) (fun c0 c1 c2 c3 c4 c5 c6 c7 c8 c9 ca cb cc cd ce cf=>k c1) p
def XY {β:Type} (p:HB) (k:HA->β):β:=@HB.rec (fun _=>β) (fun c0 c1 c2 c3 c4 c5 c6 c7 c8 c9 ca cb cc cd ce cf=>k c2) p
def WY {β:Type} (p:HB) (k:HA->β):β:=@HB.rec (fun _=>β) (fun c0 c1 c2 c3 c4 c5 c6 c7 c8 c9 ca cb cc cd ce cf=>k c3) p
def Yy {β:Type} (p:HB) (k:HA->β):β:=@HB.rec (fun _=>β) (fun c0 c1 c2 c3 c4 c5 c6 c7 c8 c9 ca cb cc cd ce cf=>k c4) p
def Zr {β:Type} (p:HB) (k:HA->β):β:=@HB.rec (fun _=>β) (fun c0 c1 c2 c3 c4 c5 c6 c7 c8 c9 ca cb cc cd ce cf=>k c5) p
def XN {β:Type} (p:HB) (k:HA->β):β:=@HB.rec (fun _=>β) (fun c0 c1 c2 c3 c4 c5 c6 c7 c8 c9 ca cb cc cd ce cf=>k c6) p
def ZD {β:Type} (p:HB) (k:HA->β):β:=@HB.rec (fun _=>β) (fun c0 c1 c2 c3 c4 c5 c6 c7 c8 c9 ca cb cc cd ce cf=>k c7) p
def WS {β:Type} (p:HB) (k:HA->β):β:=@HB.rec (fun _=>β) (fun c0 c1 c2 c3 c4 c5 c6 c7 c8 c9 ca cb cc cd ce cf=>k c8) p
def Yp {β:Type} (p:HB) (k:HA->β):β:=@HB.rec (fun _=>β) (fun c0 c1 c2 c3 c4 c5 c6 c7 c8 c9 ca cb cc cd ce cf=>k c9) p
def Vv {β:Type} (p:HB) (k:HA->β):β:=@HB.rec (fun _=>β) (fun c0 c1 c2 c3 c4 c5 c6 c7 c8 c9 ca cb cc cd ce cf=>k ca) p
def Wh {β:Type} (p:HB) (k:HA->β):β:=@HB.rec (fun _=>β) (fun c0 c1 c2 c3 c4 c5 c6 c7 c8 c9 ca cb cc cd ce cf=>k cb) p
def UO {β:Type} (p:HB) (k:HA->β):β:=@HB.rec (fun _=>β) (fun c0 c1 c2 c3 c4 c5 c6 c7 c8 c9 ca cb cc cd ce cf=>k cc) p
def VR {β:Type} (p:HB) (k:HA->β):β:=@HB.rec (fun _=>β) (fun c0 c1 c2 c3 c4 c5 c6 c7 c8 c9 ca cb cc cd ce cf=>k cd) p
def W5 {β:Type} (p:HB) (k:HA->β):β:=@HB.rec (fun _=>β) (fun c0 c1 c2 c3 c4 c5 c6 c7 c8 c9 ca cb cc cd ce cf=>k ce) p
def Vw {β:Type} (p:HB) (k:HA->β):β:=@HB.rec (fun _=>β) (fun c0 c1 c2 c3 c4 c5 c6 c7 c8 c9 ca cb cc cd ce cf=>k cf) p
def HB.selK {β:Type} (d:D):HB->(HA->β)->β :=
 @D.rec (fun _=>HB->(HA->β)->β) Yd X9 XY WY Yy Zr XN ZD WS Yp Vv Wh UO VR W5 Vw d
theorem HB.selK_eq {β:Type} (d:D) (p:HB) (k:HA->β):HB.selK d p k=k (HB.sel d p):=by
 cases d <;> cases p <;> rfl
def HB.setK {β:Type} (d:D):HB->HA->(HB->β)->β :=
 @D.rec (fun _=>HB->HA->(HB->β)->β) Zs ZC XW Yn Xr Yj Zy Zv Z1 WO VA Wf Wl Vn V9 W2 d
def HB.setS (d:D) (p:HB) (v:HA):HB:=HB.setK d p v id
theorem HB.setK_eq {β:Type} (d:D) (p:HB) (v:HA) (k:HB->β):HB.setK d p v k=k (HB.setS d p v):=by
 cases d <;> cases p <;> rfl
theorem HB.sel_setS_same (d:D) (p:HB) (v:HA):HB.sel d (HB.setS d p v)=v:=by
 cases d <;> cases p <;> rfl
theorem HB.sel_setS_ne {d e:D} (p:HB) (v:HA) (h:d≠e):HB.sel e (HB.setS d p v)=HB.sel e p:=by
 cases p; cases d <;> cases e <;> first | rfl | exact absurd rfl h
theorem HB.sel_all (d:D) (x:HA):HB.sel d (HB.all x)=x:=by cases d <;> rfl
inductive HC where
 | mk (c0 c1 c2 c3 c4 c5 c6 c7 c8 c9 ca cb cc cd ce cf:HB)
def HC.all (x:HB):HC:=.mk x x x x x x x x x x x x x x x x
def HC.sel (d:D) (p:HC):HB :=
 @HC.rec (fun _=>HB) (fun c0 c1 c2 c3 c4 c5 c6 c7 c8 c9 ca cb cc cd ce cf=>@D.rec (fun _=>HB) c0 c1 c2 c3 c4 c5 c6 c7 c8 c9 ca cb cc cd ce cf d) p
def Z0 {β:Type} (p:HC) (v:HB) (k:HC->β):β:=@HC.rec (fun _=>β) (fun c0 c1 c2 c3 c4 c5 c6 c7 c8 c9 ca cb cc cd ce cf=>k (.mk v c1 c2 c3 c4 c5 c6 c7 c8 c9 ca cb cc cd ce cf)) p
def Yb {β:Type} (p:HC) (v:HB) (k:HC->β):β:=@HC.rec (fun _=>β) (fun c0 c1 c2 c3 c4 c5 c6 c7 c8 c9 ca cb cc cd ce cf=>k (.mk c0 v c2 c3 c4 c5 c6 c7 c8 c9 ca cb cc cd ce cf)) p
def X8 {β:Type} (p:HC) (v:HB) (k:HC->β):β:=@HC.rec (fun _=>β) (fun c0 c1 c2 c3 c4 c5 c6 c7 c8 c9 ca cb cc cd ce cf=>k (.mk c0 c1 v c3 c4 c5 c6 c7 c8 c9 ca cb cc cd ce cf)) p
def Ym {β:Type} (p:HC) (v:HB) (k:HC->β):β:=@HC.rec (fun _=>β) (fun c0 c1 c2 c3 c4 c5 c6 c7 c8 c9 ca cb cc cd ce cf=>k (.mk c0 c1 c2 v c4 c5 c6 c7 c8 c9 ca cb cc cd ce cf)) p
def X6 {β:Type} (p:HC) (v:HB) (k:HC->β):β:=@HC.rec (fun _=>β) (fun c0 c1 c2 c3 c4 c5 c6 c7 c8 c9 ca cb cc cd ce cf=>k (.mk c0 c1 c2 c3 v c5 c6 c7 c8 c9 ca cb cc cd ce cf)) p
def Z9 {β:Type} (p:HC) (v:HB) (k:HC->β):β:=@HC.rec (fun _=>β) (fun c0 c1 c2 c3 c4 c5 c6 c7 c8 c9 ca cb cc cd ce cf=>k (.mk c0 c1 c2 c3 c4 v c6 c7 c8 c9 ca cb cc cd ce cf)) p
def Zh {β:Type} (p:HC) (v:HB) (k:HC->β):β:=@HC.rec (fun _=>β) (fun c0 c1 c2 c3 c4 c5 c6 c7 c8 c9 ca cb cc cd ce cf=>k (.mk c0 c1 c2 c3 c4 c5 v c7 c8 c9 ca cb cc cd ce cf)) p
def WV {β:Type} (p:HC) (v:HB) (k:HC->β):β:=@HC.rec (fun _=>β) (fun c0 c1 c2 c3 c4 c5 c6 c7 c8 c9 ca cb cc cd ce cf=>k (.mk c0 c1 c2 c3 c4 c5 c6 v c8 c9 ca cb cc cd ce cf)) p
def Xo {β:Type} (p:HC) (v:HB) (k:HC->β):β:=@HC.rec (fun _=>β) (fun c0 c1 c2 c3 c4 c5 c6 c7 c8 c9 ca cb cc cd ce cf=>k (.mk c0 c1 c2 c3 c4 c5 c6 c7 v c9 ca cb cc cd ce cf)) p
def Zf {β:Type} (p:HC) (v:HB) (k:HC->β):β:=@HC.rec (fun _=>β) (fun c0 c1 c2 c3 c4 c5 c6 c7 c8 c9 ca cb cc cd ce cf=>k (.mk c0 c1 c2 c3 c4 c5 c6 c7 c8 v ca cb cc cd ce cf)) p
def We {β:Type} (p:HC) (v:HB) (k:HC->β):β:=@HC.rec (fun _=>β) (fun c0 c1 c2 c3 c4 c5 c6 c7 c8 c9 ca cb cc cd ce cf=>k (.mk c0 c1 c2 c3 c4 c5 c6 c7 c8 c9 v cb cc cd ce cf)) p
def UL {β:Type} (p:HC) (v:HB) (k:HC->β):β:=@HC.rec (fun _=>β) (fun c0 c1 c2 c3 c4 c5 c6 c7 c8 c9 ca cb cc cd ce cf=>k (.mk c0 c1 c2 c3 c4 c5 c6 c7 c8 c9 ca v cc cd ce cf)) p
def Wa {β:Type} (p:HC) (v:HB) (k:HC->β):β:=@HC.rec (fun _=>β) (fun c0 c1 c2 c3 c4 c5 c6 c7 c8 c9 ca cb cc cd ce cf=>k (.mk c0 c1 c2 c3 c4 c5 c6 c7 c8 c9 ca cb v cd ce cf)) p
def W8 {β:Type} (p:HC) (v:HB) (k:HC->β):β:=@HC.rec (fun _=>β) (fun c0 c1 c2 c3 c4 c5 c6 c7 c8 c9 ca cb cc cd ce cf=>k (.mk c0 c1 c2 c3 c4 c5 c6 c7 c8 c9 ca cb cc v ce cf)) p
def UM {β:Type} (p:HC) (v:HB) (k:HC->β):β:=@HC.rec (fun _=>β) (fun c0 c1 c2 c3 c4 c5 c6 c7 c8 c9 ca cb cc cd ce cf=>k (.mk c0 c1 c2 c3 c4 c5 c6 c7 c8 c9 ca cb cc cd v cf)) p
def Wq {β:Type} (p:HC) (v:HB) (k:HC->β):β:=@HC.rec (fun _=>β) (fun c0 c1 c2 c3 c4 c5 c6 c7 c8 c9 ca cb cc cd ce cf=>k (.mk c0 c1 c2 c3 c4 c5 c6 c7 c8 c9 ca cb cc cd ce v)) p
def YV {β:Type} (p:HC) (k:HB->β):β:=@HC.rec (fun _=>β) (fun c0 c1 c2 c3 c4 c5 c6 c7 c8 c9 ca cb cc cd ce cf=>k c0) p
def WW {β:Type} (p:HC) (k:HB->β):β:=@HC.rec (fun _=>β) (fun c0 c1 c2 c3 c4 c5 c6 c7 c8 c9 ca cb cc cd ce cf=>k c1) p
def YI {β:Type} (p:HC) (k:HB->β):β:=@HC.rec (fun _=>β) (fun c0 c1 c2 c3 c4 c5 c6 c7 c8 c9 ca cb cc cd ce cf=>k c2) p
def XX {β:Type} (p:HC) (k:HB->β):β:=@HC.rec (fun _=>β) (fun c0 c1 c2 c3 c4 c5 c6 c7 c8 c9 ca cb cc cd ce cf=>k c3) p
def Ze {β:Type} (p:HC) (k:HB->β):β:=@HC.rec (fun _=>β) (fun c0 c1 c2 c3 c4 c5 c6 c7 c8 c9 ca cb cc cd ce cf=>k c4) p
def YG {β:Type} (p:HC) (k:HB->β):β:=@HC.rec (fun _=>β) (fun c0 c1 c2 c3 c4 c5 c6 c7 c8 c9 ca cb cc cd ce cf=>k c5) p
def Xm {β:Type} (p:HC) (k:HB->β):β:=@HC.rec (fun _=>β) (fun c0 c1 c2 c3 c4 c5 c6 c7 c8 c9 ca cb cc cd ce cf=>k c6) p
def WM {β:Type} (p:HC) (k:HB->β):β:=@HC.rec (fun _=>β) (fun c0 c1 c2 c3 c4 c5 c6 c7 c8 c9 ca cb cc cd ce cf=>k c7) p
def Xz {β:Type} (p:HC) (k:HB->β):β:=@HC.rec (fun _=>β) (fun c0 c1 c2 c3 c4 c5 c6 c7 c8 c9 ca cb cc cd ce cf=>k c8) p
def Yf {β:Type} (p:HC) (k:HB->β):β:=@HC.rec (fun _=>β) (fun c0 c1 c2 c3 c4 c5 c6 c7 c8 c9 ca cb cc cd ce cf=>k c9) p
def Vz {β:Type} (p:HC) (k:HB->β):β:=@HC.rec (fun _=>β) (fun c0 c1 c2 c3 c4 c5 c6 c7 c8 c9 ca cb cc cd ce cf=>k ca) p
def VB {β:Type} (p:HC) (k:HB->β):β:=@HC.rec (fun _=>β) (fun c0 c1 c2 c3 c4 c5 c6 c7 c8 c9 ca cb cc cd ce cf=>k cb) p
def W4 {β:Type} (p:HC) (k:HB->β):β:=@HC.rec (fun _=>β) (fun c0 c1 c2 c3 c4 c5 c6 c7 c8 c9 ca cb cc cd ce cf=>k cc) p
def Vx {β:Type} (p:HC) (k:HB->β):β:=@HC.rec (fun _=>β) (fun c0 c1 c2 c3 c4 c5 c6 c7 c8 c9 ca cb cc cd ce cf=>k cd) p
def Vk {β:Type} (p:HC) (k:HB->β):β:=@HC.rec (fun _=>β) (fun c0 c1 c2 c3 c4 c5 c6 c7 c8 c9 ca cb cc cd ce cf=>k ce) p
def V1 {β:Type} (p:HC) (k:HB->β):β:=@HC.rec (fun _=>β) (fun c0 c1 c2 c3 c4 c5 c6 c7 c8 c9 ca cb cc cd ce cf=>k cf) p
def HC.selK {β:Type} (d:D):HC->(HB->β)->β :=
 @D.rec (fun _=>HC->(HB->β)->β) YV WW YI XX Ze YG Xm WM Xz Yf Vz VB W4 Vx Vk V1 d
theorem HC.selK_eq {β:Type} (d:D) (p:HC) (k:HB->β):HC.selK d p k=k (HC.sel d p):=by
 cases d <;> cases p <;> rfl
def HC.setK {β:Type} (d:D):HC->HB->(HC->β)->β :=
 @D.rec (fun _=>HC->HB->(HC->β)->β) Z0 Yb X8 Ym X6 Z9 Zh WV Xo Zf We UL Wa W8 UM Wq d
def HC.setS (d:D) (p:HC) (v:HB):HC:=HC.setK d p v id
theorem HC.setK_eq {β:Type} (d:D) (p:HC) (v:HB) (k:HC->β):HC.setK d p v k=k (HC.setS d p v):=by
 cases d <;> cases p <;> rfl
theorem HC.sel_setS_same (d:D) (p:HC) (v:HB):HC.sel d (HC.setS d p v)=v:=by
 cases d <;> cases p <;> rfl
theorem HC.sel_setS_ne {d e:D} (p:HC) (v:HB) (h:d≠e):HC.sel e (HC.setS d p v)=HC.sel e p:=by
 cases p; cases d <;> cases e <;> first | rfl | exact absurd rfl h
theorem HC.sel_all (d:D) (x:HB):HC.sel d (HC.all x)=x:=by cases d <;> rfl
inductive Heap where
 | mk (c0 c1 c2 c3 c4 c5 c6 c7 c8 c9 ca cb cc cd ce cf:HC)
def Heap.all (x:HC):Heap:=.mk x x x x x x x x x x x x x x x x
def Heap.sel (d:D) (p:Heap):HC :=
 @Heap.rec (fun _=>HC) (fun c0 c1 c2 c3 c4 c5 c6 c7 c8 c9 ca cb cc cd ce cf=>@D.rec (fun _=>HC) c0 c1 c2 c3 c4 c5 c6 c7 c8 c9 ca cb cc cd ce cf d) p
def WR {β:Type} (p:Heap) (v:HC) (k:Heap->β):β:=@Heap.rec (fun _=>β) (fun c0 c1 c2 c3 c4 c5 c6 c7 c8 c9 ca cb cc cd ce cf=>k (.mk v c1 c2 c3 c4 c5 c6 c7 c8 c9 ca cb cc cd ce cf)) p
def Zz {β:Type} (p:Heap) (v:HC) (k:Heap->β):β:=@Heap.rec (fun _=>β) (fun c0 c1 c2 c3 c4 c5 c6 c7 c8 c9 ca cb cc cd ce cf=>k (.mk c0 v c2 c3 c4 c5 c6 c7 c8 c9 ca cb cc cd ce cf)) p
def Xw {β:Type} (p:Heap) (v:HC) (k:Heap->β):β:=@Heap.rec (fun _=>β) (fun c0 c1 c2 c3 c4 c5 c6 c7 c8 c9 ca cb cc cd ce cf=>k (.mk c0 c1 v c3 c4 c5 c6 c7 c8 c9 ca cb cc cd ce cf)) p
def XA {β:Type} (p:Heap) (v:HC) (k:Heap->β):β:=@Heap.rec (fun _=>β) (fun c0 c1 c2 c3 c4 c5 c6 c7 c8 c9 ca cb cc cd ce cf=>k (.mk c0 c1 c2 v c4 c5 c6 c7 c8 c9 ca cb cc cd ce cf)) p
def Zj {β:Type} (p:Heap) (v:HC) (k:Heap->β):β:=@Heap.rec (fun _=>β) (fun c0 c1 c2 c3 c4 c5 c6 c7 c8 c9 ca cb cc cd ce cf=>k (.mk c0 c1 c2 c3 v c5 c6 c7 c8 c9 ca cb cc cd ce cf)) p
def Yo {β:Type} (p:Heap) (v:HC) (k:Heap->β):β:=@Heap.rec (fun _=>β) (fun c0 c1 c2 c3 c4 c5 c6 c7 c8 c9 ca cb cc cd ce cf=>k (.mk c0 c1 c2 c3 c4 v c6 c7 c8 c9 ca cb cc cd ce cf)) p
def XF {β:Type} (p:Heap) (v:HC) (k:Heap->β):β:=@Heap.rec (fun _=>β) (fun c0 c1 c2 c3 c4 c5 c6 c7 c8 c9 ca cb cc cd ce cf=>k (.mk c0 c1 c2 c3 c4 c5 v c7 c8 c9 ca cb cc cd ce cf)) p
def Xv {β:Type} (p:Heap) (v:HC) (k:Heap->β):β:=@Heap.rec (fun _=>β) (fun c0 c1 c2 c3 c4 c5 c6 c7 c8 c9 ca cb cc cd ce cf=>k (.mk c0 c1 c2 c3 c4 c5 c6 v c8 c9 ca cb cc cd ce cf)) p
def Z4 {β:Type} (p:Heap) (v:HC) (k:Heap->β):β:=@Heap.rec (fun _=>β) (fun c0 c1 c2 c3 c4 c5 c6 c7 c8 c9 ca cb cc cd ce cf=>k (.mk c0 c1 c2 c3 c4 c5 c6 c7 v c9 ca cb cc cd ce cf)) p
def YE {β:Type} (p:Heap) (v:HC) (k:Heap->β):β:=@Heap.rec (fun _=>β) (fun c0 c1 c2 c3 c4 c5 c6 c7 c8 c9 ca cb cc cd ce cf=>k (.mk c0 c1 c2 c3 c4 c5 c6 c7 c8 v ca cb cc cd ce cf)) p
def UV {β:Type} (p:Heap) (v:HC) (k:Heap->β):β:=@Heap.rec (fun _=>β) (fun c0 c1 c2 c3 c4 c5 c6 c7 c8 c9 ca cb cc cd ce cf=>k (.mk c0 c1 c2 c3 c4 c5 c6 c7 c8 c9 v cb cc cd ce cf)) p
def W6 {β:Type} (p:Heap) (v:HC) (k:Heap->β):β:=@Heap.rec (fun _=>β) (fun c0 c1 c2 c3 c4 c5 c6 c7 c8 c9 ca cb cc cd ce cf=>k (.mk c0 c1 c2 c3 c4 c5 c6 c7 c8 c9 ca v cc cd ce cf)) p
def V8 {β:Type} (p:Heap) (v:HC) (k:Heap->β):β:=@Heap.rec (fun _=>β) (fun c0 c1 c2 c3 c4 c5 c6 c7 c8 c9 ca cb cc cd ce cf=>k (.mk c0 c1 c2 c3 c4 c5 c6 c7 c8 c9 ca cb v cd ce cf)) p
def VT {β:Type} (p:Heap) (v:HC) (k:Heap->β):β:=@Heap.rec (fun _=>β) (fun c0 c1 c2 c3 c4 c5 c6 c7 c8 c9 ca cb cc cd ce cf=>k (.mk c0 c1 c2 c3 c4 c5 c6 c7 c8 c9 ca cb cc v ce cf)) p
def UY {β:Type} (p:Heap) (v:HC) (k:Heap->β):β:=@Heap.rec (fun _=>β) (fun c0 c1 c2 c3 c4 c5 c6 c7 c8 c9 ca cb cc cd ce cf=>k (.mk c0 c1 c2 c3 c4 c5 c6 c7 c8 c9 ca cb cc cd v cf)) p
def Vf {β:Type} (p:Heap) (v:HC) (k:Heap->β):β:=@Heap.rec (fun _=>β) (fun c0 c1 c2 c3 c4 c5 c6 c7 c8 c9 ca cb cc cd ce cf=>k (.mk c0 c1 c2 c3 c4 c5 c6 c7 c8 c9 ca cb cc cd ce v)) p
def Zu {β:Type} (p:Heap) (k:HC->β):β:=@Heap.rec (fun _=>β) (fun c0 c1 c2 c3 c4 c5 c6 c7 c8 c9 ca cb cc cd ce cf=>k c0) p
def WN {β:Type} (p:Heap) (k:HC->β):β:=@Heap.rec (fun _=>β) (fun c0 c1 c2 c3 c4 c5 c6 c7 c8 c9 ca cb cc cd ce cf=>k c1) p
def Y8 {β:Type} (p:Heap) (k:HC->β):β:=@Heap.rec (fun _=>β) (fun c0 c1 c2 c3 c4 c5 c6 c7 c8 c9 ca cb cc cd ce cf=>k c2) p
def YD {β:Type} (p:Heap) (k:HC->β):β:=@Heap.rec (fun _=>β) (fun c0 c1 c2 c3 c4 c5 c6 c7 c8 c9 ca cb cc cd ce cf=>k c3) p
def XZ {β:Type} (p:Heap) (k:HC->β):β:=@Heap.rec (fun _=>β) (fun c0 c1 c2 c3 c4 c5 c6 c7 c8 c9 ca cb cc cd ce cf=>k c4) p
def YT {β:Type} (p:Heap) (k:HC->β):β:=@Heap.rec (fun _=>β) (fun c0 c1 c2 c3 c4 c5 c6 c7 c8 c9 ca cb cc cd ce cf=>k c5) p
def Y6 {β:Type} (p:Heap) (k:HC->β):β:=@Heap.rec (fun _=>β) (fun c0 c1 c2 c3 c4 c5 c6 c7 c8 c9 ca cb cc cd ce cf=>k c6) p
def Zl {β:Type} (p:Heap) (k:HC->β):β:=@Heap.rec (fun _=>β) (fun c0 c1 c2 c3 c4 c5 c6 c7 c8 c9 ca cb cc cd ce cf=>k c7) p
def Xx {β:Type} (p:Heap) (k:HC->β):β:=@Heap.rec (fun _=>β) (fun c0 c1 c2 c3 c4 c5 c6 c7 c8 c9 ca cb cc cd ce cf=>k c8) p
def Yi {β:Type} (p:Heap) (k:HC->β):β:=@Heap.rec (fun _=>β) (fun c0 c1 c2 c3 c4 c5 c6 c7 c8 c9 ca cb cc cd ce cf=>k c9) p
def W1 {β:Type} (p:Heap) (k:HC->β):β:=@Heap.rec (fun _=>β) (fun c0 c1 c2 c3 c4 c5 c6 c7 c8 c9 ca cb cc cd ce cf=>k ca) p
def Vr {β:Type} (p:Heap) (k:HC->β):β:=@Heap.rec (fun _=>β) (fun c0 c1 c2 c3 c4 c5 c6 c7 c8 c9 ca cb cc cd ce cf=>k cb) p
def VW {β:Type} (p:Heap) (k:HC->β):β:=@Heap.rec (fun _=>β) (fun c0 c1 c2 c3 c4 c5 c6 c7 c8 c9 ca cb cc cd ce cf=>k cc) p
def W9 {β:Type} (p:Heap) (k:HC->β):β:=@Heap.rec (fun _=>β) (fun c0 c1 c2 c3 c4 c5 c6 c7 c8 c9 ca cb cc cd ce cf=>k cd) p
def VL {β:Type} (p:Heap) (k:HC->β):β:=@Heap.rec (fun _=>β) (fun c0 c1 c2 c3 c4 c5 c6 c7 c8 c9 ca cb cc cd ce cf=>k ce) p
def Vm {β:Type} (p:Heap) (k:HC->β):β:=@Heap.rec (fun _=>β) (fun c0 c1 c2 c3 c4 c5 c6 c7 c8 c9 ca cb cc cd ce cf=>k cf) p
def Heap.selK {β:Type} (d:D):Heap->(HC->β)->β :=
 @D.rec (fun _=>Heap->(HC->β)->β) Zu WN Y8 YD XZ YT Y6 Zl Xx Yi W1 Vr VW W9 VL Vm d
theorem Heap.selK_eq {β:Type} (d:D) (p:Heap) (k:HC->β):Heap.selK d p k=k (Heap.sel d p):=by
 cases d <;> cases p <;> rfl
def Heap.setK {β:Type} (d:D):Heap->HC->(Heap->β)->β :=
 @D.rec (fun _=>Heap->HC->(Heap->β)->β) WR Zz Xw XA Zj Yo XF Xv Z4 YE UV W6 V8 VT UY Vf d
def Heap.setS (d:D) (p:Heap) (v:HC):Heap:=Heap.setK d p v id
theorem Heap.setK_eq {β:Type} (d:D) (p:Heap) (v:HC) (k:Heap->β):Heap.setK d p v k=k (Heap.setS d p v):=by
 cases d <;> cases p <;> rfl
theorem Heap.sel_setS_same (d:D) (p:Heap) (v:HC):Heap.sel d (Heap.setS d p v)=v:=by
 cases d <;> cases p <;> rfl
theorem Heap.sel_setS_ne {d e:D} (p:Heap) (v:HC) (h:d≠e):Heap.sel e (Heap.setS d p v)=Heap.sel e p:=by
 cases p; cases d <;> cases e <;> first | rfl | exact absurd rfl h
theorem Heap.sel_all (d:D) (x:HC):Heap.sel d (Heap.all x)=x:=by cases d <;> rfl
inductive O8 where
 | d0 | d1 | d2 | d3 | d4 | d5 | d6 | d7
inductive O4 where
 | d0 | d1 | d2 | d3
inductive SQ where
 | mk (c0 c1 c2 c3:V)
def SQ.all (x:V):SQ:=.mk x x x x
def SQ.sel (d:O4) (p:SQ):V :=
 @SQ.rec (fun _=>V) (fun c0 c1 c2 c3=>@O4.rec (fun _=>V) c0 c1 c2 c3 d) p
def XP {β:Type} (p:SQ) (v:V) (k:SQ->β):β:=@SQ.rec (fun _=>β) (fun c0 c1 c2 c3=>k (.mk v c1 c2 c3)) p
def YN {β:Type} (p:SQ) (v:V) (k:SQ->β):β:=@SQ.rec (fun _=>β) (fun c0 c1 c2 c3=>k (.mk c0 v c2 c3)) p
def Xq {β:Type} (p:SQ) (v:V) (k:SQ->β):β:=@SQ.rec (fun _=>β) (fun c0 c1 c2 c3=>k (.mk c0 c1 v c3)) p
def Yw {β:Type} (p:SQ) (v:V) (k:SQ->β):β:=@SQ.rec (fun _=>β) (fun c0 c1 c2 c3=>k (.mk c0 c1 c2 v)) p
def X5 {β:Type} (p:SQ) (k:V->β):β:=@SQ.rec (fun _=>β) (fun c0 c1 c2 c3=>k c0) p
def Zg {β:Type} (p:SQ) (k:V->β):β:=@SQ.rec (fun _=>β) (fun c0 c1 c2 c3=>k c1) p
def Y7 {β:Type} (p:SQ) (k:V->β):β:=@SQ.rec (fun _=>β) (fun c0 c1 c2 c3=>k c2) p
def X4 {β:Type} (p:SQ) (k:V->β):β:=@SQ.rec (fun _=>β) (fun c0 c1 c2 c3=>k c3) p
def SQ.selK {β:Type} (d:O4):SQ->(V->β)->β :=
 @O4.rec (fun _=>SQ->(V->β)->β) X5 Zg Y7 X4 d
theorem SQ.selK_eq {β:Type} (d:O4) (p:SQ) (k:V->β):SQ.selK d p k=k (SQ.sel d p):=by
 cases d <;> cases p <;> rfl
def SQ.setK {β:Type} (d:O4):SQ->V->(SQ->β)->β :=
 @O4.rec (fun _=>SQ->V->(SQ->β)->β) XP YN Xq Yw d
def SQ.setS (d:O4) (p:SQ) (v:V):SQ:=SQ.setK d p v id
theorem SQ.setK_eq {β:Type} (d:O4) (p:SQ) (v:V) (k:SQ->β):SQ.setK d p v k=k (SQ.setS d p v):=by
 cases d <;> cases p <;> rfl
theorem SQ.sel_setS_same (d:O4) (p:SQ) (v:V):SQ.sel d (SQ.setS d p v)=v:=by
 cases d <;> cases p <;> rfl
theorem SQ.sel_setS_ne {d e:O4} (p:SQ) (v:V) (h:d≠e):SQ.sel e (SQ.setS d p v)=SQ.sel e p:=by
 cases p; cases d <;> cases e <;> first | rfl | exact absurd rfl h
theorem SQ.sel_all (d:O4) (x:V):SQ.sel d (SQ.all x)=x:=by cases d <;> rfl
inductive S where
 | mk (c0 c1 c2 c3 c4 c5 c6 c7:SQ)
def S.all (x:SQ):S:=.mk x x x x x x x x
def S.sel (d:O8) (p:S):SQ :=
 @S.rec (fun _=>SQ) (fun c0 c1 c2 c3 c4 c5 c6 c7=>@O8.rec (fun _=>SQ) c0 c1 c2 c3 c4 c5 c6 c7 d) p
def WQ {β:Type} (p:S) (v:SQ) (k:S->β):β:=@S.rec (fun _=>β) (fun c0 c1 c2 c3 c4 c5 c6 c7=>k (.mk v c1 c2 c3 c4 c5 c6 c7)) p
def Y2 {β:Type} (p:S) (v:SQ) (k:S->β):β:=@S.rec (fun _=>β) (fun c0 c1 c2 c3 c4 c5 c6 c7=>k (.mk c0 v c2 c3 c4 c5 c6 c7)) p
def XV {β:Type} (p:S) (v:SQ) (k:S->β):β:=@S.rec (fun _=>β) (fun c0 c1 c2 c3 c4 c5 c6 c7=>k (.mk c0 c1 v c3 c4 c5 c6 c7)) p
def XJ {β:Type} (p:S) (v:SQ) (k:S->β):β:=@S.rec (fun _=>β) (fun c0 c1 c2 c3 c4 c5 c6 c7=>k (.mk c0 c1 c2 v c4 c5 c6 c7)) p
def Zc {β:Type} (p:S) (v:SQ) (k:S->β):β:=@S.rec (fun _=>β) (fun c0 c1 c2 c3 c4 c5 c6 c7=>k (.mk c0 c1 c2 c3 v c5 c6 c7)) p
def Xk {β:Type} (p:S) (v:SQ) (k:S->β):β:=@S.rec (fun _=>β) (fun c0 c1 c2 c3 c4 c5 c6 c7=>k (.mk c0 c1 c2 c3 c4 v c6 c7)) p
def Yv {β:Type} (p:S) (v:SQ) (k:S->β):β:=@S.rec (fun _=>β) (fun c0 c1 c2 c3 c4 c5 c6 c7=>k (.mk c0 c1 c2 c3 c4 c5 v c7)) p
def XG {β:Type} (p:S) (v:SQ) (k:S->β):β:=@S.rec (fun _=>β) (fun c0 c1 c2 c3 c4 c5 c6 c7=>k (.mk c0 c1 c2 c3 c4 c5 c6 v)) p
def YR {β:Type} (p:S) (k:SQ->β):β:=@S.rec (fun _=>β) (fun c0 c1 c2 c3 c4 c5 c6 c7=>k c0) p
def Zk {β:Type} (p:S) (k:SQ->β):β:=@S.rec (fun _=>β) (fun c0 c1 c2 c3 c4 c5 c6 c7=>k c1) p
def Zx {β:Type} (p:S) (k:SQ->β):β:=@S.rec (fun _=>β) (fun c0 c1 c2 c3 c4 c5 c6 c7=>k c2) p
def XI {β:Type} (p:S) (k:SQ->β):β:=@S.rec (fun _=>β) (fun c0 c1 c2 c3 c4 c5 c6 c7=>k c3) p
def Xa {β:Type} (p:S) (k:SQ->β):β:=@S.rec (fun _=>β) (fun c0 c1 c2 c3 c4 c5 c6 c7=>k c4) p
def WZ {β:Type} (p:S) (k:SQ->β):β:=@S.rec (fun _=>β) (fun c0 c1 c2 c3 c4 c5 c6 c7=>k c5) p
def Z7 {β:Type} (p:S) (k:SQ->β):β:=@S.rec (fun _=>β) (fun c0 c1 c2 c3 c4 c5 c6 c7=>k c6) p
def WT {β:Type} (p:S) (k:SQ->β):β:=@S.rec (fun _=>β) (fun c0 c1 c2 c3 c4 c5 c6 c7=>k c7) p
def S.selK {β:Type} (d:O8):S->(SQ->β)->β :=
 @O8.rec (fun _=>S->(SQ->β)->β) YR Zk Zx XI Xa WZ Z7 WT d
theorem S.selK_eq {β:Type} (d:O8) (p:S) (k:SQ->β):S.selK d p k=k (S.sel d p):=by
 cases d <;> cases p <;> rfl
def S.setK {β:Type} (d:O8):S->SQ->(S->β)->β :=
 @O8.rec (fun _=>S->SQ->(S->β)->β) WQ Y2 XV XJ Zc Xk Yv XG d
def S.setS (d:O8) (p:S) (v:SQ):S:=S.setK d p v id
theorem S.setK_eq {β:Type} (d:O8) (p:S) (v:SQ) (k:S->β):S.setK d p v k=k (S.setS d p v):=by
 cases d <;> cases p <;> rfl
theorem S.sel_setS_same (d:O8) (p:S) (v:SQ):S.sel d (S.setS d p v)=v:=by
 cases d <;> cases p <;> rfl
theorem S.sel_setS_ne {d e:O8} (p:S) (v:SQ) (h:d≠e):S.sel e (S.setS d p v)=S.sel e p:=by
 cases p; cases d <;> cases e <;> first | rfl | exact absurd rfl h
theorem S.sel_all (d:O8) (x:SQ):S.sel d (S.all x)=x:=by cases d <;> rfl
end Go.Ev

namespace Go.Ev
set_option linter.unusedVariables false
def K4.toN (p:K4):Nat:=p.a.toN*4096+p.b.toN*256+p.c.toN*16+p.d.toN
theorem K4.toN_inj {p q:K4} (h:p.toN=q.toN):p=q:=by
 obtain ⟨a,b,c,d⟩:=p
 obtain ⟨a',b',c',d'⟩:=q
 simp only [K4.toN] at h
 have:=a.toN_lt; have:=b.toN_lt; have:=c.toN_lt; have:=d.toN_lt
 have:=a'.toN_lt; have:=b'.toN_lt; have:=c'.toN_lt; have:=d'.toN_lt
 have ha:a=a':=D.toN_inj (by omega)
 have hb:b=b':=D.toN_inj (by omega)
 have hc:c=c':=D.toN_inj (by omega)
 have hd:d=d':=D.toN_inj (by omega)
 subst ha hb hc hd; rfl
def K4.beq (p q:K4):Bool:=and (p.d.beq q.d) (and (p.c.beq q.c) (and (p.b.beq q.b) (p.a.beq q.a)))
theorem K4.beq_iff {p q:K4}:p.beq q=true ↔ p=q:=by
 obtain ⟨a,b,c,d⟩:=p
 obtain ⟨a',b',c',d'⟩:=q
 simp only [K4.beq,Bool.and_eq_true,D.beq_iff,K4.mk.injEq]
 constructor
 ·rintro ⟨rfl,rfl,rfl,rfl⟩; exact ⟨rfl,rfl,rfl,rfl⟩
 ·rintro ⟨rfl,rfl,rfl,rfl⟩; exact ⟨rfl,rfl,rfl,rfl⟩
inductive Ex where
 | nrm
 | exit (id:Nat)
 | ret
inductive R where
 | ok (e:Ex) (t:S) (h:Heap) (n:K4)
 | rv (v:V) (h:Heap) (n:K4)
 | fail (why:String)
 | both (a b:R)
abbrev KV:=V->Heap->K4->R
def Ax (p:K4) (h:Heap):Option Ob:=HA.sel p.d (HB.sel p.c (HC.sel p.b (Heap.sel p.a h)))
def Pd {β:Type} (p:K4) (h:Heap) (κ:Option Ob->β):β :=
 @K4.rec (fun _=>β) (fun a b c d=>Heap.selK a h fun x=>HC.selK b x fun y=>HB.selK c y fun z=>HA.selK d z κ) p
theorem Dh {β:Type} (p:K4) (h:Heap) (κ:Option Ob->β):Pd p h κ=κ (Ax p h):=by
 cases p; simp only [Pd,Heap.selK_eq,HC.selK_eq,HB.selK_eq,HA.selK_eq,Ax]
def F1 {β:Type} (p:K4) (h:Heap) (o:Option Ob) (k:Heap->β):β :=
 @K4.rec (fun _=>β) (fun a b c d=>Heap.selK a h fun x=>HC.selK b x fun y=>HB.selK c y fun z =>
  HA.setK d z o fun z=>HB.setK c y z fun y=>HC.setK b x y fun x=>Heap.setK a h x k) p
def AR (p:K4) (h:Heap) (o:Option Ob):Heap:=F1 p h o id
theorem Bu {β:Type} (p:K4) (h:Heap) (o:Option Ob) (k:Heap->β):F1 p h o k=k (AR p h o):=by
 cases p; simp only [F1,AR,Heap.setK_eq,HC.setK_eq,HB.setK_eq,HA.setK_eq,Heap.selK_eq,HC.selK_eq,HB.selK_eq]; rfl
theorem Av (p:K4) (h:Heap) (o:Option Ob):Ax p (AR p h o)=o:=by
 cases p; simp only [Ax,AR,F1,Heap.setK_eq,HC.setK_eq,HB.setK_eq,HA.setK_eq,Heap.selK_eq,HC.selK_eq,HB.selK_eq,HA.selK_eq,id,Heap.sel_setS_same,HC.sel_setS_same,HB.sel_setS_same,HA.sel_setS_same]
theorem Ao {p q:K4} (h:Heap) (o:Option Ob) (hne:p≠q):Ax q (AR p h o)=Ax q h:=by
 obtain ⟨a,b,c,d⟩:=p
 obtain ⟨a',b',c',d'⟩:=q
 simp only [Ax,AR,F1,Heap.setK_eq,HC.setK_eq,HB.setK_eq,HA.setK_eq,Heap.selK_eq,HC.selK_eq,HB.selK_eq,HA.selK_eq,id]
 by_cases ha:a=a'
 ·subst ha
  rw [Heap.sel_setS_same]
  by_cases hb:b=b'
  ·subst hb
   rw [HC.sel_setS_same]
   by_cases hc:c=c'
   ·subst hc
    rw [HB.sel_setS_same]
    by_cases hd:d=d'
    ·subst hd; exact absurd rfl hne
    ·rw [HA.sel_setS_ne _ _ hd]
   ·rw [HB.sel_setS_ne _ _ hc]
  ·rw [HC.sel_setS_ne _ _ hb]
 ·rw [Heap.sel_setS_ne _ _ ha]
def AV:Heap:=Heap.all (HC.all (HB.all (HA.all none)))
theorem DP (p:K4):Ax p AV=none:=by simp only [Ax,AV,Heap.sel_all,HC.sel_all,HB.sel_all,HA.sel_all]
def K4.nx (p:K4) (k:K4->R):R :=
 @K4.rec (fun _=>R) (fun a b c d=>d.nx (fun d=>k ⟨a,b,c,d⟩)
  (c.nx (fun c=>k ⟨a,b,c,.d0⟩)
   (b.nx (fun b=>k ⟨a,b,.d0,.d0⟩)
    (a.nx (fun a=>k ⟨a,.d0,.d0,.d0⟩) (.fail ""))))) p
theorem K4.nx_eq (p:K4) (k:K4->R):(∃ w,p.nx k = .fail w) ∨ ∃ q:K4,q.toN=p.toN+1∧p.nx k=k q:=by
 obtain ⟨a,b,c,d⟩:=p
 simp only [K4.nx,K4.toN]
 have hd0:D.d0.toN=0:=rfl
 rcases d.nx_eq (fun d=>k ⟨a,b,c,d⟩) (c.nx (fun c=>k ⟨a,b,c,.d0⟩) (b.nx (fun b=>k ⟨a,b,.d0,.d0⟩) (a.nx (fun a=>k ⟨a,.d0,.d0,.d0⟩) (.fail "")))) with ⟨h,hd⟩ | ⟨e,he,h⟩
 ·rw [h]
  rcases c.nx_eq (fun c=>k ⟨a,b,c,.d0⟩) (b.nx (fun b=>k ⟨a,b,.d0,.d0⟩) (a.nx (fun a=>k ⟨a,.d0,.d0,.d0⟩) (.fail ""))) with ⟨h,hc⟩ | ⟨e,he,h⟩
  ·rw [h]
   rcases b.nx_eq (fun b=>k ⟨a,b,.d0,.d0⟩) (a.nx (fun a=>k ⟨a,.d0,.d0,.d0⟩) (.fail "")) with ⟨h,hb⟩ | ⟨e,he,h⟩
   ·rw [h]
    rcases a.nx_eq (fun a=>k ⟨a,.d0,.d0,.d0⟩) (.fail "") with ⟨h,ha⟩ | ⟨e,he,h⟩
    ·exact .inl ⟨_,h⟩
    ·exact .inr ⟨⟨e,.d0,.d0,.d0⟩,by simp only [he]; omega,h⟩
   ·exact .inr ⟨⟨a,e,.d0,.d0⟩,by simp only [he]; omega,h⟩
  ·exact .inr ⟨⟨a,b,e,.d0⟩,by simp only [he]; omega,h⟩
 ·exact .inr ⟨⟨a,b,c,e⟩,by simp only [he]; omega,h⟩
def K4.nx16 (p:K4) (k:K4->R):R :=
 @K4.rec (fun _=>R) (fun a b c d=>c.nx (fun c=>k ⟨a,b,c,.d0⟩)
  (b.nx (fun b=>k ⟨a,b,.d0,.d0⟩)
   (a.nx (fun a=>k ⟨a,.d0,.d0,.d0⟩) (.fail "")))) p
def K4.at (p:K4) (j:D) (k:K4->R):R:=@K4.rec (fun _=>R) (fun a b c _=>k ⟨a,b,c,j⟩) p
theorem K4.at_eq (p:K4) (j:D) (k:K4->R):p.at j k=k ⟨p.a,p.b,p.c,j⟩:=by cases p; rfl
theorem K4.nx16_eq (p:K4) (k:K4->R):(∃ w,p.nx16 k = .fail w) ∨ ∃ q:K4,q.toN=(p.a.toN*256+p.b.toN*16+p.c.toN+1)*16∧q.d = .d0∧p.nx16 k=k q:=by
 obtain ⟨a,b,c,d⟩:=p
 simp only [K4.nx16,K4.toN]
 have hd0:D.d0.toN=0:=rfl
 rcases c.nx_eq (fun c=>k ⟨a,b,c,.d0⟩) (b.nx (fun b=>k ⟨a,b,.d0,.d0⟩) (a.nx (fun a=>k ⟨a,.d0,.d0,.d0⟩) (.fail ""))) with ⟨h,hc⟩ | ⟨e,he,h⟩
 ·rw [h]
  rcases b.nx_eq (fun b=>k ⟨a,b,.d0,.d0⟩) (a.nx (fun a=>k ⟨a,.d0,.d0,.d0⟩) (.fail "")) with ⟨h,hb⟩ | ⟨e,he,h⟩
  ·rw [h]
   rcases a.nx_eq (fun a=>k ⟨a,.d0,.d0,.d0⟩) (.fail "") with ⟨h,ha⟩ | ⟨e,he,h⟩
   ·exact .inl ⟨_,h⟩
   ·exact .inr ⟨⟨e,.d0,.d0,.d0⟩,by simp only [he]; omega,rfl,h⟩
  ·exact .inr ⟨⟨a,e,.d0,.d0⟩,by simp only [he]; omega,rfl,h⟩
 ·exact .inr ⟨⟨a,b,e,.d0⟩,by simp only [he]; omega,rfl,h⟩
structure K2 where
 a:D
 b:D
def C2:V:=.tup []
def El:S:=S.all (SQ.all C2)
def B4 (p:K2) (t:Regs):V:=VP.sel p.b (Regs.sel p.a t)
def GA {β:Type} (p:K2) (t:Regs) (κ:V->β):β :=
 @K2.rec (fun _=>β) (fun a b=>Regs.selK a t fun x=>VP.selK b x κ) p
theorem Ck {β:Type} (p:K2) (t:Regs) (κ:V->β):GA p t κ=κ (B4 p t):=by
 cases p; simp only [GA,Regs.selK_eq,VP.selK_eq,B4]
def MA {β:Type} (p:K2) (t:Regs) (v:V) (k:Regs->β):β :=
 @K2.rec (fun _=>β) (fun a b=>Regs.selK a t fun x=>VP.setK b x v fun x=>Regs.setK a t x k) p
def Dk (p:K2) (t:Regs) (v:V):Regs:=MA p t v id
theorem Mq {β:Type} (p:K2) (t:Regs) (v:V) (k:Regs->β):MA p t v k=k (Dk p t v):=by
 cases p; simp only [MA,Dk,Regs.setK_eq,VP.setK_eq,Regs.selK_eq,VP.selK_eq]; rfl
theorem AZ (p:K2) (t:Regs) (v:V):B4 p (Dk p t v)=v:=by
 cases p; simp only [B4,Dk,MA,Regs.setK_eq,VP.setK_eq,Regs.selK_eq,VP.selK_eq,id,Regs.sel_setS_same,VP.sel_setS_same]
theorem Bj {p q:K2} (t:Regs) (v:V) (hne:p≠q):B4 q (Dk p t v)=B4 q t:=by
 obtain ⟨a,b⟩:=p
 obtain ⟨a',b'⟩:=q
 simp only [B4,Dk,MA,Regs.setK_eq,VP.setK_eq,Regs.selK_eq,VP.selK_eq,id]
 by_cases ha:a=a'
 ·subst ha
  rw [Regs.sel_setS_same]
  by_cases hb:b=b'
  ·subst hb; exact absurd rfl hne
  ·rw [VP.sel_setS_ne _ _ hb]
 ·rw [Regs.sel_setS_ne _ _ ha]
def Ga:Regs:=Regs.all (VP.all C2)
theorem Io (p:K2):B4 p Ga=C2:=by simp only [B4,Ga,Regs.sel_all,VP.sel_all]
def K2.ofN (n:Nat):Option K2:=if n<256 then some ⟨D.ofN (n / 16),D.ofN (n % 16)⟩ else none
theorem K2.ofN_inj {m n:Nat} {p:K2} (h:K2.ofN m=some p) (h':K2.ofN n=some p):m=n:=by
 unfold K2.ofN at h h'
 split at h
 ·split at h'
  ·simp only [Option.some.injEq] at h h'
   rw [←h] at h'
   simp only [K2.mk.injEq] at h'
   have h1:=congrArg D.toN h'.1
   have h2:=congrArg D.toN h'.2
   rw [D.toN_ofN _ (by omega),D.toN_ofN _ (by omega)] at h1
   rw [D.toN_ofN _ (by omega),D.toN_ofN _ (by omega)] at h2
   omega
  ·simp at h'
 ·simp at h
theorem K2.ofN_lt {n:Nat} {p:K2} (h:K2.ofN n=some p):n<256:=by
 unfold K2.ofN at h; split at h
 ·assumption
 ·simp at h
end Go.Ev

namespace Go.Ev
set_option linter.unusedVariables false
def br {β:Type} (c:Bool) (t f:β):β:=@Bool.rec (fun _=>β) f t c
theorem AN {β:Type} (t f:β):br true t f=t:=rfl
theorem AO {β:Type} (t f:β):br false t f=f:=rfl
def Af {β:Type} (n:Nat) (k:Nat->β):β:=@Nat.rec (fun _=>β) (k 0) (fun m _=>k (Nat.succ m)) n
theorem Ad {β:Type} (n:Nat) (k:Nat->β):Af n k=k n:=by cases n <;> rfl
def Cr {β:Type} (b:Bool) (k:Bool->β):β:=@Bool.rec (fun _=>β) (k false) (k true) b
theorem BS {β:Type} (b:Bool) (k:Bool->β):Cr b k=k b:=by cases b <;> rfl
def R.good:R->Prop
 | .fail _=>False
 | _=>True
theorem Ai {c:Bool} {t:R} {s:String} (h:(br c t (.fail s)).good):c=true∧br c t (.fail s)=t:=by
 cases c
 ·exact h.elim
 ·exact ⟨rfl,rfl⟩
theorem EW {c:Bool} {t:R} {s:String} (h:(br c (.fail s) t).good):c=false∧br c (.fail s) t=t:=by
 cases c
 ·exact ⟨rfl,rfl⟩
 ·exact h.elim
def Mk (k:IntKind):Nat:=@IntKind.rec (fun _=>Nat) 256 65536 4294967296 18446744073709551616 256 65536 4294967296 18446744073709551616 k
def Hk (k:IntKind):Nat:=@IntKind.rec (fun _=>Nat) 128 32768 2147483648 9223372036854775808 256 65536 4294967296 18446744073709551616 k
def YZ (k:IntKind):Nat:=@IntKind.rec (fun _=>Nat) 0 1 2 3 4 5 6 7 k
def BV (k:IntKind) (r:Nat):Int:=if r<Hk k then (r:Int) else (r:Int) - (Mk k:Int)
def B8 (k j:IntKind):Bool:=Nat.beq (YZ k) (YZ j)
theorem B9 {k j:IntKind}:B8 k j=true ↔ k=j:=by
 cases k <;> cases j <;> simp [B8,YZ]
theorem Ek (k:IntKind):0<Mk k:=by cases k <;> simp [Mk]
theorem FS (k:IntKind):Hk k≤Mk k:=by cases k <;> simp [Mk,Hk]
theorem E3 (k:IntKind):Mk k=2 ^ k.bits:=by cases k <;> rfl
theorem Fk {k:IntKind} {z:Int} {r:Nat} (h:z % (Mk k:Int)=r):k.wrap z=BV k r:=by
 cases k <;> simp [Mk,BV,Hk,IntKind.wrap,IntKind.bits,IntKind.signed] at h ⊢ <;> (repeat' split) <;> omega
theorem DO (k:IntKind) (a:Nat):BV k a % (Mk k:Int)=((a % Mk k:Nat):Int):=by
 unfold BV
 split
 ·exact (Int.natCast_emod a (Mk k)).symm
 ·rw [Int.sub_emod_right]; exact (Int.natCast_emod a (Mk k)).symm
theorem As {k:IntKind} {a:Nat} (h:a<Hk k):BV k a=a:=by unfold BV; rw [if_pos h]
theorem De {k:IntKind} {a:Nat} (h:¬ a<Hk k):BV k a=a - Mk k:=by unfold BV; rw [if_neg h]
theorem IR {k:IntKind} {a b:Nat} (ha:a<Mk k) (hb:b<Mk k) (h:BV k a=BV k b):a=b:=by
 have h1:=DO k a
 have h2:=DO k b
 rw [h,h2,Nat.mod_eq_of_lt ha,Nat.mod_eq_of_lt hb] at h1
 omega
def GX (k:IntKind) (a b:Nat):Bool :=
 br (Nat.ble (Hk k) a) (br (Nat.ble (Hk k) b) (Nat.ble (Nat.succ a) b) true) (br (Nat.ble (Hk k) b) false (Nat.ble (Nat.succ a) b))
theorem Ak {a b:Nat}:Nat.ble a b=true ↔ a≤b:=⟨Nat.le_of_ble_eq_true,Nat.ble_eq_true_of_le⟩
theorem Bc {a b:Nat} (h:b<a):Nat.ble a b=false:=Bool.eq_false_iff.2 (fun e=>by have:=Ak.1 e; omega)
theorem GZ (a b:Nat):Nat.ble a b=decide (a≤b):=by rw [Bool.eq_iff_iff,Ak]; simp
theorem E1 {k:IntKind} {a b:Nat} (ha:a<Mk k) (hb:b<Mk k):GX k a b=decide (BV k a<BV k b):=by
 have hH:=FS k
 unfold GX
 by_cases h1:Hk k≤a
 ·rw [Ak.2 h1,AN,De (by omega)]
  by_cases h2:Hk k≤b
  ·rw [Ak.2 h2,AN,De (by omega),GZ]; apply decide_eq_decide.2; omega
  ·rw [Bc (by omega),AO,As (by omega)]; symm; apply decide_eq_true; omega
 ·rw [Bc (by omega),AO,As (by omega)]
  by_cases h2:Hk k≤b
  ·rw [Ak.2 h2,AN,De (by omega)]; symm; apply decide_eq_false; omega
  ·rw [Bc (by omega),AO,As (by omega),GZ]; apply decide_eq_decide.2; omega
def AX:List UInt8->Nat
 | []=>0
 | b::l=>b.toNat+256*AX l
theorem Sn (l:List UInt8):AX l<256 ^ l.length:=by
 induction l with
 | nil=>simp [AX]
 | cons b l ih =>
  have:=b.toNat_lt
  simp only [AX,List.length_cons,Nat.pow_succ]
  omega
theorem IC (a b:List UInt8):AX (a++b)=AX a+256 ^ a.length*AX b:=by
 induction a with
 | nil=>simp [AX]
 | cons x a ih=>simp only [List.cons_append,AX,ih,List.length_cons,Nat.pow_succ,Nat.mul_add,Nat.mul_assoc,Nat.add_assoc]; rw [Nat.mul_left_comm]
theorem J9 {a b:List UInt8} (hl:a.length=b.length) (h:AX a=AX b):a=b:=by
 induction a generalizing b with
 | nil=>cases b with
  | nil=>rfl
  | cons=>simp at hl
 | cons x a ih =>
  cases b with
  | nil=>simp at hl
  | cons y b =>
   simp only [AX] at h
   have hx:=x.toNat_lt; have hy:=y.toNat_lt
   have h1:x.toNat=y.toNat:=by omega
   have h2:AX a=AX b:=by omega
   rw [ih (by simpa using hl) h2,UInt8.toNat_inj.1 h1]
theorem NA (l:List UInt8):∀ n,AX l / 256 ^ n=AX (l.drop n):=by
 intro n
 induction n generalizing l with
 | zero=>simp
 | succ n ih =>
  cases l with
  | nil=>simp [AX]
  | cons b l =>
   have:=b.toNat_lt
   rw [Nat.pow_succ,Nat.mul_comm,←Nat.div_div_eq_div_mul]
   have:AX (b::l) / 256=AX l:=by simp only [AX]; omega
   rw [this,ih,List.drop_succ_cons]
theorem RC (l:List UInt8):∀ n,AX l % 256 ^ n=AX (l.take n):=by
 intro n
 have h:=IC (l.take n) (l.drop n)
 rw [List.take_append_drop] at h
 have hlt:=Sn (l.take n)
 by_cases hn:n≤l.length
 ·have hlen:(l.take n).length=n:=by simp [hn]
  rw [hlen] at h hlt
  rw [h,Nat.add_mul_mod_self_left,Nat.mod_eq_of_lt hlt]
 ·rw [List.take_of_length_le (by omega)] at hlt ⊢
  exact Nat.mod_eq_of_lt (Nat.lt_of_lt_of_le hlt (Nat.pow_le_pow_right (by omega) (by omega)))
theorem Hu (l:List UInt8) (i:Nat) (h:i<l.length):(AX l / 256 ^ i) % 256=l[i].toNat:=by
 rw [NA,List.drop_eq_getElem_cons h]
 have:=l[i].toNat_lt
 simp only [AX]; omega
def sh (c i:Nat):Nat:=Nat.shiftRight c (Nat.mul 8 i)
theorem EK (c i:Nat):sh c i=c / 256 ^ i:=by
 show c >>> (8*i)=_
 rw [Nat.shiftRight_eq_div_pow,Nat.pow_mul]
def lo (c i:Nat):Nat:=Nat.mod c (Nat.pow 256 i)
theorem Di (c i:Nat):lo c i=c % 256 ^ i:=rfl
def up (c i:Nat):Nat:=Nat.shiftLeft c (Nat.mul 8 i)
theorem RM (c i:Nat):up c i=256 ^ i*c:=by
 show c <<< (8*i)=_
 rw [Nat.shiftLeft_eq,Nat.pow_mul,Nat.mul_comm]
structure ApC where
 asg:Code
 bod:Code
 par:Nat
 box:Nat
 ntm:Nat
structure Env where
 v:Nat->Value
 ap:Nat->Option ApC
 gl:Nat->Option (Array Value×TypeId×(Nat×Nat)):=fun _=>none
abbrev AT:=K4->Option (Nat×Nat×Nat)
def BW:Nl->Value
 | .ptr=>.pointer none
 | .sl=>.slice none 0 0
 | .map=>.map none
 | .fn=>.nilFunc
 | .iface=>.nilIface
def Ps (i j:Nat):Bool:=Nat.beq (Nat.mod (Nat.div (Nat.mod i 4294967296) (Nat.pow 2 j)) 2) 1
def Us (i:Nat):Nat:=Nat.div (Nat.sub i 73786976294838206464) 281474976710656
def WC (i:Nat):Nat:=Nat.mod (Nat.div (Nat.sub i 73786976294838206464) 1099511627776) 256
def WI (i j:Nat):Nat:=Nat.mod (Nat.div (Nat.mod (Nat.sub i 73786976294838206464) 1099511627776) (Nat.pow (Us i) j)) (Us i)
def Qt (ρ:Env) (i j:Nat) (y:Value):Prop:=(i=0 ∧ ∃ b,y = .bool b)∨(1≤i∧i<18446744073709551616∧y=ρ.v (i+j) ∧ ∃ r,r<Mk .i64∧y = .int .i64 (BV .i64 r)) ∨
 (18446744073709551616≤i∧i<36893488147419103232 ∧ ∃ b,y = .bool b∧(j<(i - 18446744073709551616) / 4294967296->b=Ps i j))∨(36893488147419103232≤i∧i<73786976294838206464 ∧ ∃ r,r<Mk .i64∧y = .int .i64 (BV .i64 r)) ∨
 (73786976294838206464≤i ∧ ∃ z:Int,y = .int .i64 z ∧ -9223372036854775808≤z∧z<9223372036854775808∧(j<WC i->z.natAbs % Us i=WI i j))
section
variable (ρ:Env) (φ:AT)
mutual
def Au:V->Value->Prop
 | .int k r,x=>r<Mk k∧x = .int k (BV k r)
 | .bool b,x=>x = .bool b
 | .ptr p off,x=>∃ b s tot,φ p=some (b,s,tot)∧x = .pointer (some ⟨b,s+off,none⟩)
 | .sl p off len cap ex esz,x=>∃ b s tot o cap',φ p=some (b,s,tot)∧x = .slice (some ⟨b,o,none⟩) len cap'∧len≤cap∧cap≤cap' ∧
   (ex=true->cap'=cap)∧(0<cap'->o=s+off∧o+cap'*esz≤tot)
 | .str n c,x=>∃ s:ByteArray,x = .string s∧s.size=n∧AX s.data.toList=c
 | .agg l,x=>∃ cs:Array Value,x = .agg cs∧Bl l cs.toList ∧ ∀ y∈cs.toList,y.oneCell'=true
 | .nil w,x=>x=BW w
 | .map p,x=>∃ b s tot,φ p=some (b,s,tot)∧x = .map (some b)
 | .fn f caps,x=>∃ cs:Array Value,x = .func (.func f) #[] cs∧Bl caps cs.toList
 | .tup l,x=>∃ cs:Array Value,x = .tuple cs∧Bl l cs.toList
 | .oth o,x=>match o with | .any=>True | .sym i=>x=ρ.v i | .yl p=>(∃ b s tot,φ p=some (b,s,tot)∧x = .func (.yield b) #[] #[]) | .no=>False | .iv k lo hi=>∃ r,lo≤r∧r≤hi∧r<Mk k∧x = .int k (BV k r) | .os lo hi=>∃ p len cap,x = .slice p len cap∧lo≤len∧len≤hi∧len≤cap | .bl=>∃ b,x = .bool b | .rs m j=>∃ z:Int,x = .int .i64 z ∧ -9223372036854775808≤z∧z<9223372036854775808∧(m<36893488147419103232∧z.natAbs % (m % 18446744073709551616)=j∨(36893488147419103232≤m∧j % 18446744073709551616≤z.natAbs % (m % 18446744073709551616)∧z.natAbs % (m % 18446744073709551616)≤j / 18446744073709551616))∧(18446744073709551616≤m->m<36893488147419103232->0≤z) | .ss lo hi n c=>∃ s:ByteArray,x = .string s∧lo≤s.size∧s.size≤hi ∧ ¬ (s.size=n∧AX s.data.toList=c) | .ro i lo hi z=>∃ b o len cap c e fr,x = .slice (some ⟨b,o,none⟩) len cap∧lo≤len∧len≤hi∧len≤cap∧ρ.gl b=some (c,e,fr) ∧ ∀ j,j<len*z->∃ y,c[o+j]? = some y∧Qt ρ i j y | .ap i j m=>∃ b o c e fr,x = .pointer (some ⟨b,o,none⟩)∧ρ.gl b=some (c,e,fr) ∧ ∀ q,q<m->∃ y,c[o+q]? = some y∧Qt ρ i (j+q) y | .sy k i=>x=ρ.v i ∧ ∃ r,r<Mk k∧x = .int k (BV k r)
def Bl:List V->List Value->Prop
 | [],l=>l=[]
 | v::vs,l=>∃ y ys,l=y::ys∧Au v y∧Bl vs ys
end
end
end Go.Ev

namespace Go.Ev
abbrev AU {A0:Sort _} (s:String):A0->R:=fun _=>.fail s
abbrev AH {A0 A1:Sort _} (s:String):A0->A1->R:=fun _ _=>.fail s
abbrev BQ {A0 A1 A2:Sort _} (s:String):A0->A1->A2->R:=fun _ _ _=>.fail s
abbrev F0 {A0 A1 A2 A3:Sort _} (s:String):A0->A1->A2->A3->R:=fun _ _ _ _=>.fail s
abbrev fF5 {A0 A1 A2 A3 A4:Sort _} (s:String):A0->A1->A2->A3->A4->R:=fun _ _ _ _ _=>.fail s
abbrev Da {A0 A1 A2 A3 A4 A5:Sort _} (s:String):A0->A1->A2->A3->A4->A5->R:=fun _ _ _ _ _ _=>.fail s
set_option linter.unusedVariables false
def D6 (m:Nat):List V->(List V->R)->R :=
 @Nat.rec (fun _=>List V->(List V->R)->R) (fun _ k=>k [])
  (fun _ ih xs k=>@List.rec V (fun _=>R) (.fail "") (fun x ys _=>ih ys fun zs=>k (x::zs)) xs) m
def DM (m:Nat):List V->(List V->R)->R :=
 @Nat.rec (fun _=>List V->(List V->R)->R) (fun xs k=>k xs)
  (fun _ ih xs k=>@List.rec V (fun _=>R) (.fail "") (fun _ ys _=>ih ys k) xs) m
def DU (m:Nat):List V->(V->R)->R :=
 @Nat.rec (fun _=>List V->(V->R)->R) (fun xs k=>@List.rec V (fun _=>R) (.fail "") (fun x _ _=>k x) xs)
  (fun _ ih xs k=>@List.rec V (fun _=>R) (.fail "") (fun _ ys _=>ih ys k) xs) m
def Ey (xs ys:List V):(List V->R)->R :=
 @List.rec V (fun _=>(List V->R)->R) (fun k=>k ys) (fun x _ ih k=>ih fun zs=>k (x::zs)) xs
def G8 (xs:List V):(Nat->R)->R :=
 @List.rec V (fun _=>(Nat->R)->R) (fun k=>k 0) (fun _ _ ih k=>ih fun n=>Af (Nat.succ n) k) xs
theorem Es {m:Nat} {xs:List V} {k:List V->R} (h:(D6 m xs k).good):m≤xs.length∧D6 m xs k=k (xs.take m):=by
 induction m generalizing xs k with
 | zero=>exact ⟨Nat.zero_le _,rfl⟩
 | succ m ih =>
  cases xs with
  | nil=>exact h.elim
  | cons x xs =>
   have:=ih (xs:=xs) (k:=fun zs=>k (x::zs)) h
   exact ⟨by simpa using this.1,this.2⟩
theorem Eu {m:Nat} {xs:List V} {k:List V->R} (h:(DM m xs k).good):m≤xs.length∧DM m xs k=k (xs.drop m):=by
 induction m generalizing xs with
 | zero=>exact ⟨Nat.zero_le _,rfl⟩
 | succ m ih =>
  cases xs with
  | nil=>exact h.elim
  | cons x xs =>
   have:=ih (xs:=xs) h
   exact ⟨by simpa using this.1,this.2⟩
theorem E9 {m:Nat} {xs:List V} {k:V->R} (h:(DU m xs k).good):∃ v,xs[m]? = some v∧DU m xs k=k v:=by
 induction m generalizing xs with
 | zero =>
  cases xs with
  | nil=>exact h.elim
  | cons x xs=>exact ⟨x,rfl,rfl⟩
 | succ m ih =>
  cases xs with
  | nil=>exact h.elim
  | cons x xs =>
   obtain ⟨v,h1,h2⟩:=ih (xs:=xs) h
   exact ⟨v,by simpa using h1,h2⟩
theorem E5 (xs ys:List V) (k:List V->R):Ey xs ys k=k (xs++ys):=by
 induction xs generalizing k with
 | nil=>rfl
 | cons x xs ih=>exact ih fun zs=>k (x::zs)
theorem CW (xs:List V) (k:Nat->R):G8 xs k=k xs.length:=by
 induction xs generalizing k with
 | nil=>rfl
 | cons x xs ih=>exact (ih fun n=>Af (Nat.succ n) k).trans (Ad _ _)
def FK (v:V) (κ:IntKind->Nat->R):R :=
 @V.rec (fun _=>R) (fun _=>Unit) (fun k r=>κ k r) (AU "") (AH "") (Da "") (AH "") (AH "") (AU "") (AU "") (BQ "") (AH "") (AU "") () (fun _ _ _ _=>()) v
def NN (v:V) (κ:Bool->R):R :=
 @V.rec (fun _=>R) (fun _=>Unit) (AH "") (fun b=>κ b) (AH "") (Da "") (AH "") (AH "") (AU "") (AU "") (BQ "") (AH "") (AU "") () (fun _ _ _ _=>()) v
def I5 (v:V) (κ:K4->Nat->R):R :=
 @V.rec (fun _=>R) (fun _=>Unit) (AH "") (AU "") (fun p off=>κ p off) (Da "") (AH "") (AH "") (AU "") (AU "") (BQ "") (AH "") (AU "") () (fun _ _ _ _=>()) v
def CE (v:V) (κn:R) (κ:K4->Nat->Nat->Nat->Bool->Nat->R):R :=
 @V.rec (fun _=>R) (fun _=>Unit) (AH "") (AU "") (AH "") (fun p off len cap ex esz=>κ p off len cap ex esz) (AH "") (AH "") (fun w=>@Nl.rec (fun _=>R) (.fail "") κn (.fail "") (.fail "") (.fail "") w) (AU "") (BQ "") (AH "") (AU "") () (fun _ _ _ _=>()) v
def B6 (v:V) (κ:Nat->Nat->R):R :=
 @V.rec (fun _=>R) (fun _=>Unit) (AH "") (AU "") (AH "") (Da "") (fun n c=>κ n c) (AH "") (AU "") (AU "") (BQ "") (AH "") (AU "") () (fun _ _ _ _=>()) v
def asAgg (v:V) (κ:List V->R):R :=
 @V.rec (fun _=>R) (fun _=>Unit) (AH "") (AU "") (AH "") (Da "") (AH "") (fun l _i=>κ l) (AU "") (AU "") (BQ "") (AH "") (AU "") () (fun _ _ _ _=>()) v
def JE (v:V) (κ:List V->R):R :=
 @V.rec (fun _=>R) (fun _=>Unit) (AH "") (AU "") (AH "") (Da "") (AH "") (AH "") (AU "") (AU "") (BQ "") (fun l _i=>κ l) (AU "") () (fun _ _ _ _=>()) v
def Dc (v:V) (κn:R) (κ:K4->R):R :=
 @V.rec (fun _=>R) (fun _=>Unit) (AH "") (AU "") (AH "") (Da "") (AH "") (AH "") (fun w=>@Nl.rec (fun _=>R) (.fail "") (.fail "") κn (.fail "") (.fail "") w) (fun p=>κ p) (BQ "") (AH "") (AU "") () (fun _ _ _ _=>()) v
def Oe (v:V) (κ:Nat->List V->R):R :=
 @V.rec (fun _=>R) (fun _=>Unit) (AH "") (AU "") (AH "") (Da "") (AH "") (AH "") (AU "") (AU "") (fun f caps _i=>κ f caps) (AH "") (AU "") () (fun _ _ _ _=>()) v
def Dv (v:V) (κ:List V->R):R :=
 @V.rec (fun _=>R) (fun _=>Unit) (fun _ _=>κ [v]) (fun _=>κ [v]) (fun _ _=>κ [v]) (fun _ _ _ _ _ _=>κ [v]) (fun _ _=>κ [v]) (fun l _i=>κ l) (fun _=>κ [v]) (fun _=>κ [v]) (fun _ _ _=>κ [v]) (fun l _i=>.fail "") (fun o=>@Ot.rec (fun _=>R) (.fail "") (fun _=>κ [v]) (AU "") (.fail "") (fun _ _ _=>κ [v]) (fun _ _=>κ [v]) (κ [v]) (fun _ _=>κ [v]) (fun _ _ _ _=>κ [v]) (fun _ _ _ _=>κ [v]) (fun _ _ _=>κ [v]) (fun _ _=>κ [v]) o) () (fun _ _ _ _=>()) v
def VY (v:V) (κ:Nat->Nat->R) (e:R):R :=
 @V.rec (fun _=>R) (fun _=>Unit) (fun _ _=>e) (fun _=>e) (fun _ _=>e) (fun _ _ _ _ _ _=>e) (fun _ _=>e) (fun _ _=>e) (fun _=>e) (fun _=>e) (fun _ _ _=>e) (fun _ _=>e) (fun o=>@Ot.rec (fun _=>R) e (fun _=>e) (fun _=>e) e (fun _ _ _=>e) (fun lo hi=>κ lo hi) e (fun _ _=>e) (fun _ _ _ _=>e) (fun _ _ _ _=>e) (fun _ _ _=>e) (fun _ _=>e) o) () (fun _ _ _ _=>()) v
theorem Qe (v:V) (κ:Nat->Nat->R) (e:R):(∃ lo hi,v = .oth (.os lo hi)∧VY v κ e=κ lo hi)∨VY v κ e=e:=by
 cases v with
 | oth o=>cases o with
  | os lo hi=>exact .inl ⟨lo,hi,rfl,rfl⟩
  | _=>exact .inr rfl
 | _=>exact .inr rfl
def Zn (v:V) (κ:Nat->Nat->R) (e:R):R :=
 @V.rec (fun _=>R) (fun _=>Unit) (fun _ _=>e) (fun _=>e) (fun _ _=>e) (fun _ _ _ _ _ _=>e) (fun _ _=>e) (fun _ _=>e) (fun _=>e) (fun _=>e) (fun _ _ _=>e) (fun _ _=>e) (fun o=>@Ot.rec (fun _=>R) e (fun _=>e) (fun _=>e) e (fun _ _ _=>e) (fun _ _=>e) e (fun m j=>κ m j) (fun _ _ _ _=>e) (fun _ _ _ _=>e) (fun _ _ _=>e) (fun _ _=>e) o) () (fun _ _ _ _=>()) v
theorem Qo (v:V) (κ:Nat->Nat->R) (e:R):(∃ m j,v = .oth (.rs m j)∧Zn v κ e=κ m j)∨Zn v κ e=e:=by
 cases v with
 | oth o=>cases o with
  | rs m j=>exact .inl ⟨m,j,rfl,rfl⟩
  | _=>exact .inr rfl
 | _=>exact .inr rfl
def Ta (v:V) (κ:Nat->Nat->Nat->Nat->R) (e:R):R :=
 @V.rec (fun _=>R) (fun _=>Unit) (fun _ _=>e) (fun _=>e) (fun _ _=>e) (fun _ _ _ _ _ _=>e) (fun _ _=>e) (fun _ _=>e) (fun _=>e) (fun _=>e) (fun _ _ _=>e) (fun _ _=>e) (fun o=>@Ot.rec (fun _=>R) e (fun _=>e) (fun _=>e) e (fun _ _ _=>e) (fun _ _=>e) e (fun _ _=>e) (fun lo hi n c=>κ lo hi n c) (fun _ _ _ _=>e) (fun _ _ _=>e) (fun _ _=>e) o) () (fun _ _ _ _=>()) v
theorem HY (v:V) (κ:Nat->Nat->Nat->Nat->R) (e:R):(∃ lo hi n c,v = .oth (.ss lo hi n c)∧Ta v κ e=κ lo hi n c)∨Ta v κ e=e:=by
 cases v with
 | oth o=>cases o with
  | ss lo hi n c=>exact .inl ⟨lo,hi,n,c,rfl,rfl⟩
  | _=>exact .inr rfl
 | _=>exact .inr rfl
def OL (v:V) (κ:K4->Nat->R) (κo:Ot->R):R :=
 @V.rec (fun _=>R) (fun _=>Unit) (AH "") (AU "") (fun p off=>κ p off) (Da "") (AH "") (AH "") (AU "") (AU "") (BQ "") (AH "") (fun o=>κo o) () (fun _ _ _ _=>()) v
def GB (v:V) (κn:R) (κ:K4->Nat->Nat->Nat->Bool->Nat->R) (κo:Ot->R):R :=
 @V.rec (fun _=>R) (fun _=>Unit) (AH "") (AU "") (AH "") (fun p off len cap ex esz=>κ p off len cap ex esz) (AH "") (AH "") (fun w=>@Nl.rec (fun _=>R) (.fail "") κn (.fail "") (.fail "") (.fail "") w) (AU "") (BQ "") (AH "") (fun o=>κo o) () (fun _ _ _ _=>()) v
theorem Jz {v:V} {κ:K4->Nat->R} {κo:Ot->R} (h:(OL v κ κo).good):(∃ p off,v = .ptr p off∧OL v κ κo=κ p off)∨(∃ o,v = .oth o∧OL v κ κo=κo o):=by
 cases v with
 | ptr p off=>exact .inl ⟨p,off,rfl,rfl⟩
 | oth o=>exact .inr ⟨o,rfl,rfl⟩
 | _=>exact h.elim
theorem Iz {v:V} {κn:R} {κ:K4->Nat->Nat->Nat->Bool->Nat->R} {κo:Ot->R} (h:(GB v κn κ κo).good) :
  (v = .nil .sl∧GB v κn κ κo=κn)∨(∃ p off len cap ex esz,v = .sl p off len cap ex esz∧GB v κn κ κo=κ p off len cap ex esz)∨(∃ o,v = .oth o∧GB v κn κ κo=κo o):=by
 cases v with
 | sl p off len cap ex esz=>exact .inr (.inl ⟨p,off,len,cap,ex,esz,rfl,rfl⟩)
 | nil w=>cases w with
  | sl=>exact .inl ⟨rfl,rfl⟩
  | _=>exact h.elim
 | oth o=>exact .inr (.inr ⟨o,rfl,rfl⟩)
 | _=>exact h.elim
def Up (o:Ot) (κ:Nat->Nat->R) (e:R):R :=
 @Ot.rec (fun _=>R) e (fun _=>e) (fun _=>e) e (fun _ _ _=>e) (fun lo hi=>κ lo hi) e (fun _ _=>e) (fun _ _ _ _=>e) (fun _ _ _ _=>e) (fun _ _ _=>e) (fun _ _=>e) o
def NV (o:Ot) (κ:Nat->Nat->Nat->Nat->R) (e:R):R :=
 @Ot.rec (fun _=>R) e (fun _=>e) (fun _=>e) e (fun _ _ _=>e) (fun _ _=>e) e (fun _ _=>e) (fun _ _ _ _=>e) (fun i lo hi z=>κ i lo hi z) (fun _ _ _=>e) (fun _ _=>e) o
def Qg (o:Ot) (κ:Nat->Nat->Nat->R) (e:R):R :=
 @Ot.rec (fun _=>R) e (fun _=>e) (fun _=>e) e (fun _ _ _=>e) (fun _ _=>e) e (fun _ _=>e) (fun _ _ _ _=>e) (fun _ _ _ _=>e) (fun i j m=>κ i j m) (fun _ _=>e) o
def TV (o:Ot) (κ:IntKind->Nat->R) (e:R):R :=
 @Ot.rec (fun _=>R) e (fun _=>e) (fun _=>e) e (fun _ _ _=>e) (fun _ _=>e) e (fun _ _=>e) (fun _ _ _ _=>e) (fun _ _ _ _=>e) (fun _ _ _=>e) (fun k i=>κ k i) o
theorem OO (o:Ot) (κ:IntKind->Nat->R) (e:R):(∃ k i,o = .sy k i∧TV o κ e=κ k i)∨TV o κ e=e:=by
 cases o with
 | sy k i=>exact .inl ⟨k,i,rfl,rfl⟩
 | _=>exact .inr rfl
def DD {α:Type} (o:Option α):Bool:=@Option.rec α (fun _=>Bool) false (fun _=>true) o
theorem C7 {v:V} {κ:IntKind->Nat->R} (h:(FK v κ).good):∃ k r,v = .int k r∧FK v κ=κ k r:=by
 cases v with
 | int k r=>exact ⟨k,r,rfl,rfl⟩
 | _=>exact h.elim
theorem Eh {v:V} {κ:Bool->R} (h:(NN v κ).good):∃ b,v = .bool b∧NN v κ=κ b:=by
 cases v with
 | bool b=>exact ⟨b,rfl,rfl⟩
 | _=>exact h.elim
theorem CB {v:V} {κ:K4->Nat->R} (h:(I5 v κ).good):∃ p off,v = .ptr p off∧I5 v κ=κ p off:=by
 cases v with
 | ptr p off=>exact ⟨p,off,rfl,rfl⟩
 | _=>exact h.elim
theorem Cl {v:V} {κn:R} {κ:K4->Nat->Nat->Nat->Bool->Nat->R} (h:(CE v κn κ).good) :
  (v = .nil .sl∧CE v κn κ=κn) ∨ ∃ p off len cap ex esz,v = .sl p off len cap ex esz∧CE v κn κ=κ p off len cap ex esz:=by
 cases v with
 | sl p off len cap ex esz=>exact .inr ⟨p,off,len,cap,ex,esz,rfl,rfl⟩
 | nil w=>cases w with
  | sl=>exact .inl ⟨rfl,rfl⟩
  | _=>exact h.elim
 | _=>exact h.elim
theorem BI {v:V} {κ:Nat->Nat->R} (h:(B6 v κ).good):∃ n c,v = .str n c∧B6 v κ=κ n c:=by
 cases v with
 | str n c=>exact ⟨n,c,rfl,rfl⟩
 | _=>exact h.elim
theorem Ci {v:V} {κ:List V->R} (h:(asAgg v κ).good):∃ l,v = .agg l∧asAgg v κ=κ l:=by
 cases v with
 | agg l=>exact ⟨l,rfl,rfl⟩
 | _=>exact h.elim
theorem JD {v:V} {κ:List V->R} (h:(JE v κ).good):∃ l,v = .tup l∧JE v κ=κ l:=by
 cases v with
 | tup l=>exact ⟨l,rfl,rfl⟩
 | _=>exact h.elim
theorem D4 {v:V} {κn:R} {κ:K4->R} (h:(Dc v κn κ).good) :
  (v = .nil .map∧Dc v κn κ=κn) ∨ ∃ p,v = .map p∧Dc v κn κ=κ p:=by
 cases v with
 | map p=>exact .inr ⟨p,rfl,rfl⟩
 | nil w=>cases w with
  | map=>exact .inl ⟨rfl,rfl⟩
  | _=>exact h.elim
 | _=>exact h.elim
theorem LT {v:V} {κ:Nat->List V->R} (h:(Oe v κ).good):∃ f caps,v = .fn f caps∧Oe v κ=κ f caps:=by
 cases v with
 | fn f caps=>exact ⟨f,caps,rfl,rfl⟩
 | _=>exact h.elim
def V.cl:V->List V
 | .agg l=>l
 | v=>[v]
def V.celled:V->Prop
 | .tup _=>False
 | .oth .any=>False
 | .oth (.yl _)=>False
 | .oth .no=>False
 | _=>True
theorem EO {v:V} {κ:List V->R} (h:(Dv v κ).good):v.celled∧Dv v κ=κ v.cl:=by
 cases v with
 | tup l=>exact h.elim
 | oth o=>cases o with
  | any=>exact h.elim
  | yl p=>exact h.elim
  | no=>exact h.elim
  | _=>exact ⟨trivial,rfl⟩
 | _=>exact ⟨trivial,rfl⟩
def Cs.at (cs:Cs) (i:Nat):Option V :=
 match cs with
 | .l xs=>xs[i]?
 | .b n c=>if i<n then some (.int .u8 (c / 256 ^ i % 256)) else none
def Cs.len:Cs->Nat
 | .l xs=>xs.length
 | .b n _=>n
theorem Cs.at_lt {cs:Cs} {i:Nat} (h:i<cs.len):∃ v,cs.at i=some v:=by
 cases cs with
 | l xs=>exact ⟨xs[i],by simp [Cs.at,List.getElem?_eq_getElem h]⟩
 | b n c=>exact ⟨_,if_pos h⟩
theorem Cs.at_none {cs:Cs} {i:Nat} (h:cs.len≤i):cs.at i=none:=by
 cases cs with
 | l xs=>simp only [Cs.at]; exact List.getElem?_eq_none h
 | b n c=>exact if_neg (Nat.not_lt.2 h)
theorem Cs.lt_of_at {cs:Cs} {i:Nat} {v:V} (h:cs.at i=some v):i<cs.len:=by
 rcases Nat.lt_or_ge i cs.len with h' | h'
 ·exact h'
 ·rw [Cs.at_none h'] at h; exact absurd h (by simp)
def Fw (cs:Cs) (i:Nat) (κ:V->R):R :=
 @Cs.rec (fun _=>R) (fun xs=>DU i xs κ) (fun n c=>br (Nat.ble (Nat.succ i) n) (Af (lo (sh c i) 1) fun r=>κ (.int .u8 r)) (.fail "")) cs
theorem TF (c i:Nat):lo (sh c i) 1=c / 256 ^ i % 256:=by rw [Di,EK]
theorem Gm {cs:Cs} {i:Nat} {κ:V->R} (h:(Fw cs i κ).good):∃ v,cs.at i=some v∧Fw cs i κ=κ v:=by
 cases cs with
 | l xs=>exact E9 h
 | b n c =>
  obtain ⟨h1,h2⟩:=Ai (show R.good (br (Nat.ble (Nat.succ i) n) _ (.fail _)) from h)
  refine ⟨.int .u8 (c / 256 ^ i % 256),?_,?_⟩
  ·exact if_pos (show i<n from Ak.1 h1)
  ·show br (Nat.ble (Nat.succ i) n) _ _=_
   rw [h2,Ad,TF]
theorem FW (d i m:Nat) (hi:i<m):d % 256 ^ m / 256 ^ i % 256=d / 256 ^ i % 256:=by
 have hm:256 ^ m=256 ^ i*(256*256 ^ (m - i - 1)):=by
  rw [←Nat.pow_succ',←Nat.pow_add]; congr 1; omega
 rw [hm,Nat.mod_mul_right_div_self,Nat.mod_mul_right_mod]
def BJ (cs:Cs) (off m:Nat) (κ:Cs->R):R :=
 @Cs.rec (fun _=>R) (fun xs=>DM off xs fun ys=>D6 m ys fun zs=>κ (.l zs))
  (fun n c=>br (Nat.ble (Nat.add off m) n) (Af (lo (sh c off) m) fun r=>κ (.b m r)) (.fail "")) cs
theorem Cg {cs:Cs} {off m:Nat} {κ:Cs->R} (h:(BJ cs off m κ).good) :
  off+m≤cs.len ∧ ∃ y:Cs,y.len=m∧(∀ i,i<m->y.at i=cs.at (off+i))∧BJ cs off m κ=κ y:=by
 cases cs with
 | l xs =>
  obtain ⟨h1,e1⟩:=Eu (h:(DM off xs _).good)
  have h':(D6 m (xs.drop off) fun zs=>κ (.l zs)).good:=by rw [←e1]; exact h
  obtain ⟨h2,e2⟩:=Es h'
  simp only [List.length_drop] at h2
  refine ⟨by simp only [Cs.len]; omega,.l ((xs.drop off).take m),by simp [Cs.len]; omega,fun i hi=>?_,e1.trans e2⟩
  simp [Cs.at,hi]
 | b n c =>
  obtain ⟨h1,h2⟩:=Ai (show R.good (br (Nat.ble (Nat.add off m) n) _ (.fail _)) from h)
  have h1:off+m≤n:=Ak.1 h1
  refine ⟨h1,.b m (c / 256 ^ off % 256 ^ m),rfl,fun i hi=>?_,?_⟩
  ·simp only [Cs.at]
   rw [if_pos hi,if_pos (by omega)]
   congr 2
   rw [Nat.pow_add,←Nat.div_div_eq_div_mul]
   generalize c / 256 ^ off=d
   exact (FW d i m hi)
  ·show br (Nat.ble (Nat.add off m) n) _ _=_
   rw [h2,Ad,Di,EK]
end Go.Ev

namespace Go.Ev
set_option linter.unusedVariables false
theorem Cs.b_pos {n c i:Nat} (h:i<n):(Cs.b n c).at i=some (.int .u8 (c / 256 ^ i % 256)):=if_pos h
theorem Cs.b_neg {n c i:Nat} (h:¬ i<n):(Cs.b n c).at i=none:=if_neg h
def L8 (v:V) (κ:Nat->R) (e:R):R :=
 @V.rec (fun _=>R) (fun _=>Unit) (fun k r=>br (B8 k .u8) (br (Nat.ble r 255) (κ r) e) e) (fun _=>e) (fun _ _=>e) (fun _ _ _ _ _ _=>e) (fun _ _=>e) (fun _ _=>e) (fun _=>e) (fun _=>e) (fun _ _ _=>e) (fun _ _=>e) (fun _=>e) () (fun _ _ _ _=>()) v
theorem RX (v:V) (κ:Nat->R) (e:R):L8 v κ e=e ∨ ∃ r,v = .int .u8 r∧r<256∧L8 v κ e=κ r:=by
 cases v with
 | int k r =>
  by_cases hk:B8 k .u8=true
  ·have:=B9.1 hk
   subst this
   by_cases hr:Nat.ble r 255=true
   ·refine .inr ⟨r,rfl,by have:=Ak.1 hr; omega,?_⟩
    show br (B8 .u8 .u8) (br (Nat.ble r 255) (κ r) e) e=_
    rw [hk,hr]; rfl
   ·refine .inl ?_
    show br (B8 .u8 .u8) (br (Nat.ble r 255) (κ r) e) e=_
    rw [hk,Bool.eq_false_iff.2 hr]; rfl
  ·refine .inl ?_
   show br (B8 k .u8) (br (Nat.ble r 255) (κ r) e) e=_
   rw [Bool.eq_false_iff.2 hk]; rfl
 | _=>exact .inl rfl
def Cx (xs:List V):(Nat->Nat->R)->R->R :=
 @List.rec V (fun _=>(Nat->Nat->R)->R->R) (fun κ _=>κ 0 0)
  (fun x _ ih κ e=>L8 x (fun r=>ih (fun n c=>Af (Nat.succ n) fun n=>Af (Nat.add r (Nat.mul 256 c)) fun c=>κ n c) e) e) xs
theorem J3 (xs:List V):∀ (κ:Nat->Nat->R) (e:R),Cx xs κ e=e ∨ ∃ n c,Cx xs κ e=κ n c∧(Cs.b n c).len=xs.length∧(∀ i,(Cs.b n c).at i=xs[i]?)∧c<256 ^ n:=by
 induction xs with
 | nil=>exact fun κ e=>.inr ⟨0,0,rfl,rfl,fun i=>by simp [Cs.at],by simp⟩
 | cons x xs ih =>
  intro κ e
  rcases RX x (fun r=>Cx xs (fun n c=>Af (Nat.succ n) fun n=>Af (Nat.add r (Nat.mul 256 c)) fun c=>κ n c) e) e with h | ⟨r,rfl,hr,h⟩
  ·exact .inl h
  ·rcases ih (fun n c=>Af (Nat.succ n) fun n=>Af (Nat.add r (Nat.mul 256 c)) fun c=>κ n c) e with h' | ⟨n,c,h',hl,hc,hlt⟩
   ·exact .inl (h.trans h')
   ·refine .inr ⟨n+1,r+256*c,?_,?_,fun i=>?_,by rw [Nat.pow_succ]; omega⟩
    ·refine (h.trans h').trans ?_
     rw [Ad,Ad]; rfl
    ·simp only [Cs.len] at hl ⊢; simp [hl]
    ·cases i with
     | zero =>
      simp only [Cs.at,List.getElem?_cons_zero]
      rw [if_pos (by omega)]
      congr 2
      simp; omega
     | succ i =>
      rw [List.getElem?_cons_succ,←hc i]
      simp only [Cs.at]
      by_cases hi:i<n
      ·rw [if_pos (by omega),if_pos hi]
       congr 2
       rw [Nat.pow_succ,Nat.mul_comm (256 ^ i) 256,←Nat.div_div_eq_div_mul]
       congr 2
       omega
      ·rw [if_neg (by omega),if_neg hi]
def E4 (n:Nat):Nat->(List V->R)->R :=
 @Nat.rec (fun _=>Nat->(List V->R)->R) (fun _ κ=>κ [])
  (fun _ ih c κ=>Af (lo c 1) fun r=>Af (sh c 1) fun d=>ih d fun zs=>κ (.int .u8 r::zs)) n
theorem JN (n:Nat):∀ (c:Nat) (κ:List V->R),∃ zs,E4 n c κ=κ zs∧zs.length=n ∧ ∀ i,zs[i]? = (Cs.b n c).at i:=by
 induction n with
 | zero=>exact fun c κ=>⟨[],rfl,rfl,fun i=>by simp [Cs.at]⟩
 | succ n ih =>
  intro c κ
  obtain ⟨zs,h1,h2,h3⟩:=ih (sh c 1) (fun zs=>κ (.int .u8 (lo c 1)::zs))
  refine ⟨.int .u8 (lo c 1)::zs,?_,by simp [h2],fun i=>?_⟩
  ·refine Eq.trans ?_ h1
   exact (Ad (lo c 1) (fun r=>Af (sh c 1) fun d=>E4 n d fun zs=>κ (.int .u8 r::zs))).trans (Ad (sh c 1) _)
  ·cases i with
   | zero=>simp [Cs.at,Di]
   | succ i =>
    rw [List.getElem?_cons_succ,h3]
    simp only [Cs.at,EK]
    by_cases hi:i<n
    ·rw [if_pos hi,if_pos (show i+1<n+1 by omega),Nat.div_div_eq_div_mul,←Nat.pow_add,Nat.add_comm 1 i]
    ·rw [if_neg hi,if_neg (show ¬ i+1<n+1 by omega)]
def DZ (cs:Cs) (κ:List V->R):R:=@Cs.rec (fun _=>R) (fun xs=>κ xs) (fun n c=>E4 n c κ) cs
theorem EZ (cs:Cs) (κ:List V->R):∃ zs,DZ cs κ=κ zs∧zs.length=cs.len ∧ ∀ i,zs[i]? = cs.at i:=by
 cases cs with
 | l xs=>exact ⟨xs,rfl,rfl,fun _=>rfl⟩
 | b n c=>exact JN n c κ
def UF (cs:Cs) (κ:Nat->R):R:=@Cs.rec (fun _=>R) (fun xs=>G8 xs κ) (fun n _=>κ n) cs
theorem T4 (cs:Cs) (κ:Nat->R):UF cs κ=κ cs.len:=by
 cases cs with
 | l xs=>exact CW xs κ
 | b n c=>rfl
def MU (n c off m d:Nat) (κ:Cs->R):R :=
 br (Nat.ble (Nat.add off m) n) (Af (Nat.add (lo c off) (up (Nat.add (lo d m) (up (sh c (Nat.add off m)) m)) off)) fun r=>κ (.b n r)) (.fail "")
def ND (cs:Cs) (off:Nat) (y:Cs) (κ:Cs->R):R :=
 @Cs.rec (fun _=>R)
  (fun xs=>DZ y fun ys=>D6 off xs fun a=>G8 ys fun m=>Af (Nat.add off m) fun j=>DM j xs fun b=>Ey ys b fun t=>Ey a t fun zs=>κ (.l zs))
  (fun n c=>@Cs.rec (fun _=>R) (fun ys=>Cx ys (fun m d=>MU n c off m d κ) (.fail "")) (fun m d=>MU n c off m d κ) y) cs
def Pc (cs:Cs) (off:Nat) (y z:Cs):Prop :=
 off+y.len≤cs.len∧z.len=cs.len∧(∀ i,i<off->z.at i=cs.at i)∧(∀ i,i<y.len->z.at (off+i)=y.at i)∧(∀ i,off+y.len≤i->z.at i=cs.at i)
theorem Jj (a b j i:Nat) (hi:i<j):(a % 256 ^ j+256 ^ j*b) / 256 ^ i % 256=a / 256 ^ i % 256:=by
 have h:(a % 256 ^ j+256 ^ j*b) % 256 ^ j=a % 256 ^ j:=by rw [Nat.add_mul_mod_self_left,Nat.mod_mod]
 rw [←FW _ i j hi,h,FW _ i j hi]
theorem Gl (a b j i:Nat):(a % 256 ^ j+256 ^ j*b) / 256 ^ (j+i) % 256=b / 256 ^ i % 256:=by
 have hp:0<256 ^ j:=Nat.pow_pos (by omega)
 rw [Nat.pow_add,←Nat.div_div_eq_div_mul,Nat.add_mul_div_left _ _ hp,Nat.div_eq_of_lt (Nat.mod_lt _ hp),Nat.zero_add]
theorem Ll {n c off m d:Nat} {κ:Cs->R} (h:(MU n c off m d κ).good):∃ z,Pc (.b n c) off (.b m d) z∧MU n c off m d κ=κ z:=by
 obtain ⟨h1,h2⟩:=Ai (show R.good (br (Nat.ble (Nat.add off m) n) _ (.fail _)) from h)
 have h1:off+m≤n:=Ak.1 h1
 refine ⟨.b n (c % 256 ^ off+256 ^ off*(d % 256 ^ m+256 ^ m*(c / 256 ^ (off+m)))),⟨h1,rfl,fun i hi=>?_,fun i hi=>?_,fun i hi=>?_⟩,?_⟩
 ·simp only [Cs.at]
  rw [Jj _ _ _ _ hi]
 ·simp only [Cs.len] at hi
  simp only [Cs.at]
  rw [if_pos (by omega),if_pos hi,Gl,Jj _ _ _ _ hi]
 ·simp only [Cs.len] at hi
  simp only [Cs.at]
  obtain ⟨e,rfl⟩:∃ e,i=off+(m+e):=⟨i - off - m,by omega⟩
  rw [Gl,Gl,Nat.div_div_eq_div_mul,←Nat.pow_add,Nat.add_assoc]
 ·show br (Nat.ble (Nat.add off m) n) _ _=_
  rw [h2,Ad]
  simp only [Di,RM,EK]
  rfl
theorem Q1 {cs:Cs} {off:Nat} {y:Cs} {κ:Cs->R} (h:(ND cs off y κ).good):∃ z,Pc cs off y z∧ND cs off y κ=κ z:=by
 cases cs with
 | l xs =>
  obtain ⟨ys,e0,hyl,hya⟩:=EZ y (fun ys=>D6 off xs fun a=>G8 ys fun m=>Af (Nat.add off m) fun j=>DM j xs fun b=>Ey ys b fun t=>Ey a t fun zs=>κ (.l zs))
  have e0:ND (.l xs) off y κ=_:=e0
  rw [e0] at h
  obtain ⟨h1,e1⟩:=Es h
  rw [e1,CW,Ad] at h
  obtain ⟨h2,e2⟩:=Eu h
  simp only [Nat.add_eq] at h2
  have hlen:ys.length=y.len:=hyl
  refine ⟨.l (xs.take off++(ys++xs.drop (off+ys.length))),⟨?_,?_,fun i hi=>?_,fun i hi=>?_,fun i hi=>?_⟩,?_⟩
  ·show off+y.len≤xs.length
   omega
  ·show (xs.take off++(ys++xs.drop (off+ys.length))).length=xs.length
   simp only [List.length_append,List.length_take,List.length_drop]; omega
  ·simp only [Cs.at]
   rw [List.getElem?_append_left (by rw [List.length_take]; omega),List.getElem?_take,if_pos hi]
  ·simp only [Cs.at]
   rw [List.getElem?_append_right (by rw [List.length_take]; omega),List.length_take,Nat.min_eq_left h1,Nat.add_sub_cancel_left,
    List.getElem?_append_left (by omega)]
   exact hya i
  ·simp only [Cs.at]
   rw [List.getElem?_append_right (by rw [List.length_take]; omega),List.length_take,Nat.min_eq_left h1,
    List.getElem?_append_right (by omega),List.getElem?_drop]
   congr 1; omega
  ·rw [e0,e1,CW,Ad,e2,E5,E5]; rfl
 | b n c =>
  cases y with
  | l ys =>
   rcases J3 ys (fun m d=>MU n c off m d κ) (.fail "") with e | ⟨m,d,e,hl,ha,_⟩
   ·have e:ND (.b n c) off (.l ys) κ=_:=e
    rw [e] at h; exact h.elim
   ·have e:ND (.b n c) off (.l ys) κ=_:=e
    rw [e] at h
    obtain ⟨z,⟨g1,g2,g3,g4,g5⟩,e'⟩:=Ll h
    refine ⟨z,⟨?_,g2,g3,fun i hi=>?_,fun i hi=>g5 i ?_⟩,e.trans e'⟩
    ·rw [hl] at g1; exact g1
    ·rw [g4 i (by rw [hl]; exact hi)]; exact ha i
    ·rw [hl]; exact hi
  | b m d=>exact Ll h
def RH (n c m d:Nat) (κ:Cs->R):R :=
 Af (Nat.add n m) fun l=>Af (Nat.add (lo c n) (up d n)) fun r=>κ (.b l r)
def Uo (x y:Cs) (κ:Cs->R):R :=
 @Cs.rec (fun _=>R) (fun xs=>DZ y fun ys=>Ey xs ys fun zs=>κ (.l zs))
  (fun n c=>@Cs.rec (fun _=>R) (fun ys=>Cx ys (fun m d=>RH n c m d κ) (E4 n c fun xs=>Ey xs ys fun zs=>κ (.l zs))) (fun m d=>RH n c m d κ) y) x
def Po (x y z:Cs):Prop:=z.len=x.len+y.len∧(∀ i,i<x.len->z.at i=x.at i)∧(∀ i,z.at (x.len+i)=y.at i)
theorem Ve (xs ys:List V) (x y:Cs) (hx:xs.length=x.len) (hxa:∀ i,xs[i]? = x.at i) (hy:ys.length=y.len) (hya:∀ i,ys[i]? = y.at i):Po x y (.l (xs++ys)):=by
 refine ⟨by simp [Cs.len,hx,hy],fun i hi=>?_,fun i=>?_⟩
 ·simp only [Cs.at]; rw [List.getElem?_append_left (by omega)]; exact hxa i
 ·simp only [Cs.at]; rw [List.getElem?_append_right (by omega),hx,Nat.add_sub_cancel_left]; exact hya i
theorem Pw (n c m d:Nat) (κ:Cs->R):∃ z,Po (.b n c) (.b m d) z∧RH n c m d κ=κ z:=by
 refine ⟨.b (n+m) (c % 256 ^ n+256 ^ n*d),⟨rfl,fun i hi=>?_,fun i=>?_⟩,?_⟩
 ·simp only [Cs.len] at hi
  simp only [Cs.at]
  rw [if_pos (by omega),if_pos hi,Jj _ _ _ _ hi]
 ·show (Cs.b (n+m) _).at (n+i)=(Cs.b m d).at i
  by_cases hi:i<m
  ·rw [Cs.b_pos (by omega),Cs.b_pos hi,Gl]
  ·rw [Cs.b_neg (by omega),Cs.b_neg hi]
 ·simp only [RH,Ad,Di,RM]; rfl
theorem Tl (x y:Cs) (κ:Cs->R):∃ z,Po x y z∧Uo x y κ=κ z:=by
 cases x with
 | l xs =>
  obtain ⟨ys,e0,hyl,hya⟩:=EZ y (fun ys=>Ey xs ys fun zs=>κ (.l zs))
  exact ⟨_,Ve xs ys (.l xs) y rfl (fun _=>rfl) hyl hya,e0.trans (E5 _ _ _)⟩
 | b n c =>
  cases y with
  | l ys =>
   rcases J3 ys (fun m d=>RH n c m d κ) (E4 n c fun xs=>Ey xs ys fun zs=>κ (.l zs)) with e | ⟨m,d,e,hl,ha,_⟩
   ·obtain ⟨xs,e1,h2,h3⟩:=JN n c (fun xs=>Ey xs ys fun zs=>κ (.l zs))
    exact ⟨_,Ve xs ys (.b n c) (.l ys) h2 h3 rfl (fun _=>rfl),(e.trans e1).trans (E5 _ _ _)⟩
   ·obtain ⟨z,⟨g1,g2,g3⟩,e'⟩:=Pw n c m d κ
    refine ⟨z,⟨by rw [g1,hl]; rfl,g2,fun i=>(g3 i).trans (ha i)⟩,e.trans e'⟩
  | b m d=>exact Pw n c m d κ
def Wv (m:Nat):List V->(List V->R)->R :=
 @Nat.rec (fun _=>List V->(List V->R)->R) (fun _ κ=>κ []) (fun _ ih z κ=>ih z fun zs=>Ey z zs κ) m
theorem Th (m:Nat) (z:List V) (κ:List V->R):∃ zs,Wv m z κ=κ zs∧zs.length=m*z.length ∧ ∀ i,i<m*z.length->zs[i]? = z[i % z.length]?:=by
 induction m generalizing κ with
 | zero=>exact ⟨[],rfl,by simp,fun i hi=>by simp at hi⟩
 | succ m ih =>
  obtain ⟨zs,h1,h2,h3⟩:=ih (fun zs=>Ey z zs κ)
  refine ⟨z++zs,h1.trans (E5 _ _ _),by rw [List.length_append,h2,Nat.succ_mul]; omega,fun i hi=>?_⟩
  by_cases hz:i<z.length
  ·rw [List.getElem?_append_left hz,Nat.mod_eq_of_lt hz]
  ·rw [List.getElem?_append_right (by omega),h3 _ (by rw [Nat.succ_mul] at hi; omega)]
   congr 1
   rw [←Nat.mod_eq_sub_mod (by omega)]
def Et (u8:Bool) (z:List V) (m:Nat) (κ:Cs->R):R :=
 br u8 (κ (.b m 0)) (Wv m z fun zs=>κ (.l zs))
theorem Gq (u8:Bool) (z:List V) (m:Nat) (κ:Cs->R) (hu:u8=true->z=[.int .u8 0]) :
  ∃ y:Cs,Et u8 z m κ=κ y∧y.len=m*z.length ∧ ∀ i,i<m*z.length->y.at i=z[i % z.length]?:=by
 cases u8 with
 | true =>
  rw [hu rfl]
  refine ⟨.b m 0,rfl,by simp [Cs.len],fun i hi=>?_⟩
  simp only [Cs.at]
  rw [if_pos (by simpa using hi)]
  simp [Nat.mod_one]
 | false =>
  obtain ⟨zs,h1,h2,h3⟩:=Th m z (fun zs=>κ (.l zs))
  exact ⟨.l zs,h1,h2,h3⟩
end Go.Ev

namespace Go.Ev
set_option linter.unusedVariables false
inductive Opd where
 | t (p:K2)
 | c (v:V)
inductive Sc where
 | i
 | s
 | b
inductive Plan where
 | sc (k:Sc)
 | st (fs:List (Nat×Sc))
 | ks (l:List Sc)
 | rf (w:Nl)
structure Part where
 off:Nat
 size:Nat
 x:Opd
def CA (o:Opd) (t:Regs) (κ:V->R):R:=@Opd.rec (fun _=>R) (fun p=>GA p t κ) (fun v=>κ v) o
def ev (o:Opd) (t:Regs):V:=match o with | .t p=>B4 p t | .c v=>v
theorem AE (o:Opd) (t:Regs) (κ:V->R):CA o t κ=κ (ev o t):=by
 cases o with
 | t p=>exact Ck p t κ
 | c v=>rfl
def N8 (l:List Opd) (t:Regs):(List V->R)->R :=
 @List.rec Opd (fun _=>(List V->R)->R) (fun κ=>κ []) (fun o _ ih κ=>CA o t fun v=>ih fun vs=>κ (v::vs)) l
theorem Ez (l:List Opd) (t:Regs) (κ:List V->R):N8 l t κ=κ (l.map (ev · t)):=by
 induction l generalizing κ with
 | nil=>rfl
 | cons o l ih =>
  show CA o t _=_
  rw [AE]
  exact ih _
inductive AK where
 | mv (x:Opd)
 | pick (c a b:Opd)
 | alc (cs:Cs)
 | box (x:Opd)
 | build (zero:List V) (parts:List Part)
 | bslice (u8:Bool) (len esz:Nat) (zero:List V) (parts:List Part)
 | ld (x:Opd)
 | ldn (m:Nat) (x:Opd)
 | st (m:Nat) (a x:Opd)
 | nilck (x:Opd)
 | bin (op:BinOp) (x y:Opd)
 | eq (neg:Bool) (pl:Plan) (x y:Opd)
 | not (x:Opd)
 | neg (x:Opd)
 | com (x:Opd)
 | cvi (k:IntKind) (x:Opd)
 | b2s (x:Opd)
 | s2b (x:Opd)
 | idn (x:Opd)
 | bsl (x:Opd)
 | mkfn (f:Nat) (caps:List Opd)
 | mkmap 
 | mksl (eb:Nat) (u8:Bool) (zero:List V) (l c:Opd)
 | slS (x:Opd) (lo hi:Option Opd)
 | slL (esz:Nat) (x:Opd) (lo hi:Option Opd)
 | slA (m esz:Nat) (x:Opd) (lo hi:Option Opd)
 | fad (off:Nat) (x:Opd)
 | fld (off size:Nat) (ag:Bool) (x:Opd)
 | ixS (esz:Nat) (x i:Opd)
 | ixA (m esz:Nat) (x i:Opd)
 | idS (x i:Opd)
 | idA (m esz:Nat) (ag:Bool) (x i:Opd)
 | lk (pl:Plan) (zero:V) (ok:Bool) (m k:Opd)
 | mu (pl:Plan) (m k v:Opd)
 | del (pl:Plan) (m k:Opd)
 | ext (i:Nat) (x:Opd)
 | call (f:Nat) (args:List Opd)
 | calld (x:Opd) (args:List Opd)
 | lnS (x:Opd)
 | lnL (x:Opd)
 | lnM (x:Opd)
 | min (x y:Opd)
 | max (x y:Opd)
 | app (esz eb:Nat) (x y:Opd)
 | appz (esz eb:Nat) (u8:Bool) (zero:List V) (x c:Opd)
 | cpy (esz:Nat) (x y:Opd)
 | max3 (x y z:Opd)
 | cpL (x:Opd)
 | clr (u8:Bool) (zero:List V) (x:Opd)
 | bad (why:String)
def SK (k:IntKind) (a:Nat) (j:IntKind) (b:Nat) (κ:V->R):R:=br (B8 k j) (Af (Nat.mod (Nat.add a b) (Mk k)) fun r=>κ (.int k r)) (.fail "")
def Mc (k:IntKind) (a:Nat) (j:IntKind) (b:Nat) (κ:V->R):R:=br (B8 k j) (Af (Nat.mod (Nat.add a (Nat.sub (Mk k) b)) (Mk k)) fun r=>κ (.int k r)) (.fail "")
def Tq (k:IntKind) (a:Nat) (j:IntKind) (b:Nat) (κ:V->R):R:=br (B8 k j) (Af (Nat.mod (Nat.mul a b) (Mk k)) fun r=>κ (.int k r)) (.fail "")
def Nd (k:IntKind) (a:Nat) (j:IntKind) (b:Nat) (κ:R):R :=
 br (B8 k j) (br (Nat.ble (Nat.succ a) (Hk k)) (br (Nat.ble (Nat.succ b) (Hk k)) κ (.fail "")) (.fail "")) (.fail "")
def QL (k:IntKind) (a:Nat) (j:IntKind) (b:Nat) (κ:V->R):R:=Nd k a j b (br (Nat.ble 1 b) (Af (Nat.div a b) fun r=>κ (.int k r)) (.fail ""))
def PL (k:IntKind) (a:Nat) (j:IntKind) (b:Nat) (κ:V->R):R:=Nd k a j b (br (Nat.ble 1 b) (Af (Nat.mod a b) fun r=>κ (.int k r)) (.fail ""))
def Rq (k:IntKind) (a:Nat) (j:IntKind) (b:Nat) (κ:V->R):R:=br (B8 k j) (Af (Nat.land a b) fun r=>κ (.int k r)) (.fail "")
def W7 (k:IntKind) (a:Nat) (j:IntKind) (b:Nat) (κ:V->R):R:=br (B8 k j) (Af (Nat.lor a b) fun r=>κ (.int k r)) (.fail "")
def QY (k:IntKind) (a:Nat) (j:IntKind) (b:Nat) (κ:V->R):R:=br (B8 k j) (Af (Nat.xor a b) fun r=>κ (.int k r)) (.fail "")
def NH (k:IntKind) (a:Nat) (j:IntKind) (b:Nat) (κ:V->R):R:=br (B8 k j) (Af (Nat.land a (Nat.sub (Nat.sub (Mk k) 1) b)) fun r=>κ (.int k r)) (.fail "")
def Ra (k:IntKind) (a:Nat) (j:IntKind) (b:Nat) (κ:V->R):R :=
 br (Nat.ble (Nat.succ b) (Hk j)) (br (Nat.ble b 64) (Af (Nat.mod (Nat.shiftLeft a b) (Mk k)) fun r=>κ (.int k r)) (κ (.int k 0))) (.fail "")
def Q2 (k:IntKind) (a:Nat) (j:IntKind) (b:Nat) (κ:V->R):R :=
 br (Nat.ble (Nat.succ b) (Hk j)) (br (Nat.ble (Nat.succ a) (Hk k)) (br (Nat.ble b 64) (Af (Nat.shiftRight a b) fun r=>κ (.int k r)) (κ (.int k 0))) (.fail "")) (.fail "")
def Wy (k:IntKind) (a:Nat) (j:IntKind) (b:Nat) (κ:V->R):R:=br (B8 k j) (Cr (Nat.beq a b) fun r=>κ (.bool r)) (.fail "")
def WA (k:IntKind) (a:Nat) (j:IntKind) (b:Nat) (κ:V->R):R:=br (B8 k j) (br (Nat.beq a b) (κ (.bool false)) (κ (.bool true))) (.fail "")
def Ww (k:IntKind) (a:Nat) (j:IntKind) (b:Nat) (κ:V->R):R:=br (B8 k j) (Cr (GX k a b) fun r=>κ (.bool r)) (.fail "")
def WK (k:IntKind) (a:Nat) (j:IntKind) (b:Nat) (κ:V->R):R:=br (B8 k j) (Cr (GX k b a) fun r=>κ (.bool r)) (.fail "")
def WE (k:IntKind) (a:Nat) (j:IntKind) (b:Nat) (κ:V->R):R:=br (B8 k j) (br (GX k b a) (κ (.bool false)) (κ (.bool true))) (.fail "")
def Wx (k:IntKind) (a:Nat) (j:IntKind) (b:Nat) (κ:V->R):R:=br (B8 k j) (br (GX k a b) (κ (.bool false)) (κ (.bool true))) (.fail "")
def MG (op:BinOp):IntKind->Nat->IntKind->Nat->(V->R)->R :=
 @BinOp.rec (fun _=>IntKind->Nat->IntKind->Nat->(V->R)->R) SK Mc Tq QL PL Rq W7 QY Ra Q2 NH Wy WA Ww WE WK Wx op
def Uv (n c m d:Nat) (κ:V->R):R :=
 Af (Nat.add n m) fun l=>br (Nat.ble l 1000000000) (Af (Nat.add c (up d n)) fun r=>κ (.str l r)) (.fail "")
def IL (n c m d:Nat):Bool:=and (Nat.beq n m) (Nat.beq c d)
def Oj (n:Nat):Nat->Nat->Nat->Bool :=
 @Nat.rec (fun _=>Nat->Nat->Nat->Bool) (fun _ m _=>Nat.ble 1 m)
  (fun _ ih c m d=>@Nat.rec (fun _=>Bool) false (fun m _=>br (Nat.beq (lo c 1) (lo d 1)) (ih (sh c 1) m (sh d 1)) (Nat.ble (Nat.succ (lo c 1)) (lo d 1))) m) n
def Kw (n c m d:Nat) (κ:V->R):R:=.fail ""
def UB (n c m d:Nat) (κ:V->R):R:=Cr (IL n c m d) fun r=>κ (.bool r)
def Z5 (n c m d:Nat) (κ:V->R):R:=br (IL n c m d) (κ (.bool false)) (κ (.bool true))
def Yt (n c m d:Nat) (κ:V->R):R:=Cr (Oj n c m d) fun r=>κ (.bool r)
def sgt (n c m d:Nat) (κ:V->R):R:=.fail ""
def ZZ (n c m d:Nat) (κ:V->R):R:=.fail ""
def Y9 (n c m d:Nat) (κ:V->R):R:=br (Oj n c m d) (κ (.bool false)) (κ (.bool true))
def IK (op:BinOp):Nat->Nat->Nat->Nat->(V->R)->R :=
 @BinOp.rec (fun _=>Nat->Nat->Nat->Nat->(V->R)->R) Uv Kw Kw Kw Kw Kw Kw Kw Kw Kw Kw UB Z5 Yt ZZ sgt Y9 op
def Gy (v:V) (κ:IntKind->Nat->Nat->R):R :=
 @V.rec (fun _=>R) (fun _=>Unit) (fun k r=>κ k r r) (AU "") (AH "") (Da "") (AH "") (AH "") (AU "") (AU "") (BQ "") (AH "") (fun o=>@Ot.rec (fun _=>R) (.fail "") (fun _=>(.fail "")) (fun _=>(.fail "")) (.fail "") (fun k lo hi=>κ k lo hi) (fun _ _=>(.fail "")) (.fail "") (fun m _=>br (Nat.ble 18446744073709551616 m) (br (Nat.ble (Nat.succ m) 36893488147419103232) (κ .i64 0 9223372036854775807) (.fail "")) (.fail "")) (fun _ _ _ _=>(.fail "")) (fun _ _ _ _=>(.fail "")) (fun _ _ _=>(.fail "")) (fun k _=>κ k 0 (Nat.sub (Mk k) 1)) o) () (fun _ _ _ _=>()) v
def Bn (H M r:Nat):Nat:=br (Nat.ble H r) (Nat.sub r H) (Nat.add r (Nat.sub M H))
def Eg (H lo hi:Nat):Bool:=br (Nat.ble (Nat.succ hi) H) true (Nat.ble H lo)
def SG (a b c d:Nat) (κ:V->R):R:=br (Nat.ble (Nat.succ b) c) (κ (.bool true)) (br (Nat.ble d a) (κ (.bool false)) (κ (.oth .bl)))
def Tm (a b c d:Nat) (κ:V->R):R:=br (Nat.ble (Nat.succ b) c) (κ (.bool false)) (br (Nat.ble d a) (κ (.bool true)) (κ (.oth .bl)))
def Lp (a b c d:Nat):Bool:=br (Nat.beq a b) (br (Nat.beq b c) (Nat.beq c d) false) false
def TU (a b c d:Nat) (κ:V->R):R:=br (Nat.ble (Nat.succ b) c) (κ (.bool false)) (br (Nat.ble (Nat.succ d) a) (κ (.bool false)) (br (Lp a b c d) (κ (.bool true)) (κ (.oth .bl))))
def UA (a b c d:Nat) (κ:V->R):R:=br (Nat.ble (Nat.succ b) c) (κ (.bool true)) (br (Nat.ble (Nat.succ d) a) (κ (.bool true)) (br (Lp a b c d) (κ (.bool false)) (κ (.oth .bl))))
def Gb (a b c d:Nat) (κ:V->R):R:=.fail ""
def Vb (op:BinOp):Nat->Nat->Nat->Nat->(V->R)->R :=
 @BinOp.rec (fun _=>Nat->Nat->Nat->Nat->(V->R)->R) Gb Gb Gb Gb Gb Gb Gb Gb Gb Gb Gb TU UA SG (fun a b c d κ=>Tm c d a b κ) (fun a b c d κ=>SG c d a b κ) Tm op
def GG (op:BinOp) (κ:V->R):R :=
 @BinOp.rec (fun _=>R) (.fail "") (.fail "") (.fail "") (.fail "") (.fail "") (.fail "") (.fail "") (.fail "") (.fail "") (.fail "") (.fail "") (κ (.oth .bl)) (κ (.oth .bl)) (κ (.oth .bl)) (κ (.oth .bl)) (κ (.oth .bl)) (κ (.oth .bl)) op
def Sq (op:BinOp) (κ:V->R) (e:R):R:=@BinOp.rec (fun _=>R) e e e e e e e e e e e (κ (.bool false)) (κ (.bool true)) e e e e op
def Sh (op:BinOp) (a b c d:Nat) (κ:V->R):R:=br (br (Nat.ble (Nat.succ b) c) true (Nat.ble (Nat.succ d) a)) (Sq op κ (GG op κ)) (GG op κ)
def FI (op:BinOp) (x y:V) (κ:V->R):R :=
 Gy x fun k a b=>Gy y fun j c d=>br (B8 k j) (br (Eg (Hk k) a b) (br (Eg (Hk k) c d) (Vb op (Bn (Hk k) (Mk k) a) (Bn (Hk k) (Mk k) b) (Bn (Hk k) (Mk k) c) (Bn (Hk k) (Mk k) d) κ) (Sh op a b c d κ)) (Sh op a b c d κ)) (.fail "")
def Pj (x y:V) (κ:V->R):R :=
 Gy x fun k a b=>Gy y fun j c d=>br (B8 k j) (Af (Nat.add a c) fun lo=>Af (Nat.add b d) fun hi=>br (Nat.ble (Nat.succ hi) (Hk k)) (κ (.oth (.iv k lo hi))) (.fail "")) (.fail "")
def Pb (x y:V) (κ:V->R):R :=
 Gy x fun k a b=>Gy y fun j c d=>br (B8 k j) (br (Nat.ble d a) (br (Nat.ble (Nat.succ b) (Hk k)) (Af (Nat.sub a d) fun lo=>Af (Nat.sub b c) fun hi=>κ (.oth (.iv k lo hi))) (.fail "")) (.fail "")) (.fail "")
def P4 (x y:V) (κ:V->R):R :=
 Gy x fun k a b=>FK y fun j d=>br (B8 k .i64) (br (B8 j .i64) (br (Nat.ble 1 d) (br (Nat.ble (Nat.succ d) 9223372036854775808)
  (br (Nat.ble (Nat.succ b) 9223372036854775808) (Af (Nat.sub d 1) fun e=>κ (.oth (.iv .i64 0 e))) (κ (.oth (.iv .i64 0 18446744073709551615)))) (.fail "")) (.fail "")) (.fail "")) (.fail "")
def F7 (op:BinOp) (x y:V) (κ:V->R):R :=
 @BinOp.rec (fun _=>R) (Pj x y κ) (Pb x y κ) (FI op x y κ) (FI op x y κ) (P4 x y κ) (FI op x y κ) (FI op x y κ) (FI op x y κ) (FI op x y κ) (FI op x y κ) (FI op x y κ) (FI op x y κ) (FI op x y κ) (FI op x y κ) (FI op x y κ) (FI op x y κ) (FI op x y κ) op
def UH (a b c d:Nat) (yes no:R):R:=br (Nat.ble (Nat.succ b) c) yes (br (Nat.ble d a) no (.fail ""))
def UK (u v:V) (κ:V->R):R :=
 Gy u fun k a b=>Gy v fun j c d=>br (B8 k j) (br (Eg (Hk k) a b) (br (Eg (Hk k) c d) (UH (Bn (Hk k) (Mk k) a) (Bn (Hk k) (Mk k) b) (Bn (Hk k) (Mk k) c) (Bn (Hk k) (Mk k) d) (κ v) (κ u)) (.fail "")) (.fail "")) (.fail "")
def UJ (u v:V) (κ:V->R):R :=
 Gy u fun k a b=>Gy v fun j c d=>br (B8 k j) (br (Eg (Hk k) a b) (br (Eg (Hk k) c d) (UH (Bn (Hk k) (Mk k) c) (Bn (Hk k) (Mk k) d) (Bn (Hk k) (Mk k) a) (Bn (Hk k) (Mk k) b) (κ v) (κ u)) (.fail "")) (.fail "")) (.fail "")
def PG (op:BinOp) (x y:V) (κ:V->R) (e:R):R :=
 @BinOp.rec (fun _=>R) e e e e (Zn x (fun m j=>FK y fun k b=>br (B8 k .i64) (br (Nat.ble 1 b) (br (Nat.ble (Nat.succ b) 9223372036854775808) (br (Nat.beq m (Nat.add 18446744073709551616 b)) (κ (.int .i64 j)) (br (Nat.beq m b) (br (Nat.beq j 0) (κ (.int .i64 0)) (κ (.oth (.iv .i64 1 18446744073709551615)))) (.fail ""))) (.fail "")) (.fail "")) (.fail "")) e) e e e e e e e e e e e e op
def Vi (v:V) (κ:IntKind->Nat->R) (e:R):R :=
 @V.rec (fun _=>R) (fun _=>Unit) (fun _ _=>e) (fun _=>e) (fun _ _=>e) (fun _ _ _ _ _ _=>e) (fun _ _=>e) (fun _ _=>e) (fun _=>e) (fun _=>e) (fun _ _ _=>e) (fun _ _=>e) (fun o=>TV o κ e) () (fun _ _ _ _=>()) v
def Ju (x y:V) (a e:R):R:=Vi x (fun k i=>Vi y (fun j i'=>br (B8 k j) (br (Nat.beq i i') a e) e) e) e
def WD (op:BinOp) (x y:V) (κ:V->R) (e:R):R:=@BinOp.rec (fun _=>R) e e e e e e e e e e e (Ju x y (κ (.bool true)) e) (Ju x y (κ (.bool false)) e) e e e e op
def IT (op:BinOp) (x y:V) (κ:V->R):R:=WD op x y κ (PG op x y κ (F7 op x y κ))
def OX (op:BinOp) (l0 l1 n c m d:Nat) (κ:V->R):R :=
 br (br (Nat.ble l0 m) (br (Nat.ble m l1) (br (Nat.beq m n) (Nat.beq d c) false) true) true)
  (@BinOp.rec (fun _=>R) (.fail "") (.fail "") (.fail "") (.fail "") (.fail "") (.fail "") (.fail "") (.fail "") (.fail "") (.fail "") (.fail "") (κ (.bool false)) (κ (.bool true)) (.fail "") (.fail "") (.fail "") (.fail "") op) (.fail "")
def Ca (op:BinOp) (x y:V) (κ:V->R):R:=Ta x (fun l0 l1 n c=>B6 y fun m d=>OX op l0 l1 n c m d κ) (IT op x y κ)
def My (op:BinOp) (x y:V) (κ:V->R):R :=
 @V.rec (fun _=>R) (fun _=>Unit) (fun k r=>@V.rec (fun _=>R) (fun _=>Unit) (fun j b=>MG op k r j b κ) (AU "") (AH "") (Da "") (AH "") (AH "") (AU "") (AU "") (BQ "") (AH "") (fun _=>IT op x y κ) () (fun _ _ _ _=>()) y) (AU "") (AH "") (Da "") (fun n c=>B6 y fun m d=>IK op n c m d κ) (AH "") (AU "") (AU "") (BQ "") (AH "") (fun _=>Ca op x y κ) () (fun _ _ _ _=>()) x
def eqI (x y:V) (κ:Bool->R):R:=FK x fun k a=>FK y fun j b=>br (B8 k j) (Cr (Nat.beq a b) κ) (.fail "")
def eqS (x y:V) (κ:Bool->R):R:=B6 x fun n c=>B6 y fun m d=>Cr (IL n c m d) κ
def eqB (x y:V) (κ:Bool->R):R:=NN x fun b=>NN y fun c=>br b (br c (κ true) (κ false)) (br c (κ false) (κ true))
def Kj (k:Sc):V->V->(Bool->R)->R:=@Sc.rec (fun _=>V->V->(Bool->R)->R) eqI eqS eqB k
def Nl.ix (w:Nl):Nat:=@Nl.rec (fun _=>Nat) 0 1 2 3 4 w
def FD (w:Nl) (v:V) (κn κo:R):R :=
 @V.rec (fun _=>R) (fun _=>Unit) (AH "") (AU "") (fun p off=>br (Nat.beq w.ix 0) κo (.fail "")) (fun p off len cap ex esz=>br (Nat.beq w.ix 1) κo (.fail "")) (AH "") (AH "") (fun w'=>br (Nat.beq w'.ix w.ix) κn (.fail "")) (fun p=>br (Nat.beq w.ix 2) κo (.fail "")) (fun f caps _i=>br (Nat.beq w.ix 3) κo (.fail "")) (AH "") (AU "") () (fun _ _ _ _=>()) v
def IJ (w:Nl) (x y:V) (κ:Bool->R):R :=
 FD w x (FD w y (κ true) (κ false)) (FD w y (κ false) (I5 x fun p o=>I5 y fun q o'=>br (K4.beq p q) (Cr (Nat.beq o o') κ) (.fail "")))
def I1 (fs:List (Nat×Sc)) (x y:List V) (κ:Bool->R):R :=
 @List.rec (Nat×Sc) (fun _=>R) (κ true) (fun f _ ih=>@Prod.rec Nat Sc (fun _=>R) (fun o k=>DU o x fun u=>DU o y fun v=>Kj k u v fun r=>br r ih (κ false)) f) fs
def N5 (ks:List Sc):List V->List V->(Bool->R)->R :=
 @List.rec Sc (fun _=>List V->List V->(Bool->R)->R)
  (fun a b κ=>@List.rec V (fun _=>R) (@List.rec V (fun _=>R) (κ true) (BQ "") b) (BQ "") a)
  (fun k _ ih a b κ=>@List.rec V (fun _=>R) (.fail "") (fun u a _=>@List.rec V (fun _=>R) (.fail "") (fun v b _=>Kj k u v fun r=>br r (ih a b κ) (κ false)) b) a) ks
def Kg (pl:Plan) (x y:V) (κ:Bool->R):R :=
 @Plan.rec (fun _=>R) (fun k=>Kj k x y κ) (fun fs=>asAgg x fun a=>asAgg y fun b=>I1 fs a b κ) (fun l=>asAgg x fun a=>asAgg y fun b=>N5 l a b κ) (fun w=>IJ w x y κ) pl
def MY (ks:List Sc):List V->R->R :=
 @List.rec Sc (fun _=>List V->R->R) (fun a κ=>@List.rec V (fun _=>R) κ (BQ "") a) (fun _ _ ih a κ=>@List.rec V (fun _=>R) (.fail "") (fun _ l _=>ih l κ) a) ks
def Js (pl:Plan) (v:V) (κ:R):R :=
 @Plan.rec (fun _=>R) (fun k=>@Sc.rec (fun _=>R) (FK v fun _ _=>κ) (B6 v fun _ _=>κ) (NN v fun _=>κ) k) (AU "") (fun l=>asAgg v fun a=>MY l a κ) (AU "") pl
def Gz (pl:Plan) (k:V) (es:List (V×V)) (κf:V->R) (κn:R):R :=
 @List.rec (V×V) (fun _=>R) κn (fun e _ ih=>@Prod.rec V V (fun _=>R) (fun a b=>Kg pl k a fun r=>br r (κf b) ih) e) es
def GM (pl:Plan) (k v:V) (es:List (V×V)):(List (V×V)->R)->R :=
 @List.rec (V×V) (fun _=>(List (V×V)->R)->R) (fun κ=>κ [(k,v)])
  (fun e tl ih κ=>@Prod.rec V V (fun _=>R) (fun a _=>Kg pl k a fun r=>br r (κ ((k,v)::tl)) (ih fun l=>κ (e::l))) e) es
def Ki (pl:Plan) (k:V) (es:List (V×V)):(List (V×V)->R)->R :=
 @List.rec (V×V) (fun _=>(List (V×V)->R)->R) (fun κ=>κ [])
  (fun e tl ih κ=>@Prod.rec V V (fun _=>R) (fun a _=>Kg pl k a fun r=>br r (κ tl) (ih fun l=>κ (e::l))) e) es
def GP (es:List (V×V)):List Nat->Bool :=
 @List.rec (V×V) (fun _=>List Nat->Bool) (fun bs=>@List.rec Nat (fun _=>Bool) true (fun _ _ _=>false) bs) (fun _ _ ih bs=>@List.rec Nat (fun _=>Bool) false (fun _ bs _=>ih bs) bs) es
def Rm (bs:List Nat) (c:Nat):(List Nat->R)->R :=
 @List.rec Nat (fun _=>(List Nat->R)->R) (fun κ=>κ [c]) (fun b _ ih κ=>ih fun l=>κ (b::l)) bs
def TL (es:List (V×V)) (bs:List Nat) (c:Nat) (κ:List Nat->Nat->R):R :=
 br (GP es bs) (κ bs c) (Rm bs c fun bs=>Af (Nat.succ c) fun c=>κ bs c)
def Kr (pl:Plan) (k:V) (es:List (V×V)):List Nat->(List Nat->R)->R :=
 @List.rec (V×V) (fun _=>List Nat->(List Nat->R)->R) (fun bs κ=>κ bs)
  (fun e _ ih bs κ=>@List.rec Nat (fun _=>R) (.fail "") (fun b tl _=>@Prod.rec V V (fun _=>R) (fun a _=>Kg pl k a fun r=>br r (κ tl) (ih tl fun l=>κ (b::l))) e) bs) es
def Uj (es:List (V×V)):(Nat->R)->R :=
 @List.rec (V×V) (fun _=>(Nat->R)->R) (fun κ=>κ 0) (fun _ _ ih κ=>ih fun n=>Af (Nat.succ n) κ) es
def Ic (p:K4) (h:Heap) (κ:Cs->Bool->Option K4->R):R :=
 Pd p h fun o=>@Option.rec Ob (fun _=>R) (.fail "") (fun o=>@Ob.rec (fun _=>R) κ (BQ "") (F0 "") (.fail "") (AH "") o) o
def NM (p:K4) (h:Heap) (κ:List (V×V)->List Nat->Nat->R):R :=
 Pd p h fun o=>@Option.rec Ob (fun _=>R) (.fail "") (fun o=>@Ob.rec (fun _=>R) (BQ "") κ (F0 "") (.fail "") (AH "") o) o
def CK (h:Heap) (n:K4) (o:Ob) (κ:Heap->K4->R):R:=F1 n h (some o) fun h'=>n.nx fun n'=>κ h' n'
def KW (prev:Option K4) (h:Heap) (κ:Heap->R):R:=@Option.rec K4 (fun _=>R) (κ h) (fun q=>F1 q h none κ) prev
def DT (h:Heap) (p:K4) (off:Nat) (y:Cs) (κ:Heap->R):R :=
 Ic p h fun cs sup prev=>br sup (.fail "") (ND cs off y fun cs'=>KW prev h fun h=>F1 p h (some (.c cs' false none)) κ)
def HK (v:V) (κ:Nat->R):R:=FK v fun k r=>br (Nat.ble (Nat.succ r) (Hk k)) (κ r) (.fail "")
def Cd (o:Option Opd) (t:Regs) (d:Nat) (κ:Nat->R):R:=@Option.rec Opd (fun _=>R) (κ d) (fun x=>CA x t fun v=>HK v κ) o
def FH (n:Nat) (κ:V->R):R:=br (Nat.ble (Nat.succ n) 9223372036854775808) (κ (.int .i64 n)) (.fail "")
def Ku (xs:List V) (off:Nat) (ys:List V) (κ:List V->R):R :=
 D6 off xs fun a=>G8 ys fun m=>Af (Nat.add off m) fun j=>DM j xs fun b=>Ey ys b fun t=>Ey a t κ
def CO (parts:List Part) (t:Regs):List V->(List V->R)->R :=
 @List.rec Part (fun _=>List V->(List V->R)->R) (fun z κ=>κ z)
  (fun p _ ih z κ=>@Part.rec (fun _=>R) (fun off size x=>CA x t fun v=>Dv v fun l=>G8 l fun m=>br (Nat.beq m size) (Ku z off l fun z=>ih z κ) (.fail "")) p) parts
def VJ (i j:Nat) (κ:V->R):R:=br (Nat.ble (Nat.succ j) (WC i)) (Af (Us i) fun m=>br (Nat.ble (Nat.succ m) 18446744073709551616) (Af (WI i j) fun d=>κ (.oth (.rs m d))) (.fail "")) (κ (.oth (.iv .i64 0 18446744073709551615)))
def TZ (i j:Nat) (κ:V->R):R:=br (Nat.beq i 0) (κ (.oth .bl)) (br (Nat.ble i 18446744073709551615) (Af (Nat.add i j) fun q=>κ (.oth (.sy .i64 q)))
 (br (Nat.ble i 36893488147419103231) (br (Nat.ble (Nat.succ j) (Nat.div (Nat.sub i 18446744073709551616) 4294967296)) (br (Ps i j) (κ (.bool true)) (κ (.bool false))) (κ (.oth .bl))) (br (Nat.ble i 73786976294838206463) (κ (.oth (.iv .i64 0 18446744073709551615))) (VJ i j κ))))
def Ix (m:Nat):Nat->List V:=@Nat.rec (fun _=>Nat->List V) (fun _=>[]) (fun _ ih i=>.oth (.sy .i64 i)::ih (Nat.succ i)) m
def Md (esz:Nat) (v:V) (h:Heap) (κ:Nat->Cs->R):R :=
 @V.rec (fun _=>R) (fun _=>Unit) (AH "") (AU "") (AH "") (fun p off len cap ex esz'=>br (Nat.beq esz' esz) (Ic p h fun cs _ _=>Af (Nat.mul len esz) fun m=>BJ cs off m fun y=>κ len y) (.fail "")) (fun n c=>br (Nat.beq esz 1) (κ n (.b n c)) (.fail "")) (AH "") (fun w=>@Nl.rec (fun _=>R) (.fail "") (κ 0 (.l [])) (.fail "") (.fail "") (.fail "") w) (AU "") (BQ "") (AH "") (fun o=>NV o (fun i l0 l1 z=>br (Nat.beq z esz) (br (Nat.beq l0 l1) (br (and (Nat.ble 1 i) (Nat.ble i 18446744073709551615)) (Af (Nat.mul l0 esz) fun m=>κ l0 (.l (Ix m i))) (.fail "")) (.fail "")) (.fail "")) (.fail "")) () (fun _ _ _ _=>()) v
def DF (esz eb:Nat) (x:V) (m:Nat) (y:Cs) (h:Heap) (n:K4) (κ:KV):R :=
 CE x
  (br (Nat.beq m 0) (κ (.nil .sl) h n) (br (Nat.ble (Nat.mul (Nat.add (Nat.mul 4 m) 4096) eb) 281474976710656) (CK h n (.c y false none) fun h' n'=>κ (.sl n 0 m m false esz) h' n') (.fail "")))
  (fun p off len cap ex esz'=>br (Nat.beq esz' esz) (br (Nat.beq m 0) (κ x h n) (Af (Nat.add len m) fun need =>
   br (Nat.ble need cap)
    (Af (Nat.add off (Nat.mul len esz)) fun j=>DT h p j y fun h'=>κ (.sl p off need cap ex esz) h' n)
    (br (Nat.ble (Nat.mul (Nat.add (Nat.mul 4 need) 4096) eb) 281474976710656)
     (Ic p h fun cs sup prev=>Af (Nat.mul len esz) fun l=>BJ cs off l fun a=>Uo a y fun z =>
      br ex
       (CK h n (.c z false none) fun h' n'=>κ (.sl n 0 need need false esz) h' n')
       (br sup (.fail "")
        (Af (Nat.add off l) fun j=>BJ cs 0 j fun old=>KW prev h fun h=>F1 p h (some (.c old true none)) fun h =>
         CK h n (.c z false (some p)) fun h' n'=>κ (.sl n 0 need need false esz) h' n')))
     (.fail "")))) (.fail ""))
abbrev CF:=Nat->List V->Heap->K4->R
def To (x:Opd) (cf:CF) (t:Regs) (h:Heap) (n:K4) (κ:KV):R :=
 CA x t fun v=>κ v h n
def GT (c a b:Opd) (cf:CF) (t:Regs) (h:Heap) (n:K4) (κ:KV):R :=
 CA c t fun v=>NN v fun q=>br q (CA a t fun v=>κ v h n) (CA b t fun v=>κ v h n)
def N0 (cs:Cs) (cf:CF) (t:Regs) (h:Heap) (n:K4) (κ:KV):R :=
 CK h n (.c cs false none) fun h' n'=>κ (.ptr n 0) h' n'
def Hg (x:Opd) (cf:CF) (t:Regs) (h:Heap) (n:K4) (κ:KV):R :=
 CA x t fun v=>Dv v fun l=>CK h n (.c (.l l) false none) fun h' n'=>κ (.ptr n 0) h' n'
def Pl (zero:List V) (parts:List Part) (cf:CF) (t:Regs) (h:Heap) (n:K4) (κ:KV):R :=
 CO parts t zero fun l=>κ (.agg l) h n
def Ge (u8:Bool) (len esz:Nat) (zero:List V) (parts:List Part) (cf:CF) (t:Regs) (h:Heap) (n:K4) (κ:KV):R :=
 CO parts t zero fun l=>br u8 (Cx l (fun m c=>CK h n (.c (.b m c) false none) fun h' n'=>κ (.sl n 0 len len true esz) h' n') (.fail "")) (CK h n (.c (.l l) false none) fun h' n'=>κ (.sl n 0 len len true esz) h' n')
def PT (x:Opd) (cf:CF) (t:Regs) (h:Heap) (n:K4) (κ:KV):R :=
 CA x t fun v=>OL v (fun p off=>Ic p h fun cs _ _=>Fw cs off fun v=>κ v h n) (fun o=>Qg o (fun i j m=>br (Nat.ble 1 m) (TZ i j fun v=>κ v h n) (.fail "")) (.fail ""))
def LR (m:Nat) (x:Opd) (cf:CF) (t:Regs) (h:Heap) (n:K4) (κ:KV):R :=
 CA x t fun v=>I5 v fun p off=>Ic p h fun cs _ _=>BJ cs off m fun y=>DZ y fun l=>κ (.agg l) h n
def Qb (m:Nat) (a x:Opd) (cf:CF) (t:Regs) (h:Heap) (n:K4) (κ:KV):R :=
 CA a t fun u=>I5 u fun p off=>CA x t fun v=>Dv v fun l=>G8 l fun k=>br (Nat.beq k m) (DT h p off (.l l) fun h'=>κ C2 h' n) (.fail "")
def DE (x:Opd) (cf:CF) (t:Regs) (h:Heap) (n:K4) (κ:KV):R :=
 CA x t fun v=>@V.rec (fun _=>R) (fun _=>Unit) (AH "") (AU "") (fun p off=>κ v h n) (Da "") (AH "") (AH "") (AU "") (AU "") (fun f caps _i=>κ v h n) (AH "") (AU "") () (fun _ _ _ _=>()) v
def JH (op:BinOp) (x y:Opd) (cf:CF) (t:Regs) (h:Heap) (n:K4) (κ:KV):R :=
 CA x t fun u=>CA y t fun v=>My op u v fun r=>κ r h n
def Qa (neg:Bool) (pl:Plan) (x y:Opd) (cf:CF) (t:Regs) (h:Heap) (n:K4) (κ:KV):R :=
 CA x t fun u=>CA y t fun v=>Kg pl u v fun r=>br neg (br r (κ (.bool false) h n) (κ (.bool true) h n)) (κ (.bool r) h n)
def Ly (x:Opd) (cf:CF) (t:Regs) (h:Heap) (n:K4) (κ:KV):R :=
 CA x t fun v=>NN v fun q=>br q (κ (.bool false) h n) (κ (.bool true) h n)
def LM (x:Opd) (cf:CF) (t:Regs) (h:Heap) (n:K4) (κ:KV):R :=
 CA x t fun v=>FK v fun k r=>Mc k 0 k r fun v=>κ v h n
def Le (x:Opd) (cf:CF) (t:Regs) (h:Heap) (n:K4) (κ:KV):R :=
 CA x t fun v=>FK v fun k r=>Af (Nat.xor (Nat.sub (Mk k) 1) r) fun r=>κ (.int k r) h n
def Lm (k:IntKind) (x:Opd) (cf:CF) (t:Regs) (h:Heap) (n:K4) (κ:KV):R :=
 CA x t fun v=>FK v fun j r=>br (Nat.ble (Nat.succ r) (Hk j)) (Af (Nat.mod r (Mk k)) fun r=>κ (.int k r) h n) (br (Nat.ble (Mk k) (Mk j)) (Af (Nat.mod r (Mk k)) fun r=>κ (.int k r) h n) (Af (Nat.sub (Mk k) (Nat.sub (Mk j) r)) fun r=>κ (.int k r) h n))
def Im (x:Opd) (cf:CF) (t:Regs) (h:Heap) (n:K4) (κ:KV):R :=
 CA x t fun v=>CE v (κ (.str 0 0) h n) (fun p off len cap ex esz=>br (Nat.beq esz 1) (Ic p h fun cs _ _=>BJ cs off len fun y=>DZ y fun l=>Cx l (fun m c=>κ (.str m c) h n) (.fail "")) (.fail ""))
def Hp (x:Opd) (cf:CF) (t:Regs) (h:Heap) (n:K4) (κ:KV):R :=
 CA x t fun v=>B6 v fun m c=>CK h n (.c (.b m c) false none) fun h' n'=>κ (.sl n 0 m m false 1) h' n'
def Ln (x:Opd) (cf:CF) (t:Regs) (h:Heap) (n:K4) (κ:KV):R :=
 CA x t fun v=>B6 v fun _ _=>κ v h n
def Lo (x:Opd) (cf:CF) (t:Regs) (h:Heap) (n:K4) (κ:KV):R :=
 CA x t fun v=>CE v (.fail "") (fun p _ _ _ _ _=>Ic p h fun _ _ _=>κ v h n)
def NQ (f:Nat) (caps:List Opd) (cf:CF) (t:Regs) (h:Heap) (n:K4) (κ:KV):R :=
 N8 caps t fun l=>κ (.fn f l) h n
def Hs  (cf:CF) (t:Regs) (h:Heap) (n:K4) (κ:KV):R :=
 CK h n (.m [] [] 0) fun h' n'=>κ (.map n) h' n'
def Fo (eb:Nat) (u8:Bool) (zero:List V) (l c:Opd) (cf:CF) (t:Regs) (h:Heap) (n:K4) (κ:KV):R :=
 CA l t fun u=>HK u fun a=>CA c t fun v=>HK v fun b=>br (Nat.ble a b) (br (Nat.ble (Nat.mul eb b) 281474976710656) (Et u8 zero b fun y=>CK h n (.c y false none) fun h' n'=>G8 zero fun esz=>κ (.sl n 0 a b true esz) h' n') (.fail "")) (.fail "")
def Hw (x:Opd) (lo hi:Option Opd) (cf:CF) (t:Regs) (h:Heap) (n:K4) (κ:KV):R :=
 CA x t fun v=>Ta v (fun l0 l1 _ _=>br (br (DD hi) true (Nat.beq l0 l1)) (Cd hi t l0 fun b=>Cd lo t 0 fun a=>br (Nat.ble a b) (br (Nat.ble b l0) (Af (Nat.sub b a) fun l=>κ (.oth (.ss l l (Nat.succ l) 0)) h n) (.fail "")) (.fail "")) (.fail ""))<|B6 v fun m c=>Cd hi t m fun b=>Cd lo t 0 fun a=>br (Nat.ble a b) (br (Nat.ble b m) (Af (Nat.sub b a) fun l=>Af (Ev.lo (sh c a) l) fun r=>κ (.str l r) h n) (.fail "")) (.fail "")
def HI (esz:Nat) (x:Opd) (lo hi:Option Opd) (cf:CF) (t:Regs) (h:Heap) (n:K4) (κ:KV):R :=
 CA x t fun v=>VY v (fun l0 l1=>br (br (DD hi) true (Nat.beq l0 l1)) (Cd hi t l0 fun b=>Cd lo t 0 fun a=>br (Nat.ble a b) (br (Nat.ble b l0) (Af (Nat.sub b a) fun l=>κ (.oth (.os l l)) h n) (.fail "")) (.fail "")) (.fail ""))<|CE v (Cd hi t 0 fun b=>Cd lo t 0 fun a=>br (Nat.beq b 0) (br (Nat.beq a 0) (κ (.nil .sl) h n) (.fail "")) (.fail "")) (fun p off len cap ex esz'=>Cd hi t len fun b=>Cd lo t 0 fun a=>br (Nat.beq esz' esz) (br (Nat.ble a b) (br (Nat.ble b cap) (Af (Nat.sub b a) fun l=>Af (Nat.sub cap a) fun c=>Af (Nat.add off (Nat.mul a esz)) fun o=>κ (.sl p o l c ex esz) h n) (.fail "")) (.fail "")) (.fail ""))
def Hv (m esz:Nat) (x:Opd) (lo hi:Option Opd) (cf:CF) (t:Regs) (h:Heap) (n:K4) (κ:KV):R :=
 CA x t fun v=>I5 v fun p off=>Ic p h fun cs _ _=>UF cs fun z=>br (Nat.ble (Nat.add off (Nat.mul m esz)) z) (Cd hi t m fun b=>Cd lo t 0 fun a=>br (Nat.ble a b) (br (Nat.ble b m) (Af (Nat.sub b a) fun l=>Af (Nat.sub m a) fun c=>Af (Nat.add off (Nat.mul a esz)) fun o=>κ (.sl p o l c true esz) h n) (.fail "")) (.fail "")) (.fail "")
def LF (off:Nat) (x:Opd) (cf:CF) (t:Regs) (h:Heap) (n:K4) (κ:KV):R :=
 CA x t fun v=>OL v (fun p o=>Af (Nat.add o off) fun o=>κ (.ptr p o) h n) (fun o=>Qg o (fun i j m=>br (Nat.ble (Nat.succ off) m) (Af (Nat.add j off) fun j=>Af (Nat.sub m off) fun m=>κ (.oth (.ap i j m)) h n) (.fail "")) (.fail ""))
def KR (off size:Nat) (ag:Bool) (x:Opd) (cf:CF) (t:Regs) (h:Heap) (n:K4) (κ:KV):R :=
 CA x t fun v=>asAgg v fun l=>br ag (DM off l fun r=>D6 size r fun r=>κ (.agg r) h n) (DU off l fun v=>κ v h n)
def Lx (esz:Nat) (x i:Opd) (cf:CF) (t:Regs) (h:Heap) (n:K4) (κ:KV):R :=
 CA x t fun v=>CA i t fun u=>HK u fun a=>GB v (.fail "") (fun p off len cap ex esz'=>br (Nat.beq esz' esz) (br (Nat.ble (Nat.succ a) len) (Af (Nat.add off (Nat.mul a esz)) fun o=>κ (.ptr p o) h n) (.fail "")) (.fail "")) (fun o=>NV o (fun i lo hi z=>br (Nat.beq z esz) (br (Nat.ble (Nat.succ a) lo) (Af (Nat.mul a esz) fun j=>κ (.oth (.ap i j esz)) h n) (.fail "")) (.fail "")) (.fail ""))
def M0 (m esz:Nat) (x i:Opd) (cf:CF) (t:Regs) (h:Heap) (n:K4) (κ:KV):R :=
 CA x t fun v=>CA i t fun u=>HK u fun a=>I5 v fun p off=>br (Nat.ble (Nat.succ a) m) (Af (Nat.add off (Nat.mul a esz)) fun o=>κ (.ptr p o) h n) (.fail "")
def LI (x i:Opd) (cf:CF) (t:Regs) (h:Heap) (n:K4) (κ:KV):R :=
 CA x t fun v=>CA i t fun u=>HK u fun a=>B6 v fun m c=>br (Nat.ble (Nat.succ a) m) (Af (Ev.lo (sh c a) 1) fun r=>κ (.int .u8 r) h n) (.fail "")
def Lv (m esz:Nat) (ag:Bool) (x i:Opd) (cf:CF) (t:Regs) (h:Heap) (n:K4) (κ:KV):R :=
 CA x t fun v=>CA i t fun u=>HK u fun a=>asAgg v fun l=>br (Nat.ble (Nat.succ a) m) (Af (Nat.mul a esz) fun j=>br ag (DM j l fun r=>D6 esz r fun r=>κ (.agg r) h n) (DU j l fun v=>κ v h n)) (.fail "")
def QE (pl:Plan) (zero:V) (ok:Bool) (m k:Opd) (cf:CF) (t:Regs) (h:Heap) (n:K4) (κ:KV):R :=
 CA m t fun u=>CA k t fun v=>Js pl v<|Dc u (br ok (κ (.tup [zero,.bool false]) h n) (κ zero h n)) (fun p=>NM p h fun es _ _=>Gz pl v es (fun r=>br ok (κ (.tup [r,.bool true]) h n) (κ r h n)) (br ok (κ (.tup [zero,.bool false]) h n) (κ zero h n)))
def Qy (pl:Plan) (m k v:Opd) (cf:CF) (t:Regs) (h:Heap) (n:K4) (κ:KV):R :=
 CA m t fun u=>CA k t fun a=>CA v t fun b=>Js pl a<|Dc u (.fail "") (fun p=>NM p h fun es bs c=>GM pl a b es fun es=>TL es bs c fun bs c=>F1 p h (some (.m es bs c)) fun h'=>κ C2 h' n)
def Ls (pl:Plan) (m k:Opd) (cf:CF) (t:Regs) (h:Heap) (n:K4) (κ:KV):R :=
 CA m t fun u=>CA k t fun a=>Js pl a<|Dc u (κ (.tup []) h n) (fun p=>NM p h fun es bs c=>Ki pl a es fun es'=>Kr pl a es bs fun bs=>F1 p h (some (.m es' bs c)) fun h'=>κ (.tup []) h' n)
def LZ (i:Nat) (x:Opd) (cf:CF) (t:Regs) (h:Heap) (n:K4) (κ:KV):R :=
 CA x t fun v=>JE v fun l=>DU i l fun v=>κ v h n
def MB (f:Nat) (args:List Opd) (cf:CF) (t:Regs) (h:Heap) (n:K4) (κ:KV):R :=
 N8 args t fun l=>@R.rec (fun _=>R) (F0 "") (fun v h n=>κ v h n) (fun w=>.fail w) (F0 "") (cf f l h n)
def E6 (x:Opd) (args:List Opd) (cf:CF) (t:Regs) (h:Heap) (n:K4) (κ:KV):R :=
 CA x t fun v=>Oe v fun f caps=>N8 args t fun l=>Ey l caps fun l=>@R.rec (fun _=>R) (F0 "") (fun v h n=>κ v h n) (fun w=>.fail w) (F0 "") (cf f l h n)
def Lc (x:Opd) (cf:CF) (t:Regs) (h:Heap) (n:K4) (κ:KV):R :=
 CA x t fun v=>Ta v (fun l0 l1 _ _=>br (Nat.ble (Nat.succ l1) 9223372036854775808) (κ (.oth (.iv .i64 l0 l1)) h n) (.fail ""))<|B6 v fun m _=>FH m fun v=>κ v h n
def KQ (x:Opd) (cf:CF) (t:Regs) (h:Heap) (n:K4) (κ:KV):R :=
 CA x t fun v=>GB v (κ (.int .i64 0) h n) (fun p off len cap ex esz=>FH len fun v=>κ v h n) (fun o=>Up o (fun l0 l1=>br (Nat.ble (Nat.succ l1) 9223372036854775808) (κ (.oth (.iv .i64 l0 l1)) h n) (.fail "")) (NV o (fun i l0 l1 z=>br (Nat.ble (Nat.succ l1) 9223372036854775808) (br (Nat.beq l0 l1) (κ (.int .i64 l0) h n) (κ (.oth (.iv .i64 l0 l1)) h n)) (.fail "")) (.fail "")))
def KU (x:Opd) (cf:CF) (t:Regs) (h:Heap) (n:K4) (κ:KV):R :=
 CA x t fun v=>Dc v (κ (.int .i64 0) h n) (fun p=>NM p h fun es _ _=>Uj es fun m=>FH m fun v=>κ v h n)
def Lr (x y:Opd) (cf:CF) (t:Regs) (h:Heap) (n:K4) (κ:KV):R :=
 CA x t fun u=>CA y t fun v=>UJ u v fun v=>κ v h n
def LK (x y:Opd) (cf:CF) (t:Regs) (h:Heap) (n:K4) (κ:KV):R :=
 CA x t fun u=>CA y t fun v=>UK u v fun v=>κ v h n
def LA (esz eb:Nat) (x y:Opd) (cf:CF) (t:Regs) (h:Heap) (n:K4) (κ:KV):R :=
 CA x t fun u=>CA y t fun v=>Md esz v h fun m y=>DF esz eb u m y h n κ
def HN (esz eb:Nat) (u8:Bool) (zero:List V) (x c:Opd) (cf:CF) (t:Regs) (h:Heap) (n:K4) (κ:KV):R :=
 CA x t fun u=>CA c t fun v=>HK v fun m=>br (Nat.ble (Nat.mul eb m) 281474976710656) (Et u8 zero m fun y=>DF esz eb u m y h n κ) (.fail "")
def LC (esz:Nat) (x y:Opd) (cf:CF) (t:Regs) (h:Heap) (n:K4) (κ:KV):R :=
 CA x t fun u=>CA y t fun v=>Md esz v h fun m y=>CE u (κ (.int .i64 0) h n) (fun p off len cap ex esz'=>br (Nat.beq esz' esz) (Af (@Bool.rec (fun _=>Nat) len m (Nat.ble m len)) fun k=>br (Nat.beq k 0) (κ (.int .i64 0) h n) (Af (Nat.mul k esz) fun j=>BJ y 0 j fun y=>DT h p off y fun h=>FH k fun v=>κ v h n)) (.fail ""))
def HU (x y z:Opd) (cf:CF) (t:Regs) (h:Heap) (n:K4) (κ:KV):R :=
 CA x t fun u=>CA y t fun v=>CA z t fun w=>FK u fun k a=>FK v fun j b=>FK w fun i c=>br (B8 k j) (br (B8 k i) (br (GX k a b) (br (GX k b c) (κ w h n) (κ v h n)) (br (GX k a c) (κ w h n) (κ u h n))) (.fail "")) (.fail "")
def LE (x:Opd) (cf:CF) (t:Regs) (h:Heap) (n:K4) (κ:KV):R :=
 CA x t fun v=>CE v (κ (.int .i64 0) h n) (fun p off len cap ex esz=>br ex (FH cap fun v=>κ v h n) (.fail ""))
def Lg (u8:Bool) (zero:List V) (x:Opd) (cf:CF) (t:Regs) (h:Heap) (n:K4) (κ:KV):R :=
 CA x t fun v=>CE v (κ (.tup []) h n) (fun p off len cap ex esz=>G8 zero fun m=>br (Nat.beq m esz) (br (Nat.beq len 0) (κ (.tup []) h n) (Et u8 zero len fun y=>DT h p off y fun h=>κ (.tup []) h n)) (.fail ""))
def Pi (why:String) (cf:CF) (t:Regs) (h:Heap) (n:K4) (κ:KV):R :=
 .fail ""
def Gv (o:AK):CF->Regs->Heap->K4->KV->R :=
 @AK.rec (fun _=>CF->Regs->Heap->K4->KV->R) To GT N0 Hg Pl Ge PT LR Qb DE JH Qa Ly LM Le Lm Im Hp Ln Lo NQ Hs Fo Hw HI Hv LF KR Lx M0 LI Lv QE Qy Ls LZ MB E6 Lc KQ KU Lr LK LA HN LC HU LE Lg Pi o
end Go.Ev

namespace Go.Ev
set_option linter.unusedVariables false
structure AOp where
 dst:Option K2
 g:Option (K2×Bool)
 k:AK
inductive Item where
 | rd (i:Nat) (o:AOp)
 | ef (i:Nat) (o:AOp)
 | al (i:Nat) (j:D) (o:AOp)
 | ck (i:Nat) (o:AOp)
 | no (j:D)
 | rn (i:Nat) (j:D) (o:AOp)
inductive Sp where
 | rng (x:Opd)
 | nxt (x:Opd)
 | ent (x:Opd)
 | tcl (f:Nat) (l:List Opd)
 | dcl (x:Opd) (l:List Opd)
inductive AC where
 | skip
 | seq (a b:AC)
 | ops (l:List AOp)
 | drawn (al:Bool) (l:List Item)
 | cond (c:Opd) (a b:AC)
 | block (id:Nat) (b:AC)
 | loop (b:AC)
 | exit (id:Nat)
 | ret
 | bad (why:String)
 | spl (pre:List AOp) (sp:Sp) (d:Option K2) (post:List AOp)
inductive ARes where
 | tmp (p:K2)
 | cel (p:K2) (m:Option Nat)
structure AFn where
 ps:List K2
 code:AC
 rs:List ARes
abbrev Ks:=List V->Heap->K4->R
def Ct (g:Option (K2×Bool)) (t:Regs) (yes no:R):R :=
 @Option.rec (K2×Bool) (fun _=>R) yes (fun p=>@Prod.rec K2 Bool (fun _=>R) (fun r want=>GA r t fun v =>
  @V.rec (fun _=>R) (fun _=>Unit) (fun _ _=>no) (fun b=>br (Bool.rec (Bool.rec true false b) b want) yes no) (fun _ _=>no) (fun _ _ _ _ _ _=>no) (fun _ _=>no) (fun _ _=>no) (fun _=>no) (fun _=>no) (fun _ _ _=>no) (fun _ _=>no) (fun o=>.fail "") () (fun _ _ _ _=>()) v) p) g
def asO (v:V) (κ:Ot->R):R :=
 @V.rec (fun _=>R) (fun _=>Unit) (fun _ _=>(.fail "")) (fun _=>(.fail "")) (fun _ _=>(.fail "")) (fun _ _ _ _ _ _=>(.fail "")) (fun _ _=>(.fail "")) (fun _ _=>(.fail "")) (fun _=>(.fail "")) (fun _=>(.fail "")) (fun _ _ _=>(.fail "")) (fun _ _=>(.fail "")) (fun o=>κ o) () (fun _ _ _ _=>()) v
def VE (u:Ot) (κ:R):R:=@Ot.rec (fun _=>R) κ (fun _=>(.fail "")) (fun _=>(.fail "")) (.fail "") (fun _ _ _=>(.fail "")) (fun _ _=>(.fail "")) (.fail "") (fun _ _=>(.fail "")) (fun _ _ _ _=>(.fail "")) (fun _ _ _ _=>(.fail "")) (fun _ _ _=>(.fail "")) (fun _ _=>(.fail "")) u
def YA (u:Ot) (κ:R):R:=@Ot.rec (fun _=>R) (.fail "") (fun _=>(.fail "")) (fun _=>(.fail "")) (.fail "") (fun _ _ _=>(.fail "")) (fun _ _=>(.fail "")) κ (fun _ _=>(.fail "")) (fun _ _ _ _=>(.fail "")) (fun _ _ _ _=>(.fail "")) (fun _ _ _=>(.fail "")) (fun _ _=>(.fail "")) u
def Yz (u:Ot) (κ:IntKind->Nat->Nat->R):R:=@Ot.rec (fun _=>R) (.fail "") (fun _=>(.fail "")) (fun _=>(.fail "")) (.fail "") (fun k lo hi=>κ k lo hi) (fun _ _=>(.fail "")) (.fail "") (fun _ _=>(.fail "")) (fun _ _ _ _=>(.fail "")) (fun _ _ _ _=>(.fail "")) (fun _ _ _=>(.fail "")) (fun _ _=>(.fail "")) u
def Ua (o u:Ot) (κ:R):R :=
 @Ot.rec (fun _=>R) (VE u κ) (fun _=>(.fail "")) (fun _=>(.fail "")) (.fail "") (fun k lo hi=>Yz u fun k' lo' hi'=>br (B8 k k') (br (Nat.beq lo lo') (br (Nat.beq hi hi') κ (.fail "")) (.fail "")) (.fail "")) (fun _ _=>(.fail "")) (YA u κ) (fun _ _=>(.fail "")) (fun _ _ _ _=>(.fail "")) (fun _ _ _ _=>(.fail "")) (fun _ _ _=>(.fail "")) (fun _ _=>(.fail "")) o
def AS (x:V):V->R->R :=
 @V.rec (fun _=>V->R->R) (fun _=>List V->R->R)
  (fun k r y κ=>FK y fun j b=>br (B8 k j) (br (Nat.beq r b) κ (.fail "")) (.fail ""))
  (fun b y κ=>NN y fun c=>br (Bool.rec (Bool.rec true false b) b c) κ (.fail ""))
  (fun p off y κ=>I5 y fun q o=>br (K4.beq p q) (br (Nat.beq off o) κ (.fail "")) (.fail ""))
  (fun p off len cap ex esz y κ=>CE y (.fail "") fun q o l c e z=>br (K4.beq p q) (br (and (Nat.beq off o) (and (Nat.beq len l) (and (Nat.beq cap c) (and (Bool.rec (Bool.rec true false ex) ex e) (Nat.beq esz z))))) κ (.fail "")) (.fail ""))
  (fun n c y κ=>B6 y fun m d=>br (IL n c m d) κ (.fail ""))
  (fun _ ih y κ=>asAgg y fun l=>ih l κ)
  (fun w y κ=>@V.rec (fun _=>R) (fun _=>Unit) (AH "") (AU "") (AH "") (Da "") (AH "") (AH "")
   (fun u=>br (Nat.beq (@Nl.rec (fun _=>Nat) 0 1 2 3 4 w) (@Nl.rec (fun _=>Nat) 0 1 2 3 4 u)) κ (.fail "")) (AU "") (BQ "") (AH "") (AU "") () (fun _ _ _ _=>()) y)
  (fun p y κ=>Dc y (.fail "") fun q=>br (K4.beq p q) κ (.fail ""))
  (fun f _ ih y κ=>Oe y fun g l=>br (Nat.beq f g) (ih l κ) (.fail ""))
  (fun _ ih y κ=>JE y fun l=>ih l κ)
  (fun o y κ=>asO y fun u=>Ua o u κ)
  (fun l κ=>@List.rec V (fun _=>R) κ (BQ "") l)
  (fun _ _ ihx ihl l κ=>@List.rec V (fun _=>R) (.fail "") (fun y ys _=>ihx y (ihl ys κ)) l) x
def IW:KV:=fun v _ _=>.rv v AV ⟨.d0,.d0,.d0,.d0⟩
def Bo (r:R) (κ:V->Heap->K4->R):R:=@R.rec (fun _=>R) (F0 "") (fun v h n=>κ v h n) (fun w=>.fail w) (F0 "") r
def GE (o:Option Ob) (κ:R):R:=@Option.rec Ob (fun _=>R) κ (AU "") o
def Ud (o:Option Ob) (κ:Ob->R):R:=@Option.rec Ob (fun _=>R) (.fail "") κ o
def QX (d:Option K2) (κ:K2->R):R:=@Option.rec K2 (fun _=>R) (.fail "") κ d
def E8 (body:S->Heap->K4->R) (m:Nat):S->Heap->K4->R :=
 @Nat.rec (fun _=>S->Heap->K4->R) (BQ "")
  (fun _ rec t h n=>@R.rec (fun _=>R) (fun e t h n=>@Ex.rec (fun _=>R) (rec t h n) (fun id=>.ok (.exit id) t h n) (.ok .ret t h n) e) (BQ "") (fun w=>.fail w) (fun _ _ a b=>.both a b) (body t h n)) m
def QI (args:List V):List K2->Regs->(Regs->R)->R :=
 @List.rec V (fun _=>List K2->Regs->(Regs->R)->R) (fun ps t κ=>@List.rec K2 (fun _=>R) (κ t) (BQ "") ps)
  (fun v _ ih ps t κ=>@List.rec K2 (fun _=>R) (.fail "") (fun p qs _=>MA p t v fun t=>ih qs t κ) ps) args
def JY (r:ARes) (t:Regs) (h:Heap) (κ:V->R):R :=
 @ARes.rec (fun _=>R) (fun p=>GA p t κ) (fun p m=>GA p t fun v=>I5 v fun q off=>Ic q h fun cs _ _ =>
  @Option.rec Nat (fun _=>R) (Fw cs off κ) (fun m=>BJ cs off m fun y=>DZ y fun l=>κ (.agg l)) m) r
def IG (rs:List ARes) (t:Regs) (h:Heap):(List V->R)->R :=
 @List.rec ARes (fun _=>(List V->R)->R) (fun κ=>κ []) (fun r _ ih κ=>JY r t h fun v=>ih fun vs=>κ (v::vs)) rs
def OG (rs:List ARes) (t:Regs) (h:Heap) (n:K4):R :=
 IG rs t h fun l=>@List.rec V (fun _=>R) (.rv (.tup []) h n) (fun v vs _=>@List.rec V (fun _=>R) (.rv v h n) (fun _ _ _=>.rv (.tup l) h n) vs) l
end Go.Ev

namespace Go.Ev
set_option linter.unusedVariables false
def IP (v:Value):Option V :=
 match v with
 | .bool b=>some (.bool b)
 | .int k n=>match n with
  | .ofNat m=>if Nat.ble (Nat.succ m) (Hk k) then some (.int k m) else none
  | .negSucc m=>if Nat.ble (Nat.add (Hk k) (Nat.succ m)) (Mk k) then some (.int k (Nat.sub (Mk k) (Nat.succ m))) else none
 | .string s=>some (.str s.size (AX s.data.toList))
 | .pointer none=>some (.nil .ptr)
 | .slice none 0 0=>some (.nil .sl)
 | .map none=>some (.nil .map)
 | .nilFunc=>some (.nil .fn)
 | .nilIface=>some (.nil .iface)
 | _=>none
def GD:List Value->Option (List V)
 | []=>some []
 | v::l=>match IP v,GD l with
  | some x,some xs=>some (x::xs)
  | _,_=>none
def HO (v:Value):Option V :=
 match v with
 | .agg cs=>(GD cs.toList).map .agg
 | .tuple cs=>if cs.toList.isEmpty then some (.tup []) else none
 | .func (.func f) first caps=>if first.toList.isEmpty&&caps.toList.isEmpty then some (.fn f []) else none
 | v=>IP v
section
variable (P:Program) (N:Nat)
def FG (t:Nat):Option K2:=if t<N then K2.ofN t else none
def AJ:Operand->Option Opd
 | .tmp t=>(FG N t).map .t
 | .const v=>(HO v).map .c
 | .func f=>some (.c (.fn f []))
 | .global _=>none
def Bp:List Operand->Option (List Opd)
 | []=>some []
 | o::l=>match AJ N o,Bp l with
  | some x,some xs=>some (x::xs)
  | _,_=>none
def Fa:Option Operand->Option (Option Opd)
 | none=>some none
 | some o=>(AJ N o).map some
def CS (t:TypeId):Option (List V):=((P.info? t).bind (·.zero)).bind fun z=>GD z.cells.toList
def Bk (t:TypeId):Option Nat:=(P.info? t).map (·.size)
def Ej (t:TypeId):Option Nat:=(P.info? t).map (·.bytes)
def JK (t:TypeId):Option Bool:=(P.underlying t).map fun d=>match d with | .struct _ | .array _ _=>true | _=>false
def UG (t:TypeId):Bool:=match P.underlying t with | some (.int .u8)=>true | _=>false
def NO (t:TypeId):Option Sc :=
 match P.underlying t with
 | some (.int _)=>some .i
 | some .string=>some .s
 | some .bool=>some .b
 | _=>none
def FX:List Field->Option (List (Nat×Sc))
 | []=>some []
 | f::l=>if f.name ≠ "_" then
   match NO P f.type,FX l with
   | some k,some r=>some ((f.offset,k)::r)
   | _,_=>none
  else none
def JZ (t:TypeId):Option Plan :=
 match P.underlying t with
 | some .bool=>some (.sc .b)
 | some (.struct fs)=>if P.stoodInHeld t then none else (FX P fs.toList).map .st
 | some (.pointer e)=>match Bk P e with
  | some (_+1)=>some (.rf .ptr)
  | _=>none
 | some (.slice _)=>some (.rf .sl)
 | some (.map _ _)=>some (.rf .map)
 | some (.func _ _ _)=>some (.rf .fn)
 | _=>none
def Gx (t:TypeId):Option Plan :=
 match P.underlying t with
 | some (.struct fs) =>
  if P.stoodInHeld t then none else
  match FX P fs.toList with
  | some offs=>if offs.map (·.1)=List.range offs.length then some (.ks (offs.map (·.2))) else none
  | none=>none
 | _=>(NO P t).map .sc
def ET (place:Nat->Option (Nat×Nat)):List (Nat×Operand)->Option (List Part)
 | []=>some []
 | (i,o)::l=>match place i,AJ N o,ET place l with
  | some (off,size),some x,some xs=>some (⟨off,size,x⟩::xs)
  | _,_,_=>none
def Do (z:List V):Nat->List V
 | 0=>[]
 | n+1=>z++Do z n
def Kv:List V->Bool
 | [.int .u8 0]=>true
 | _=>false
def Ee (b:Builtin) (argTypes:Array TypeId) (args:List Opd):Option AK :=
 match b,argTypes.toList,args with
 | .len,t::_,x::_ =>
  match P.underlying t with
  | some .string=>some (.lnS x)
  | some (.slice _)=>some (.lnL x)
  | some (.map _ _)=>some (.lnM x)
  | _=>none
 | .min,_,[x,y]=>some (.min x y)
 | .max,_,[x,y]=>some (.max x y)
 | .max,_,[x,y,z]=>some (.max3 x y z)
 | .append,[t,u],[x,y] =>
  match P.underlying t,P.underlying u with
  | some (.slice e),some (.int _) =>
   match Bk P e,Ej P e,CS P e with
   | some s,some b,some z=>if s == z.length&&0<s&&0<b then some (.appz s b (Kv z) z x y) else none
   | _,_,_=>none
  | some (.slice e),some _ =>
   match Bk P e,Ej P e,CS P e with
   | some s,some b,some z=>if s == z.length&&0<s&&0<b then some (.app s b x y) else none
   | _,_,_=>none
  | _,_=>none
 | .copy,t::_,[x,y] =>
  match P.underlying t with
  | some (.slice e)=>match Bk P e with
   | some s=>if 0<s then some (.cpy s x y) else none
   | none=>none
  | _=>none
 | .delete,t::_,[m,k] =>
  match P.underlying t with
  | some (.map kt _)=>(Gx P kt).map fun pl=>.del pl m k
  | _=>none
 | .cap,t::_,x::_ =>
  match P.underlying t with
  | some (.slice _)=>some (.cpL x)
  | _=>none
 | .clear,t::_,x::_ =>
  match P.underlying t with
  | some (.slice e)=>match Bk P e,CS P e with
   | some s,some z=>if s == z.length&&0<s then some (.clr (Kv z) z x) else none
   | _,_=>none
  | _=>none
 | _,_,_=>none
def EJ (o:Oper):Option AK :=
 match o.op with
 | .move x | .assign x=>(AJ N x).map .mv
 | .pick c a b=>match AJ N c,AJ N a,AJ N b with
  | some c,some a,some b=>some (.pick c a b)
  | _,_,_=>none
 | .alloc e=>(CS P e).map fun z=>.alc (.l z)
 | .box _ x=>(AJ N x).map .box
 | .build t parts =>
  match P.underlying t,CS P t with
  | some (.struct fs),some z=>(fs.toList.mapM fun f=>(P.info? f.type).map fun i=>(f.offset,i.size)).bind fun places=>(ET N (places.toArray[·]?) parts.toList).map fun ps=>.build z ps
  | some (.array _ e),some z=>(Bk P e).bind fun s=>(ET N (fun i=>some (i*s,s)) parts.toList).map fun ps=>.build z ps
  | _,_=>none
 | .buildSlice t len parts =>
  match P.underlying t with
  | some (.slice e) =>
   match Bk P e,CS P e with
   | some s,some z=>if s == z.length&&0<s&&len*s≤2 ^ 24 then
     (ET N (fun i=>some (i*s,s)) parts.toList).map fun ps=>.bslice (UG P e&&s == 1) len s (Do z len) ps else none
   | _,_=>none
  | _=>none
 | .load t a=>match JK P t,Bk P t,AJ N a with
  | some true,some s,some a=>some (.ldn s a)
  | some false,_,some a=>some (.ld a)
  | _,_,_=>none
 | .store t a x=>match Bk P t,AJ N a,AJ N x with
  | some s,some a,some x=>some (.st s a x)
  | _,_,_=>none
 | .nilCheck x=>(AJ N x).map .nilck
 | .binOp op t x y _ =>
  match AJ N x,AJ N y with
  | some a,some b =>
   match op,P.underlying t with
   | .eql,some (.int _) | .eql,some .string=>some (.bin .eql a b)
   | .neq,some (.int _) | .neq,some .string=>some (.bin .neq a b)
   | .eql,_=>if P.eqGuardType P.depth t then none else (JZ P t).map fun pl=>.eq false pl a b
   | .neq,_=>if P.eqGuardType P.depth t then none else (JZ P t).map fun pl=>.eq true pl a b
   | op,_=>some (.bin op a b)
  | _,_=>none
 | .unOp op _ x =>
  match op,AJ N x with
  | .not,some x=>some (.not x)
  | .neg,some x=>some (.neg x)
  | .xor,some x=>some (.com x)
  | _,_=>none
 | .convert src dst x =>
  match P.underlying src,P.underlying dst,AJ N x with
  | some (.int _),some (.int k),some x=>some (.cvi k x)
  | some .string,some .string,some x=>some (.idn x)
  | some .string,some (.slice e),some x=>if UG P e then some (.s2b x) else none
  | some (.slice e),some .string,some x=>if UG P e then some (.b2s x) else none
  | some (.slice _),some (.slice e),some x=>if src == dst&&UG P e then some (.bsl x) else none
  | _,_,_=>none
 | .makeFunc fn first caps =>
  match fn,first.toList,Bp N caps.toList with
  | .func f,[],some l=>some (.mkfn f l)
  | _,_,_=>none
 | .makeMap _ none=>some .mkmap
 | .makeSlice t l c =>
  match P.underlying t,AJ N l,AJ N c with
  | some (.slice e),some l,some c =>
   match Bk P e,Ej P e,CS P e with
   | some s,some b,some z=>if s == z.length&&0<s&&0<b then some (.mksl b (Kv z) z l c) else none
   | _,_,_=>none
  | _,_,_=>none
 | .slice t x lo hi none =>
  match P.underlying t,AJ N x,Fa N lo,Fa N hi with
  | some .string,some x,some lo,some hi=>some (.slS x lo hi)
  | some (.slice e),some x,some lo,some hi=>(Bk P e).map fun s=>.slL s x lo hi
  | some (.array m e),some x,some lo,some hi=>(Bk P e).map fun s=>.slA m s x lo hi
  | _,_,_,_=>none
 | .fieldAddr s x f =>
  match P.underlying s,AJ N x with
  | some (.struct fs),some x=>(fs[f]?).bind fun f=>match Bk P f.type with
   | some (_+1)=>some (.fad f.offset x)
   | _=>none
  | _,_=>none
 | .field s x f =>
  match P.underlying s,AJ N x with
  | some (.struct fs),some x=>(fs[f]?).bind fun f=>match JK P f.type,Bk P f.type with
   | some ag,some sz=>some (.fld f.offset sz ag x)
   | _,_=>none
  | _,_=>none
 | .indexAddr t x i =>
  match P.underlying t,AJ N x,AJ N i with
  | some (.slice e),some x,some i=>(Bk P e).map fun s=>.ixS s x i
  | some (.array m e),some x,some i=>(Bk P e).map fun s=>.ixA m s x i
  | _,_,_=>none
 | .index t x i =>
  match P.underlying t,AJ N x,AJ N i with
  | some .string,some x,some i=>some (.idS x i)
  | some (.array m e),some x,some i=>match JK P e,Bk P e with
   | some ag,some s=>some (.idA m s ag x i)
   | _,_=>none
  | _,_,_=>none
 | .lookup t m k ok =>
  match P.underlying t,AJ N m,AJ N k with
  | some (.map kt e),some m,some k =>
   match Gx P kt,(P.info? e).bind (·.zero) with
   | some pl,some z=>(HO z).map fun z=>.lk pl z ok m k
   | _,_=>none
  | _,_,_=>none
 | .mapUpdate t m k v | .insert t m k v =>
  match P.underlying t,AJ N m,AJ N k,AJ N v with
  | some (.map kt _),some m,some k,some v=>(Gx P kt).map fun pl=>.mu pl m k v
  | _,_,_,_=>none
 | .extract x i=>(AJ N x).map fun x=>.ext i x
 | .call c =>
  match c.callee,Bp N c.args.toList with
  | .builtin b,some args=>Ee P b c.argTypes args
  | .value (.func f),some args=>some (.call f args)
  | .value x,some args=>(AJ N x).map fun x=>.calld x args
  | _,_=>none
 | _=>none
def Ii (ops:Array Oper) (o:Oper):Option AOp :=
 match (match o.dst with | none=>some none | some d=>(FG N d).map some:Option (Option K2)),
  (match o.guard with | none=>some none | some (j,w)=>((ops[j]?).bind (·.dst)).bind fun d=>(FG N d).map fun s=>some (s,w):Option (Option (K2×Bool))) with
 | some d,some g=>some ⟨d,g,(EJ P N o).getD (.bad o.pos)⟩
 | _,_=>none
def FR (ops:Array Oper):List Oper->Option (List AOp)
 | []=>some []
 | o::l=>match Ii P N ops o,FR ops l with
  | some x,some xs=>some (x::xs)
  | _,_=>none
def AK.sort:AK->Nat
 | .ld _ | .ldn _ _ | .b2s _ | .slA _ _ _ _ _ | .lk _ _ _ _ _ | .lnM _=>1
 | .alc _ | .box _ | .bslice _ _ _ _ _ | .s2b _ | .mkmap | .mksl _ _ _ _ _=>2
 | .st _ _ _ | .mu _ _ _ _ | .del _ _ _ | .call _ _ | .calld _ _ | .app _ _ _ _ | .appz _ _ _ _ _ _ | .cpy _ _ _ | .clr _ _ _ | .bsl _ | .bad _=>3
 | _=>0
def Cc (o:Oper):List Nat:=o.after.toList.filterMap fun e=>if Region.binds .any e then some e.on else none
def Zp (deps:List (List Nat)):List Nat :=
 deps.foldl (fun acc ds=>acc++[ds.foldl (fun s d=>s ||| 2 ^ d ||| acc.getD d 0) 0]) []
def AK.opds:AK->List Opd
 | .mv x | .box x | .ld x | .ldn _ x | .nilck x | .not x | .neg x | .com x | .cvi _ x | .b2s x | .s2b x | .idn x | .bsl x | .fad _ x | .fld _ _ _ x | .ext _ x | .lnS x | .lnL x | .lnM x | .cpL x | .clr _ _ x=>[x]
 | .pick c a b | .max3 c a b=>[c,a,b]
 | .alc _ | .mkmap | .bad _=>[]
 | .build _ ps | .bslice _ _ _ _ ps=>ps.map (·.x)
 | .st _ a x | .bin _ a x | .eq _ _ a x | .ixS _ a x | .ixA _ _ a x | .idS a x | .idA _ _ _ a x | .lk _ _ _ a x | .del _ a x | .min a x | .max a x | .app _ _ a x | .appz _ _ _ _ a x | .cpy _ a x
 | .mksl _ _ _ a x=>[a,x]
 | .mu _ m k v=>[m,k,v]
 | .mkfn _ l | .call _ l=>l
 | .calld x l=>x::l
 | .slS x lo hi | .slL _ x lo hi | .slA _ _ x lo hi=>x::(lo.toList++hi.toList)
def K2.beq (p q:K2):Bool:=and (p.b.beq q.b) (p.a.beq q.a)
def Tf (p:K2) (l:List K2):Bool:=l.any (K2.beq p)
def AOp.slots (o:AOp):List K2 :=
 (o.k.opds.filterMap fun x=>match x with | .t p=>some p | .c _=>none)++(match o.g with | some (p,_)=>[p] | none=>[])
inductive SI where
 | rd (i:Nat)
 | ef (i:Nat)
 | al (i:Nat) (j:D)
 | ck (i:Nat)
 | no (j:D)
 | rn (i a:Nat) (j:D)
def SI.ix:SI->Option Nat
 | .rd i=>some i
 | .ef i=>some i
 | .al i _=>some i
 | .rn i _ _=>some i
 | _=>none
def SI.isEf:SI->Bool
 | .ef _=>true
 | _=>false
def SI.isAl:SI->Bool
 | .al _ _=>true
 | _=>false
def SI.reads:SI->Option Nat
 | .rd i=>some i
 | .ck i=>some i
 | _=>none
def SI.isCk (i:Nat):SI->Bool
 | .ck j=>Nat.beq i j
 | _=>false
def BU:AOp:=⟨none,none,.bad "no such operation"⟩
def Jy (os:List AOp):SI->Item
 | .rd i=>.rd i (os.getD i BU)
 | .ef i=>.ef i (os.getD i BU)
 | .al i j=>.al i j (os.getD i BU)
 | .ck i=>.ck i (os.getD i BU)
 | .no j=>.no j
 | .rn i _ j=>.rn i j (os.getD i BU)
structure Plot where
 so:List Nat
 ds:List (Option K2)
 sl:List (List K2)
 de:List (List Nat)
 an:List Nat
 sk:List SI
namespace Plot
variable (p:Plot)
def m:Nat:=p.so.length
def sort (i:Nat):Nat:=p.so.getD i 9
def dst (i:Nat):Option K2:=p.ds.getD i none
def slots (i:Nat):List K2:=p.sl.getD i []
def deps (i:Nat):List Nat:=p.de.getD i []
def anc (i d:Nat):Bool:=(p.an.getD i 0).testBit d
def pos (i:Nat):Nat:=p.sk.findIdx fun x=>match x.ix with | some j=>Nat.beq i j | none=>false
def bat (l:Nat):Nat:=((p.sk.take l).filter SI.isEf).length
def effs:List Nat:=p.sk.filterMap fun x=>match x with | .ef i=>some i | _=>none
def all (f:Nat->Bool):Bool:=(List.range p.m).all f
structure Tab where
 po:List Nat
 ba:List Nat
 ef:List Nat
def tab:Tab:=⟨(List.range p.m).map p.pos,(List.range (p.sk.length+1)).map p.bat,p.effs⟩
def writes (w:Nat) (l:List K2):Bool:=match p.dst w with | some d=>Tf d l | none=>false
def okDst:Bool:=p.all fun i=>p.all fun j=>Nat.beq i j || match p.dst i with | some d=>!(match p.dst j with | some e=>d.beq e | none=>false) | none=>true
def okDeps:Bool:=p.all fun i=>(p.deps i).all fun d=>Nat.blt d i
def okAnc:Bool:=p.all fun i=>p.all fun d=>!p.anc i d || (p.deps i).any fun c=>Nat.beq c d || p.anc c d
def okPos (t:Tab):Bool:=p.all fun i=>match p.sk[t.po.getD i 0]? with
 | some (.ef j)=>Nat.beq i j&&Nat.beq (p.sort i) 3
 | some (.al j _)=>Nat.beq i j&&Nat.beq (p.sort i) 2
 | some (.rd j)=>Nat.beq i j&&Nat.ble (p.sort i) 1
 | some (.rn j a d)=>Nat.beq i j&&(Nat.ble (p.sort i) 1&&(Nat.blt a p.m&&(p.anc i a&&(Nat.blt (t.po.getD a 0) (t.po.getD i 0)&&(Nat.beq (t.ba.getD (t.po.getD a 0) 0) (t.ba.getD (t.po.getD i 0) 0) &&
   match p.sk[t.po.getD a 0]? with | some (.al a' d')=>Nat.beq a a'&&d.beq d' | _=>false)))))
 | _=>false
def okUniq (t:Tab):Bool:=(List.range p.sk.length).all fun l=>match p.sk[l]? with
 | some x=>match x.ix with
  | some i=>Nat.blt i p.m&&Nat.beq (t.po.getD i 0) l
  | none=>match x with
   | .ck i=>Nat.blt i p.m&&Nat.blt (t.po.getD i 0) l&&Nat.ble (p.sort i) 1
   | _=>true
 | none=>false
def okSlots (t:Tab):Bool:=p.all fun i=>p.all fun w=>!p.writes w (p.slots i) || (!Nat.beq i w&&((p.anc i w&&Nat.blt (t.po.getD w 0) (t.po.getD i 0)) ||
 (p.anc w i&&Nat.blt (t.po.getD i 0) (t.po.getD w 0)&&(List.range p.sk.length).all fun l=>match p.sk[l]? with | some x=>!x.isCk i || Nat.blt l (t.po.getD w 0) | none=>true)))
def okEff (t:Tab):Bool:=t.ef.all fun i=>t.ef.all fun j=>!Nat.blt (t.po.getD i 0) (t.po.getD j 0) || p.anc j i
def never (t:Tab) (i j:Nat):Bool:=t.ef.any fun e=>(p.anc i e&&Nat.ble j (t.ba.getD (t.po.getD e 0) 0)) || (p.anc e i&&Nat.blt (t.ba.getD (t.po.getD e 0) 0) j)
def fresh (t:Tab) (i j:Nat):Bool:=match p.sk[t.po.getD i 0]? with | some (.rn _ a _)=>Nat.ble j (t.ba.getD (t.po.getD a 0) 0) | _=>false
def okRead (t:Tab):Bool:=p.all fun i=>!Nat.beq (p.sort i) 1 || (List.range (t.ef.length+1)).all fun j=>p.never t i j || p.fresh t i j ||
 (List.range p.sk.length).any fun l=>Nat.beq (t.ba.getD l 0) j&&match p.sk[l]? with | some x=>(match x.reads with | some i'=>Nat.beq i i' | none=>false) | none=>false
def okAl (t:Tab):Bool:=p.all fun i=>!Nat.beq (p.sort i) 2 || match p.sk[t.po.getD i 0]? with
 | some (.al _ d)=>((List.range (t.ef.length+1)).all fun j=>if Nat.ble j (t.ba.getD (t.po.getD i 0) 0) then
    (List.range p.sk.length).any fun l=>Nat.beq (t.ba.getD l 0) j&&match p.sk[l]? with | some (.no d')=>d.beq d' | _=>false
   else t.ef.any fun e=>p.anc e i&&Nat.blt (t.ba.getD (t.po.getD e 0) 0) j) &&
  p.all fun i'=>Nat.beq i i' || match p.sk[t.po.getD i' 0]? with | some (.al _ d')=>!d.beq d' | _=>true
 | _=>false
def ok:Bool :=
 let t:=p.tab
 p.okDst&&(p.okDeps&&(p.okAnc&&(p.okPos t&&(p.okUniq t&&(p.okSlots t&&(p.okEff t&&(p.okRead t&&p.okAl t)))))))
end Plot
def Ws (effs:List Nat) (anc:Nat):Nat:=(effs.filter (anc.testBit ·)).length
def Vg (effs:List (Nat×Nat)) (i:Nat):Nat:=(effs.takeWhile fun e=>!e.2.testBit i).length
def Pv (effs:List (Nat×Nat)):List (Nat×List Nat×Nat×Nat)->List Nat->List Nat
 | [],acc=>acc
 | (i,deps,anc,sort)::l,acc =>
  let b:=deps.foldl (fun m d=>max m (acc.getD d 0)) 0
  let b:=match sort with
   | 1=>max b (Ws (effs.map (·.1)) anc)
   | 2=>max b (Vg effs i)
   | 3=>Ws (effs.map (·.1)) anc+1
   | _=>b
  Pv effs l (acc++[b])
def U0 (so:List Nat) (de:List (List Nat)) (an:List Nat) (ro:List (Option Nat)):List SI :=
 let idx:=List.range so.length
 let ef:=(idx.filter fun i=>so.getD i 0 == 3).map fun i=>(i,an.getD i 0)
 let ba:=Pv ef (idx.map fun i=>(i,de.getD i [],an.getD i 0,so.getD i 0)) []
 let al:=idx.filter fun i=>so.getD i 0 == 2
 let dig:=fun i=>D.ofN (al.takeWhile (· != i)).length
 let item:=fun i=>if so.getD i 0 == 2 then SI.al i (dig i) else match ro.getD i none with
  | some a=>if so.getD i 0 == 1&&ba.getD i 0 == ba.getD a 0 then SI.rn i a (dig a) else SI.rd i
  | none=>SI.rd i
 (List.range (ef.length+1)).flatMap fun j =>
  ((idx.filter fun i=>so.getD i 0 == 3&&ba.getD i 0 == j).map SI.ef) ++
  ((al.filter fun i=>Nat.ble j (ba.getD i 0)).map fun i=>SI.no (dig i)) ++
  ((idx.filter fun i=>so.getD i 0 != 3&&ba.getD i 0 == j).map item) ++
  ((idx.filter fun i=>so.getD i 0 == 1&&Nat.blt (ba.getD i 0) j&&Nat.ble j (Vg ef i)).map SI.ck)
def AK.base:AK->Option K2
 | .ld (.t p) | .ldn _ (.t p) | .b2s (.t p) | .slA _ _ (.t p) _ _ | .lk _ _ _ (.t p) _ | .lnM (.t p) | .ixS _ (.t p) _ | .ixA _ _ (.t p) _ | .fad _ (.t p) | .slL _ (.t p) _ _ | .nilck (.t p) | .idn (.t p)=>some p
 | _=>none
def RV (os:List AOp):Nat->Nat->Option Nat
 | 0,_=>none
 | fuel+1,i=>match os[i]? with
  | some o=>match o.k.base with
   | some q =>
    let j:=os.findIdx fun x=>match x.dst with | some d=>d.beq q | none=>false
    match os[j]? with
    | some x=>if x.k.sort == 2 then some j else if Nat.blt j i then RV os fuel j else none
    | none=>none
   | none=>none
  | none=>none
def BL (deps:List (List Nat)) (os:List AOp):Plot :=
 let so:=os.map (·.k.sort)
 let an:=Zp deps
 ⟨so,os.map (·.dst),os.map AOp.slots,deps,an,U0 so deps an ((List.range so.length).map fun i=>if so.getD i 0 == 1 then RV os 6 i else none)⟩
def BO (ops:Array Oper) (draw:Bool):AC :=
 match FR P N ops ops.toList with
 | none=>.bad "a region of it registers"
 | some os =>
  if draw then
   let p:=BL (ops.toList.map Cc) os
   if p.ok then .drawn (p.sk.any SI.isAl) (p.sk.map (Jy os)) else .bad "a region of it order"
  else .ops os
def Uc (f:FuncId):Bool:=match P.funcs[f]? with
 | some fn=>fn.origin == "slices.Collect" || fn.origin == "slices.AppendSeq" || fn.name == "stillroom/stillroomtop.small"
 | none=>false
def WF (o:Oper):Option Sp:=match o.op with
 | .range ty x=>match P.underlying ty with | some (.map _ _)=>(AJ N x).map .rng | _=>none
 | .next x s=>if s then none else (AJ N x).map .nxt
 | .entry x=>(AJ N x).map .ent
 | .call ct=>match ct.callee with
  | .value (.func f)=>if Uc P f then (Bp N ct.args.toList).map (.tcl f) else none
  | .value (.tmp s)=>match AJ N (.tmp s),Bp N ct.args.toList with
   | some x,some l=>some (.dcl x l)
   | _,_=>none
  | _=>none
 | _=>none
def Uh (o:Oper):Option (Option K2):=match o.dst with | none=>some none | some d=>(FG N d).map some
def Kq (ops:Array Oper):List Oper->Option (List AOp×Sp×Option K2×List AOp)
 | []=>none
 | o::l=>match WF P N o with
  | some sp=>match o.guard,Uh N o,FR P N ops l with
   | none,some d,some post=>some ([],sp,d,post)
   | _,_,_=>none
  | none=>match Kq ops l with
   | none=>none
   | some r=>match Ii P N ops o with
    | some x=>some (x::r.1,r.2)
    | none=>none
def M9 (ops:Array Oper) (draw:Bool):AC :=
 if draw then BO P N ops true else match Kq P N ops ops.toList with
 | some r=>.spl r.1 r.2.1 r.2.2.1 r.2.2.2
 | none=>BO P N ops false
def Ay:Code->AC
 | .skip=>.skip
 | .region _ ops draw=>M9 P N ops draw
 | .seq a b=>.seq (Ay a) (Ay b)
 | .cond c a b=>match AJ N c with
  | some c=>.cond c (Ay a) (Ay b)
  | none=>.bad "a test"
 | .block id b=>.block id (Ay b)
 | .loop b=>.loop (Ay b)
 | .exit id=>.exit id
 | .label _=>.skip
 | .ret=>.ret
 | .rangeFunc _ _ _ _=>.bad "a range over a function"
 | .scope _=>.bad "a scope"
 | .goto _=>.bad "a goto"
 | .refuse why=>.bad why
def EQ:List Nat->Option (List K2)
 | []=>some []
 | t::l=>match FG N t,EQ l with
  | some x,some xs=>some (x::xs)
  | _,_=>none
def C6:List ResultVar->Option (List ARes)
 | []=>some []
 | .tmp t::l=>match FG N t,C6 l with
  | some x,some xs=>some (.tmp x::xs)
  | _,_=>none
 | .cell t ty::l=>match FG N t,JK P ty,Bk P ty,C6 l with
  | some x,some ag,some m,some xs=>some (.cel x (if ag then some m else none)::xs)
  | _,_,_,_=>none
end
def Fy (P:Program) (f:FuncId):Option AFn :=
 match P.funcs[f]? with
 | some fn =>
  match fn.body,EQ fn.ntmps (List.range (fn.params.size+fn.nfree)),C6 P fn.ntmps fn.results.toList with
  | some c,some ps,some rs=>if fn.name == "runtime.NumGoroutine" then none else some ⟨ps,Ay P fn.ntmps c,rs⟩
  | _,_,_=>none
 | none=>none
end Go.Ev

namespace Go.Ev
set_option linter.unusedVariables false
section
variable {ρ:Env}
def AT.le (φ φ':AT):Prop:=∀ p x,φ p=some x->φ' p=some x
theorem AT.le_refl (φ:AT):AT.le φ φ:=fun _ _ h=>h
theorem AT.le_trans {a b c:AT} (h:AT.le a b) (k:AT.le b c):AT.le a c:=fun p x hx=>k p x (h p x hx)
mutual
theorem Eo {φ φ':AT} (h:AT.le φ φ'):∀ {v:V} {x:Value},Au ρ φ v x->Au ρ φ' v x
 | .int _ _,_,r=>by simpa only [Au] using r
 | .bool _,_,r=>by simpa only [Au] using r
 | .ptr _ _,_,r=>by
  simp only [Au] at r ⊢
  obtain ⟨b,s,tot,hp,e⟩:=r
  exact ⟨b,s,tot,h _ _ hp,e⟩
 | .sl _ _ _ _ _ _,_,r=>by
  simp only [Au] at r ⊢
  obtain ⟨b,s,tot,o,c,hp,e⟩:=r
  exact ⟨b,s,tot,o,c,h _ _ hp,e⟩
 | .str _ _,_,r=>by simpa only [Au] using r
 | .agg l,_,r=>by
  simp only [Au] at r ⊢
  obtain ⟨cs,e,hl,ho⟩:=r
  exact ⟨cs,e,F6 h hl,ho⟩
 | .nil _,_,r=>by simpa only [Au] using r
 | .map _,_,r=>by
  simp only [Au] at r ⊢
  obtain ⟨b,s,tot,hp,e⟩:=r
  exact ⟨b,s,tot,h _ _ hp,e⟩
 | .fn _ l,_,r=>by
  simp only [Au] at r ⊢
  obtain ⟨cs,e,hl⟩:=r
  exact ⟨cs,e,F6 h hl⟩
 | .tup l,_,r=>by
  simp only [Au] at r ⊢
  obtain ⟨cs,e,hl⟩:=r
  exact ⟨cs,e,F6 h hl⟩
 | .oth o,_,r=>by
  cases o with
  | yl p =>
   simp only [Au] at r ⊢
   obtain ⟨b,s,tot,hp,e⟩:=r
   exact ⟨b,s,tot,h _ _ hp,e⟩
  | _=>simp only [Au] at r ⊢ <;> exact r
theorem F6 {φ φ':AT} (h:AT.le φ φ'):∀ {l:List V} {xs:List Value},Bl ρ φ l xs->Bl ρ φ' l xs
 | [],_,r=>by simpa only [Bl] using r
 | v::l,_,r=>by
  simp only [Bl] at r ⊢
  obtain ⟨y,ys,e,hy,hys⟩:=r
  exact ⟨y,ys,e,Eo h hy,F6 h hys⟩
end
theorem AD {φ:AT} {xs:List Value}:Bl ρ φ [] xs ↔ xs=[]:=by simp only [Bl]
theorem Ar {φ:AT} {v:V} {l:List V} {xs:List Value}:Bl ρ φ (v::l) xs ↔ ∃ y ys,xs=y::ys∧Au ρ φ v y∧Bl ρ φ l ys:=by simp only [Bl]
theorem B0 {φ:AT} {l:List V}:∀ {xs:List Value},Bl ρ φ l xs->xs.length=l.length:=by
 induction l with
 | nil=>intro xs h; rw [AD] at h; rw [h]; rfl
 | cons v l ih=>intro xs h; obtain ⟨y,ys,rfl,_,h⟩:=Ar.1 h; simp [ih h]
theorem BZ {φ:AT} {l:List V}:∀ {xs:List Value},Bl ρ φ l xs ↔ xs.length=l.length ∧ ∀ (i:Nat) (v:V),l[i]? = some v->∃ x,xs[i]? = some x∧Au ρ φ v x:=by
 induction l with
 | nil =>
  intro xs; rw [AD]; constructor
  ·rintro rfl; exact ⟨rfl,fun i v h=>by simp at h⟩
  ·rintro ⟨h,_⟩; exact List.eq_nil_of_length_eq_zero h
 | cons v l ih =>
  intro xs
  rw [Ar]
  constructor
  ·rintro ⟨y,ys,rfl,hy,hys⟩
   obtain ⟨h1,h2⟩:=ih.1 hys
   refine ⟨by simp [h1],fun i u hu=>?_⟩
   cases i with
   | zero=>simp at hu; subst hu; exact ⟨y,rfl,hy⟩
   | succ i=>simpa using h2 i u (by simpa using hu)
  ·rintro ⟨h1,h2⟩
   cases xs with
   | nil=>simp at h1
   | cons y ys =>
    obtain ⟨x,hx,hr⟩:=h2 0 v rfl
    simp at hx; subst hx
    exact ⟨y,ys,rfl,hr,ih.2 ⟨by simpa using h1,fun i u hu=>by simpa using h2 (i+1) u (by simpa using hu)⟩⟩
theorem EM {φ:AT} {a b:List V} {xs ys:List Value} (h:Bl ρ φ a xs) (k:Bl ρ φ b ys):Bl ρ φ (a++b) (xs++ys):=by
 induction a generalizing xs with
 | nil=>rw [AD] at h; subst h; exact k
 | cons v a ih=>obtain ⟨y,zs,rfl,hy,h⟩:=Ar.1 h; exact Ar.2 ⟨y,zs++ys,rfl,hy,ih h⟩
theorem I0 {φ:AT} {a:List V} {xs:List Value} (h:Bl ρ φ a xs) (k:Nat):Bl ρ φ (a.drop k) (xs.drop k):=by
 induction k generalizing a xs with
 | zero=>simpa using h
 | succ k ih=>cases a with
  | nil=>rw [AD] at h; subst h; simpa using AD.2 rfl
  | cons v a=>obtain ⟨y,zs,rfl,hy,h⟩:=Ar.1 h; simpa using ih h
theorem I9 {φ:AT} {a:List V} {xs:List Value} (h:Bl ρ φ a xs) (k:Nat):Bl ρ φ (a.take k) (xs.take k):=by
 induction k generalizing a xs with
 | zero=>simpa using AD.2 rfl
 | succ k ih=>cases a with
  | nil=>rw [AD] at h; subst h; simpa using AD.2 rfl
  | cons v a=>obtain ⟨y,zs,rfl,hy,h⟩:=Ar.1 h; simpa using Ar.2 ⟨y,zs.take k,rfl,hy,ih h⟩
def Bi (ρ:Env):Prop:=∀ i,(ρ.v i).oneCell'=true
theorem Gp {φ:AT} (hρ:Bi ρ) {v:V} (hv:v.celled) {x:Value} (h:Au ρ φ v x) :
  Bl ρ φ v.cl x.cells.toList ∧ ∀ y∈x.cells.toList,y.oneCell'=true:=by
 cases v with
 | agg l =>
  simp only [Au] at h
  obtain ⟨cs,rfl,hl,ho⟩:=h
  exact ⟨hl,ho⟩
 | tup l=>exact hv.elim
 | int k r =>
  have h':=h; simp only [Au] at h'; obtain ⟨_,rfl⟩:=h'
  exact ⟨Ar.2 ⟨_,[],rfl,h,AD.2 rfl⟩,by simp [Value.cells,Value.oneCell']⟩
 | bool b =>
  have h':=h; simp only [Au] at h'; subst h'
  exact ⟨Ar.2 ⟨_,[],rfl,h,AD.2 rfl⟩,by simp [Value.cells,Value.oneCell']⟩
 | ptr p o =>
  have h':=h; simp only [Au] at h'; obtain ⟨_,_,_,_,rfl⟩:=h'
  exact ⟨Ar.2 ⟨_,[],rfl,h,AD.2 rfl⟩,by simp [Value.cells,Value.oneCell']⟩
 | sl p o l c e z =>
  have h':=h; simp only [Au] at h'; obtain ⟨_,_,_,_,_,_,rfl,_⟩:=h'
  exact ⟨Ar.2 ⟨_,[],rfl,h,AD.2 rfl⟩,by simp [Value.cells,Value.oneCell']⟩
 | str n c =>
  have h':=h; simp only [Au] at h'; obtain ⟨_,rfl,_⟩:=h'
  exact ⟨Ar.2 ⟨_,[],rfl,h,AD.2 rfl⟩,by simp [Value.cells,Value.oneCell']⟩
 | nil w =>
  have h':=h; simp only [Au] at h'; subst h'
  exact ⟨Ar.2 ⟨_,[],by cases w <;> rfl,h,AD.2 rfl⟩,by cases w <;> simp [BW,Value.cells,Value.oneCell']⟩
 | map p =>
  have h':=h; simp only [Au] at h'; obtain ⟨_,_,_,_,rfl⟩:=h'
  exact ⟨Ar.2 ⟨_,[],rfl,h,AD.2 rfl⟩,by simp [Value.cells,Value.oneCell']⟩
 | fn f l =>
  have h':=h; simp only [Au] at h'; obtain ⟨_,rfl,_⟩:=h'
  exact ⟨Ar.2 ⟨_,[],rfl,h,AD.2 rfl⟩,by simp [Value.cells,Value.oneCell']⟩
 | oth o =>
  cases o with
  | any=>exact hv.elim
  | yl p=>exact hv.elim
  | no=>exact hv.elim
  | sym i =>
   have h':=h; simp only [Au] at h'; subst h'
   have hone:=hρ i
   have hc:(ρ.v i).cells = #[ρ.v i]:=by
    cases hx:ρ.v i <;> first | rfl | (rw [hx] at hone; simp [Value.oneCell'] at hone)
   rw [hc]
   exact ⟨Ar.2 ⟨_,[],rfl,h,AD.2 rfl⟩,by simpa using hone⟩
  | iv k lo hi =>
   have h':=h; simp only [Au] at h'; obtain ⟨_,_,_,_,rfl⟩:=h'
   exact ⟨Ar.2 ⟨_,[],rfl,h,AD.2 rfl⟩,by simp [Value.cells,Value.oneCell']⟩
  | os lo hi =>
   have h':=h; simp only [Au] at h'; obtain ⟨_,_,_,rfl,_⟩:=h'
   exact ⟨Ar.2 ⟨_,[],rfl,h,AD.2 rfl⟩,by simp [Value.cells,Value.oneCell']⟩
  | bl =>
   have h':=h; simp only [Au] at h'; obtain ⟨_,rfl⟩:=h'
   exact ⟨Ar.2 ⟨_,[],rfl,h,AD.2 rfl⟩,by simp [Value.cells,Value.oneCell']⟩
  | rs m j =>
   have h':=h; simp only [Au] at h'; obtain ⟨_,rfl,_⟩:=h'
   exact ⟨Ar.2 ⟨_,[],rfl,h,AD.2 rfl⟩,by simp [Value.cells,Value.oneCell']⟩
  | ss lo hi n c =>
   have h':=h; simp only [Au] at h'; obtain ⟨_,rfl,_⟩:=h'
   exact ⟨Ar.2 ⟨_,[],rfl,h,AD.2 rfl⟩,by simp [Value.cells,Value.oneCell']⟩
  | ro i lo hi z =>
   have h':=h; simp only [Au] at h'; obtain ⟨_,_,_,_,_,_,_,rfl,_⟩:=h'
   exact ⟨Ar.2 ⟨_,[],rfl,h,AD.2 rfl⟩,by simp [Value.cells,Value.oneCell']⟩
  | ap i j m =>
   have h':=h; simp only [Au] at h'; obtain ⟨_,_,_,_,_,rfl,_⟩:=h'
   exact ⟨Ar.2 ⟨_,[],rfl,h,AD.2 rfl⟩,by simp [Value.cells,Value.oneCell']⟩
  | sy k i =>
   have h':=h; simp only [Au] at h'; obtain ⟨_,_,_,rfl⟩:=h'
   exact ⟨Ar.2 ⟨_,[],rfl,h,AD.2 rfl⟩,by simp [Value.cells,Value.oneCell']⟩
def BK:Ob->Option K4
 | .c _ _ p=>p
 | _=>none
def Ip:Ob->Bool
 | .c _ s _=>s
 | _=>false
def TX (fr:Nat×Nat) (tot:Nat):Prop:=fr.1=fr.2∨tot≤fr.1
def Gf (ρ:Env) (φ:AT):List (V×V)->List MapEntry->Prop
 | [],l=>l=[]
 | e::es,l=>∃ y ys,l=y::ys∧Au ρ φ e.1 y.key∧Au ρ φ e.2 y.val∧Gf ρ φ es ys
def E0 (ρ:Env) (φ:AT) (cs:Cs) (f:Nat->Option Value):Prop :=
 ∀ i v,cs.at i=some v->∃ x,f i=some x∧Au ρ φ v x∧x.oneCell'=true
def Fp (ρ:Env) (φ:AT) (w:World) (o:Ob) (b s tot:Nat):Prop :=
 match o with
 | .c cs _ _=>∃ c e fr,w.heap[b]? = some (.cells c e fr)∧c.size=tot∧s+cs.len≤tot∧TX fr tot∧E0 ρ φ cs fun i=>c[s+i]?
 | .m es bs clk=>∃ ents,w.heap[b]? = some (.map ents clk)∧Gf ρ φ es ents.toList∧ents.toList.map (·.born)=bs
 | .it p since seen c=>∃ bm sm tm,φ p=some (bm,sm,tm)∧s=0∧w.heap[b]? = some (.mapIter (some bm) since seen.reverse.toArray c)
 | .it0=>s=0∧w.heap[b]? = some (.mapIter none 0 #[] 0)
 | .lp f box=>s=0 ∧ ∃ (A:ApC) (fn:FuncId) (tmps:Array Value) (D:Nat),ρ.ap f=some A∧w.heap[b]? = some (.loop { state:=.ready,pending:=none,fn,tmps,params:=#[A.par],assign:=A.asg,body:=A.bod,defers:=D }) ∧
   tmps.size=A.ntm∧Au ρ φ (.ptr box 0) (tmps.getD A.box undef)
theorem L1 {φ φ':AT} (h:AT.le φ φ') {es:List (V×V)}:∀ {l:List MapEntry},Gf ρ φ es l->Gf ρ φ' es l:=by
 induction es with
 | nil=>exact fun h=>h
 | cons e es ih=>rintro l ⟨y,ys,rfl,h1,h2,h3⟩; exact ⟨y,ys,rfl,Eo h h1,Eo h h2,ih h3⟩
theorem Fd {φ φ':AT} (h:AT.le φ φ') {cs:Cs} {f:Nat->Option Value} (k:E0 ρ φ cs f):E0 ρ φ' cs f :=
 fun i v hv=>let ⟨x,h1,h2,h3⟩:=k i v hv; ⟨x,h1,Eo h h2,h3⟩
theorem Dz {φ φ':AT} (h:AT.le φ φ') {w:World} {o:Ob} {b s tot:Nat} (k:Fp ρ φ w o b s tot):Fp ρ φ' w o b s tot:=by
 cases o with
 | c cs sup prev =>
  obtain ⟨c,e,fr,h1,h2,h3,h4,h5⟩:=k
  exact ⟨c,e,fr,h1,h2,h3,h4,Fd h h5⟩
 | m es bs clk =>
  obtain ⟨ents,h1,h2,h3⟩:=k
  exact ⟨ents,h1,L1 h h2,h3⟩
 | it p since seen c =>
  obtain ⟨bm,sm,tm,h1,h2,h3⟩:=k
  exact ⟨bm,sm,tm,h _ _ h1,h2,h3⟩
 | it0=>exact k
 | lp f box =>
  obtain ⟨h0,A,fn,tmps,D,h1,h2,h3,h4⟩:=k
  exact ⟨h0,A,fn,tmps,D,h1,h2,h3,Eo h h4⟩
theorem BY {φ:AT} {w w':World} {o:Ob} {b s tot:Nat} (h:w'.heap[b]? = w.heap[b]?) (k:Fp ρ φ w o b s tot):Fp ρ φ w' o b s tot:=by
 cases o with
 | c cs sup prev=>obtain ⟨c,e,fr,h1,h2⟩:=k; exact ⟨c,e,fr,h.trans h1,h2⟩
 | m es bs clk=>obtain ⟨ents,h1,h2⟩:=k; exact ⟨ents,h.trans h1,h2⟩
 | it p since seen c=>obtain ⟨bm,sm,tm,h1,h2,h3⟩:=k; exact ⟨bm,sm,tm,h1,h2,h.trans h3⟩
 | it0=>exact ⟨k.1,h.trans k.2⟩
 | lp f box=>obtain ⟨h0,A,fn,tmps,D,h1,h2,h3⟩:=k; exact ⟨h0,A,fn,tmps,D,h1,h.trans h2,h3⟩
structure Gam (ρ:Env) (B:Nat) (h:Heap) (n:K4) (φ:AT) (w:World):Prop where
 base:B≤w.heap.size
 dom:∀ p x,φ p=some x->p.toN<n.toN
 blk:∀ p b s tot,φ p=some (b,s,tot)->B≤b∧b<w.heap.size
 obj:∀ p o b s tot,Ax p h=some o->φ p=some (b,s,tot)->Fp ρ φ w o b s tot
 sep:∀ p q o o' b s tot s' tot',p≠q->Ax p h=some o->Ax q h=some o'->φ p=some (b,s,tot)->φ q=some (b,s',tot')->BK o=some q∨BK o'=some p
 sup:∀ p q o o' b s tot s' tot',Ax p h=some o->BK o=some q->Ax q h=some o'->φ p=some (b,s,tot)->φ q=some (b,s',tot')->Ip o'=true
 glob:∀ b c e fr,ρ.gl b=some (c,e,fr)->b<B∧w.heap[b]? = some (.cells c e fr)
structure Fr (h h':Heap) (φ φ':AT) (n n':K4) (w w':World):Prop where
 ext:AT.le φ φ'
 new:∀ p x,φ' p=some x->φ p=some x∨(n.toN≤p.toN∧p.toN<n'.toN)
 nn:n.toN≤n'.toN
 os:w'.os=w.os
 tape:w'.tape=w.tape
 out:w'.output=w.output
 size:w.heap.size≤w'.heap.size
 old:∀ b,b<w.heap.size->(∀ p s tot,φ p=some (b,s,tot)->Ax p h=none)->w'.heap[b]? = w.heap[b]?
 fresh:∀ p b s tot,φ' p=some (b,s,tot)->φ p=some (b,s,tot)∨w.heap.size≤b ∨ ∃ q s' tot',φ q=some (b,s',tot')∧Ax q h≠none
 dm:∀ p,φ p≠none->Ax p h=none->Ax p h'=none
theorem Fr.refl (h:Heap) (φ:AT) (n:K4) (w:World):Fr h h φ φ n n w w :=
 ⟨AT.le_refl φ,fun _ _ h=>.inl h,Nat.le_refl _,rfl,rfl,rfl,Nat.le_refl _,fun _ _ _=>rfl,fun _ _ _ _ h=>.inl h,fun _ _ h=>h⟩
theorem Fr.trans {h h1 h2:Heap} {φ φ1 φ2:AT} {n n1 n2:K4} {w w1 w2:World} (a:Fr h h1 φ φ1 n n1 w w1) (c:Fr h1 h2 φ1 φ2 n1 n2 w1 w2):Fr h h2 φ φ2 n n2 w w2 where
 ext:=AT.le_trans a.ext c.ext
 new:=fun p x hx=>by
  rcases c.new p x hx with h' | ⟨h1,h2⟩
  ·rcases a.new p x h' with h' | ⟨h1,h2⟩
   ·exact .inl h'
   ·exact .inr ⟨h1,Nat.lt_of_lt_of_le h2 c.nn⟩
  ·exact .inr ⟨Nat.le_trans a.nn h1,h2⟩
 nn:=Nat.le_trans a.nn c.nn
 os:=c.os.trans a.os
 tape:=c.tape.trans a.tape
 out:=c.out.trans a.out
 size:=Nat.le_trans a.size c.size
 old:=fun b hb hn=>by
  rw [←a.old b hb hn]
  refine c.old b (Nat.lt_of_lt_of_le hb a.size) fun p s tot hp=>?_
  rcases a.fresh p b s tot hp with h' | h' | ⟨q,s',tot',hq,hne⟩
  ·exact a.dm p (by rw [h']; simp) (hn p s tot h')
  ·omega
  ·exact absurd (hn q s' tot' hq) hne
 fresh:=fun p b s tot hp=>by
  rcases c.fresh p b s tot hp with h' | h' | ⟨q,s',tot',hq,hne⟩
  ·exact a.fresh p b s tot h'
  ·exact .inr (.inl (Nat.le_trans a.size h'))
  ·rcases a.fresh q b s' tot' hq with h' | h' | h'
   ·refine .inr (.inr ⟨q,s',tot',h',fun hn=>hne (a.dm q (by rw [h']; simp) hn)⟩)
   ·exact .inr (.inl h')
   ·exact .inr (.inr h')
 dm:=fun p hp hn=>c.dm p (by
  cases hx:φ p with
  | none=>exact absurd hx hp
  | some x=>rw [a.ext p x hx]; simp) (a.dm p hp hn)
theorem Fr.drew {h:Heap} {φ:AT} {n:K4} {w:World}:Fr h h φ φ n n w w.drew :=
 ⟨AT.le_refl φ,fun _ _ h=>.inl h,Nat.le_refl _,rfl,rfl,rfl,Nat.le_refl _,fun _ _ _=>rfl,fun _ _ _ _ h=>.inl h,fun _ _ h=>h⟩
theorem Gam.drew {B:Nat} {h:Heap} {φ:AT} {n:K4} {w:World} (g:Gam ρ B h n φ w):Gam ρ B h n φ w.drew :=
 ⟨g.base,g.dom,g.blk,fun p o b s tot h1 h2=>BY (w:=w) rfl (g.obj p o b s tot h1 h2),g.sep,g.sup,g.glob⟩
theorem Gam.nx {B:Nat} {h:Heap} {φ:AT} {n n':K4} {w:World} (g:Gam ρ B h n φ w) (hn:n.toN≤n'.toN):Gam ρ B h n' φ w :=
 ⟨g.base,fun p x hx=>Nat.lt_of_lt_of_le (g.dom p x hx) hn,g.blk,g.obj,g.sep,g.sup,g.glob⟩
def DQ (φ:AT) (p:K4) (x:Nat×Nat×Nat):AT:=fun q=>if p.beq q then some x else φ q
theorem BF (φ:AT) (p:K4) (x:Nat×Nat×Nat):DQ φ p x p=some x:=if_pos (K4.beq_iff.2 rfl)
theorem Gt {φ:AT} {p q:K4} {x:Nat×Nat×Nat} (h:p≠q):DQ φ p x q=φ q:=if_neg fun e=>h (K4.beq_iff.1 e)
theorem Cw {φ:AT} {p:K4} {x:Nat×Nat×Nat} (h:φ p=none):AT.le φ (DQ φ p x):=fun q y hy=>by
 rw [Gt fun e=>by rw [e,hy] at h; cases h]; exact hy
theorem AL {φ:AT} {p q:K4} {x y:Nat×Nat×Nat} (h:DQ φ p x q=some y):(p=q∧x=y)∨(p≠q∧φ q=some y):=by
 by_cases e:p=q
 ·subst e; rw [BF] at h; exact .inl ⟨rfl,by simpa using h⟩
 ·rw [Gt e] at h; exact .inr ⟨e,h⟩
theorem Bq {h:Heap} {p q:K4} {o:Option Ob} {x:Ob} (k:Ax q (AR p h o)=some x):(p=q∧o=some x)∨(p≠q∧Ax q h=some x):=by
 by_cases e:p=q
 ·subst e; rw [Av] at k; exact .inl ⟨rfl,k⟩
 ·rw [Ao _ _ e] at k; exact .inr ⟨e,k⟩
theorem Gam.alloc {B:Nat} {h:Heap} {φ:AT} {n n' p:K4} {w:World} (g:Gam ρ B h n φ w) (hp:φ p=none) (hpn:p.toN<n'.toN) (hn:n.toN≤n'.toN)
  (o:Ob) (ho:BK o=none) (O:Obj) (tot:Nat)
  (hok:∀ φ':AT,AT.le φ φ'->∀ w':World,w'.heap[w.heap.size]? = some O->Fp ρ φ' w' o w.heap.size 0 tot) :
  Gam ρ B (AR p h (some o)) n' (DQ φ p (w.heap.size,0,tot)) (w.alloc O) where
 base:=by have:=g.base; rw [World.size_alloc]; omega
 glob:=fun b c e fr hb=>⟨(g.glob b c e fr hb).1,by rw [Go.RowKit.Below.heap_alloc w O b (by have:=(g.glob b c e fr hb).1; have:=g.base; omega)]; exact (g.glob b c e fr hb).2⟩
 dom:=fun q x hx=>by
  rcases AL hx with ⟨rfl,_⟩ | ⟨_,hx⟩
  ·exact hpn
  ·exact Nat.lt_of_lt_of_le (g.dom q x hx) hn
 blk:=fun q b s t hx=>by
  rw [World.size_alloc]
  rcases AL hx with ⟨rfl,e⟩ | ⟨_,hx⟩
  ·simp only [Prod.mk.injEq] at e; have:=g.base; omega
  ·have:=g.blk q b s t hx; omega
 obj:=fun q o' b s t hq hx=>by
  rcases AL hx with ⟨rfl,e⟩ | ⟨hne,hx⟩
  ·rw [Av] at hq
   simp only [Prod.mk.injEq] at e
   obtain ⟨rfl,rfl,rfl⟩:=e
   cases hq
   exact hok _ (Cw hp) _ (by show (w.heap.push O)[w.heap.size]? = some O; simp)
  ·rw [Ao _ _ hne] at hq
   have hb:=(g.blk q b s t hx).2
   refine BY (w:=w) ?_ (Dz (Cw hp) (g.obj q o' b s t hq hx))
   exact Go.RowKit.Below.heap_alloc w O b hb
 sep:=fun q r o1 o2 b s t s' t' hne hq hr hx hy=>by
  rcases AL hx with ⟨rfl,e⟩ | ⟨hpq,hx⟩
  ·rcases AL hy with ⟨rfl,_⟩ | ⟨_,hy⟩
   ·exact absurd rfl hne
   ·simp only [Prod.mk.injEq] at e
    have:=(g.blk r b s' t' hy).2; omega
  ·rcases AL hy with ⟨rfl,e⟩ | ⟨hpr,hy⟩
   ·simp only [Prod.mk.injEq] at e
    have:=(g.blk q b s t hx).2; omega
   ·rw [Ao _ _ hpq] at hq
    rw [Ao _ _ hpr] at hr
    exact g.sep q r o1 o2 b s t s' t' hne hq hr hx hy
 sup:=fun q r o1 o2 b s t s' t' hq hpr hr hx hy=>by
  rcases AL hx with ⟨rfl,e⟩ | ⟨hpq,hx⟩
  ·rw [Av] at hq; cases hq; rw [ho] at hpr; cases hpr
  ·rcases AL hy with ⟨rfl,e⟩ | ⟨hpr',hy⟩
   ·simp only [Prod.mk.injEq] at e; have:=(g.blk q b s t hx).2; omega
   ·rw [Ao _ _ hpq] at hq
    rw [Ao _ _ hpr'] at hr
    exact g.sup q r o1 o2 b s t s' t' hq hpr hr hx hy
theorem Fr.alloc {h:Heap} {φ:AT} {n n' p:K4} {w:World} (hp:φ p=none) (hn:n.toN≤n'.toN) (h1:n.toN≤p.toN) (h2:p.toN<n'.toN)
  (o:Option Ob) (O:Obj) (tot:Nat):Fr h (AR p h o) φ (DQ φ p (w.heap.size,0,tot)) n n' w (w.alloc O) where
 ext:=Cw hp
 new:=fun q x hx=>by
  rcases AL hx with ⟨rfl,_⟩ | ⟨_,hx⟩
  ·exact .inr ⟨h1,h2⟩
  ·exact .inl hx
 nn:=hn
 os:=rfl
 tape:=rfl
 out:=rfl
 size:=by rw [World.size_alloc]; omega
 old:=fun b hb _=>Go.RowKit.Below.heap_alloc w O b hb
 fresh:=fun q b s t hx=>by
  rcases AL hx with ⟨rfl,e⟩ | ⟨_,hx⟩
  ·simp only [Prod.mk.injEq] at e; exact .inr (.inl (by omega))
  ·exact .inl hx
 dm:=fun q hq hn=>by
  have hne:p≠q:=fun e=>hq (e ▸ hp)
  rw [Ao _ _ hne]; exact hn
def FF (prev:Option K4) (h:Heap):Heap:=match prev with | none=>h | some q=>AR q h none
theorem JT (prev:Option K4) (h:Heap) (κ:Heap->R):KW prev h κ=κ (FF prev h):=by
 cases prev with
 | none=>rfl
 | some q=>exact Bu q h none κ
theorem CI {prev:Option K4} {h:Heap} {q:K4} {x:Ob} (k:Ax q (FF prev h)=some x):prev≠some q∧Ax q h=some x:=by
 cases prev with
 | none=>exact ⟨by simp,k⟩
 | some r =>
  rcases Bq k with ⟨_,h⟩ | ⟨hne,h⟩
  ·cases h
  ·exact ⟨fun e=>hne (by simpa using e),h⟩
theorem Oa {prev:Option K4} {h:Heap} {q:K4} (k:Ax q h=none):Ax q (FF prev h)=none:=by
 cases hx:Ax q (FF prev h) with
 | none=>rfl
 | some x=>rw [(CI hx).2] at k; cases k
def Cy (w:World) (b:Nat) (O:Obj):World:={ w with heap:=w.heap.setIfInBounds b O }
theorem D8 {w:World} {b:Nat} {O:Obj} (h:b<w.heap.size):(Cy w b O).heap[b]? = some O:=by
 simp [Cy,h]
theorem Gi {w:World} {b k:Nat} {O:Obj} (h:b≠k):(Cy w b O).heap[k]? = w.heap[k]?:=by
 simp [Cy,Array.getElem?_setIfInBounds_ne h]
theorem Dt {w:World} {b:Nat} {O:Obj}:(Cy w b O).heap.size=w.heap.size:=by simp [Cy]
theorem Gam.write {B:Nat} {h:Heap} {φ:AT} {n p:K4} {w:World} {o o':Ob} {b s tot:Nat} {O:Obj} (g:Gam ρ B h n φ w) (hp:Ax p h=some o) (hφ:φ p=some (b,s,tot))
  (hs:Ip o=false) (ho':BK o'=none) (hok:Fp ρ φ (Cy w b O) o' b s tot) :
  Gam ρ B (AR p (FF (BK o) h) (some o')) n φ (Cy w b O) where
 base:=by rw [Dt]; exact g.base
 glob:=fun k c e fr hk=>⟨(g.glob k c e fr hk).1,by rw [Gi (by have:=(g.glob k c e fr hk).1; have:=(g.blk p b s tot hφ).1; omega)]; exact (g.glob k c e fr hk).2⟩
 dom:=g.dom
 blk:=fun q b s t hx=>by rw [Dt]; exact g.blk q b s t hx
 obj:=fun q o1 b1 s1 t1 hq hx=>by
  rcases Bq hq with ⟨rfl,e⟩ | ⟨hne,hq⟩
  ·rw [hφ] at hx; simp only [Option.some.injEq,Prod.mk.injEq] at hx e
   obtain ⟨rfl,rfl,rfl⟩:=hx; subst e; exact hok
  ·obtain ⟨hk,hq⟩:=CI hq
   have hb:b≠b1:=fun e=>by
    subst e
    rcases g.sep p q o o1 b s tot s1 t1 hne hp hq hφ hx with h' | h'
    ·exact hk h'
    ·have:=g.sup q p o1 o b s1 t1 s tot hq h' hp hx hφ
     rw [this] at hs; cases hs
   exact BY (Gi hb) (g.obj q o1 b1 s1 t1 hq hx)
 sep:=fun q r o1 o2 b1 s1 t1 s2 t2 hne hq hr hx hy=>by
  rcases Bq hq with ⟨rfl,e⟩ | ⟨hpq,hq⟩
  ·rcases Bq hr with ⟨rfl,e'⟩ | ⟨hpr,hr⟩
   ·exact absurd rfl hne
   ·obtain ⟨hk,hr⟩:=CI hr
    rcases g.sep p r o o2 b1 s1 t1 s2 t2 hne hp hr hx hy with h' | h'
    ·exact absurd h' hk
    ·exact .inr h'
  ·obtain ⟨hk,hq⟩:=CI hq
   rcases Bq hr with ⟨rfl,e'⟩ | ⟨hpr,hr⟩
   ·rcases g.sep q p o1 o b1 s1 t1 s2 t2 hne hq hp hx hy with h' | h'
    ·exact .inl h'
    ·exact absurd h' hk
   ·obtain ⟨_,hr⟩:=CI hr
    exact g.sep q r o1 o2 b1 s1 t1 s2 t2 hne hq hr hx hy
 sup:=fun q r o1 o2 b1 s1 t1 s2 t2 hq hpr hr hx hy=>by
  rcases Bq hq with ⟨rfl,e⟩ | ⟨hpq,hq⟩
  ·simp only [Option.some.injEq] at e; subst e; rw [ho'] at hpr; cases hpr
  ·obtain ⟨hk,hq⟩:=CI hq
   rcases Bq hr with ⟨rfl,e⟩ | ⟨_,hr⟩
   ·have:=g.sup q p o1 o b1 s1 t1 s2 t2 hq hpr hp hx hy
    rw [this] at hs; cases hs
   ·exact g.sup q r o1 o2 b1 s1 t1 s2 t2 hq hpr (CI hr).2 hx hy
theorem Fr.write {h:Heap} {φ:AT} {n p:K4} {w:World} {o:Ob} {o':Option Ob} {b s tot:Nat} {O:Obj} (hp:Ax p h=some o) (hφ:φ p=some (b,s,tot)) :
  Fr h (AR p (FF (BK o) h) o') φ φ n n w (Cy w b O) where
 ext:=AT.le_refl φ
 new:=fun _ _ h=>.inl h
 nn:=Nat.le_refl _
 os:=rfl
 tape:=rfl
 out:=rfl
 size:=by rw [Dt]; exact Nat.le_refl _
 old:=fun k hk hn=>Gi fun e=>by
  subst e
  have:=hn p s tot hφ; rw [hp] at this; cases this
 fresh:=fun _ _ _ _ h=>.inl h
 dm:=fun q hq hn=>by
  by_cases e:p=q
  ·subst e; rw [hp] at hn; cases hn
  ·rw [Ao _ _ e]; exact Oa hn
end
end Go.Ev

namespace Go.Ev
set_option linter.unusedVariables false
theorem kb {k j:IntKind} {t:R} {s:String} (h:(br (B8 k j) t (.fail s)).good):k=j∧br (B8 k j) t (.fail s)=t:=by
 obtain ⟨h1,h2⟩:=Ai h
 exact ⟨B9.1 h1,h2⟩
theorem BH {a b:Nat} (h:Nat.ble (Nat.succ a) b=true):a<b:=Ak.1 h
def DN (op:BinOp) (x y:Value) (v:V):Prop :=
 ∃ r:Value,(∀ (P:Program) (t:TypeId) (w:World),(Go.binOp op t x y).run P w = .ok r w) ∧ ∀ (ρ:Env) (φ:AT),Au ρ φ v r
theorem DW (k:IntKind) (r:Nat) (hr:r<Mk k) (ρ:Env) (φ:AT):Au ρ φ (.int k r) (.int k (BV k r)):=by
 simp [Au,hr]
theorem Bt (b:Bool) (ρ:Env) (φ:AT):Au ρ φ (.bool b) (.bool b):=by simp only [Au]
theorem Rl (k:IntKind) (a b:Nat):k.wrap (BV k a+BV k b)=BV k ((a+b) % Mk k):=by
 apply Fk
 rw [Int.add_emod,DO,DO,←Int.natCast_add,←Int.natCast_emod,Nat.add_mod]; simp
theorem Nh (k:IntKind) (a b:Nat) (hb:b<Mk k):k.wrap (BV k a - BV k b)=BV k ((a+(Mk k - b)) % Mk k):=by
 apply Fk
 unfold BV
 cases k <;> simp only [Mk,Hk] at * <;> (repeat' split) <;> omega
theorem Rr (k:IntKind) (a b:Nat):k.wrap (BV k a*BV k b)=BV k (a*b % Mk k):=by
 apply Fk
 rw [Int.mul_emod,DO,DO,←Int.natCast_mul,←Int.natCast_emod,Nat.mul_mod]; simp
theorem KJ {k j:IntKind} {a b:Nat} {κ:R} (h:(Nd k a j b κ).good):k=j∧a<Hk k∧b<Hk k∧Nd k a j b κ=κ:=by
 obtain ⟨rfl,e1⟩:=kb h
 have e1:Nd k a k b κ=_:=e1
 rw [e1] at h
 obtain ⟨h2,e2⟩:=Ai h
 rw [e2] at h
 obtain ⟨h3,e3⟩:=Ai h
 exact ⟨rfl,BH h2,BH h3,e1.trans (e2.trans e3)⟩
theorem bv (k:IntKind) (a:Nat) (ha:a<Mk k):(BitVec.ofInt k.bits (BV k a)).toNat=a:=by
 rw [BitVec.toNat_ofInt]
 have h:=DO k a
 have e:((2 ^ k.bits:Nat):Int)=(Mk k:Int):=by rw [E3]
 rw [e,h,Nat.mod_eq_of_lt ha]; simp
theorem Ef (k:IntKind) (r:Nat) (hr:r<Mk k):k.wrap (r:Int)=BV k r :=
 Fk (by rw [←Int.natCast_emod,Nat.mod_eq_of_lt hr])
theorem Rz (a b m:Nat) (h:a<m):Nat.land a b<m:=Nat.lt_of_le_of_lt Nat.and_le_left h
theorem Vo (k:IntKind) (a b:Nat) (ha:a<Mk k) (hb:b<Mk k):Nat.lor a b<Mk k:=by
 rw [E3] at *; exact Nat.or_lt_two_pow ha hb
theorem R9 (k:IntKind) (a b:Nat) (ha:a<Mk k) (hb:b<Mk k):Nat.xor a b<Mk k:=by
 rw [E3] at *; exact Nat.xor_lt_two_pow ha hb
theorem Gj (op:BinOp) (k:IntKind) (a:Nat) (j:IntKind) (b:Nat) (κ:V->R) (ha:a<Mk k) (hb:b<Mk j) (h:(MG op k a j b κ).good) :
  ∃ v,MG op k a j b κ=κ v∧DN op (.int k (BV k a)) (.int j (BV j b)) v:=by
 cases op with
 | add =>
  obtain ⟨rfl,e⟩:=kb (show R.good (SK k a j b κ) from h)
  refine ⟨_,(show SK k a k b κ=_ from e).trans (Ad _ _),.int k (BV k ((a+b) % Mk k)),fun P t w=>?_,DW k _ (Nat.mod_lt _ (Ek k))⟩
  simp only [binOp_add,Op.intArith,Rl,Sem.run_pure]
 | sub =>
  obtain ⟨rfl,e⟩:=kb (show R.good (Mc k a j b κ) from h)
  refine ⟨_,(show Mc k a k b κ=_ from e).trans (Ad _ _),.int k (BV k ((a+(Mk k - b)) % Mk k)),fun P t w=>?_,DW k _ (Nat.mod_lt _ (Ek k))⟩
  simp only [binOp_sub,Op.intArith,Nh _ _ _ hb,Sem.run_pure]
 | mul =>
  obtain ⟨rfl,e⟩:=kb (show R.good (Tq k a j b κ) from h)
  refine ⟨_,(show Tq k a k b κ=_ from e).trans (Ad _ _),.int k (BV k (a*b % Mk k)),fun P t w=>?_,DW k _ (Nat.mod_lt _ (Ek k))⟩
  simp only [binOp_mul,Op.intArith,Rr,Sem.run_pure]
 | quo =>
  obtain ⟨rfl,h1,h2,e⟩:=KJ (show R.good (QL k a j b κ) from h)
  have e:QL k a k b κ=_:=e
  have h:(QL k a k b κ).good:=h
  rw [e] at h
  obtain ⟨h3,e3⟩:=Ai h
  have h3:=Ak.1 h3
  refine ⟨_,e.trans (e3.trans (Ad _ _)),.int k (BV k (a / b)),fun P t w=>?_,DW k _ (Nat.lt_of_le_of_lt (Nat.div_le_self a b) ha)⟩
  have hd:a / b<Hk k:=Nat.lt_of_le_of_lt (Nat.div_le_self a b) h1
  rw [binOp_quo,As h1,As h2,As hd]
  have hw:k.wrap ((a / b:Nat):Int)=((a / b:Nat):Int):=by
   rw [Ef k _ (Nat.lt_of_lt_of_le hd (FS k)),As hd]
  simp only [Op.intDiv]
  rw [if_neg (by omega)]
  simp only [Sem.run_pure]
  rw [←hw,Int.ofNat_tdiv]
 | rem =>
  obtain ⟨rfl,h1,h2,e⟩:=KJ (show R.good (PL k a j b κ) from h)
  have e:PL k a k b κ=_:=e
  have h:(PL k a k b κ).good:=h
  rw [e] at h
  obtain ⟨h3,e3⟩:=Ai h
  have h3:=Ak.1 h3
  have hd:a % b<Hk k:=Nat.lt_of_le_of_lt (Nat.mod_le a b) h1
  refine ⟨_,e.trans (e3.trans (Ad _ _)),.int k (BV k (a % b)),fun P t w=>?_,DW k _ (Nat.lt_of_lt_of_le hd (FS k))⟩
  rw [binOp_rem,As h1,As h2,As hd]
  simp only [Op.intDiv]
  rw [if_neg (by omega)]
  simp only [Sem.run_pure]
  rw [←Int.ofNat_tmod]
 | and =>
  obtain ⟨rfl,e⟩:=kb (show R.good (Rq k a j b κ) from h)
  have hl:Nat.land a b<Mk k:=Rz a b _ ha
  refine ⟨_,(show Rq k a k b κ=_ from e).trans (Ad _ _),.int k (BV k (Nat.land a b)),fun P t w=>?_,DW k _ hl⟩
  simp only [binOp_and,Op.intBits,BitVec.toNat_and,bv _ _ ha,bv _ _ hb,Sem.run_pure]
  rw [Ef k (a &&& b) hl]; rfl
 | or =>
  obtain ⟨rfl,e⟩:=kb (show R.good (W7 k a j b κ) from h)
  have hl:Nat.lor a b<Mk k:=Vo k a b ha hb
  refine ⟨_,(show W7 k a k b κ=_ from e).trans (Ad _ _),.int k (BV k (Nat.lor a b)),fun P t w=>?_,DW k _ hl⟩
  simp only [binOp_or,Op.intBits,BitVec.toNat_or,bv _ _ ha,bv _ _ hb,Sem.run_pure]
  rw [Ef k (a ||| b) hl]; rfl
 | xor =>
  obtain ⟨rfl,e⟩:=kb (show R.good (QY k a j b κ) from h)
  have hl:Nat.xor a b<Mk k:=R9 k a b ha hb
  refine ⟨_,(show QY k a k b κ=_ from e).trans (Ad _ _),.int k (BV k (Nat.xor a b)),fun P t w=>?_,DW k _ hl⟩
  simp only [binOp_xor,Op.intBits,BitVec.toNat_xor,bv _ _ ha,bv _ _ hb,Sem.run_pure]
  rw [Ef k (a ^^^ b) hl]; rfl
 | shl =>
  obtain ⟨h1,e1⟩:=Ai (show R.good (Ra k a j b κ) from h)
  have e1:Ra k a j b κ=_:=e1
  have h1:=BH h1
  have hr:∀ P t w,(Go.binOp .shl t (.int k (BV k a)) (.int j (BV j b))).run P w = .ok (.int k (k.wrap (BV k a*2 ^ min b k.bits))) w:=fun P t w=>by
   rw [binOp_shl,Op.shift,As h1,if_neg (by omega)]; simp
  by_cases hb64:b≤64
  ·refine ⟨_,e1.trans ((by rw [Ak.2 hb64,AN]:br (Nat.ble b 64) _ _=_).trans (Ad _ _)),.int k (BV k ((a <<< b) % Mk k)),fun P t w=>?_,DW k _ (Nat.mod_lt _ (Ek k))⟩
   rw [hr]
   congr 2
   apply Fk
   rw [Nat.shiftLeft_eq]
   by_cases hbb:b≤k.bits
   ·have e2:((2:Int) ^ b)=((2 ^ b:Nat):Int):=by simp
    rw [Nat.min_eq_left hbb,Int.mul_emod,DO,e2,←Int.natCast_emod,←Int.natCast_mul,←Int.natCast_emod,←Nat.mul_mod]
   ·rw [Nat.min_eq_right (by omega),Int.mul_emod]
    have h0:((2:Int) ^ k.bits) % (Mk k:Int)=0:=by rw [E3]; simp
    have h0':a*2 ^ b % Mk k=0:=by
     rw [E3,show b=k.bits+(b - k.bits) by omega,Nat.pow_add,←Nat.mul_assoc,Nat.mul_right_comm]; exact Nat.mul_mod_left _ _
    rw [h0,h0']; simp
  ·refine ⟨_,e1.trans (by rw [Bc (by omega),AO]:br (Nat.ble b 64) _ _=_),.int k (BV k 0),fun P t w=>?_,DW k _ (Ek k)⟩
   rw [hr]
   congr 2
   apply Fk
   have hbits:k.bits≤64:=by cases k <;> simp [IntKind.bits]
   rw [Nat.min_eq_right (by omega),Int.mul_emod]
   have h0:((2:Int) ^ k.bits) % (Mk k:Int)=0:=by rw [E3]; simp
   rw [h0]; simp
 | shr =>
  obtain ⟨h1,e1⟩:=Ai (show R.good (Q2 k a j b κ) from h)
  have e1:Q2 k a j b κ=_:=e1
  have h1:=BH h1
  have h:(Q2 k a j b κ).good:=h
  rw [e1] at h
  obtain ⟨h2,e2⟩:=Ai h
  have h2:=BH h2
  have hr:∀ P t w,(Go.binOp .shr t (.int k (BV k a)) (.int j (BV j b))).run P w = .ok (.int k ((a:Int).fdiv (2 ^ min b k.bits))) w:=fun P t w=>by
   rw [binOp_shr,Op.shift,As h1,As h2,if_neg (by omega)]; simp
  have hf:∀ n:Nat,(a:Int).fdiv (2 ^ n)=((a / 2 ^ n:Nat):Int):=fun n=>by
   rw [Int.fdiv_eq_ediv_of_nonneg _ (by exact Int.le_of_lt (Int.pow_pos (by omega)))]; simp
  have hlt:∀ n:Nat,a / 2 ^ n<Hk k:=fun n=>Nat.lt_of_le_of_lt (Nat.div_le_self _ _) h2
  by_cases hb64:b≤64
  ·refine ⟨_,e1.trans (e2.trans ((by rw [Ak.2 hb64,AN]:br (Nat.ble b 64) _ _=_).trans (Ad _ _))),.int k (BV k (a >>> b)),fun P t w=>?_,DW k _ ?_⟩
   ·rw [hr,hf,Nat.shiftRight_eq_div_pow,As (hlt b)]
    congr 3
    by_cases hbb:b≤k.bits
    ·rw [Nat.min_eq_left hbb]
    ·rw [Nat.min_eq_right (by omega)]
     have ha':a<2 ^ k.bits:=by rw [←E3]; exact ha
     rw [Nat.div_eq_of_lt ha',Nat.div_eq_of_lt (Nat.lt_of_lt_of_le ha' (Nat.pow_le_pow_right (by omega) (by omega)))]
   ·show a >>> b<Mk k
    rw [Nat.shiftRight_eq_div_pow]; exact Nat.lt_of_lt_of_le (hlt b) (FS k)
  ·refine ⟨_,e1.trans (e2.trans (by rw [Bc (by omega),AO]:br (Nat.ble b 64) _ _=_)),.int k (BV k 0),fun P t w=>?_,DW k _ (Ek k)⟩
   have hbits:k.bits≤64:=by cases k <;> simp [IntKind.bits]
   have ha':a<2 ^ k.bits:=by rw [←E3]; exact ha
   rw [hr,hf,Nat.min_eq_right (by omega),Nat.div_eq_of_lt ha',As (by have:=Hk k; cases k <;> simp [Hk])]
 | andNot =>
  obtain ⟨rfl,e⟩:=kb (show R.good (NH k a j b κ) from h)
  have hl:Nat.land a (Mk k - 1 - b)<Mk k:=Rz a _ _ ha
  refine ⟨_,(show NH k a k b κ=_ from e).trans (Ad _ _),.int k (BV k (Nat.land a (Mk k - 1 - b))),fun P t w=>?_,DW k _ hl⟩
  simp only [binOp_andNot,Op.intBits,BitVec.toNat_and,BitVec.toNat_not,bv _ _ ha,bv _ _ hb,Sem.run_pure,←E3]
  rw [Ef k (a &&& (Mk k - 1 - b)) hl]; rfl
 | eql =>
  obtain ⟨rfl,e⟩:=kb (show R.good (Wy k a j b κ) from h)
  refine ⟨_,(show Wy k a k b κ=_ from e).trans (BS _ _),.bool (Nat.beq a b),fun P t w=>?_,Bt _⟩
  rw [binOp_eql,Sem.run_pure]
  congr 2
  rw [Bool.eq_iff_iff,beq_iff_eq]
  exact ⟨fun h=>by have:=IR ha hb h; subst this; exact Nat.beq_refl _,fun h=>by rw [Nat.eq_of_beq_eq_true h]⟩
 | neq =>
  obtain ⟨rfl,e⟩:=kb (show R.good (WA k a j b κ) from h)
  have e:WA k a k b κ=_:=e
  by_cases hab:a=b
  ·subst hab
   refine ⟨_,e.trans (by rw [Nat.beq_refl,AN]:br (Nat.beq a a) _ _=_),.bool false,fun P t w=>?_,Bt _⟩
   rw [binOp_neq,Sem.run_pure]; simp
  ·have hf:Nat.beq a b=false:=Bool.eq_false_iff.2 fun h=>hab (Nat.eq_of_beq_eq_true h)
   refine ⟨_,e.trans (by rw [hf,AO]:br (Nat.beq a b) _ _=_),.bool true,fun P t w=>?_,Bt _⟩
   rw [binOp_neq,Sem.run_pure]
   congr 2
   rw [bne_iff_ne]
   exact fun h=>hab (IR ha hb h)
 | lss =>
  obtain ⟨rfl,e⟩:=kb (show R.good (Ww k a j b κ) from h)
  refine ⟨_,(show Ww k a k b κ=_ from e).trans (BS _ _),.bool (GX k a b),fun P t w=>?_,Bt _⟩
  rw [binOp_lss,Sem.run_pure,E1 ha hb]
 | gtr =>
  obtain ⟨rfl,e⟩:=kb (show R.good (WK k a j b κ) from h)
  refine ⟨_,(show WK k a k b κ=_ from e).trans (BS _ _),.bool (GX k b a),fun P t w=>?_,Bt _⟩
  rw [binOp_gtr,Sem.run_pure,E1 hb ha]
 | leq =>
  obtain ⟨rfl,e⟩:=kb (show R.good (WE k a j b κ) from h)
  have e:WE k a k b κ=_:=e
  cases hlt:GX k b a with
  | true =>
   refine ⟨_,e.trans (by rw [hlt,AN]),.bool false,fun P t w=>?_,Bt _⟩
   rw [E1 hb ha] at hlt
   rw [binOp_leq,Sem.run_pure]
   congr 2
   exact decide_eq_false (by have:=of_decide_eq_true hlt; omega)
  | false =>
   refine ⟨_,e.trans (by rw [hlt,AO]),.bool true,fun P t w=>?_,Bt _⟩
   rw [E1 hb ha] at hlt
   rw [binOp_leq,Sem.run_pure]
   congr 2
   exact decide_eq_true (by have:=of_decide_eq_false hlt; omega)
 | geq =>
  obtain ⟨rfl,e⟩:=kb (show R.good (Wx k a j b κ) from h)
  have e:Wx k a k b κ=_:=e
  cases hlt:GX k a b with
  | true =>
   refine ⟨_,e.trans (by rw [hlt,AN]),.bool false,fun P t w=>?_,Bt _⟩
   rw [E1 ha hb] at hlt
   rw [binOp_geq,Sem.run_pure]
   congr 2
   exact decide_eq_false (by have:=of_decide_eq_true hlt; omega)
  | false =>
   refine ⟨_,e.trans (by rw [hlt,AO]),.bool true,fun P t w=>?_,Bt _⟩
   rw [E1 ha hb] at hlt
   rw [binOp_geq,Sem.run_pure]
   congr 2
   exact decide_eq_true (by have:=of_decide_eq_false hlt; omega)
theorem OV (s:ByteArray) (ρ:Env) (φ:AT):Au ρ φ (.str s.size (AX s.data.toList)) (.string s):=by
 simp only [Au]; exact ⟨s,rfl,rfl,rfl⟩
theorem Bx (s:ByteArray):s.data.toList.length=s.size:=by simp
theorem JQ (x y:ByteArray):IL x.size (AX x.data.toList) y.size (AX y.data.toList)=(x.toList == y.toList):=by
 rw [ByteArray.toList_eq,ByteArray.toList_eq,Bool.eq_iff_iff,beq_iff_eq]
 simp only [IL,Bool.and_eq_true]
 constructor
 ·rintro ⟨h1,h2⟩
  exact J9 (by rw [Bx,Bx]; exact Nat.eq_of_beq_eq_true h1) (Nat.eq_of_beq_eq_true h2)
 ·intro h
  refine ⟨?_,by rw [h]; exact Nat.beq_refl _⟩
  rw [←Bx,←Bx,h]; exact Nat.beq_refl _
theorem RW (x y:List UInt8):Oj x.length (AX x) y.length (AX y)=Op.bytesLess x y:=by
 induction x generalizing y with
 | nil=>cases y with
  | nil=>rfl
  | cons b y=>rfl
 | cons a x ih =>
  cases y with
  | nil=>rfl
  | cons b y =>
   show br (Nat.beq (lo (AX (a::x)) 1) (lo (AX (b::y)) 1)) (Oj x.length (sh (AX (a::x)) 1) y.length (sh (AX (b::y)) 1)) (Nat.ble (Nat.succ (lo (AX (a::x)) 1)) (lo (AX (b::y)) 1))=_
   have ha:=a.toNat_lt; have hb:=b.toNat_lt
   have l1:lo (AX (a::x)) 1=a.toNat:=by rw [Di]; simp only [AX]; omega
   have l2:lo (AX (b::y)) 1=b.toNat:=by rw [Di]; simp only [AX]; omega
   have s1:sh (AX (a::x)) 1=AX x:=by rw [EK]; simp only [AX]; omega
   have s2:sh (AX (b::y)) 1=AX y:=by rw [EK]; simp only [AX]; omega
   rw [l1,l2,s1,s2,ih,Op.bytesLess]
   by_cases hab:a=b
   ·subst hab
    rw [Nat.beq_refl,AN]; simp
   ·have hne:a.toNat≠b.toNat:=fun h=>hab (UInt8.toNat_inj.1 h)
    rw [Bool.eq_false_iff.2 fun h=>hne (Nat.eq_of_beq_eq_true h),AO,GZ]
    have:(a == b)=false:=by simpa using hab
    rw [this]; simp [UInt8.lt_iff_toNat_lt]; rfl
theorem Q8 (op:BinOp) (x y:ByteArray) (κ:V->R) (h:(IK op x.size (AX x.data.toList) y.size (AX y.data.toList) κ).good) :
  ∃ v,IK op x.size (AX x.data.toList) y.size (AX y.data.toList) κ=κ v∧DN op (.string x) (.string y) v:=by
 have hlt:=fun (x y:ByteArray)=>(by
  have:=RW x.data.toList y.data.toList
  rw [Bx,Bx,←ByteArray.toList_eq,←ByteArray.toList_eq] at this
  rw [←ByteArray.toList_eq,←ByteArray.toList_eq]; exact this:Oj x.size (AX x.data.toList) y.size (AX y.data.toList)=Op.bytesLess x.toList y.toList)
 have hrun:∀ P t w,(Go.binOp op t (.string x) (.string y)).run P w=(Op.stringOp op x y).run P w:=fun P t w=>by cases op <;> rfl
 cases op with
 | add =>
  have e:IK .add x.size (AX x.data.toList) y.size (AX y.data.toList) κ=_:=Ad (Nat.add x.size y.size) (fun l=>br (Nat.ble l 1000000000) (Af (Nat.add (AX x.data.toList) (up (AX y.data.toList) x.size)) fun r=>κ (.str l r)) (.fail ""))
  rw [e] at h
  obtain ⟨h1,e1⟩:=Ai h
  have h1:x.size+y.size≤1000000000:=Ak.1 h1
  refine ⟨_,e.trans (e1.trans (Ad _ _)),.string (x++y),fun P t w=>?_,fun ρ φ=>?_⟩
  ·rw [hrun,Op.stringOp]
   rw [if_neg (by rw [IntKind.max_i64]; omega),Sem.run_pure]
  ·have:=OV (x++y) ρ φ
   have e2:(x++y).data.toList=x.data.toList++y.data.toList:=by simp
   rw [e2,IC,Bx,ByteArray.size_append] at this
   rw [RM]; exact this
 | eql =>
  refine ⟨_,(BS (IL x.size (AX x.data.toList) y.size (AX y.data.toList)) (fun r=>κ (.bool r)):IK .eql x.size (AX x.data.toList) y.size (AX y.data.toList) κ=_),.bool (x.toList == y.toList),fun P t w=>by rw [hrun]; rfl,fun ρ φ=>?_⟩
  rw [JQ]; exact Bt _ ρ φ
 | neq =>
  have e:IK .neq x.size (AX x.data.toList) y.size (AX y.data.toList) κ=br (x.toList == y.toList) (κ (.bool false)) (κ (.bool true)):=by rw [←JQ]; rfl
  refine ⟨.bool !(x.toList == y.toList),?_,.bool !(x.toList == y.toList),fun P t w=>by rw [hrun]; rfl,fun ρ φ=>Bt _ ρ φ⟩
  rw [e]; cases (x.toList == y.toList) <;> rfl
 | lss =>
  refine ⟨_,(BS (Oj x.size (AX x.data.toList) y.size (AX y.data.toList)) (fun r=>κ (.bool r)):IK .lss x.size (AX x.data.toList) y.size (AX y.data.toList) κ=_),.bool (Op.bytesLess x.toList y.toList),fun P t w=>by rw [hrun]; rfl,fun ρ φ=>?_⟩
  rw [hlt]; exact Bt _ ρ φ
 | geq =>
  have e:IK .geq x.size (AX x.data.toList) y.size (AX y.data.toList) κ=br (Op.bytesLess x.toList y.toList) (κ (.bool false)) (κ (.bool true)):=by rw [←hlt]; rfl
  refine ⟨.bool !(Op.bytesLess x.toList y.toList),?_,.bool !(Op.bytesLess x.toList y.toList),fun P t w=>by rw [hrun]; rfl,fun ρ φ=>Bt _ ρ φ⟩
  rw [e]; cases (Op.bytesLess x.toList y.toList) <;> rfl
 | leq=>exact h.elim
 | gtr=>exact h.elim
 | _=>exact h.elim
end Go.Ev

namespace Go.Ev
set_option linter.unusedVariables false
section
variable {P:Program} {ρ:Env} {φ:AT} {w:World}
theorem CC (b off i:Nat):(⟨b,off,none⟩:Addr).add i=⟨b,off+i,none⟩:=by
 unfold Addr.add; split
 ·simp_all
 ·rfl
theorem Gh {b i:Nat} {c:Array Value} {e:TypeId} {fr:Nat×Nat} {x:Value} (h:w.heap[b]? = some (.cells c e fr)) (hx:c[i]? = some x):w.cell? ⟨b,i,none⟩=some x:=by
 simp [World.cell?,h,hx]
theorem Qv {b i:Nat} {c:Array Value} {e:TypeId} {fr:Nat×Nat} (h:w.heap[b]? = some (.cells c e fr)) (hf:TX fr c.size) (hi:i<c.size):w.frozen? ⟨b,i,none⟩=false:=by
 obtain ⟨lo,hi'⟩:=fr
 simp only [World.frozen?,h,Bool.and_eq_false_iff,decide_eq_false_iff_not]
 rcases hf with hf | hf <;> simp at hf <;> omega
theorem P0 {b:Nat} {O:Obj} (h:w.heap[b]? = some O):Cy w b O=w:=by
 obtain ⟨hb,e⟩:=Array.getElem?_eq_some_iff.1 h
 unfold Cy
 cases w with
 | mk heap tape drawn os output =>
  simp only [World.mk.injEq,and_true]
  apply Array.ext_getElem?
  intro k
  rw [Array.getElem?_setIfInBounds]
  by_cases hk:b=k
  ·subst hk; rw [if_pos rfl,if_pos hb]; exact h.symm
  ·rw [if_neg hk]
theorem Qj {b:Nat} {O O':Obj}:Cy (Cy w b O) b O'=Cy w b O':=by
 simp [Cy]
theorem Mm {b i:Nat} {c:Array Value} {e:TypeId} {fr:Nat×Nat} {v:Value} (h:w.heap[b]? = some (.cells c e fr)) :
  w.setCell ⟨b,i,none⟩ v=Cy w b (.cells (c.setIfInBounds i v) e fr):=by
 obtain ⟨hb,e'⟩:=Array.getElem?_eq_some_iff.1 h
 unfold World.setCell Cy
 cases w with
 | mk heap tape drawn os output =>
  congr 1
  apply Array.ext_getElem?
  intro k
  rw [Array.getElem?_modify,Array.getElem?_setIfInBounds]
  by_cases hk:b=k
  ·subst hk; simp [hb,e']
  ·simp [hk]
theorem G4 {b off:Nat} {c:Array Value} {e:TypeId} {fr:Nat×Nat} (h:w.heap[b]? = some (.cells c e fr)) :
  w.freeze { block:=b,off:=off } 1=Cy w b (.cells c e (if fr.1 == fr.2 then (off,off+1) else (min fr.1 off,max fr.2 (off+1)))):=by
 obtain ⟨hb,e'⟩:=Array.getElem?_eq_some_iff.1 h
 unfold World.freeze Cy
 cases w with
 | mk heap tape drawn os output =>
  simp only [Nat.one_ne_zero,if_false]
  congr 1
  apply Array.ext_getElem?
  intro k
  rw [Array.getElem?_modify,Array.getElem?_setIfInBounds]
  by_cases hk:b=k
  ·subst hk; simp only at e'; simp [hb,e']
  ·simp [hk]
theorem Jd {O O':Obj}:Cy (w.alloc O) w.heap.size O'=w.alloc O':=by
 unfold Cy World.alloc
 congr 1
 apply Array.ext_getElem?
 intro k
 rw [Array.getElem?_setIfInBounds]
 by_cases hk:w.heap.size=k
 ·subst hk; simp
 ·simp [hk,Array.getElem?_push,Ne.symm hk]
theorem H6 {O:Obj}:(w.alloc O).heap[w.heap.size]? = some O:=by show (w.heap.push O)[w.heap.size]? = _; simp
theorem FO (vs:List Value):∀ (w:World) (b off i:Nat) (c:Array Value) (e:TypeId) (fr:Nat×Nat),w.heap[b]? = some (.cells c e fr)->off+i+vs.length≤c.size->TX fr c.size →
  (∀ v∈vs,v.oneCell'=true)->∃ c':Array Value,c'.size=c.size∧(∀ j,(j<off+i∨off+i+vs.length≤j)->c'[j]? = c[j]?)∧(∀ (j:Nat) (v:Value),vs[j]? = some v->c'[off+i+j]? = some v) ∧
   (storeCells ⟨b,off,none⟩ vs i).run P w = .ok () (Cy w b (.cells c' e fr)):=by
 induction vs with
 | nil=>intro w b off i c e fr h _ _ _; exact ⟨c,rfl,fun _ _=>rfl,fun j v hv=>by simp at hv,by rw [P0 h]; rfl⟩
 | cons v vs ih =>
  intro w b off i c e fr h hl hf h1
  simp only [List.length_cons] at hl
  have hi:off+i<c.size:=by omega
  have hst:(store ((⟨b,off,none⟩:Addr).add i) v).run P w = .ok () (Cy w b (.cells (c.setIfInBounds (off+i) v) e fr)):=by
   rw [CC,run_store P w _ v _ (h1 v (by simp)),Gh h (Array.getElem?_eq_getElem hi)]
   simp only [Qv h hf hi,Bool.false_eq_true,if_false]
   rw [Mm h]
  have hb:b<w.heap.size:=(Array.getElem?_eq_some_iff.1 h).1
  obtain ⟨c',g1,g2,g3,g4⟩:=ih (Cy w b (.cells (c.setIfInBounds (off+i) v) e fr)) b off (i+1) (c.setIfInBounds (off+i) v) e fr (D8 hb)
   (by simp; omega) (by simpa using hf) (fun x hx=>h1 x (by simp [hx]))
  refine ⟨c',by simpa using g1,fun j hj=>?_,fun j u hu=>?_,?_⟩
  ·rw [g2 j (by simp only [List.length_cons] at hj; omega)]
   rw [Array.getElem?_setIfInBounds,if_neg (by simp only [List.length_cons] at hj; omega)]
  ·cases j with
   | zero =>
    simp at hu; subst hu
    rw [g2 (off+i+0) (by omega),Array.getElem?_setIfInBounds]; simp [hi]
   | succ j =>
    have:=g3 j u (by simpa using hu)
    rw [←this]; congr 1; omega
  ·rw [storeCells]
   simp only [Sem.run_bind,hst,Result.andThen_ok,g4,Qj]
theorem F2 {b off:Nat} {c:Array Value} {e:TypeId} {fr:Nat×Nat} (vs:List Value) (h:w.heap[b]? = some (.cells c e fr)) (hv:∀ (j:Nat) (v:Value),vs[j]? = some v->c[off+j]? = some v) :
  (loadCells ⟨b,off,none⟩ vs.length).run P w = .ok vs.toArray w :=
 run_loadCells_list w _ vs fun j v hj=>by rw [CC]; exact Gh h (hv j v hj)
theorem H8 {cs:Cs} {f:Nat->Option Value} (h:E0 ρ φ cs f):∃ vs:List Value,vs.length=cs.len∧(∀ (j:Nat) (v:Value),vs[j]? = some v->f j=some v)∧(∀ v∈vs,v.oneCell'=true) ∧
  (∀ l:List V,l.length=cs.len->(∀ i:Nat,l[i]? = cs.at i)->Bl ρ φ l vs):=by
 have key:∀ m,m≤cs.len->∃ vs:List Value,vs.length=m ∧ ∀ (j:Nat) (v:Value),vs[j]? = some v->f j=some v∧v.oneCell'=true ∧ ∀ u,cs.at j=some u->Au ρ φ u v:=by
  intro m
  induction m with
  | zero=>exact fun _=>⟨[],rfl,fun j v hv=>by simp at hv⟩
  | succ m ih =>
   intro hm
   obtain ⟨vs,h1,h2⟩:=ih (by omega)
   obtain ⟨u,hu⟩:=Cs.at_lt (cs:=cs) (i:=m) (by omega)
   obtain ⟨x,hx,hr,ho⟩:=h m u hu
   refine ⟨vs++[x],by simp [h1],fun j v hv=>?_⟩
   by_cases hj:j<m
   ·rw [List.getElem?_append_left (by omega)] at hv; exact h2 j v hv
   ·rw [List.getElem?_append_right (by omega),h1] at hv
    have hjm:j=m:=by
     rcases Nat.eq_or_lt_of_le (Nat.le_of_not_lt hj) with e | e
     ·exact e.symm
     ·rw [List.getElem?_eq_none (by simp; omega)] at hv; cases hv
    subst hjm
    simp at hv; subst hv
    exact ⟨hx,ho,fun u' hu'=>by rw [hu] at hu'; cases hu'; exact hr⟩
 obtain ⟨vs,h1,h2⟩:=key cs.len (Nat.le_refl _)
 refine ⟨vs,h1,fun j v hv=>(h2 j v hv).1,fun v hv=>?_,fun l hl hla=>?_⟩
 ·obtain ⟨j,hj,rfl⟩:=List.getElem_of_mem hv
  exact (h2 j _ (List.getElem?_eq_getElem hj)).2.1
 ·refine BZ.2 ⟨by omega,fun i u hu=>?_⟩
  have hi:i<vs.length:=by
   rcases Nat.lt_or_ge i vs.length with h' | h'
   ·exact h'
   ·rw [List.getElem?_eq_none (by omega)] at hu; cases hu
  exact ⟨vs[i],List.getElem?_eq_getElem hi,(h2 i _ (List.getElem?_eq_getElem hi)).2.2 u (by rw [←hla i]; exact hu)⟩
theorem Gd {cs y:Cs} {off m:Nat} {f:Nat->Option Value} (h:E0 ρ φ cs f) (hl:y.len=m) (ha:∀ i,i<m->y.at i=cs.at (off+i)):E0 ρ φ y fun i=>f (off+i):=fun i v hv=>by
 have hi:=Cs.lt_of_at hv
 rw [ha i (by omega)] at hv
 exact h (off+i) v hv
end
structure TR (ρ:Env) (N:Nat) (φ:AT) (t:Regs) (a:Act):Prop where
 size:a.tmps.size=N
 defers:a.defers=[]
 at_:∀ s p,s<N->K2.ofN s=some p->Au ρ φ (B4 p t) (a.tmps.getD s undef)
theorem TR.mono {ρ:Env} {N:Nat} {φ φ':AT} {t:Regs} {a:Act} (h:TR ρ N φ t a) (hle:AT.le φ φ'):TR ρ N φ' t a :=
 ⟨h.size,h.defers,fun s p h1 h2=>Eo hle (h.at_ s p h1 h2)⟩
section
variable (P:Program) (ρ:Env) (B N:Nat)
def Gc (o:Oper) (t:Regs) (h:Heap) (n:K4) (v:V) (h1:Heap) (n1:K4):Prop :=
 ∀ (φ:AT) (a:Act) (w:World),TR ρ N φ t a->Gam ρ B h n φ w->∀ (K:Act->World->Prop) (Q:Exit->Act->World->Prop),
  (∀ φ' x w',Fr h h1 φ φ' n n1 w w'->Gam ρ B h1 n1 φ' w'->Au ρ φ' v x->K (a.put o.dst x) w')->o.wp P a w K Q
def Cj (o:Oper) (f:KV->R) (t:Regs) (h:Heap) (n:K4):Prop :=
 ∀ κ:KV,(f κ).good->∃ v h1 n1,f κ=κ v h1 n1∧Gc P ρ B N o t h n v h1 n1
def S7 (o:Oper) (t:Regs) (h:Heap) (n:K4) (v:V):Prop :=
 ∀ φ a w,TR ρ N φ t a->Gam ρ B h n φ w->∃ x,(execOp a.eval o).run P w = .ok (.value x) w∧Au ρ φ v x
def Bb (o:Oper) (f:KV->R) (t:Regs) (h:Heap) (n:K4):Prop :=
 ∀ κ:KV,(f κ).good->∃ v,f κ=κ v h n∧S7 P ρ B N o t h n v
end
section
variable {P:Program} {ρ:Env} {B N:Nat}
theorem Gc.value {o:Oper} {t:Regs} {h h1:Heap} {n n1:K4} {v:V}
  (H:∀ φ a w,TR ρ N φ t a->Gam ρ B h n φ w->∃ φ' x w',(execOp a.eval o).run P w = .ok (.value x) w'∧Fr h h1 φ φ' n n1 w w'∧Gam ρ B h1 n1 φ' w'∧Au ρ φ' v x):Gc P ρ B N o t h n v h1 n1:=by
 intro φ a w ht hg K Q hK
 obtain ⟨φ',x,w',e,h1,h2,h3⟩:=H φ a w ht hg
 unfold Oper.wp
 rw [e]
 exact hK φ' x w' h1 h2 h3
theorem Gc.skip {o:Oper} {t:Regs} {h h1:Heap} {n n1:K4}
  (H:∀ φ a w,TR ρ N φ t a->Gam ρ B h n φ w->∃ φ' w',(execOp a.eval o).run P w = .ok .skip w'∧Fr h h1 φ φ' n n1 w w'∧Gam ρ B h1 n1 φ' w'):Gc P ρ B N o t h n C2 h1 n1:=by
 intro φ a w ht hg K Q hK
 obtain ⟨φ',w',e,h1,h2⟩:=H φ a w ht hg
 unfold Oper.wp
 rw [e]
 exact hK φ' undef w' h1 h2 (by simp only [C2,Au,undef]; exact ⟨#[],rfl,by simp only [Bl]⟩)
theorem Gc.pure {o:Oper} {t:Regs} {h:Heap} {n:K4} {v:V}
  (H:∀ φ a w,TR ρ N φ t a->Gam ρ B h n φ w->∃ x,(execOp a.eval o).run P w = .ok (.value x) w∧Au ρ φ v x):Gc P ρ B N o t h n v h n :=
 .value fun φ a w ht hg=>let ⟨x,e,hr⟩:=H φ a w ht hg; ⟨φ,x,w,e,.refl h φ n w,hg,hr⟩
theorem Bb.sound {o:Oper} {f:KV->R} {t:Regs} {h:Heap} {n:K4} (H:Bb P ρ B N o f t h n):Cj P ρ B N o f t h n:=fun κ hg =>
 let ⟨v,e,hp⟩:=H κ hg
 ⟨v,h,n,e,.pure hp⟩
theorem Iy {v:Value} {c:V} (h:IP v=some c) (φ:AT):Au ρ φ c v∧v.oneCell'=true:=by
 unfold IP at h
 split at h
 ·cases h; exact ⟨by simp only [Au],rfl⟩
 ·rename_i k n
  split at h
  ·split at h
   ·rename_i m hm
    cases h
    have:=BH hm
    refine ⟨?_,rfl⟩
    simp only [Au]
    exact ⟨Nat.lt_of_lt_of_le this (FS k),by rw [As this]; rfl⟩
   ·cases h
  ·split at h
   ·rename_i m hm
    cases h
    have:=Ak.1 hm
    simp only [Nat.add_eq] at this
    refine ⟨?_,rfl⟩
    simp only [Au]
    have hH:=Ek k
    refine ⟨by show Mk k - (m+1)<Mk k; omega,?_⟩
    rw [show Nat.sub (Mk k) (Nat.succ m)=Mk k - (m+1) from rfl,De (by omega)]
    congr 1
    omega
   ·cases h
 all_goals first
  | (cases h; exact ⟨OV _ ρ φ,rfl⟩)
  | (cases h; exact ⟨by simp only [Au,BW],rfl⟩)
  | (simp at h)
theorem E7:∀ {vs:List Value} {l:List V},GD vs=some l->∀ φ:AT,Bl ρ φ l vs ∧ ∀ v∈vs,v.oneCell'=true
 | [],l,h,φ=>by simp only [GD,Option.some.injEq] at h; subst h; exact ⟨AD.2 rfl,by simp⟩
 | v::vs,l,h,φ=>by
  simp only [GD] at h
  split at h
  ·rename_i x xs hx hxs
   cases h
   obtain ⟨h1,h2⟩:=E7 hxs φ
   obtain ⟨h3,h4⟩:=Iy (ρ:=ρ) hx φ
   exact ⟨Ar.2 ⟨v,vs,rfl,h3,h1⟩,by simpa using ⟨h4,h2⟩⟩
  ·cases h
theorem J4 {v:Value} {c:V} (h:HO v=some c) (φ:AT):Au ρ φ c v:=by
 unfold HO at h
 split at h
 ·rename_i cs
  cases hl:GD cs.toList with
  | none=>rw [hl] at h; cases h
  | some l =>
   rw [hl] at h; cases h
   simp only [Au]
   exact ⟨cs,rfl,(E7 hl φ).1,(E7 (ρ:=ρ) hl φ).2⟩
 ·rename_i cs
  split at h
  ·cases h
   rename_i he
   simp only [Au]
   exact ⟨cs,rfl,AD.2 (by simpa using he)⟩
  ·cases h
 ·rename_i f first caps
  split at h
  ·cases h
   rename_i he
   simp at he
   simp only [Au]
   exact ⟨#[],by rw [he.1,he.2],by simp only [Bl]⟩
  ·cases h
 ·exact (Iy h φ).1
theorem Ag {o:Operand} {x:Opd} (h:AJ N o=some x) {φ:AT} {t:Regs} {a:Act} (ht:TR ρ N φ t a):Au ρ φ (ev x t) (a.eval o):=by
 unfold AJ at h
 split at h
 ·rename_i s
  unfold FG at h
  split at h
  ·rename_i hs
   cases hk:K2.ofN s with
   | none=>rw [hk] at h; cases h
   | some p=>rw [hk] at h; cases h; exact ht.at_ s p hs hk
  ·cases h
 ·rename_i v
  cases hc:HO v with
  | none=>rw [hc] at h; cases h
  | some c=>rw [hc] at h; cases h; exact J4 hc φ
 ·cases h
  simp only [ev,Act.eval,Au]
  exact ⟨#[],rfl,by simp only [Bl]⟩
 ·cases h
theorem Ed:∀ {os:List Operand} {xs:List Opd},Bp N os=some xs->∀ {φ:AT} {t:Regs} {a:Act},TR ρ N φ t a->Bl ρ φ (xs.map (ev · t)) (os.map a.eval)
 | [],xs,h,φ,t,a,ht=>by simp only [Bp,Option.some.injEq] at h; subst h; exact AD.2 rfl
 | o::os,xs,h,φ,t,a,ht=>by
  simp only [Bp] at h
  split at h
  ·rename_i x ys hx hys
   cases h
   exact Ar.2 ⟨_,_,rfl,Ag hx ht,Ed hys ht⟩
  ·cases h
theorem B2 {t:TypeId} {s:Nat} (h:Bk P t=some s) (w:World):(sizeOf t).run P w = .ok s w:=by
 unfold Bk at h
 cases hi:P.info? t with
 | none=>rw [hi] at h; cases h
 | some i=>rw [hi] at h; cases h; simp [sizeOf,typeInfo,hi]
theorem Cm {t:TypeId} {b:Bool} (h:JK P t=some b) (w:World):(isAgg t).run P w = .ok b w:=by
 unfold JK at h
 cases hi:P.underlying t with
 | none=>rw [hi] at h; cases h
 | some d =>
  rw [hi] at h; cases h
  unfold isAgg
  cases d <;> simp [run_underlying hi]
theorem CV {t:TypeId} {z:Value} (h:(P.info? t).bind (·.zero)=some z) (w:World):(zeroValue t).run P w = .ok z w:=by
 cases hi:P.info? t with
 | none=>rw [hi] at h; cases h
 | some i =>
  rw [hi] at h
  simp only [Option.bind_some] at h
  simp [zeroValue,typeInfo,hi,h]
end
end Go.Ev

namespace Go.Ev
set_option linter.unusedVariables false
section
variable {P:Program} {ρ:Env} {φ:AT} {w:World}
theorem C0 {k:IntKind} {r:Nat} {x:Value} (h:Au ρ φ (.int k r) x):r<Mk k∧x = .int k (BV k r):=by simpa only [Au] using h
theorem Dg {b:Bool} {x:Value} (h:Au ρ φ (.bool b) x):x = .bool b:=by simpa only [Au] using h
theorem C4 {n c:Nat} {x:Value} (h:Au ρ φ (.str n c) x):∃ s:ByteArray,x = .string s∧s.size=n∧AX s.data.toList=c:=by simpa only [Au] using h
theorem DH {l:List V} {x:Value} (h:Au ρ φ (.agg l) x):∃ cs:Array Value,x = .agg cs∧Bl ρ φ l cs.toList ∧ ∀ y∈cs.toList,y.oneCell'=true:=by simpa only [Au] using h
theorem P7 {l:List V} {x:Value} (h:Au ρ φ (.tup l) x):∃ cs:Array Value,x = .tuple cs∧Bl ρ φ l cs.toList:=by simpa only [Au] using h
theorem BG {u:Nl} {x:Value} (h:Au ρ φ (.nil u) x):x=BW u:=by simpa only [Au] using h
theorem Cv {p:K4} {off:Nat} {x:Value} (h:Au ρ φ (.ptr p off) x):∃ b s tot,φ p=some (b,s,tot)∧x = .pointer (some ⟨b,s+off,none⟩):=by simpa only [Au] using h
theorem EC {p:K4} {x:Value} (h:Au ρ φ (.map p) x):∃ b s tot,φ p=some (b,s,tot)∧x = .map (some b):=by simpa only [Au] using h
theorem HL {f:Nat} {l:List V} {x:Value} (h:Au ρ φ (.fn f l) x):∃ cs:Array Value,x = .func (.func f) #[] cs∧Bl ρ φ l cs.toList:=by simpa only [Au] using h
theorem Cq {p:K4} {off len cap:Nat} {ex:Bool} {esz:Nat} {x:Value} (h:Au ρ φ (.sl p off len cap ex esz) x) :
  ∃ b s tot o cap',φ p=some (b,s,tot)∧x = .slice (some ⟨b,o,none⟩) len cap'∧len≤cap∧cap≤cap'∧(ex=true->cap'=cap)∧(0<cap'->o=s+off∧o+cap'*esz≤tot):=by simpa only [Au] using h
def SZ (k:Sc) (X Y:Value) (r:Bool):Prop :=
 match k with
 | .i=>∃ kd a b,X = .int kd a∧Y = .int kd b∧r=(a == b)
 | .s=>∃ s u,X = .string s∧Y = .string u∧r=(s.toList == u.toList)
 | .b=>∃ a b,X = .bool a∧Y = .bool b∧r=(a == b)
theorem Gu {k:Sc} {x y:V} {κ:Bool->R} (h:(Kj k x y κ).good) :
  ∃ r,(∀ κ',Kj k x y κ'=κ' r) ∧ ∀ X Y,Au ρ φ x X->Au ρ φ y Y->SZ k X Y r:=by
 cases k with
 | i =>
  obtain ⟨kd,a,rfl,e⟩:=C7 (show R.good (FK x _) from h)
  have h:R.good (FK y _):=h
  obtain ⟨j,b,rfl,e'⟩:=C7 h
  have h:R.good (br (B8 kd j) (Cr (Nat.beq a b) κ) (.fail "")):=h
  obtain ⟨rfl,_⟩:=kb h
  have hk:B8 kd kd=true:=B9.2 rfl
  refine ⟨Nat.beq a b,fun κ'=>?_,fun X Y hx hy=>?_⟩
  ·show br (B8 kd kd) (Cr (Nat.beq a b) κ') (.fail "")=_
   rw [hk,AN,BS]
  ·obtain ⟨ha,rfl⟩:=C0 hx
   obtain ⟨hb,rfl⟩:=C0 hy
   refine ⟨kd,_,_,rfl,rfl,?_⟩
   rw [Bool.eq_iff_iff,beq_iff_eq]
   exact ⟨fun h=>by rw [Nat.eq_of_beq_eq_true h],fun h=>by have:=IR ha hb h; subst this; exact Nat.beq_refl _⟩
 | s =>
  obtain ⟨n,c,rfl,e⟩:=BI (show R.good (B6 x _) from h)
  have h:R.good (B6 y _):=h
  obtain ⟨m,d,rfl,e'⟩:=BI h
  refine ⟨IL n c m d,fun κ'=>BS _ _,fun X Y hx hy=>?_⟩
  obtain ⟨s,rfl,rfl,rfl⟩:=C4 hx
  obtain ⟨u,rfl,rfl,rfl⟩:=C4 hy
  exact ⟨s,u,rfl,rfl,JQ s u⟩
 | b =>
  obtain ⟨b,rfl,e⟩:=Eh (show R.good (NN x _) from h)
  have h:R.good (NN y _):=h
  obtain ⟨c,rfl,e'⟩:=Eh h
  refine ⟨b == c,fun κ'=>by cases b <;> cases c <;> rfl,fun X Y hx hy=>?_⟩
  exact ⟨b,c,Dg hx,Dg hy,rfl⟩
theorem FZ {k:Sc} {t:TypeId} (hk:NO P t=some k) {X Y:Value} {r:Bool} (h:SZ k X Y r) (d:Nat):(Op.equalIn (d+1) t X Y).run P w = .ok r w:=by
 unfold NO at hk
 split at hk
 ·cases hk
  rename_i kd hu
  obtain ⟨kd',a,b,rfl,rfl,rfl⟩:=h
  simp [Op.equalIn,run_underlying hu]
 ·cases hk
  rename_i hu
  obtain ⟨s,u,rfl,rfl,rfl⟩:=h
  simp [Op.equalIn,run_underlying hu,beq_toListBytes]
 ·cases hk
  rename_i hu
  obtain ⟨s,u,rfl,rfl,rfl⟩:=h
  simp [Op.equalIn,run_underlying hu]
 ·cases hk
theorem RR {k:Sc} {t:TypeId} (hk:NO P t=some k):(isAgg t).run P w = .ok false w:=by
 unfold NO at hk
 split at hk
 ·rename_i hu; simp [isAgg,run_underlying hu]
 ·rename_i hu; simp [isAgg,run_underlying hu]
 ·rename_i hu; simp [isAgg,run_underlying hu]
 ·cases hk
theorem G3 {k:Sc} {t:TypeId} (hk:NO P t=some k) {cs:Array Value} {off:Nat} {v:Value} (h:cs[off]? = some v):(part t cs off).run P w = .ok v w:=by
 simp [part,RR hk,h]
theorem KB:∀ {fs:List Field} {offs:List (Nat×Sc)},FX P fs=some offs->∀ {a b:List V} {κ:Bool->R},(I1 offs a b κ).good →
  ∃ r,(∀ κ',I1 offs a b κ'=κ' r) ∧ ∀ (xs ys:Array Value) (d:Nat) (w:World),Bl ρ φ a xs.toList->Bl ρ φ b ys.toList->(Op.eqFields (d+1) xs ys fs).run P w = .ok r w
 | [],offs,ho,a,b,κ,h=>by
  simp only [FX,Option.some.injEq] at ho; subst ho
  exact ⟨true,fun _=>rfl,fun xs ys d w _ _=>rfl⟩
 | f::fs,offs,ho,a,b,κ,h=>by
  simp only [FX] at ho
  split at ho
  ·rename_i hn
   split at ho
   ·rename_i k r hk hr
    cases ho
    obtain ⟨u,hu,e1⟩:=E9 (show R.good (DU f.offset a _) from h)
    have h:R.good (DU f.offset a _):=h
    rw [e1] at h
    obtain ⟨v,hv,e2⟩:=E9 h
    rw [e2] at h
    obtain ⟨q,e3,hq⟩:=Gu (ρ:=ρ) (φ:=φ) h
    rw [e3] at h
    have unf:∀ κ',I1 ((f.offset,k)::r) a b κ'=br q (I1 r a b κ') (κ' false):=fun κ'=>by
     show DU f.offset a (fun u=>DU f.offset b fun v=>Kj k u v fun q=>br q (I1 r a b κ') (κ' false))=_
     have n1:∀ (l:List V) (i:Nat) (x:V) (κ:V->R),l[i]? = some x->DU i l κ=κ x:=fun l i=>by
      induction i generalizing l with
      | zero=>intro x κ hx; cases l with
       | nil=>simp at hx
       | cons y l=>simp at hx; subst hx; rfl
      | succ i ih=>intro x κ hx; cases l with
       | nil=>simp at hx
       | cons y l=>exact ih l x κ (by simpa using hx)
     rw [n1 _ _ _ _ hu,n1 _ _ _ _ hv,e3]
    have hrun:∀ (xs ys:Array Value) (d:Nat) (w:World),Bl ρ φ a xs.toList->Bl ρ φ b ys.toList →
      (Op.eqFields (d+1) xs ys (f::fs)).run P w=if q then (Op.eqFields (d+1) xs ys fs).run P w else .ok false w:=fun xs ys d w hxs hys=>by
     obtain ⟨X,hX,hrX⟩:=(BZ.1 hxs).2 _ _ hu
     obtain ⟨Y,hY,hrY⟩:=(BZ.1 hys).2 _ _ hv
     have:=hq X Y hrX hrY
     simp only [Op.eqFields,hn,ne_eq,not_false_eq_true,if_true,Sem.run_bind,G3 hk (show xs[f.offset]? = some X by simpa using hX),
      G3 hk (show ys[f.offset]? = some Y by simpa using hY),Result.andThen_ok,FZ hk this]
     cases q <;> simp
    cases q with
    | true =>
     have h:(I1 r a b κ).good:=h
     obtain ⟨r',g1,g2⟩:=KB hr h
     exact ⟨r',fun κ'=>(unf κ').trans (g1 κ'),fun xs ys d w hxs hys=>(hrun xs ys d w hxs hys).trans (g2 xs ys d w hxs hys)⟩
    | false=>exact ⟨false,fun κ'=>unf κ',fun xs ys d w hxs hys=>hrun xs ys d w hxs hys⟩
   ·cases ho
  ·cases ho
theorem Ft {u:Nl} {v:V} {κn κo:R} (h:(FD u v κn κo).good) :
  (v = .nil u ∧ ∀ a b:R,FD u v a b=a)∨((∀ a b:R,FD u v a b=b) ∧ ∀ X,Au ρ φ v X->match u with
   | .ptr=>∃ a,X = .pointer (some a) | .sl=>∃ a n c,X = .slice (some a) n c | .map=>∃ b,X = .map (some b) | .fn=>∃ f a c,X = .func f a c | .iface=>False):=by
 cases v with
 | nil w' =>
  left
  have h:R.good (br (Nat.beq w'.ix u.ix) κn (.fail "")):=h
  obtain ⟨h1,_⟩:=Ai h
  have:w'=u:=by cases w' <;> cases u <;> first | rfl | exact absurd h1 (by decide)
  subst this
  exact ⟨rfl,fun a b=>by cases w' <;> rfl⟩
 | ptr p o =>
  right
  cases u <;> first | exact h.elim | skip
  exact ⟨fun a b=>rfl,fun X hX=>by obtain ⟨_,_,_,_,rfl⟩:=Cv hX; exact ⟨_,rfl⟩⟩
 | sl p o l c e z =>
  right
  cases u <;> first | exact h.elim | skip
  exact ⟨fun a b=>rfl,fun X hX=>by obtain ⟨_,_,_,_,_,_,rfl,_⟩:=Cq hX; exact ⟨_,_,_,rfl⟩⟩
 | map p =>
  right
  cases u <;> first | exact h.elim | skip
  exact ⟨fun a b=>rfl,fun X hX=>by obtain ⟨_,_,_,_,rfl⟩:=EC hX; exact ⟨_,rfl⟩⟩
 | fn f l =>
  right
  cases u <;> first | exact h.elim | skip
  exact ⟨fun a b=>rfl,fun X hX=>by obtain ⟨_,rfl,_⟩:=HL hX; exact ⟨_,_,_,rfl⟩⟩
 | _=>exact h.elim
def Wj (P:Program) (u:Nl) (t:TypeId):Prop :=
 match u with
 | .ptr=>∃ e s,P.underlying t=some (.pointer e)∧Bk P e=some (s+1)
 | .sl=>∃ e,P.underlying t=some (.slice e)
 | .map=>∃ k e,P.underlying t=some (.map k e)
 | .fn=>∃ a b c,P.underlying t=some (.func a b c)
 | .iface=>False
theorem Gk {u:Nl} {t:TypeId} (ht:Wj P u t) {x y:V} {κ:Bool->R} (h:(IJ u x y κ).good) :
  ∃ r,(∀ κ',IJ u x y κ'=κ' r) ∧ ∀ X Y d w,Au ρ φ x X->Au ρ φ y Y->(Op.equalIn (d+1) t X Y).run P w = .ok r w:=by
 rcases Ft (ρ:=ρ) (φ:=φ) (show R.good (FD u x _ _) from h) with ⟨rfl,e1⟩ | ⟨e1,hx⟩
 ·have h:R.good (FD u (.nil u) (FD u y (κ true) (κ false)) _):=h
  rw [e1] at h
  rcases Ft (ρ:=ρ) (φ:=φ) h with ⟨rfl,e2⟩ | ⟨e2,hy⟩
  ·refine ⟨true,fun κ'=>by unfold IJ; rw [e1,e1],fun X Y d w hX hY=>?_⟩
   rw [BG hX,BG hY]
   cases u with
   | ptr=>obtain ⟨e,s,hu,hs⟩:=ht; simp [Op.equalIn,run_underlying hu,BW]
   | sl=>obtain ⟨e,hu⟩:=ht; simp [Op.equalIn,run_underlying hu,BW]
   | map=>obtain ⟨k,e,hu⟩:=ht; simp [Op.equalIn,run_underlying hu,BW]
   | fn=>obtain ⟨a,b,c,hu⟩:=ht; simp [Op.equalIn,run_underlying hu,BW]
   | iface=>exact ht.elim
  ·refine ⟨false,fun κ'=>by unfold IJ; rw [e1,e2],fun X Y d w hX hY=>?_⟩
   rw [BG hX]
   have hy:=hy Y hY
   cases u with
   | ptr=>obtain ⟨e,s,hu,hs⟩:=ht; obtain ⟨a,rfl⟩:=hy; simp [Op.equalIn,run_underlying hu,BW]
   | sl=>obtain ⟨e,hu⟩:=ht; obtain ⟨a,n,c,rfl⟩:=hy; simp [Op.equalIn,run_underlying hu,BW]
   | map=>obtain ⟨k,e,hu⟩:=ht; obtain ⟨a,rfl⟩:=hy; simp [Op.equalIn,run_underlying hu,BW]
   | fn=>obtain ⟨a,b,c,hu⟩:=ht; obtain ⟨f,n,c,rfl⟩:=hy; simp [Op.equalIn,run_underlying hu,BW]
   | iface=>exact ht.elim
 ·have h:R.good (FD u x _ (FD u y (κ false) (I5 x fun p o=>I5 y fun q o'=>br (K4.beq p q) (Cr (Nat.beq o o') κ) (.fail "")))):=h
  rw [e1] at h
  rcases Ft (ρ:=ρ) (φ:=φ) h with ⟨rfl,e2⟩ | ⟨e2,hy⟩
  ·refine ⟨false,fun κ'=>by unfold IJ; rw [e1,e2],fun X Y d w hX hY=>?_⟩
   rw [BG hY]
   have hx:=hx X hX
   cases u with
   | ptr=>obtain ⟨e,s,hu,hs⟩:=ht; obtain ⟨a,rfl⟩:=hx; simp [Op.equalIn,run_underlying hu,BW]
   | sl=>obtain ⟨e,hu⟩:=ht; obtain ⟨a,n,c,rfl⟩:=hx; simp [Op.equalIn,run_underlying hu,BW]
   | map=>obtain ⟨k,e,hu⟩:=ht; obtain ⟨a,rfl⟩:=hx; simp [Op.equalIn,run_underlying hu,BW]
   | fn=>obtain ⟨a,b,c,hu⟩:=ht; obtain ⟨f,n,c,rfl⟩:=hx; simp [Op.equalIn,run_underlying hu,BW]
   | iface=>exact ht.elim
  ·rw [e2] at h
   obtain ⟨p,o,rfl,e3⟩:=CB h
   rw [e3] at h
   obtain ⟨q,o',rfl,e4⟩:=CB h
   rw [e4] at h
   obtain ⟨h5,e5⟩:=Ai h
   have:=K4.beq_iff.1 h5
   subst this
   refine ⟨Nat.beq o o',fun κ'=>by unfold IJ; rw [e1,e2]; show br (K4.beq p p) _ _=_; rw [h5,AN,BS],fun X Y d w hX hY=>?_⟩
   have hx:=hx X hX
   obtain ⟨b,s,tot,hp,rfl⟩:=Cv hX
   obtain ⟨b',s',tot',hp',rfl⟩:=Cv hY
   rw [hp] at hp'; cases hp'
   cases u with
   | ptr =>
    obtain ⟨e,sz,hu,hs⟩:=ht
    simp only [Op.equalIn,Sem.run_bind,run_underlying hu,Result.andThen_ok,B2 hs,ne_eq,Nat.add_eq_zero_iff,Nat.one_ne_zero,and_false,not_false_eq_true,if_true,sameAddr,beq_self_eq_true]
    simp only [Sem.run_pure]
    congr 1
    rw [Bool.eq_iff_iff,beq_iff_eq]
    constructor
    ·intro h; simp at h; rw [h]; exact Nat.beq_refl _
    ·intro h; rw [Nat.eq_of_beq_eq_true h]
   | sl=>obtain ⟨a,n,c,h⟩:=hx; cases h
   | map=>obtain ⟨a,h⟩:=hx; cases h
   | fn=>obtain ⟨f,n,c,h⟩:=hx; cases h
   | iface=>exact ht.elim
end
end Go.Ev

namespace Go.Ev
set_option linter.unusedVariables false
section
variable {P:Program} {ρ:Env} {φ:AT} {w:World}
theorem N6 {t:TypeId} {fs:Array Field} (h:P.underlying t=some (.struct fs)):P.underlying t=some (.struct (P.fieldsOf t)):=by
 unfold Program.fieldsOf; rw [h]
theorem KP {t:TypeId} {fs:Array Field} {offs:List (Nat×Sc)} (ht:P.underlying t=some (.struct fs)) (hs:P.stoodInHeld t=false) (ho:FX P fs.toList=some offs)
  {x y:V} {κ:Bool->R} (h:(Kg (.st offs) x y κ).good) :
  ∃ r,(∀ κ',Kg (.st offs) x y κ'=κ' r) ∧ ∀ X Y d w,Au ρ φ x X->Au ρ φ y Y->(Op.equalIn (d+2) t X Y).run P w = .ok r w ∧ ∃ a b,X = .agg a∧Y = .agg b:=by
 obtain ⟨a,rfl,e⟩:=Ci (show R.good (asAgg x _) from h)
 obtain ⟨b,rfl,e'⟩:=Ci (show R.good (asAgg y _) from h)
 obtain ⟨r,g1,g2⟩:=KB (ρ:=ρ) (φ:=φ) ho (show R.good (I1 offs a b κ) from h)
 refine ⟨r,fun κ'=>g1 κ',fun X Y d w hX hY=>?_⟩
 obtain ⟨xs,rfl,hx,_⟩:=DH hX
 obtain ⟨ys,rfl,hy,_⟩:=DH hY
 refine ⟨?_,xs,ys,rfl,rfl⟩
 have hf:P.fieldsOf t=fs:=by unfold Program.fieldsOf; rw [ht]
 rw [run_equalIn_struct w (d+1) t xs ys (N6 ht) hs,hf]
 exact g2 xs ys d w hx hy
theorem Iw {t:TypeId} {pl:Plan} (hp:JZ P t=some pl) {x y:V} {κ:Bool->R} (h:(Kg pl x y κ).good) :
  ∃ r,(∀ κ',Kg pl x y κ'=κ' r) ∧ ∀ X Y w,Au ρ φ x X->Au ρ φ y Y->(Op.equal t X Y).run P w = .ok r w:=by
 unfold JZ at hp
 split at hp
 ·cases hp
  rename_i hu
  obtain ⟨r,g1,g2⟩:=Gu (ρ:=ρ) (φ:=φ) (show R.good (Kj .b x y κ) from h)
  exact ⟨r,fun κ'=>g1 κ',fun X Y w hX hY=>FZ (by unfold NO; rw [hu]) (g2 X Y hX hY) 9999⟩
 ·rename_i fs hu
  split at hp
  ·cases hp
  ·rename_i hs
   cases ho:FX P fs.toList with
   | none=>rw [ho] at hp; cases hp
   | some offs =>
    rw [ho] at hp; cases hp
    obtain ⟨r,g1,g2⟩:=KP (ρ:=ρ) (φ:=φ) hu (by simpa using hs) ho h
    exact ⟨r,g1,fun X Y w hX hY=>(g2 X Y 9998 w hX hY).1⟩
 ·rename_i e hu
  split at hp
  ·rename_i s hs
   cases hp
   obtain ⟨r,g1,g2⟩:=Gk (P:=P) (ρ:=ρ) (φ:=φ) (u:=.ptr) (t:=t) ⟨e,s,hu,hs⟩ (show R.good (IJ .ptr x y κ) from h)
   exact ⟨r,fun κ'=>g1 κ',fun X Y w hX hY=>g2 X Y 9999 w hX hY⟩
  ·cases hp
 ·rename_i e hu
  cases hp
  obtain ⟨r,g1,g2⟩:=Gk (P:=P) (ρ:=ρ) (φ:=φ) (u:=.sl) (t:=t) ⟨e,hu⟩ (show R.good (IJ .sl x y κ) from h)
  exact ⟨r,fun κ'=>g1 κ',fun X Y w hX hY=>g2 X Y 9999 w hX hY⟩
 ·rename_i k e hu
  cases hp
  obtain ⟨r,g1,g2⟩:=Gk (P:=P) (ρ:=ρ) (φ:=φ) (u:=.map) (t:=t) ⟨k,e,hu⟩ (show R.good (IJ .map x y κ) from h)
  exact ⟨r,fun κ'=>g1 κ',fun X Y w hX hY=>g2 X Y 9999 w hX hY⟩
 ·rename_i a b c hu
  cases hp
  obtain ⟨r,g1,g2⟩:=Gk (P:=P) (ρ:=ρ) (φ:=φ) (u:=.fn) (t:=t) ⟨a,b,c,hu⟩ (show R.good (IJ .fn x y κ) from h)
  exact ⟨r,fun κ'=>g1 κ',fun X Y w hX hY=>g2 X Y 9999 w hX hY⟩
 ·cases hp
def Tu (P:Program) (sc:Bool) (d:TypeDesc) (t:TypeId) (X Y:Value) (r:Bool):Prop :=
 Instr.sameNow d X Y=(if sc then some r else none)∧(∀ w,(Op.equal t X Y).run P w = .ok r w)∧(r=true->Instr.sameBits 10000 Y X=true)
theorem GC {k:Sc} {X Y:Value} {n:Nat} (h:SZ k X Y true):Instr.sameBits n Y X=true:=by
 cases k with
 | i =>
  obtain ⟨kd,a,b,rfl,rfl,hr⟩:=h
  have:=eq_of_beq hr.symm
  simp [Instr.sameBits,this]
 | s =>
  obtain ⟨a,b,rfl,rfl,hr⟩:=h
  have:=eq_of_beq hr.symm
  simp only [Instr.sameBits,beq_toListBytes,this]; exact beq_self_eq_true _
 | b =>
  obtain ⟨a,b,rfl,rfl,hr⟩:=h
  have:=eq_of_beq hr.symm
  simp [Instr.sameBits,this]
theorem Qf (ks:List Sc):∀ {a b:List V} {κ:Bool->R},(N5 ks a b κ).good →
  ∃ r,(∀ κ',N5 ks a b κ'=κ' r)∧(∀ (pa pb:List V) (offs:List (Nat×Sc)),pa.length=pb.length->offs=ks.zipIdx.map (fun p=>(pa.length+p.2,p.1))->∀ κ',I1 offs (pa++a) (pb++b) κ'=κ' r) ∧
   (r=true->∀ xs ys:List Value,Bl ρ φ a xs->Bl ρ φ b ys->xs.length=ys.length ∧ ∀ n,(ys.zip xs).all (fun (x,y)=>Instr.sameBits n x y)=true):=by
 induction ks with
 | nil =>
  intro a b κ h
  cases a with
  | cons u a=>exact h.elim
  | nil =>
   cases b with
   | cons v b=>exact h.elim
   | nil =>
    refine ⟨true,fun _=>rfl,fun pa pb offs _ ho κ'=>by subst ho; rfl,fun _ xs ys hx hy=>?_⟩
    rw [AD] at hx hy; subst hx hy; exact ⟨rfl,fun n=>rfl⟩
 | cons k ks ih =>
  intro a b κ h
  cases a with
  | nil=>exact h.elim
  | cons u a =>
   cases b with
   | nil=>exact h.elim
   | cons v b =>
    have h:R.good (Kj k u v fun r=>br r (N5 ks a b κ) (κ false)):=h
    obtain ⟨q,e3,hq⟩:=Gu (ρ:=ρ) (φ:=φ) h
    rw [e3] at h
    have unf:∀ κ',N5 (k::ks) (u::a) (v::b) κ'=br q (N5 ks a b κ') (κ' false):=fun κ'=>e3 _
    have at1:∀ (pa pb:List V) (offs:List (Nat×Sc)),pa.length=pb.length->offs=(k::ks).zipIdx.map (fun p=>(pa.length+p.2,p.1))->∀ κ',I1 offs (pa++u::a) (pb++v::b) κ' =
      br q (I1 (ks.zipIdx.map (fun p=>((pa++[u]).length+p.2,p.1))) ((pa++[u])++a) ((pb++[v])++b) κ') (κ' false):=fun pa pb offs hl ho κ'=>by
     subst ho
     have n1:∀ (l m:List V) (x:V) (κ:V->R),DU l.length (l++x::m) κ=κ x:=fun l=>by
      induction l with
      | nil=>intro m x κ; rfl
      | cons y l ih=>intro m x κ; exact ih m x κ
     have hz:((k::ks).zipIdx.map (fun p=>(pa.length+p.2,p.1)))=(pa.length,k)::ks.zipIdx.map (fun p=>((pa++[u]).length+p.2,p.1)):=by
      rw [List.zipIdx_cons,List.map_cons]
      simp only [Nat.add_zero,List.cons.injEq,true_and]
      rw [List.zipIdx_eq_map_add,List.map_map]
      apply List.map_congr_left
      intro p _
      simp; omega
     rw [hz]
     show DU pa.length (pa++u::a) (fun u=>DU pa.length (pb++v::b) fun v=>Kj k u v fun q=>br q (I1 _ (pa++_::a) (pb++_::b) κ') (κ' false))=_
     rw [n1,hl,n1,e3]
     simp
    cases q with
    | true =>
     obtain ⟨r,g1,g2,g3⟩:=ih (show R.good (N5 ks a b κ) from h)
     refine ⟨r,fun κ'=>(unf κ').trans (g1 κ'),fun pa pb offs hl ho κ'=>?_,fun hr xs ys hx hy=>?_⟩
     ·rw [at1 pa pb offs hl ho κ']
      exact g2 (pa++[u]) (pb++[v]) _ (by simp [hl]) rfl κ'
     ·obtain ⟨x,xs,rfl,hx,hxs⟩:=Ar.1 hx
      obtain ⟨y,ys,rfl,hy,hys⟩:=Ar.1 hy
      obtain ⟨h1,h2⟩:=g3 hr xs ys hxs hys
      refine ⟨by simp [h1],fun n=>?_⟩
      have h2:=h2 n
      simp only [List.zip_cons_cons,List.all_cons,GC (hq x y hx hy),Bool.true_and]
      exact h2
    | false =>
     exact ⟨false,fun κ'=>unf κ',fun pa pb offs hl ho κ'=>at1 pa pb offs hl ho κ',fun hr=>by cases hr⟩
theorem OC {k:Sc} {t:TypeId} (hk:NO P t=some k) {X Y:Value} {r:Bool} (h:SZ k X Y r):∃ d,P.underlying t=some d∧Instr.sameNow d X Y=some r ∧ ¬ ∃ fs,d = .struct fs:=by
 unfold NO at hk
 split at hk
 ·cases hk
  rename_i kd hu
  obtain ⟨kd',a,b,rfl,rfl,rfl⟩:=h
  exact ⟨_,hu,by simp [Instr.sameNow],by simp⟩
 ·cases hk
  rename_i hu
  obtain ⟨s,u,rfl,rfl,rfl⟩:=h
  exact ⟨_,hu,by simp [Instr.sameNow,beq_toListBytes],by simp⟩
 ·cases hk
  rename_i hu
  obtain ⟨s,u,rfl,rfl,rfl⟩:=h
  exact ⟨_,hu,by simp [Instr.sameNow],by simp⟩
 ·cases hk
theorem Hx {t:TypeId} {pl:Plan} (hp:Gx P t=some pl):∃ d sc,P.underlying t=some d ∧ ∀ {x y:V} {κ:Bool->R},(Kg pl x y κ).good →
  ∃ r,(∀ κ',Kg pl x y κ'=κ' r) ∧ ∀ X Y,Au ρ φ x X->Au ρ φ y Y->Tu P sc d t X Y r:=by
 unfold Gx at hp
 split at hp
 ·rename_i fs hu
  split at hp
  ·cases hp
  ·rename_i hs
   split at hp
   ·rename_i offs ho
    split at hp
    ·rename_i hr
     cases hp
     refine ⟨_,false,hu,fun {x y κ} h=>?_⟩
     obtain ⟨a,rfl,e⟩:=Ci (show R.good (asAgg x _) from h)
     obtain ⟨b,rfl,e'⟩:=Ci (show R.good (asAgg y _) from h)
     obtain ⟨r,g1,g2,g3⟩:=Qf (ρ:=ρ) (φ:=φ) (offs.map (·.2)) (show R.good (N5 (offs.map (·.2)) a b κ) from h)
     refine ⟨r,fun κ'=>g1 κ',fun X Y hX hY=>?_⟩
     obtain ⟨xs,rfl,hx,_⟩:=DH hX
     obtain ⟨ys,rfl,hy,_⟩:=DH hY
     have hoffs:offs=(offs.map (·.2)).zipIdx.map (fun p=>(([]:List V).length+p.2,p.1)):=by
      apply List.ext_getElem?
      intro i
      rw [List.getElem?_map,List.getElem?_zipIdx,List.getElem?_map]
      cases hi:offs[i]? with
      | none=>rfl
      | some p =>
       have h1:(offs.map (·.1))[i]? = some p.1:=by rw [List.getElem?_map,hi]; rfl
       rw [hr] at h1
       have hlt:i<offs.length:=by
        rcases Nat.lt_or_ge i offs.length with h' | h'
        ·exact h'
        ·rw [List.getElem?_eq_none h'] at hi; cases hi
       rw [List.getElem?_range hlt] at h1
       obtain ⟨p1,p2⟩:=p
       simp at h1
       subst h1
       simp
     have hg:(Kg (.st offs) (.agg a) (.agg b) (fun q=>R.rv (.bool q) AV ⟨.d0,.d0,.d0,.d0⟩)).good:=by
      show R.good (I1 offs a b (fun q=>R.rv (.bool q) AV ⟨.d0,.d0,.d0,.d0⟩))
      have:=g2 [] [] offs rfl hoffs (fun q=>R.rv (.bool q) AV ⟨.d0,.d0,.d0,.d0⟩)
      simp only [List.nil_append] at this
      rw [this]; trivial
     obtain ⟨r',k1,k2⟩:=KP (ρ:=ρ) (φ:=φ) hu (by simpa using hs) ho hg
     have hrr:r'=r:=by
      have e1:=k1 (fun q=>R.rv (.bool q) AV ⟨.d0,.d0,.d0,.d0⟩)
      have e2:Kg (.st offs) (.agg a) (.agg b) (fun q=>R.rv (.bool q) AV ⟨.d0,.d0,.d0,.d0⟩)=_:=g2 [] [] offs rfl hoffs (fun q=>R.rv (.bool q) AV ⟨.d0,.d0,.d0,.d0⟩)
      rw [e1] at e2
      simpa using e2
     subst hrr
     refine ⟨by simp [Instr.sameNow],fun w=>(k2 _ _ 9998 w hX hY).1,fun hr'=>?_⟩
     obtain ⟨h1,h2⟩:=g3 hr' xs.toList ys.toList hx hy
     have h2:=h2 9999
     simp only [Instr.sameBits,Bool.and_eq_true,beq_iff_eq]
     exact ⟨by simpa using h1.symm,h2⟩
    ·cases hp
   ·cases hp
 ·cases hk:NO P t with
  | none=>rw [hk] at hp; cases hp
  | some k =>
   rw [hk] at hp; cases hp
   cases hu:P.underlying t with
   | none=>simp [NO,hu] at hk
   | some d =>
    refine ⟨d,true,rfl,fun {x y κ} h=>?_⟩
    obtain ⟨r,g1,g2⟩:=Gu (ρ:=ρ) (φ:=φ) (show R.good (Kj k x y κ) from h)
    refine ⟨r,fun κ'=>g1 κ',fun X Y hX hY=>?_⟩
    obtain ⟨d',hd',hn,_⟩:=OC hk (g2 X Y hX hY)
    rw [hu] at hd'; cases hd'
    exact ⟨hn,fun w=>FZ hk (g2 X Y hX hY) 9999,fun hr=>by subst hr; exact GC (g2 X Y hX hY)⟩
def UD (pl:Plan) (k:V):List (V×V)->Option Nat->Prop
 | [],r=>r=none
 | e::es,r=>∃ q:Bool,(∀ κ,Kg pl k e.1 κ=κ q)∧if q then r=some 0 else ∃ r',UD pl k es r'∧r=r'.map (· + 1)
theorem J1 {t:TypeId} {pl:Plan} (hp:Gx P t=some pl) {k:V} {κf:V->R} {κn:R}:∀ {es:List (V×V)},(Gz pl k es κf κn).good →
  ∃ r,UD pl k es r∧match r with | none=>Gz pl k es κf κn=κn | some i=>∃ e,es[i]? = some e∧Gz pl k es κf κn=κf e.2
 | [],h=>⟨none,rfl,rfl⟩
 | (a,b)::es,h=>by
  obtain ⟨d,sc,_,hk⟩:=Hx (ρ:={ v:=fun _=>.nilFunc,ap:=fun _=>none }) (φ:=fun _=>none) hp
  have h:R.good (Kg pl k a fun r=>br r (κf b) (Gz pl k es κf κn)):=h
  obtain ⟨q,g1,_⟩:=hk h
  rw [g1] at h
  have unf:Gz pl k ((a,b)::es) κf κn=br q (κf b) (Gz pl k es κf κn):=g1 _
  cases q with
  | true=>exact ⟨some 0,⟨true,g1,rfl⟩,(a,b),rfl,unf⟩
  | false =>
   obtain ⟨r,h1,h2⟩:=J1 hp (show R.good (Gz pl k es κf κn) from h)
   refine ⟨r.map (· + 1),⟨false,g1,r,h1,rfl⟩,?_⟩
   cases r with
   | none=>exact unf.trans h2
   | some i=>obtain ⟨e,he,h2⟩:=h2; exact ⟨e,by simpa using he,unf.trans h2⟩
theorem KD {t:TypeId} {pl:Plan} (hp:Gx P t=some pl) {k v:V}:∀ {es:List (V×V)} {κ:List (V×V)->R},(GM pl k v es κ).good →
  ∃ r,UD pl k es r∧GM pl k v es κ=κ (match r with | none=>es++[(k,v)] | some i=>es.set i (k,v))
 | [],κ,h=>⟨none,rfl,rfl⟩
 | (a,b)::es,κ,h=>by
  obtain ⟨d,sc,_,hk⟩:=Hx (ρ:={ v:=fun _=>.nilFunc,ap:=fun _=>none }) (φ:=fun _=>none) hp
  have h:R.good (Kg pl k a fun r=>br r (κ ((k,v)::es)) (GM pl k v es fun l=>κ ((a,b)::l))):=h
  obtain ⟨q,g1,_⟩:=hk h
  rw [g1] at h
  have unf:GM pl k v ((a,b)::es) κ=br q (κ ((k,v)::es)) (GM pl k v es fun l=>κ ((a,b)::l)):=g1 _
  cases q with
  | true=>exact ⟨some 0,⟨true,g1,rfl⟩,unf⟩
  | false =>
   obtain ⟨r,h1,h2⟩:=KD hp (show R.good (GM pl k v es fun l=>κ ((a,b)::l)) from h)
   refine ⟨r.map (· + 1),⟨false,g1,r,h1,rfl⟩,?_⟩
   rw [unf]
   show GM pl k v es _=_
   rw [h2]
   cases r <;> rfl
theorem LP {t:TypeId} {pl:Plan} (hp:Gx P t=some pl) {k:V}:∀ {es:List (V×V)} {κ:List (V×V)->R},(Ki pl k es κ).good →
  ∃ r,UD pl k es r∧Ki pl k es κ=κ (match r with | none=>es | some i=>es.eraseIdx i)
 | [],κ,h=>⟨none,rfl,rfl⟩
 | (a,b)::es,κ,h=>by
  obtain ⟨d,sc,_,hk⟩:=Hx (ρ:={ v:=fun _=>.nilFunc,ap:=fun _=>none }) (φ:=fun _=>none) hp
  have h:R.good (Kg pl k a fun r=>br r (κ es) (Ki pl k es fun l=>κ ((a,b)::l))):=h
  obtain ⟨q,g1,_⟩:=hk h
  rw [g1] at h
  have unf:Ki pl k ((a,b)::es) κ=br q (κ es) (Ki pl k es fun l=>κ ((a,b)::l)):=g1 _
  cases q with
  | true=>exact ⟨some 0,⟨true,g1,rfl⟩,unf⟩
  | false =>
   obtain ⟨r,h1,h2⟩:=LP hp (show R.good (Ki pl k es fun l=>κ ((a,b)::l)) from h)
   refine ⟨r.map (· + 1),⟨false,g1,r,h1,rfl⟩,?_⟩
   rw [unf]
   show Ki pl k es _=_
   rw [h2]
   cases r <;> rfl
theorem LU {pl:Plan} {k:V}:∀ {es:List (V×V)} {bs:List Nat} {κ:List Nat->R} {r:Option Nat},(Kr pl k es bs κ).good->UD pl k es r →
  Kr pl k es bs κ=κ (match r with | none=>bs | some i=>bs.eraseIdx i)
 | [],bs,κ,r,_,hf=>by have hf:r=none:=hf; subst hf; rfl
 | (a,b)::es,[],κ,r,h,_=>h.elim
 | (a,b)::es,c::bs,κ,r,h,hf=>by
  obtain ⟨q,g1,hf⟩:=hf
  have h:R.good (Kg pl k a fun r=>br r (κ bs) (Kr pl k es bs fun l=>κ (c::l))):=h
  rw [g1] at h
  have unf:Kr pl k ((a,b)::es) (c::bs) κ=br q (κ bs) (Kr pl k es bs fun l=>κ (c::l)):=g1 _
  cases q with
  | true =>
   have hf:r=some 0:=by simpa using hf
   subst hf; exact unf
  | false =>
   simp only [Bool.false_eq_true,if_false] at hf
   obtain ⟨r',hf',rfl⟩:=hf
   rw [unf]
   show Kr pl k es bs _=_
   rw [LU (show R.good (Kr pl k es bs fun l=>κ (c::l)) from h) hf']
   cases r' <;> rfl
theorem KX:∀ (es:List (V×V)) (bs:List Nat),GP es bs=decide (es.length=bs.length)
 | [],[]=>rfl
 | [],_::_=>rfl
 | _::_,[]=>rfl
 | _::es,_::bs=>by
  show GP es bs=_
  rw [KX es bs]; simp
theorem ML (c:Nat):∀ (bs:List Nat) (κ:List Nat->R),Rm bs c κ=κ (bs++[c])
 | [],_=>rfl
 | b::bs,κ=>by
  show Rm bs c (fun l=>κ (b::l))=_
  rw [ML c bs]; rfl
theorem TT (es:List (V×V)) (bs:List Nat) (c:Nat) (κ:List Nat->Nat->R):TL es bs c κ=κ (if es.length=bs.length then bs else bs++[c]) (if es.length=bs.length then c else c+1):=by
 unfold TL
 rw [KX,ML,Ad]
 by_cases h:es.length=bs.length <;> simp [h,br]
theorem EE {t:TypeId} {pl:Plan} (hp:Gx P t=some pl) {k:V} {K:Value} (hK:Au ρ φ k K):∀ {es:List (V×V)} {ents:List MapEntry} {r:Option Nat},UD pl k es r->Gf ρ φ es ents →
  (Instr.findKey t K ents).run P w = .ok (r.bind fun i=>(ents[i]?).map fun e=>(i,e.val)) w ∧
  (∀ i,r=some i->∃ e,ents[i]? = some e∧Instr.sameBits 10000 e.key K=true):=by
 obtain ⟨d,sc,hu,hk⟩:=Hx (ρ:=ρ) (φ:=φ) hp
 have gd:∀ (x y:V) (q:Bool),(∀ κ,Kg pl x y κ=κ q)->∀ X Y,Au ρ φ x X->Au ρ φ y Y->Tu P sc d t X Y q:=fun x y q hq X Y hX hY=>by
  obtain ⟨r,g1,g2⟩:=hk (x:=x) (y:=y) (κ:=fun q=>.rv (.bool q) AV ⟨.d0,.d0,.d0,.d0⟩) (by rw [hq]; trivial)
  have e1:=hq (fun q=>.rv (.bool q) AV ⟨.d0,.d0,.d0,.d0⟩)
  rw [g1] at e1
  simp at e1
  subst e1
  exact g2 X Y hX hY
 have key:∀ (es:List (V×V)) (ents:List MapEntry) (r:Option Nat) (i:Nat),UD pl k es r->Gf ρ φ es ents →
   ((sc=true->Instr.findNow d K ents i=some (r.bind fun j=>(ents[j]?).map fun e=>(i+j,e.val))) ∧
   (sc=false->ents≠[]->Instr.findNow d K ents i=none) ∧
   (Instr.findAsking t K ents i).run P w = .ok (r.bind fun j=>(ents[j]?).map fun e=>(i+j,e.val)) w) ∧
   (∀ j,r=some j->∃ e,ents[j]? = some e∧Instr.sameBits 10000 e.key K=true):=by
  intro es
  induction es with
  | nil =>
   intro ents r i hf he
   have hf:r=none:=hf
   have he:ents=[]:=he
   subst hf he
   exact ⟨⟨fun _=>rfl,fun _ h=>absurd rfl h,rfl⟩,fun j h=>by cases h⟩
  | cons e es ih =>
   intro ents r i hf he
   obtain ⟨q,hq,hf⟩:=hf
   obtain ⟨y,ys,rfl,hy1,hy2,hys⟩:=he
   obtain ⟨n1,n2,n3⟩:=gd k e.1 q hq K y.key hK hy1
   cases q with
   | true =>
    have hf:r=some 0:=by simpa using hf
    subst hf
    refine ⟨⟨fun hs=>?_,fun hs _=>?_,?_⟩,fun j hj=>?_⟩
    ·subst hs; simp at n1; simp [Instr.findNow,n1]
    ·subst hs; simp at n1; simp [Instr.findNow,n1]
    ·simp only [Instr.findAsking,Sem.run_bind,n2,Result.andThen_ok,if_true]; simp
    ·cases hj; exact ⟨y,rfl,n3 rfl⟩
   | false =>
    simp only [Bool.false_eq_true,if_false] at hf
    obtain ⟨r',hf',rfl⟩:=hf
    obtain ⟨⟨k1,k2,k3⟩,k4⟩:=ih ys r' (i+1) hf' hys
    have hr:((r'.map (· + 1)).bind fun j=>((y::ys)[j]?).map fun e=>(i+j,e.val))=r'.bind fun j=>(ys[j]?).map fun e=>(i+1+j,e.val):=by
     cases r' with
     | none=>rfl
     | some j=>simp [Nat.add_assoc,Nat.add_comm 1 j]
    refine ⟨⟨fun hs=>?_,fun hs _=>?_,?_⟩,fun j hj=>?_⟩
    ·subst hs; simp at n1; rw [hr]; simp only [Instr.findNow,n1]; exact k1 rfl
    ·subst hs; simp at n1; simp [Instr.findNow,n1]
    ·rw [hr]
     simp only [Instr.findAsking,Sem.run_bind,n2,Result.andThen_ok,Bool.false_eq_true,if_false]
     exact k3
    ·cases r' with
     | none=>cases hj
     | some j'=>simp at hj; subst hj; simpa using k4 j' rfl
 intro es ents r hf he
 obtain ⟨⟨k1,k2,k3⟩,k4⟩:=key es ents r 0 hf he
 simp only [Nat.zero_add] at k1 k3
 refine ⟨?_,fun i hi=>?_⟩
 ·simp only [Instr.findKey,Sem.run_bind,run_underlying hu,Result.andThen_ok]
  cases sc with
  | true=>rw [k1 rfl]; rfl
  | false =>
   cases hen:ents with
   | nil=>rw [hen] at k3; simp only [Instr.findNow]; exact k3
   | cons e l=>rw [←hen,k2 rfl (by rw [hen]; simp)]; exact k3
 ·obtain ⟨e,h1,h2⟩:=k4 i hi
  exact ⟨e,h1,h2⟩
end
end Go.Ev
