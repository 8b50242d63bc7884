/- AN EVALUATOR OF THE MODEL OF Go, PROVED SOUND, PART 1: what it says of a call holds in every world, on every tape. Conditions: none of its own; each theorem bears its premises. -/
import Derived.Below
import Derived.Laws.Append
import Derived.Laws.Bits
import Derived.Laws.Cells
import Derived.Laws.Entries
import Derived.Laws.Sem
import Derived.Laws.Strings
import Derived.Laws.StructEq
import Derived.Laws.Tables
import Derived.Laws.World
import Derived.Orders
noncomputable section
set_option linter.unusedSimpArgs false
set_option linter.unusedVariables false
namespace Go.Ev
set_option linter.unusedVariables false
inductive D where
  | d0 | d1 | d2 | d3 | d4 | d5 | d6 | d7 | d8 | d9 | d10 | d11 | d12 | d13 | d14 | d15
def D.toN (d:D):Nat := @D.rec (fun _ => Nat) 0 1 2 3 4 5 6 7 8 9 10 11 12 13 14 15 d
theorem D.toN_lt (d:D):d.toN<16 := by cases d <;> decide
theorem D.toN_inj {a b:D} (h:a.toN=b.toN):a=b := by
  cases a <;> cases b <;> first | rfl | exact absurd h (by decide)
/-- The next digit, or the other way. -/
def D.nx {β:Type} (d:D):(D->β)->β->β :=
  @D.rec (fun _ => (D->β)->β->β) (fun k _ => k .d1) (fun k _ => k .d2) (fun k _ => k .d3) (fun k _ => k .d4) (fun k _ => k .d5) (fun k _ => k .d6) (fun k _ => k .d7) (fun k _ => k .d8) (fun k _ => k .d9) (fun k _ => k .d10) (fun k _ => k .d11) (fun k _ => k .d12) (fun k _ => k .d13) (fun k _ => k .d14) (fun k _ => k .d15) (fun _ c => c) d
theorem D.nx_eq {β:Type} (d:D) (k:D->β) (c:β):(d.nx k c=c∧d.toN=15)∨(∃ e:D, e.toN=d.toN+1∧d.nx k c=k e) := by
  cases d
  case d0 => exact .inr ⟨.d1, rfl, rfl⟩
  case d1 => exact .inr ⟨.d2, rfl, rfl⟩
  case d2 => exact .inr ⟨.d3, rfl, rfl⟩
  case d3 => exact .inr ⟨.d4, rfl, rfl⟩
  case d4 => exact .inr ⟨.d5, rfl, rfl⟩
  case d5 => exact .inr ⟨.d6, rfl, rfl⟩
  case d6 => exact .inr ⟨.d7, rfl, rfl⟩
  case d7 => exact .inr ⟨.d8, rfl, rfl⟩
  case d8 => exact .inr ⟨.d9, rfl, rfl⟩
  case d9 => exact .inr ⟨.d10, rfl, rfl⟩
  case d10 => exact .inr ⟨.d11, rfl, rfl⟩
  case d11 => exact .inr ⟨.d12, rfl, rfl⟩
  case d12 => exact .inr ⟨.d13, rfl, rfl⟩
  case d13 => exact .inr ⟨.d14, rfl, rfl⟩
  case d14 => exact .inr ⟨.d15, rfl, rfl⟩
  case d15 => exact .inl ⟨rfl, rfl⟩
def D.ofN:Nat->D
  | 0 => .d0 | 1 => .d1 | 2 => .d2 | 3 => .d3 | 4 => .d4 | 5 => .d5 | 6 => .d6 | 7 => .d7 | 8 => .d8 | 9 => .d9 | 10 => .d10 | 11 => .d11 | 12 => .d12 | 13 => .d13 | 14 => .d14 | _ => .d15
theorem D.toN_ofN:∀ n, n<16->(D.ofN n).toN=n
  | 0, _ => rfl | 1, _ => rfl | 2, _ => rfl | 3, _ => rfl | 4, _ => rfl | 5, _ => rfl | 6, _ => rfl | 7, _ => rfl | 8, _ => rfl | 9, _ => rfl | 10, _ => rfl | 11, _ => rfl | 12, _ => rfl | 13, _ => rfl | 14, _ => rfl | 15, _ => rfl
  | n+16, h => by omega
def D.beq (a b:D):Bool := Nat.beq a.toN b.toN
theorem D.beq_iff {a b:D}:a.beq b=true ↔ a=b := by
  unfold D.beq
  exact ⟨fun h => D.toN_inj (Nat.eq_of_beq_eq_true h), fun h => by subst h; exact Nat.beq_refl _⟩
/-- A place of the heap: four digits, the first leads. -/
structure K4 where
  a:D
  b:D
  c:D
  d:D
/-- The nil values. -/
inductive Nl where
  | ptr
  | sl
  | map
  | fn
  | iface
/-- What lies in memory that stays: an integer, a bool, a text, bytes, a slice that is nil. -/
inductive RV where
  | i (k:IntKind) (r:Nat)
  | b (b:Bool)
  | s (n c:Nat)
  | y (n c:Nat)
  | nl
/-- What is Gz of other values; rb, rx, rp: bytes, a slice, a pointer to cells of memory that stays, told. -/
inductive Ot where
  | any
  | sym (i:Nat)
  | yl (p:K4)
  | no
  | iv (k:IntKind) (lo hi:Nat)
  | os (lo hi:Nat)
  | bl
  | rs (m j:Nat)
  | ss (lo hi n c:Nat)
  | ro (i lo hi z:Nat)
  | ap (i j m:Nat)
  | sy (k:IntKind) (i:Nat)
  | rb (n c:Nat)
  | rx (l:List RV) (m z:Nat)
  | rp (l:List RV)
/-- Abstract values. An integer is told by its residue. A string is told by its length and its bytes as one number, the first byte lowest. -/
inductive V where
  | int (k:IntKind) (r:Nat)
  | bool (b:Bool)
  | ptr (p:K4) (off:Nat)
  | sl (p:K4) (off len cap:Nat) (ex:Bool) (esz:Nat)
  | str (n c:Nat)
  | agg (l:List V)
  | nil (w:Nl)
  | map (p:K4)
  | fn (f:Nat) (caps:List V)
  | tup (l:List V)
  | oth (o:Ot)
/-- Cells: a list, or bytes packed in one number. -/
inductive Cs where
  | l (xs:List V)
  | b (n c:Nat)
/-- An object: cells (may they be written? which older object may share their memory?), or a map (its entries, their stamps, its clock), or an iterator over a map (the map's place, the clock at its beginning, the stamps it has shown, the latest first, the clock at the last step), or one over nil; or the record of a range over a function (whose; the place of its box). -/
inductive Ob where
  | c (cs:Cs) (sup:Bool) (prev:Option K4)
  | m (es:List (V×V)) (bs:List Nat) (clk:Nat)
  | it (p:K4) (since:Nat) (seen:List Nat) (c:Nat)
  | it0
  | lp (f:Nat) (box:K4)
abbrev EM := Option Ob
/-- Sixteen values. -/
inductive VP where
  | mk (A B C E F G I J L M N O P Q T U:V)
def VP.all (x:V):VP := .mk x x x x x x x x x x x x x x x x
def VP.sel (d:D) (p:VP):V :=
  @VP.rec (fun _ => V) (fun A B C E F G I J L M N O P Q T U => @D.rec (fun _ => V) A B C E F G I J L M N O P Q T U d) p
def vs0 {β:Type} (p:VP) (v:V) (k:VP->β):β := @VP.rec (fun _ => β) (fun A B C E F G I J L M N O P Q T U => k (.mk v B C E F G I J L M N O P Q T U)) p
def vs1 {β:Type} (p:VP) (v:V) (k:VP->β):β := @VP.rec (fun _ => β) (fun A B C E F G I J L M N O P Q T U => k (.mk A v C E F G I J L M N O P Q T U)) p
def vs2 {β:Type} (p:VP) (v:V) (k:VP->β):β := @VP.rec (fun _ => β) (fun A B C E F G I J L M N O P Q T U => k (.mk A B v E F G I J L M N O P Q T U)) p
def vs3 {β:Type} (p:VP) (v:V) (k:VP->β):β := @VP.rec (fun _ => β) (fun A B C E F G I J L M N O P Q T U => k (.mk A B C v F G I J L M N O P Q T U)) p
def vs4 {β:Type} (p:VP) (v:V) (k:VP->β):β := @VP.rec (fun _ => β) (fun A B C E F G I J L M N O P Q T U => k (.mk A B C E v G I J L M N O P Q T U)) p
def vs5 {β:Type} (p:VP) (v:V) (k:VP->β):β := @VP.rec (fun _ => β) (fun A B C E F G I J L M N O P Q T U => k (.mk A B C E F v I J L M N O P Q T U)) p
def vs6 {β:Type} (p:VP) (v:V) (k:VP->β):β := @VP.rec (fun _ => β) (fun A B C E F G I J L M N O P Q T U => k (.mk A B C E F G v J L M N O P Q T U)) p
def vs7 {β:Type} (p:VP) (v:V) (k:VP->β):β := @VP.rec (fun _ => β) (fun A B C E F G I J L M N O P Q T U => k (.mk A B C E F G I v L M N O P Q T U)) p
def vs8 {β:Type} (p:VP) (v:V) (k:VP->β):β := @VP.rec (fun _ => β) (fun A B C E F G I J L M N O P Q T U => k (.mk A B C E F G I J v M N O P Q T U)) p
def vs9 {β:Type} (p:VP) (v:V) (k:VP->β):β := @VP.rec (fun _ => β) (fun A B C E F G I J L M N O P Q T U => k (.mk A B C E F G I J L v N O P Q T U)) p
def Afd {β:Type} (p:VP) (v:V) (k:VP->β):β := @VP.rec (fun _ => β) (fun A B C E F G I J L M N O P Q T U => k (.mk A B C E F G I J L M v O P Q T U)) p
def Afq {β:Type} (p:VP) (v:V) (k:VP->β):β := @VP.rec (fun _ => β) (fun A B C E F G I J L M N O P Q T U => k (.mk A B C E F G I J L M N v P Q T U)) p
def Adu {β:Type} (p:VP) (v:V) (k:VP->β):β := @VP.rec (fun _ => β) (fun A B C E F G I J L M N O P Q T U => k (.mk A B C E F G I J L M N O v Q T U)) p
def Ad5 {β:Type} (p:VP) (v:V) (k:VP->β):β := @VP.rec (fun _ => β) (fun A B C E F G I J L M N O P Q T U => k (.mk A B C E F G I J L M N O P v T U)) p
def Aef {β:Type} (p:VP) (v:V) (k:VP->β):β := @VP.rec (fun _ => β) (fun A B C E F G I J L M N O P Q T U => k (.mk A B C E F G I J L M N O P Q v U)) p
def Afw {β:Type} (p:VP) (v:V) (k:VP->β):β := @VP.rec (fun _ => β) (fun A B C E F G I J L M N O P Q T U => k (.mk A B C E F G I J L M N O P Q T v)) p
def vg0 {β:Type} (p:VP) (k:V->β):β := @VP.rec (fun _ => β) (fun A B C E F G I J L M N O P Q T U => k A) p
def vg1 {β:Type} (p:VP) (k:V->β):β := @VP.rec (fun _ => β) (fun A B C E F G I J L M N O P Q T U => k B) p
def vg2 {β:Type} (p:VP) (k:V->β):β := @VP.rec (fun _ => β) (fun A B C E F G I J L M N O P Q T U => k C) p
def vg3 {β:Type} (p:VP) (k:V->β):β := @VP.rec (fun _ => β) (fun A B C E F G I J L M N O P Q T U => k E) p
def vg4 {β:Type} (p:VP) (k:V->β):β := @VP.rec (fun _ => β) (fun A B C E F G I J L M N O P Q T U => k F) p
def vg5 {β:Type} (p:VP) (k:V->β):β := @VP.rec (fun _ => β) (fun A B C E F G I J L M N O P Q T U => k G) p
def vg6 {β:Type} (p:VP) (k:V->β):β := @VP.rec (fun _ => β) (fun A B C E F G I J L M N O P Q T U => k I) p
def vg7 {β:Type} (p:VP) (k:V->β):β := @VP.rec (fun _ => β) (fun A B C E F G I J L M N O P Q T U => k J) p
def vg8 {β:Type} (p:VP) (k:V->β):β := @VP.rec (fun _ => β) (fun A B C E F G I J L M N O P Q T U => k L) p
def vg9 {β:Type} (p:VP) (k:V->β):β := @VP.rec (fun _ => β) (fun A B C E F G I J L M N O P Q T U => k M) p
def Ads {β:Type} (p:VP) (k:V->β):β := @VP.rec (fun _ => β) (fun A B C E F G I J L M N O P Q T U => k N) p
def Ad4 {β:Type} (p:VP) (k:V->β):β := @VP.rec (fun _ => β) (fun A B C E F G I J L M N O P Q T U => k O) p
def Acq {β:Type} (p:VP) (k:V->β):β := @VP.rec (fun _ => β) (fun A B C E F G I J L M N O P Q T U => k P) p
def Ac4 {β:Type} (p:VP) (k:V->β):β := @VP.rec (fun _ => β) (fun A B C E F G I J L M N O P Q T U => k Q) p
def Abz {β:Type} (p:VP) (k:V->β):β := @VP.rec (fun _ => β) (fun A B C E F G I J L M N O P Q T U => k T) p
def Adf {β:Type} (p:VP) (k:V->β):β := @VP.rec (fun _ => β) (fun A B C E F G I J L M N O P Q T U => k U) p
def VP.selK {β:Type} (d:D):VP->(V->β)->β :=
  @D.rec (fun _ => VP->(V->β)->β) vg0 vg1 vg2 vg3 vg4 vg5 vg6 vg7 vg8 vg9 Ads Ad4 Acq Ac4 Abz Adf d
theorem VP.selK_eq {β:Type} (d:D) (p:VP) (k:V->β):VP.selK d p k=k (VP.sel d p) := by
  cases d <;> cases p <;> rfl
def VP.setK {β:Type} (d:D):VP->V->(VP->β)->β :=
  @D.rec (fun _ => VP->V->(VP->β)->β) vs0 vs1 vs2 vs3 vs4 vs5 vs6 vs7 vs8 vs9 Afd Afq Adu Ad5 Aef Afw d
def VP.setS (d:D) (p:VP) (v:V):VP := VP.setK d p v id
theorem VP.setK_eq {β:Type} (d:D) (p:VP) (v:V) (k:VP->β):VP.setK d p v k=k (VP.setS d p v) := by
  cases d <;> cases p <;> rfl
theorem VP.sel_setS_same (d:D) (p:VP) (v:V):VP.sel d (VP.setS d p v)=v := by
  cases d <;> cases p <;> rfl
theorem VP.sel_setS_ne {d e:D} (p:VP) (v:V) (h:d≠e):VP.sel e (VP.setS d p v)=VP.sel e p := by
  cases p; cases d <;> cases e <;> first | rfl | exact absurd rfl h
theorem VP.sel_all (d:D) (x:V):VP.sel d (VP.all x)=x := by cases d <;> rfl
/-- The registers. -/
inductive Regs where
  | mk (A B C E F G I J L M N O P Q T U:VP)
def Regs.all (x:VP):Regs := .mk x x x x x x x x x x x x x x x x
def Regs.sel (d:D) (p:Regs):VP :=
  @Regs.rec (fun _ => VP) (fun A B C E F G I J L M N O P Q T U => @D.rec (fun _ => VP) A B C E F G I J L M N O P Q T U d) p
def qs0 {β:Type} (p:Regs) (v:VP) (k:Regs->β):β := @Regs.rec (fun _ => β) (fun A B C E F G I J L M N O P Q T U => k (.mk v B C E F G I J L M N O P Q T U)) p
def qs1 {β:Type} (p:Regs) (v:VP) (k:Regs->β):β := @Regs.rec (fun _ => β) (fun A B C E F G I J L M N O P Q T U => k (.mk A v C E F G I J L M N O P Q T U)) p
def qs2 {β:Type} (p:Regs) (v:VP) (k:Regs->β):β := @Regs.rec (fun _ => β) (fun A B C E F G I J L M N O P Q T U => k (.mk A B v E F G I J L M N O P Q T U)) p
def qs3 {β:Type} (p:Regs) (v:VP) (k:Regs->β):β := @Regs.rec (fun _ => β) (fun A B C E F G I J L M N O P Q T U => k (.mk A B C v F G I J L M N O P Q T U)) p
def qs4 {β:Type} (p:Regs) (v:VP) (k:Regs->β):β := @Regs.rec (fun _ => β) (fun A B C E F G I J L M N O P Q T U => k (.mk A B C E v G I J L M N O P Q T U)) p
def qs5 {β:Type} (p:Regs) (v:VP) (k:Regs->β):β := @Regs.rec (fun _ => β) (fun A B C E F G I J L M N O P Q T U => k (.mk A B C E F v I J L M N O P Q T U)) p
def qs6 {β:Type} (p:Regs) (v:VP) (k:Regs->β):β := @Regs.rec (fun _ => β) (fun A B C E F G I J L M N O P Q T U => k (.mk A B C E F G v J L M N O P Q T U)) p
def qs7 {β:Type} (p:Regs) (v:VP) (k:Regs->β):β := @Regs.rec (fun _ => β) (fun A B C E F G I J L M N O P Q T U => k (.mk A B C E F G I v L M N O P Q T U)) p
def qs8 {β:Type} (p:Regs) (v:VP) (k:Regs->β):β := @Regs.rec (fun _ => β) (fun A B C E F G I J L M N O P Q T U => k (.mk A B C E F G I J v M N O P Q T U)) p
def qs9 {β:Type} (p:Regs) (v:VP) (k:Regs->β):β := @Regs.rec (fun _ => β) (fun A B C E F G I J L M N O P Q T U => k (.mk A B C E F G I J L v N O P Q T U)) p
def Adi {β:Type} (p:Regs) (v:VP) (k:Regs->β):β := @Regs.rec (fun _ => β) (fun A B C E F G I J L M N O P Q T U => k (.mk A B C E F G I J L M v O P Q T U)) p
def Ack {β:Type} (p:Regs) (v:VP) (k:Regs->β):β := @Regs.rec (fun _ => β) (fun A B C E F G I J L M N O P Q T U => k (.mk A B C E F G I J L M N v P Q T U)) p
def Acp {β:Type} (p:Regs) (v:VP) (k:Regs->β):β := @Regs.rec (fun _ => β) (fun A B C E F G I J L M N O P Q T U => k (.mk A B C E F G I J L M N O v Q T U)) p
def Abk {β:Type} (p:Regs) (v:VP) (k:Regs->β):β := @Regs.rec (fun _ => β) (fun A B C E F G I J L M N O P Q T U => k (.mk A B C E F G I J L M N O P v T U)) p
def Aci {β:Type} (p:Regs) (v:VP) (k:Regs->β):β := @Regs.rec (fun _ => β) (fun A B C E F G I J L M N O P Q T U => k (.mk A B C E F G I J L M N O P Q v U)) p
def Acv {β:Type} (p:Regs) (v:VP) (k:Regs->β):β := @Regs.rec (fun _ => β) (fun A B C E F G I J L M N O P Q T U => k (.mk A B C E F G I J L M N O P Q T v)) p
def qg0 {β:Type} (p:Regs) (k:VP->β):β := @Regs.rec (fun _ => β) (fun A B C E F G I J L M N O P Q T U => k A) p
def qg1 {β:Type} (p:Regs) (k:VP->β):β := @Regs.rec (fun _ => β) (fun A B C E F G I J L M N O P Q T U => k B) p
def qg2 {β:Type} (p:Regs) (k:VP->β):β := @Regs.rec (fun _ => β) (fun A B C E F G I J L M N O P Q T U => k C) p
def qg3 {β:Type} (p:Regs) (k:VP->β):β := @Regs.rec (fun _ => β) (fun A B C E F G I J L M N O P Q T U => k E) p
def qg4 {β:Type} (p:Regs) (k:VP->β):β := @Regs.rec (fun _ => β) (fun A B C E F G I J L M N O P Q T U => k F) p
def qg5 {β:Type} (p:Regs) (k:VP->β):β := @Regs.rec (fun _ => β) (fun A B C E F G I J L M N O P Q T U => k G) p
def qg6 {β:Type} (p:Regs) (k:VP->β):β := @Regs.rec (fun _ => β) (fun A B C E F G I J L M N O P Q T U => k I) p
def qg7 {β:Type} (p:Regs) (k:VP->β):β := @Regs.rec (fun _ => β) (fun A B C E F G I J L M N O P Q T U => k J) p
def qg8 {β:Type} (p:Regs) (k:VP->β):β := @Regs.rec (fun _ => β) (fun A B C E F G I J L M N O P Q T U => k L) p
def qg9 {β:Type} (p:Regs) (k:VP->β):β := @Regs.rec (fun _ => β) (fun A B C E F G I J L M N O P Q T U => k M) p
def Aeo {β:Type} (p:Regs) (k:VP->β):β := @Regs.rec (fun _ => β) (fun A B C E F G I J L M N O P Q T U => k N) p
def Ae8 {β:Type} (p:Regs) (k:VP->β):β := @Regs.rec (fun _ => β) (fun A B C E F G I J L M N O P Q T U => k O) p
def Af9 {β:Type} (p:Regs) (k:VP->β):β := @Regs.rec (fun _ => β) (fun A B C E F G I J L M N O P Q T U => k P) p
def Afb {β:Type} (p:Regs) (k:VP->β):β := @Regs.rec (fun _ => β) (fun A B C E F G I J L M N O P Q T U => k Q) p
def Adj {β:Type} (p:Regs) (k:VP->β):β := @Regs.rec (fun _ => β) (fun A B C E F G I J L M N O P Q T U => k T) p
def Aez {β:Type} (p:Regs) (k:VP->β):β := @Regs.rec (fun _ => β) (fun A B C E F G I J L M N O P Q T U => k U) p
def Regs.selK {β:Type} (d:D):Regs->(VP->β)->β :=
  @D.rec (fun _ => Regs->(VP->β)->β) qg0 qg1 qg2 qg3 qg4 qg5 qg6 qg7 qg8 qg9 Aeo Ae8 Af9 Afb Adj Aez d
theorem Regs.selK_eq {β:Type} (d:D) (p:Regs) (k:VP->β):Regs.selK d p k=k (Regs.sel d p) := by
  cases d <;> cases p <;> rfl
def Regs.setK {β:Type} (d:D):Regs->VP->(Regs->β)->β :=
  @D.rec (fun _ => Regs->VP->(Regs->β)->β) qs0 qs1 qs2 qs3 qs4 qs5 qs6 qs7 qs8 qs9 Adi Ack Acp Abk Aci Acv d
def Regs.setS (d:D) (p:Regs) (v:VP):Regs := Regs.setK d p v id
theorem Regs.setK_eq {β:Type} (d:D) (p:Regs) (v:VP) (k:Regs->β):Regs.setK d p v k=k (Regs.setS d p v) := by
  cases d <;> cases p <;> rfl
theorem Regs.sel_setS_same (d:D) (p:Regs) (v:VP):Regs.sel d (Regs.setS d p v)=v := by
  cases d <;> cases p <;> rfl
theorem Regs.sel_setS_ne {d e:D} (p:Regs) (v:VP) (h:d≠e):Regs.sel e (Regs.setS d p v)=Regs.sel e p := by
  cases p; cases d <;> cases e <;> first | rfl | exact absurd rfl h
theorem Regs.sel_all (d:D) (x:VP):Regs.sel d (Regs.all x)=x := by cases d <;> rfl
/-- Sixteen places. -/
inductive HA where
  | mk (A B C E F G I J L M N O P Q T U:EM)
def HA.all (x:EM):HA := .mk x x x x x x x x x x x x x x x x
def HA.sel (d:D) (p:HA):EM :=
  @HA.rec (fun _ => EM) (fun A B C E F G I J L M N O P Q T U => @D.rec (fun _ => EM) A B C E F G I J L M N O P Q T U d) p
def Abl {β:Type} (p:HA) (v:EM) (k:HA->β):β := @HA.rec (fun _ => β) (fun A B C E F G I J L M N O P Q T U => k (.mk v B C E F G I J L M N O P Q T U)) p
def Aek {β:Type} (p:HA) (v:EM) (k:HA->β):β := @HA.rec (fun _ => β) (fun A B C E F G I J L M N O P Q T U => k (.mk A v C E F G I J L M N O P Q T U)) p
def Afi {β:Type} (p:HA) (v:EM) (k:HA->β):β := @HA.rec (fun _ => β) (fun A B C E F G I J L M N O P Q T U => k (.mk A B v E F G I J L M N O P Q T U)) p
def Ae0 {β:Type} (p:HA) (v:EM) (k:HA->β):β := @HA.rec (fun _ => β) (fun A B C E F G I J L M N O P Q T U => k (.mk A B C v F G I J L M N O P Q T U)) p
def Ag0 {β:Type} (p:HA) (v:EM) (k:HA->β):β := @HA.rec (fun _ => β) (fun A B C E F G I J L M N O P Q T U => k (.mk A B C E v G I J L M N O P Q T U)) p
def Ad2 {β:Type} (p:HA) (v:EM) (k:HA->β):β := @HA.rec (fun _ => β) (fun A B C E F G I J L M N O P Q T U => k (.mk A B C E F v I J L M N O P Q T U)) p
def Ac3 {β:Type} (p:HA) (v:EM) (k:HA->β):β := @HA.rec (fun _ => β) (fun A B C E F G I J L M N O P Q T U => k (.mk A B C E F G v J L M N O P Q T U)) p
def Acn {β:Type} (p:HA) (v:EM) (k:HA->β):β := @HA.rec (fun _ => β) (fun A B C E F G I J L M N O P Q T U => k (.mk A B C E F G I v L M N O P Q T U)) p
def Ae3 {β:Type} (p:HA) (v:EM) (k:HA->β):β := @HA.rec (fun _ => β) (fun A B C E F G I J L M N O P Q T U => k (.mk A B C E F G I J v M N O P Q T U)) p
def Aeq {β:Type} (p:HA) (v:EM) (k:HA->β):β := @HA.rec (fun _ => β) (fun A B C E F G I J L M N O P Q T U => k (.mk A B C E F G I J L v N O P Q T U)) p
def ZU {β:Type} (p:HA) (v:EM) (k:HA->β):β := @HA.rec (fun _ => β) (fun A B C E F G I J L M N O P Q T U => k (.mk A B C E F G I J L M v O P Q T U)) p
def Zm {β:Type} (p:HA) (v:EM) (k:HA->β):β := @HA.rec (fun _ => β) (fun A B C E F G I J L M N O P Q T U => k (.mk A B C E F G I J L M N v P Q T U)) p
def Aaa {β:Type} (p:HA) (v:EM) (k:HA->β):β := @HA.rec (fun _ => β) (fun A B C E F G I J L M N O P Q T U => k (.mk A B C E F G I J L M N O v Q T U)) p
def Ab4 {β:Type} (p:HA) (v:EM) (k:HA->β):β := @HA.rec (fun _ => β) (fun A B C E F G I J L M N O P Q T U => k (.mk A B C E F G I J L M N O P v T U)) p
def Aak {β:Type} (p:HA) (v:EM) (k:HA->β):β := @HA.rec (fun _ => β) (fun A B C E F G I J L M N O P Q T U => k (.mk A B C E F G I J L M N O P Q v U)) p
def ZX {β:Type} (p:HA) (v:EM) (k:HA->β):β := @HA.rec (fun _ => β) (fun A B C E F G I J L M N O P Q T U => k (.mk A B C E F G I J L M N O P Q T v)) p
def Afl {β:Type} (p:HA) (k:EM->β):β := @HA.rec (fun _ => β) (fun A B C E F G I J L M N O P Q T U => k A) p
def Ae1 {β:Type} (p:HA) (k:EM->β):β := @HA.rec (fun _ => β) (fun A B C E F G I J L M N O P Q T U => k B) p
def Afh {β:Type} (p:HA) (k:EM->β):β := @HA.rec (fun _ => β) (fun A B C E F G I J L M N O P Q T U => k C) p
def Ad6 {β:Type} (p:HA) (k:EM->β):β := @HA.rec (fun _ => β) (fun A B C E F G I J L M N O P Q T U => k E) p
def Ade {β:Type} (p:HA) (k:EM->β):β := @HA.rec (fun _ => β) (fun A B C E F G I J L M N O P Q T U => k F) p
def Adp {β:Type} (p:HA) (k:EM->β):β := @HA.rec (fun _ => β) (fun A B C E F G I J L M N O P Q T U => k G) p
def Af0 {β:Type} (p:HA) (k:EM->β):β := @HA.rec (fun _ => β) (fun A B C E F G I J L M N O P Q T U => k I) p
def Afx {β:Type} (p:HA) (k:EM->β):β := @HA.rec (fun _ => β) (fun A B C E F G I J L M N O P Q T U => k J) p
def Ad8 {β:Type} (p:HA) (k:EM->β):β := @HA.rec (fun _ => β) (fun A B C E F G I J L M N O P Q T U => k L) p
def Adw {β:Type} (p:HA) (k:EM->β):β := @HA.rec (fun _ => β) (fun A B C E F G I J L M N O P Q T U => k M) p
def ZY {β:Type} (p:HA) (k:EM->β):β := @HA.rec (fun _ => β) (fun A B C E F G I J L M N O P Q T U => k N) p
def Ab9 {β:Type} (p:HA) (k:EM->β):β := @HA.rec (fun _ => β) (fun A B C E F G I J L M N O P Q T U => k O) p
def Zl {β:Type} (p:HA) (k:EM->β):β := @HA.rec (fun _ => β) (fun A B C E F G I J L M N O P Q T U => k P) p
def Zt {β:Type} (p:HA) (k:EM->β):β := @HA.rec (fun _ => β) (fun A B C E F G I J L M N O P Q T U => k Q) p
def Zd {β:Type} (p:HA) (k:EM->β):β := @HA.rec (fun _ => β) (fun A B C E F G I J L M N O P Q T U => k T) p
def Zi {β:Type} (p:HA) (k:EM->β):β := @HA.rec (fun _ => β) (fun A B C E F G I J L M N O P Q T U => k U) p
def HA.selK {β:Type} (d:D):HA->(EM->β)->β :=
  @D.rec (fun _ => HA->(EM->β)->β) Afl Ae1 Afh Ad6 Ade Adp Af0 Afx Ad8 Adw ZY Ab9 Zl Zt Zd Zi d
theorem HA.selK_eq {β:Type} (d:D) (p:HA) (k:EM->β):HA.selK d p k=k (HA.sel d p) := by
  cases d <;> cases p <;> rfl
def HA.setK {β:Type} (d:D):HA->EM->(HA->β)->β :=
  @D.rec (fun _ => HA->EM->(HA->β)->β) Abl Aek Afi Ae0 Ag0 Ad2 Ac3 Acn Ae3 Aeq ZU Zm Aaa Ab4 Aak ZX d
def HA.setS (d:D) (p:HA) (v:EM):HA := HA.setK d p v id
theorem HA.setK_eq {β:Type} (d:D) (p:HA) (v:EM) (k:HA->β):HA.setK d p v k=k (HA.setS d p v) := by
  cases d <;> cases p <;> rfl
theorem HA.sel_setS_same (d:D) (p:HA) (v:EM):HA.sel d (HA.setS d p v)=v := by
  cases d <;> cases p <;> rfl
theorem HA.sel_setS_ne {d e:D} (p:HA) (v:EM) (h:d≠e):HA.sel e (HA.setS d p v)=HA.sel e p := by
  cases p; cases d <;> cases e <;> first | rfl | exact absurd rfl h
theorem HA.sel_all (d:D) (x:EM):HA.sel d (HA.all x)=x := by cases d <;> rfl
/-- Of those sixteen. -/
inductive HB where
  | mk (A B C E F G I J L M N O P Q T U:HA)
def HB.all (x:HA):HB := .mk x x x x x x x x x x x x x x x x
def HB.sel (d:D) (p:HB):HA :=
  @HB.rec (fun _ => HA) (fun A B C E F G I J L M N O P Q T U => @D.rec (fun _ => HA) A B C E F G I J L M N O P Q T U d) p
def Aet {β:Type} (p:HB) (v:HA) (k:HB->β):β := @HB.rec (fun _ => β) (fun A B C E F G I J L M N O P Q T U => k (.mk v B C E F G I J L M N O P Q T U)) p
def Adr {β:Type} (p:HB) (v:HA) (k:HB->β):β := @HB.rec (fun _ => β) (fun A B C E F G I J L M N O P Q T U => k (.mk A v C E F G I J L M N O P Q T U)) p
def Ae2 {β:Type} (p:HB) (v:HA) (k:HB->β):β := @HB.rec (fun _ => β) (fun A B C E F G I J L M N O P Q T U => k (.mk A B v E F G I J L M N O P Q T U)) p
def Aeb {β:Type} (p:HB) (v:HA) (k:HB->β):β := @HB.rec (fun _ => β) (fun A B C E F G I J L M N O P Q T U => k (.mk A B C v F G I J L M N O P Q T U)) p
def Ae4 {β:Type} (p:HB) (v:HA) (k:HB->β):β := @HB.rec (fun _ => β) (fun A B C E F G I J L M N O P Q T U => k (.mk A B C E v G I J L M N O P Q T U)) p
def Adm {β:Type} (p:HB) (v:HA) (k:HB->β):β := @HB.rec (fun _ => β) (fun A B C E F G I J L M N O P Q T U => k (.mk A B C E F v I J L M N O P Q T U)) p
def Abj {β:Type} (p:HB) (v:HA) (k:HB->β):β := @HB.rec (fun _ => β) (fun A B C E F G I J L M N O P Q T U => k (.mk A B C E F G v J L M N O P Q T U)) p
def Adb {β:Type} (p:HB) (v:HA) (k:HB->β):β := @HB.rec (fun _ => β) (fun A B C E F G I J L M N O P Q T U => k (.mk A B C E F G I v L M N O P Q T U)) p
def Acy {β:Type} (p:HB) (v:HA) (k:HB->β):β := @HB.rec (fun _ => β) (fun A B C E F G I J L M N O P Q T U => k (.mk A B C E F G I J v M N O P Q T U)) p
def Af5 {β:Type} (p:HB) (v:HA) (k:HB->β):β := @HB.rec (fun _ => β) (fun A B C E F G I J L M N O P Q T U => k (.mk A B C E F G I J L v N O P Q T U)) p
def Aas {β:Type} (p:HB) (v:HA) (k:HB->β):β := @HB.rec (fun _ => β) (fun A B C E F G I J L M N O P Q T U => k (.mk A B C E F G I J L M v O P Q T U)) p
def Zr {β:Type} (p:HB) (v:HA) (k:HB->β):β := @HB.rec (fun _ => β) (fun A B C E F G I J L M N O P Q T U => k (.mk A B C E F G I J L M N v P Q T U)) p
def Aao {β:Type} (p:HB) (v:HA) (k:HB->β):β := @HB.rec (fun _ => β) (fun A B C E F G I J L M N O P Q T U => k (.mk A B C E F G I J L M N O v Q T U)) p
def Abc {β:Type} (p:HB) (v:HA) (k:HB->β):β := @HB.rec (fun _ => β) (fun A B C E F G I J L M N O P Q T U => k (.mk A B C E F G I J L M N O P v T U)) p
def Ab0 {β:Type} (p:HB) (v:HA) (k:HB->β):β := @HB.rec (fun _ => β) (fun A B C E F G I J L M N O P Q T U => k (.mk A B C E F G I J L M N O P Q v U)) p
def Ab8 {β:Type} (p:HB) (v:HA) (k:HB->β):β := @HB.rec (fun _ => β) (fun A B C E F G I J L M N O P Q T U => k (.mk A B C E F G I J L M N O P Q T v)) p
def Acj {β:Type} (p:HB) (k:HA->β):β := @HB.rec (fun _ => β) (fun A B C E F G I J L M N O P Q T U => k A) p
def Af1 {β:Type} (p:HB) (k:HA->β):β := @HB.rec (fun _ => β) (fun A B C E F G I J L M N O P Q T U => k B) p
def Adc {β:Type} (p:HB) (k:HA->β):β := @HB.rec (fun _ => β) (fun A B C E F G I J L M N O P Q T U => k C) p
def Ad1 {β:Type} (p:HB) (k:HA->β):β := @HB.rec (fun _ => β) (fun A B C E F G I J L M N O P Q T U => k E) p
def Aes {β:Type} (p:HB) (k:HA->β):β := @HB.rec (fun _ => β) (fun A B C E F G I J L M N O P Q T U => k F) p
def Abv {β:Type} (p:HB) (k:HA->β):β := @HB.rec (fun _ => β) (fun A B C E F G I J L M N O P Q T U => k G) p
def Abu {β:Type} (p:HB) (k:HA->β):β := @HB.rec (fun _ => β) (fun A B C E F G I J L M N O P Q T U => k I) p
def Afm {β:Type} (p:HB) (k:HA->β):β := @HB.rec (fun _ => β) (fun A B C E F G I J L M N O P Q T U => k J) p
def Adl {β:Type} (p:HB) (k:HA->β):β := @HB.rec (fun _ => β) (fun A B C E F G I J L M N O P Q T U => k L) p
def Afg {β:Type} (p:HB) (k:HA->β):β := @HB.rec (fun _ => β) (fun A B C E F G I J L M N O P Q T U => k M) p
def Aan {β:Type} (p:HB) (k:HA->β):β := @HB.rec (fun _ => β) (fun A B C E F G I J L M N O P Q T U => k N) p
def Ze {β:Type} (p:HB) (k:HA->β):β := @HB.rec (fun _ => β) (fun A B C E F G I J L M N O P Q T U => k O) p
def Aar {β:Type} (p:HB) (k:HA->β):β := @HB.rec (fun _ => β) (fun A B C E F G I J L M N O P Q T U => k P) p
def Aaw {β:Type} (p:HB) (k:HA->β):β := @HB.rec (fun _ => β) (fun A B C E F G I J L M N O P Q T U => k Q) p
def Zx {β:Type} (p:HB) (k:HA->β):β := @HB.rec (fun _ => β) (fun A B C E F G I J L M N O P Q T U => k T) p
def Aau {β:Type} (p:HB) (k:HA->β):β := @HB.rec (fun _ => β) (fun A B C E F G I J L M N O P Q T U => k U) p
def HB.selK {β:Type} (d:D):HB->(HA->β)->β :=
  @D.rec (fun _ => HB->(HA->β)->β) Acj Af1 Adc Ad1 Aes Abv Abu Afm Adl Afg Aan Ze Aar Aaw Zx Aau d
theorem HB.selK_eq {β:Type} (d:D) (p:HB) (k:HA->β):HB.selK d p k=k (HB.sel d p) := by
  cases d <;> cases p <;> rfl
def HB.setK {β:Type} (d:D):HB->HA->(HB->β)->β :=
  @D.rec (fun _ => HB->HA->(HB->β)->β) Aet Adr Ae2 Aeb Ae4 Adm Abj Adb Acy Af5 Aas Zr Aao Abc Ab0 Ab8 d
def HB.setS (d:D) (p:HB) (v:HA):HB := HB.setK d p v id
theorem HB.setK_eq {β:Type} (d:D) (p:HB) (v:HA) (k:HB->β):HB.setK d p v k=k (HB.setS d p v) := by
  cases d <;> cases p <;> rfl
theorem HB.sel_setS_same (d:D) (p:HB) (v:HA):HB.sel d (HB.setS d p v)=v := by
  cases d <;> cases p <;> rfl
theorem HB.sel_setS_ne {d e:D} (p:HB) (v:HA) (h:d≠e):HB.sel e (HB.setS d p v)=HB.sel e p := by
  cases p; cases d <;> cases e <;> first | rfl | exact absurd rfl h
theorem HB.sel_all (d:D) (x:HA):HB.sel d (HB.all x)=x := by cases d <;> rfl
/-- Of those sixteen. -/
inductive HC where
  | mk (A B C E F G I J L M N O P Q T U:HB)
def HC.all (x:HB):HC := .mk x x x x x x x x x x x x x x x x
def HC.sel (d:D) (p:HC):HB :=
  @HC.rec (fun _ => HB) (fun A B C E F G I J L M N O P Q T U => @D.rec (fun _ => HB) A B C E F G I J L M N O P Q T U d) p
def Af2 {β:Type} (p:HC) (v:HB) (k:HC->β):β := @HC.rec (fun _ => β) (fun A B C E F G I J L M N O P Q T U => k (.mk v B C E F G I J L M N O P Q T U)) p
def Ag1 {β:Type} (p:HC) (v:HB) (k:HC->β):β := @HC.rec (fun _ => β) (fun A B C E F G I J L M N O P Q T U => k (.mk A v C E F G I J L M N O P Q T U)) p
def Adt {β:Type} (p:HC) (v:HB) (k:HC->β):β := @HC.rec (fun _ => β) (fun A B C E F G I J L M N O P Q T U => k (.mk A B v E F G I J L M N O P Q T U)) p
def Aew {β:Type} (p:HC) (v:HB) (k:HC->β):β := @HC.rec (fun _ => β) (fun A B C E F G I J L M N O P Q T U => k (.mk A B C v F G I J L M N O P Q T U)) p
def Abx {β:Type} (p:HC) (v:HB) (k:HC->β):β := @HC.rec (fun _ => β) (fun A B C E F G I J L M N O P Q T U => k (.mk A B C E v G I J L M N O P Q T U)) p
def Ac0 {β:Type} (p:HC) (v:HB) (k:HC->β):β := @HC.rec (fun _ => β) (fun A B C E F G I J L M N O P Q T U => k (.mk A B C E F v I J L M N O P Q T U)) p
def Afe {β:Type} (p:HC) (v:HB) (k:HC->β):β := @HC.rec (fun _ => β) (fun A B C E F G I J L M N O P Q T U => k (.mk A B C E F G v J L M N O P Q T U)) p
def Aep {β:Type} (p:HC) (v:HB) (k:HC->β):β := @HC.rec (fun _ => β) (fun A B C E F G I J L M N O P Q T U => k (.mk A B C E F G I v L M N O P Q T U)) p
def Abp {β:Type} (p:HC) (v:HB) (k:HC->β):β := @HC.rec (fun _ => β) (fun A B C E F G I J L M N O P Q T U => k (.mk A B C E F G I J v M N O P Q T U)) p
def Abt {β:Type} (p:HC) (v:HB) (k:HC->β):β := @HC.rec (fun _ => β) (fun A B C E F G I J L M N O P Q T U => k (.mk A B C E F G I J L v N O P Q T U)) p
def Aaj {β:Type} (p:HC) (v:HB) (k:HC->β):β := @HC.rec (fun _ => β) (fun A B C E F G I J L M N O P Q T U => k (.mk A B C E F G I J L M v O P Q T U)) p
def Ab7 {β:Type} (p:HC) (v:HB) (k:HC->β):β := @HC.rec (fun _ => β) (fun A B C E F G I J L M N O P Q T U => k (.mk A B C E F G I J L M N v P Q T U)) p
def Aaz {β:Type} (p:HC) (v:HB) (k:HC->β):β := @HC.rec (fun _ => β) (fun A B C E F G I J L M N O P Q T U => k (.mk A B C E F G I J L M N O v Q T U)) p
def Zu {β:Type} (p:HC) (v:HB) (k:HC->β):β := @HC.rec (fun _ => β) (fun A B C E F G I J L M N O P Q T U => k (.mk A B C E F G I J L M N O P v T U)) p
def Zy {β:Type} (p:HC) (v:HB) (k:HC->β):β := @HC.rec (fun _ => β) (fun A B C E F G I J L M N O P Q T U => k (.mk A B C E F G I J L M N O P Q v U)) p
def Aa6 {β:Type} (p:HC) (v:HB) (k:HC->β):β := @HC.rec (fun _ => β) (fun A B C E F G I J L M N O P Q T U => k (.mk A B C E F G I J L M N O P Q T v)) p
def Ado {β:Type} (p:HC) (k:HB->β):β := @HC.rec (fun _ => β) (fun A B C E F G I J L M N O P Q T U => k A) p
def Ac1 {β:Type} (p:HC) (k:HB->β):β := @HC.rec (fun _ => β) (fun A B C E F G I J L M N O P Q T U => k B) p
def Abr {β:Type} (p:HC) (k:HB->β):β := @HC.rec (fun _ => β) (fun A B C E F G I J L M N O P Q T U => k C) p
def Acu {β:Type} (p:HC) (k:HB->β):β := @HC.rec (fun _ => β) (fun A B C E F G I J L M N O P Q T U => k E) p
def Aff {β:Type} (p:HC) (k:HB->β):β := @HC.rec (fun _ => β) (fun A B C E F G I J L M N O P Q T U => k F) p
def Aer {β:Type} (p:HC) (k:HB->β):β := @HC.rec (fun _ => β) (fun A B C E F G I J L M N O P Q T U => k G) p
def Aex {β:Type} (p:HC) (k:HB->β):β := @HC.rec (fun _ => β) (fun A B C E F G I J L M N O P Q T U => k I) p
def Acf {β:Type} (p:HC) (k:HB->β):β := @HC.rec (fun _ => β) (fun A B C E F G I J L M N O P Q T U => k J) p
def Ad7 {β:Type} (p:HC) (k:HB->β):β := @HC.rec (fun _ => β) (fun A B C E F G I J L M N O P Q T U => k L) p
def Ada {β:Type} (p:HC) (k:HB->β):β := @HC.rec (fun _ => β) (fun A B C E F G I J L M N O P Q T U => k M) p
def ZR {β:Type} (p:HC) (k:HB->β):β := @HC.rec (fun _ => β) (fun A B C E F G I J L M N O P Q T U => k N) p
def ZA {β:Type} (p:HC) (k:HB->β):β := @HC.rec (fun _ => β) (fun A B C E F G I J L M N O P Q T U => k O) p
def ZN {β:Type} (p:HC) (k:HB->β):β := @HC.rec (fun _ => β) (fun A B C E F G I J L M N O P Q T U => k P) p
def Zq {β:Type} (p:HC) (k:HB->β):β := @HC.rec (fun _ => β) (fun A B C E F G I J L M N O P Q T U => k Q) p
def Z2 {β:Type} (p:HC) (k:HB->β):β := @HC.rec (fun _ => β) (fun A B C E F G I J L M N O P Q T U => k T) p
def Z3 {β:Type} (p:HC) (k:HB->β):β := @HC.rec (fun _ => β) (fun A B C E F G I J L M N O P Q T U => k U) p
def HC.selK {β:Type} (d:D):HC->(HB->β)->β :=
  @D.rec (fun _ => HC->(HB->β)->β) Ado Ac1 Abr Acu Aff Aer Aex Acf Ad7 Ada ZR ZA ZN Zq Z2 Z3 d
theorem HC.selK_eq {β:Type} (d:D) (p:HC) (k:HB->β):HC.selK d p k=k (HC.sel d p) := by
  cases d <;> cases p <;> rfl
def HC.setK {β:Type} (d:D):HC->HB->(HC->β)->β :=
  @D.rec (fun _ => HC->HB->(HC->β)->β) Af2 Ag1 Adt Aew Abx Ac0 Afe Aep Abp Abt Aaj Ab7 Aaz Zu Zy Aa6 d
def HC.setS (d:D) (p:HC) (v:HB):HC := HC.setK d p v id
theorem HC.setK_eq {β:Type} (d:D) (p:HC) (v:HB) (k:HC->β):HC.setK d p v k=k (HC.setS d p v) := by
  cases d <;> cases p <;> rfl
theorem HC.sel_setS_same (d:D) (p:HC) (v:HB):HC.sel d (HC.setS d p v)=v := by
  cases d <;> cases p <;> rfl
theorem HC.sel_setS_ne {d e:D} (p:HC) (v:HB) (h:d≠e):HC.sel e (HC.setS d p v)=HC.sel e p := by
  cases p; cases d <;> cases e <;> first | rfl | exact absurd rfl h
theorem HC.sel_all (d:D) (x:HB):HC.sel d (HC.all x)=x := by cases d <;> rfl
/-- The heap. -/
inductive Heap where
  | mk (A B C E F G I J L M N O P Q T U:HC)
def Heap.all (x:HC):Heap := .mk x x x x x x x x x x x x x x x x
def Heap.sel (d:D) (p:Heap):HC :=
  @Heap.rec (fun _ => HC) (fun A B C E F G I J L M N O P Q T U => @D.rec (fun _ => HC) A B C E F G I J L M N O P Q T U d) p
def Af6 {β:Type} (p:Heap) (v:HC) (k:Heap->β):β := @Heap.rec (fun _ => β) (fun A B C E F G I J L M N O P Q T U => k (.mk v B C E F G I J L M N O P Q T U)) p
def Afv {β:Type} (p:Heap) (v:HC) (k:Heap->β):β := @Heap.rec (fun _ => β) (fun A B C E F G I J L M N O P Q T U => k (.mk A v C E F G I J L M N O P Q T U)) p
def Acd {β:Type} (p:Heap) (v:HC) (k:Heap->β):β := @Heap.rec (fun _ => β) (fun A B C E F G I J L M N O P Q T U => k (.mk A B v E F G I J L M N O P Q T U)) p
def Aei {β:Type} (p:Heap) (v:HC) (k:Heap->β):β := @Heap.rec (fun _ => β) (fun A B C E F G I J L M N O P Q T U => k (.mk A B C v F G I J L M N O P Q T U)) p
def Acw {β:Type} (p:Heap) (v:HC) (k:Heap->β):β := @Heap.rec (fun _ => β) (fun A B C E F G I J L M N O P Q T U => k (.mk A B C E v G I J L M N O P Q T U)) p
def Afa {β:Type} (p:Heap) (v:HC) (k:Heap->β):β := @Heap.rec (fun _ => β) (fun A B C E F G I J L M N O P Q T U => k (.mk A B C E F v I J L M N O P Q T U)) p
def Abm {β:Type} (p:Heap) (v:HC) (k:Heap->β):β := @Heap.rec (fun _ => β) (fun A B C E F G I J L M N O P Q T U => k (.mk A B C E F G v J L M N O P Q T U)) p
def Acm {β:Type} (p:Heap) (v:HC) (k:Heap->β):β := @Heap.rec (fun _ => β) (fun A B C E F G I J L M N O P Q T U => k (.mk A B C E F G I v L M N O P Q T U)) p
def Aen {β:Type} (p:Heap) (v:HC) (k:Heap->β):β := @Heap.rec (fun _ => β) (fun A B C E F G I J L M N O P Q T U => k (.mk A B C E F G I J v M N O P Q T U)) p
def Aey {β:Type} (p:Heap) (v:HC) (k:Heap->β):β := @Heap.rec (fun _ => β) (fun A B C E F G I J L M N O P Q T U => k (.mk A B C E F G I J L v N O P Q T U)) p
def ZV {β:Type} (p:Heap) (v:HC) (k:Heap->β):β := @Heap.rec (fun _ => β) (fun A B C E F G I J L M N O P Q T U => k (.mk A B C E F G I J L M v O P Q T U)) p
def Ab2 {β:Type} (p:Heap) (v:HC) (k:Heap->β):β := @Heap.rec (fun _ => β) (fun A B C E F G I J L M N O P Q T U => k (.mk A B C E F G I J L M N v P Q T U)) p
def ZQ {β:Type} (p:Heap) (v:HC) (k:Heap->β):β := @Heap.rec (fun _ => β) (fun A B C E F G I J L M N O P Q T U => k (.mk A B C E F G I J L M N O v Q T U)) p
def Aa1 {β:Type} (p:Heap) (v:HC) (k:Heap->β):β := @Heap.rec (fun _ => β) (fun A B C E F G I J L M N O P Q T U => k (.mk A B C E F G I J L M N O P v T U)) p
def Aa2 {β:Type} (p:Heap) (v:HC) (k:Heap->β):β := @Heap.rec (fun _ => β) (fun A B C E F G I J L M N O P Q T U => k (.mk A B C E F G I J L M N O P Q v U)) p
def Z1 {β:Type} (p:Heap) (v:HC) (k:Heap->β):β := @Heap.rec (fun _ => β) (fun A B C E F G I J L M N O P Q T U => k (.mk A B C E F G I J L M N O P Q T v)) p
def Ac8 {β:Type} (p:Heap) (k:HC->β):β := @Heap.rec (fun _ => β) (fun A B C E F G I J L M N O P Q T U => k A) p
def Ae5 {β:Type} (p:Heap) (k:HC->β):β := @Heap.rec (fun _ => β) (fun A B C E F G I J L M N O P Q T U => k B) p
def Ac5 {β:Type} (p:Heap) (k:HC->β):β := @Heap.rec (fun _ => β) (fun A B C E F G I J L M N O P Q T U => k C) p
def Afp {β:Type} (p:Heap) (k:HC->β):β := @Heap.rec (fun _ => β) (fun A B C E F G I J L M N O P Q T U => k E) p
def Ach {β:Type} (p:Heap) (k:HC->β):β := @Heap.rec (fun _ => β) (fun A B C E F G I J L M N O P Q T U => k F) p
def Acz {β:Type} (p:Heap) (k:HC->β):β := @Heap.rec (fun _ => β) (fun A B C E F G I J L M N O P Q T U => k G) p
def Aco {β:Type} (p:Heap) (k:HC->β):β := @Heap.rec (fun _ => β) (fun A B C E F G I J L M N O P Q T U => k I) p
def Af4 {β:Type} (p:Heap) (k:HC->β):β := @Heap.rec (fun _ => β) (fun A B C E F G I J L M N O P Q T U => k J) p
def Aca {β:Type} (p:Heap) (k:HC->β):β := @Heap.rec (fun _ => β) (fun A B C E F G I J L M N O P Q T U => k L) p
def Adn {β:Type} (p:Heap) (k:HC->β):β := @Heap.rec (fun _ => β) (fun A B C E F G I J L M N O P Q T U => k M) p
def Za {β:Type} (p:Heap) (k:HC->β):β := @Heap.rec (fun _ => β) (fun A B C E F G I J L M N O P Q T U => k N) p
def Zh {β:Type} (p:Heap) (k:HC->β):β := @Heap.rec (fun _ => β) (fun A B C E F G I J L M N O P Q T U => k O) p
def Zo {β:Type} (p:Heap) (k:HC->β):β := @Heap.rec (fun _ => β) (fun A B C E F G I J L M N O P Q T U => k P) p
def Zc {β:Type} (p:Heap) (k:HC->β):β := @Heap.rec (fun _ => β) (fun A B C E F G I J L M N O P Q T U => k Q) p
def ZL {β:Type} (p:Heap) (k:HC->β):β := @Heap.rec (fun _ => β) (fun A B C E F G I J L M N O P Q T U => k T) p
def Aae {β:Type} (p:Heap) (k:HC->β):β := @Heap.rec (fun _ => β) (fun A B C E F G I J L M N O P Q T U => k U) p
def Heap.selK {β:Type} (d:D):Heap->(HC->β)->β :=
  @D.rec (fun _ => Heap->(HC->β)->β) Ac8 Ae5 Ac5 Afp Ach Acz Aco Af4 Aca Adn Za Zh Zo Zc ZL Aae d
theorem Heap.selK_eq {β:Type} (d:D) (p:Heap) (k:HC->β):Heap.selK d p k=k (Heap.sel d p) := by
  cases d <;> cases p <;> rfl
def Heap.setK {β:Type} (d:D):Heap->HC->(Heap->β)->β :=
  @D.rec (fun _ => Heap->HC->(Heap->β)->β) Af6 Afv Acd Aei Acw Afa Abm Acm Aen Aey ZV Ab2 ZQ Aa1 Aa2 Z1 d
def Heap.setS (d:D) (p:Heap) (v:HC):Heap := Heap.setK d p v id
theorem Heap.setK_eq {β:Type} (d:D) (p:Heap) (v:HC) (k:Heap->β):Heap.setK d p v k=k (Heap.setS d p v) := by
  cases d <;> cases p <;> rfl
theorem Heap.sel_setS_same (d:D) (p:Heap) (v:HC):Heap.sel d (Heap.setS d p v)=v := by
  cases d <;> cases p <;> rfl
theorem Heap.sel_setS_ne {d e:D} (p:Heap) (v:HC) (h:d≠e):Heap.sel e (Heap.setS d p v)=Heap.sel e p := by
  cases p; cases d <;> cases e <;> first | rfl | exact absurd rfl h
theorem Heap.sel_all (d:D) (x:HC):Heap.sel d (Heap.all x)=x := by cases d <;> rfl
inductive O8 where
  | d0 | d1 | d2 | d3 | d4 | d5 | d6 | d7
inductive O4 where
  | d0 | d1 | d2 | d3
/-- Four values. -/
inductive SQ where
  | mk (c0 c1 c2 c3:V)
def SQ.all (x:V):SQ := .mk x x x x
def SQ.sel (d:O4) (p:SQ):V :=
  @SQ.rec (fun _ => V) (fun c0 c1 c2 c3 => @O4.rec (fun _ => V) c0 c1 c2 c3 d) p
def Aed {β:Type} (p:SQ) (v:V) (k:SQ->β):β := @SQ.rec (fun _ => β) (fun c0 c1 c2 c3 => k (.mk v c1 c2 c3)) p
def Aej {β:Type} (p:SQ) (v:V) (k:SQ->β):β := @SQ.rec (fun _ => β) (fun c0 c1 c2 c3 => k (.mk c0 v c2 c3)) p
def Aee {β:Type} (p:SQ) (v:V) (k:SQ->β):β := @SQ.rec (fun _ => β) (fun c0 c1 c2 c3 => k (.mk c0 c1 v c3)) p
def Abe {β:Type} (p:SQ) (v:V) (k:SQ->β):β := @SQ.rec (fun _ => β) (fun c0 c1 c2 c3 => k (.mk c0 c1 c2 v)) p
def Afo {β:Type} (p:SQ) (k:V->β):β := @SQ.rec (fun _ => β) (fun c0 c1 c2 c3 => k c0) p
def Aeu {β:Type} (p:SQ) (k:V->β):β := @SQ.rec (fun _ => β) (fun c0 c1 c2 c3 => k c1) p
def Ad0 {β:Type} (p:SQ) (k:V->β):β := @SQ.rec (fun _ => β) (fun c0 c1 c2 c3 => k c2) p
def Ad9 {β:Type} (p:SQ) (k:V->β):β := @SQ.rec (fun _ => β) (fun c0 c1 c2 c3 => k c3) p
def SQ.selK {β:Type} (d:O4):SQ->(V->β)->β :=
  @O4.rec (fun _ => SQ->(V->β)->β) Afo Aeu Ad0 Ad9 d
theorem SQ.selK_eq {β:Type} (d:O4) (p:SQ) (k:V->β):SQ.selK d p k=k (SQ.sel d p) := by
  cases d <;> cases p <;> rfl
def SQ.setK {β:Type} (d:O4):SQ->V->(SQ->β)->β :=
  @O4.rec (fun _ => SQ->V->(SQ->β)->β) Aed Aej Aee Abe d
def SQ.setS (d:O4) (p:SQ) (v:V):SQ := SQ.setK d p v id
theorem SQ.setK_eq {β:Type} (d:O4) (p:SQ) (v:V) (k:SQ->β):SQ.setK d p v k=k (SQ.setS d p v) := by
  cases d <;> cases p <;> rfl
theorem SQ.sel_setS_same (d:O4) (p:SQ) (v:V):SQ.sel d (SQ.setS d p v)=v := by
  cases d <;> cases p <;> rfl
theorem SQ.sel_setS_ne {d e:O4} (p:SQ) (v:V) (h:d≠e):SQ.sel e (SQ.setS d p v)=SQ.sel e p := by
  cases p; cases d <;> cases e <;> first | rfl | exact absurd rfl h
theorem SQ.sel_all (d:O4) (x:V):SQ.sel d (SQ.all x)=x := by cases d <;> rfl
/-- The registers that are kept when code is run. -/
inductive S where
  | mk (c0 c1 c2 c3 c4 c5 c6 c7:SQ)
def S.all (x:SQ):S := .mk x x x x x x x x
def S.sel (d:O8) (p:S):SQ :=
  @S.rec (fun _ => SQ) (fun c0 c1 c2 c3 c4 c5 c6 c7 => @O8.rec (fun _ => SQ) c0 c1 c2 c3 c4 c5 c6 c7 d) p
def Af3 {β:Type} (p:S) (v:SQ) (k:S->β):β := @S.rec (fun _ => β) (fun c0 c1 c2 c3 c4 c5 c6 c7 => k (.mk v c1 c2 c3 c4 c5 c6 c7)) p
def Afu {β:Type} (p:S) (v:SQ) (k:S->β):β := @S.rec (fun _ => β) (fun c0 c1 c2 c3 c4 c5 c6 c7 => k (.mk c0 v c2 c3 c4 c5 c6 c7)) p
def Ace {β:Type} (p:S) (v:SQ) (k:S->β):β := @S.rec (fun _ => β) (fun c0 c1 c2 c3 c4 c5 c6 c7 => k (.mk c0 c1 v c3 c4 c5 c6 c7)) p
def Aev {β:Type} (p:S) (v:SQ) (k:S->β):β := @S.rec (fun _ => β) (fun c0 c1 c2 c3 c4 c5 c6 c7 => k (.mk c0 c1 c2 v c4 c5 c6 c7)) p
def Afy {β:Type} (p:S) (v:SQ) (k:S->β):β := @S.rec (fun _ => β) (fun c0 c1 c2 c3 c4 c5 c6 c7 => k (.mk c0 c1 c2 c3 v c5 c6 c7)) p
def Ad3 {β:Type} (p:S) (v:SQ) (k:S->β):β := @S.rec (fun _ => β) (fun c0 c1 c2 c3 c4 c5 c6 c7 => k (.mk c0 c1 c2 c3 c4 v c6 c7)) p
def Ac2 {β:Type} (p:S) (v:SQ) (k:S->β):β := @S.rec (fun _ => β) (fun c0 c1 c2 c3 c4 c5 c6 c7 => k (.mk c0 c1 c2 c3 c4 c5 v c7)) p
def Ag2 {β:Type} (p:S) (v:SQ) (k:S->β):β := @S.rec (fun _ => β) (fun c0 c1 c2 c3 c4 c5 c6 c7 => k (.mk c0 c1 c2 c3 c4 c5 c6 v)) p
def Ady {β:Type} (p:S) (k:SQ->β):β := @S.rec (fun _ => β) (fun c0 c1 c2 c3 c4 c5 c6 c7 => k c0) p
def Afs {β:Type} (p:S) (k:SQ->β):β := @S.rec (fun _ => β) (fun c0 c1 c2 c3 c4 c5 c6 c7 => k c1) p
def Aeh {β:Type} (p:S) (k:SQ->β):β := @S.rec (fun _ => β) (fun c0 c1 c2 c3 c4 c5 c6 c7 => k c2) p
def Ac7 {β:Type} (p:S) (k:SQ->β):β := @S.rec (fun _ => β) (fun c0 c1 c2 c3 c4 c5 c6 c7 => k c3) p
def Acl {β:Type} (p:S) (k:SQ->β):β := @S.rec (fun _ => β) (fun c0 c1 c2 c3 c4 c5 c6 c7 => k c4) p
def Abi {β:Type} (p:S) (k:SQ->β):β := @S.rec (fun _ => β) (fun c0 c1 c2 c3 c4 c5 c6 c7 => k c5) p
def Acc {β:Type} (p:S) (k:SQ->β):β := @S.rec (fun _ => β) (fun c0 c1 c2 c3 c4 c5 c6 c7 => k c6) p
def Aem {β:Type} (p:S) (k:SQ->β):β := @S.rec (fun _ => β) (fun c0 c1 c2 c3 c4 c5 c6 c7 => k c7) p
def S.selK {β:Type} (d:O8):S->(SQ->β)->β :=
  @O8.rec (fun _ => S->(SQ->β)->β) Ady Afs Aeh Ac7 Acl Abi Acc Aem d
theorem S.selK_eq {β:Type} (d:O8) (p:S) (k:SQ->β):S.selK d p k=k (S.sel d p) := by
  cases d <;> cases p <;> rfl
def S.setK {β:Type} (d:O8):S->SQ->(S->β)->β :=
  @O8.rec (fun _ => S->SQ->(S->β)->β) Af3 Afu Ace Aev Afy Ad3 Ac2 Ag2 d
def S.setS (d:O8) (p:S) (v:SQ):S := S.setK d p v id
theorem S.setK_eq {β:Type} (d:O8) (p:S) (v:SQ) (k:S->β):S.setK d p v k=k (S.setS d p v) := by
  cases d <;> cases p <;> rfl
theorem S.sel_setS_same (d:O8) (p:S) (v:SQ):S.sel d (S.setS d p v)=v := by
  cases d <;> cases p <;> rfl
theorem S.sel_setS_ne {d e:O8} (p:S) (v:SQ) (h:d≠e):S.sel e (S.setS d p v)=S.sel e p := by
  cases p; cases d <;> cases e <;> first | rfl | exact absurd rfl h
theorem S.sel_all (d:O8) (x:SQ):S.sel d (S.all x)=x := by cases d <;> rfl
end Go.Ev

namespace Go.Ev
set_option linter.unusedVariables false
def K4.toN (p:K4):Nat := p.a.toN*4096+p.b.toN*256+p.c.toN*16+p.d.toN
theorem K4.toN_inj {p q:K4} (h:p.toN=q.toN):p=q := by
  obtain ⟨a, b, c, d⟩ := p
  obtain ⟨a', b', c', d'⟩ := q
  simp only [K4.toN] at h
  have := a.toN_lt; have := b.toN_lt; have := c.toN_lt; have := d.toN_lt
  have := a'.toN_lt; have := b'.toN_lt; have := c'.toN_lt; have := d'.toN_lt
  have ha:a=a' := D.toN_inj (by omega)
  have hb:b=b' := D.toN_inj (by omega)
  have hc:c=c' := D.toN_inj (by omega)
  have hd:d=d' := D.toN_inj (by omega)
  subst ha hb hc hd; rfl
def K4.beq (p q:K4):Bool := and (p.d.beq q.d) (and (p.c.beq q.c) (and (p.b.beq q.b) (p.a.beq q.a)))
theorem K4.beq_iff {p q:K4}:p.beq q=true ↔ p=q := by
  obtain ⟨a, b, c, d⟩ := p
  obtain ⟨a', b', c', d'⟩ := q
  simp only [K4.beq, Bool.and_eq_true, D.beq_iff, K4.mk.injEq]
  constructor
  · rintro ⟨rfl, rfl, rfl, rfl⟩; exact ⟨rfl, rfl, rfl, rfl⟩
  · rintro ⟨rfl, rfl, rfl, rfl⟩; exact ⟨rfl, rfl, rfl, rfl⟩
inductive Ex where
  | nrm
  | exit (id:Nat)
  | ret
/-- What a piece of the run comes to: an exit with its registers, heap and next place; a value of a call; or nothing that is Gz. -/
inductive R where
  | ok (e:Ex) (t:S) (h:Heap) (n:K4)
  | rv (v:V) (h:Heap) (n:K4)
  | fail (why:String)
  | both (a b:R)
abbrev KV := V->Heap->K4->R
def Ag (p:K4) (h:Heap):Option Ob := HA.sel p.d (HB.sel p.c (HC.sel p.b (Heap.sel p.a h)))
def Tp {β:Type} (p:K4) (h:Heap) (κ:Option Ob->β):β :=
  @K4.rec (fun _ => β) (fun a b c d => Heap.selK a h fun x => HC.selK b x fun y => HB.selK c y fun z => HA.selK d z κ) p
theorem EI {β:Type} (p:K4) (h:Heap) (κ:Option Ob->β):Tp p h κ=κ (Ag p h) := by
  cases p; simp only [Tp, Heap.selK_eq, HC.selK_eq, HB.selK_eq, HA.selK_eq, Ag]
def H6 {β:Type} (p:K4) (h:Heap) (o:Option Ob) (k:Heap->β):β :=
  @K4.rec (fun _ => β) (fun a b c d => Heap.selK a h fun x => HC.selK b x fun y => HB.selK c y fun z =>
    HA.setK d z o fun z => HB.setK c y z fun y => HC.setK b x y fun x => Heap.setK a h x k) p
def B0 (p:K4) (h:Heap) (o:Option Ob):Heap := H6 p h o id
theorem Dm {β:Type} (p:K4) (h:Heap) (o:Option Ob) (k:Heap->β):H6 p h o k=k (B0 p h o) := by
  cases p; simp only [H6, B0, Heap.setK_eq, HC.setK_eq, HB.setK_eq, HA.setK_eq, Heap.selK_eq, HC.selK_eq, HB.selK_eq]; rfl
theorem A6 (p:K4) (h:Heap) (o:Option Ob):Ag p (B0 p h o)=o := by
  cases p; simp only [Ag, B0, H6, Heap.setK_eq, HC.setK_eq, HB.setK_eq, HA.setK_eq, Heap.selK_eq, HC.selK_eq, HB.selK_eq, HA.selK_eq, id, Heap.sel_setS_same, HC.sel_setS_same, HB.sel_setS_same, HA.sel_setS_same]
theorem A7 {p q:K4} (h:Heap) (o:Option Ob) (hne:p≠q):Ag q (B0 p h o)=Ag q h := by
  obtain ⟨a, b, c, d⟩ := p
  obtain ⟨a', b', c', d'⟩ := q
  simp only [Ag, B0, H6, Heap.setK_eq, HC.setK_eq, HB.setK_eq, HA.setK_eq, Heap.selK_eq, HC.selK_eq, HB.selK_eq, HA.selK_eq, id]
  by_cases ha:a=a'
  · subst ha
    rw [Heap.sel_setS_same]
    by_cases hb:b=b'
    · subst hb
      rw [HC.sel_setS_same]
      by_cases hc:c=c'
      · subst hc
        rw [HB.sel_setS_same]
        by_cases hd:d=d'
        · subst hd; exact absurd rfl hne
        · rw [HA.sel_setS_ne _ _ hd]
      · rw [HB.sel_setS_ne _ _ hc]
    · rw [HC.sel_setS_ne _ _ hb]
  · rw [Heap.sel_setS_ne _ _ ha]
def Dd:Heap := Heap.all (HC.all (HB.all (HA.all none)))
theorem Ha (p:K4):Ag p Dd=none := by simp only [Ag, Dd, Heap.sel_all, HC.sel_all, HB.sel_all, HA.sel_all]
/-- The next place. -/
def K4.nx (p:K4) (k:K4->R):R :=
  @K4.rec (fun _ => R) (fun a b c d => d.nx (fun d => k ⟨a, b, c, d⟩)
    (c.nx (fun c => k ⟨a, b, c, .d0⟩)
      (b.nx (fun b => k ⟨a, b, .d0, .d0⟩)
        (a.nx (fun a => k ⟨a, .d0, .d0, .d0⟩) (.fail ""))))) p
theorem K4.nx_eq (p:K4) (k:K4->R):(∃ w, p.nx k = .fail w) ∨ ∃ q:K4, q.toN=p.toN+1∧p.nx k=k q := by
  obtain ⟨a, b, c, d⟩ := p
  simp only [K4.nx, K4.toN]
  have hd0:D.d0.toN=0 := rfl
  rcases d.nx_eq (fun d => k ⟨a, b, c, d⟩) (c.nx (fun c => k ⟨a, b, c, .d0⟩) (b.nx (fun b => k ⟨a, b, .d0, .d0⟩) (a.nx (fun a => k ⟨a, .d0, .d0, .d0⟩) (.fail "")))) with ⟨h, hd⟩ | ⟨e, he, h⟩
  · rw [h]
    rcases c.nx_eq (fun c => k ⟨a, b, c, .d0⟩) (b.nx (fun b => k ⟨a, b, .d0, .d0⟩) (a.nx (fun a => k ⟨a, .d0, .d0, .d0⟩) (.fail ""))) with ⟨h, hc⟩ | ⟨e, he, h⟩
    · rw [h]
      rcases b.nx_eq (fun b => k ⟨a, b, .d0, .d0⟩) (a.nx (fun a => k ⟨a, .d0, .d0, .d0⟩) (.fail "")) with ⟨h, hb⟩ | ⟨e, he, h⟩
      · rw [h]
        rcases a.nx_eq (fun a => k ⟨a, .d0, .d0, .d0⟩) (.fail "") with ⟨h, ha⟩ | ⟨e, he, h⟩
        · exact .inl ⟨_, h⟩
        · exact .inr ⟨⟨e, .d0, .d0, .d0⟩, by simp only [he]; omega, h⟩
      · exact .inr ⟨⟨a, e, .d0, .d0⟩, by simp only [he]; omega, h⟩
    · exact .inr ⟨⟨a, b, e, .d0⟩, by simp only [he]; omega, h⟩
  · exact .inr ⟨⟨a, b, c, e⟩, by simp only [he]; omega, h⟩
/-- Sixteen places are passed by: the place behind them begins a sixteen. -/
def K4.nx16 (p:K4) (k:K4->R):R :=
  @K4.rec (fun _ => R) (fun a b c d => c.nx (fun c => k ⟨a, b, c, .d0⟩)
    (b.nx (fun b => k ⟨a, b, .d0, .d0⟩)
      (a.nx (fun a => k ⟨a, .d0, .d0, .d0⟩) (.fail "")))) p
/-- The place in its sixteen. -/
def K4.at (p:K4) (j:D) (k:K4->R):R := @K4.rec (fun _ => R) (fun a b c _ => k ⟨a, b, c, j⟩) p
theorem K4.at_eq (p:K4) (j:D) (k:K4->R):p.at j k=k ⟨p.a, p.b, p.c, j⟩ := by cases p; rfl
theorem K4.nx16_eq (p:K4) (k:K4->R):(∃ w, p.nx16 k = .fail w) ∨ ∃ q:K4, q.toN=(p.a.toN*256+p.b.toN*16+p.c.toN+1)*16∧q.d = .d0∧p.nx16 k=k q := by
  obtain ⟨a, b, c, d⟩ := p
  simp only [K4.nx16, K4.toN]
  have hd0:D.d0.toN=0 := rfl
  rcases c.nx_eq (fun c => k ⟨a, b, c, .d0⟩) (b.nx (fun b => k ⟨a, b, .d0, .d0⟩) (a.nx (fun a => k ⟨a, .d0, .d0, .d0⟩) (.fail ""))) with ⟨h, hc⟩ | ⟨e, he, h⟩
  · rw [h]
    rcases b.nx_eq (fun b => k ⟨a, b, .d0, .d0⟩) (a.nx (fun a => k ⟨a, .d0, .d0, .d0⟩) (.fail "")) with ⟨h, hb⟩ | ⟨e, he, h⟩
    · rw [h]
      rcases a.nx_eq (fun a => k ⟨a, .d0, .d0, .d0⟩) (.fail "") with ⟨h, ha⟩ | ⟨e, he, h⟩
      · exact .inl ⟨_, h⟩
      · exact .inr ⟨⟨e, .d0, .d0, .d0⟩, by simp only [he]; omega, rfl, h⟩
    · exact .inr ⟨⟨a, e, .d0, .d0⟩, by simp only [he]; omega, rfl, h⟩
  · exact .inr ⟨⟨a, b, e, .d0⟩, by simp only [he]; omega, rfl, h⟩
structure K2 where
  a:D
  b:D
def Ec:V := .tup []
def HU:S := S.all (SQ.all Ec)
def Dx (p:K2) (t:Regs):V := VP.sel p.b (Regs.sel p.a t)
def Kn {β:Type} (p:K2) (t:Regs) (κ:V->β):β :=
  @K2.rec (fun _ => β) (fun a b => Regs.selK a t fun x => VP.selK b x κ) p
theorem Fh {β:Type} (p:K2) (t:Regs) (κ:V->β):Kn p t κ=κ (Dx p t) := by
  cases p; simp only [Kn, Regs.selK_eq, VP.selK_eq, Dx]
def Qe {β:Type} (p:K2) (t:Regs) (v:V) (k:Regs->β):β :=
  @K2.rec (fun _ => β) (fun a b => Regs.selK a t fun x => VP.setK b x v fun x => Regs.setK a t x k) p
def Hg (p:K2) (t:Regs) (v:V):Regs := Qe p t v id
theorem Qh {β:Type} (p:K2) (t:Regs) (v:V) (k:Regs->β):Qe p t v k=k (Hg p t v) := by
  cases p; simp only [Qe, Hg, Regs.setK_eq, VP.setK_eq, Regs.selK_eq, VP.selK_eq]; rfl
theorem Dp (p:K2) (t:Regs) (v:V):Dx p (Hg p t v)=v := by
  cases p; simp only [Dx, Hg, Qe, Regs.setK_eq, VP.setK_eq, Regs.selK_eq, VP.selK_eq, id, Regs.sel_setS_same, VP.sel_setS_same]
theorem E8 {p q:K2} (t:Regs) (v:V) (hne:p≠q):Dx q (Hg p t v)=Dx q t := by
  obtain ⟨a, b⟩ := p
  obtain ⟨a', b'⟩ := q
  simp only [Dx, Hg, Qe, Regs.setK_eq, VP.setK_eq, Regs.selK_eq, VP.selK_eq, id]
  by_cases ha:a=a'
  · subst ha
    rw [Regs.sel_setS_same]
    by_cases hb:b=b'
    · subst hb; exact absurd rfl hne
    · rw [VP.sel_setS_ne _ _ hb]
  · rw [Regs.sel_setS_ne _ _ ha]
def ME:Regs := Regs.all (VP.all Ec)
theorem Rz (p:K2):Dx p ME=Ec := by simp only [Dx, ME, Regs.sel_all, VP.sel_all]
/-- The place of a register's number. -/
def K2.ofN (n:Nat):Option K2 := if n<256 then some ⟨D.ofN (n / 16), D.ofN (n % 16)⟩ else none
theorem K2.ofN_inj {m n:Nat} {p:K2} (h:K2.ofN m=some p) (h':K2.ofN n=some p):m=n := by
  unfold K2.ofN at h h'
  split at h
  · split at h'
    · simp only [Option.some.injEq] at h h'
      rw [←h] at h'
      simp only [K2.mk.injEq] at h'
      have h1 := congrArg D.toN h'.1
      have h2 := congrArg D.toN h'.2
      rw [D.toN_ofN _ (by omega), D.toN_ofN _ (by omega)] at h1
      rw [D.toN_ofN _ (by omega), D.toN_ofN _ (by omega)] at h2
      omega
    · simp at h'
  · simp at h
theorem K2.ofN_lt {n:Nat} {p:K2} (h:K2.ofN n=some p):n<256 := by
  unfold K2.ofN at h; split at h
  · assumption
  · simp at h
end Go.Ev

namespace Go.Ev
set_option linter.unusedVariables false
def br {β:Type} (c:Bool) (t f:β):β := @Bool.rec (fun _ => β) f t c
theorem AG {β:Type} (t f:β):br true t f=t := rfl
theorem CB {β:Type} (t f:β):br false t f=f := rfl
def Ah {β:Type} (n:Nat) (k:Nat->β):β := @Nat.rec (fun _ => β) (k 0) (fun m _ => k (Nat.succ m)) n
theorem A9 {β:Type} (n:Nat) (k:Nat->β):Ah n k=k n := by cases n <;> rfl
def Er {β:Type} (b:Bool) (k:Bool->β):β := @Bool.rec (fun _ => β) (k false) (k true) b
theorem Dr {β:Type} (b:Bool) (k:Bool->β):Er b k=k b := by cases b <;> rfl
/-- A result that is Gz. -/
def R.good:R->Prop
  | .fail _ => False
  | _ => True
theorem AJ {c:Bool} {t:R} {s:String} (h:(br c t (.fail s)).good):c=true∧br c t (.fail s)=t := by
  cases c
  · exact h.elim
  · exact ⟨rfl, rfl⟩
theorem IB {c:Bool} {t:R} {s:String} (h:(br c (.fail s) t).good):c=false∧br c (.fail s) t=t := by
  cases c
  · exact ⟨rfl, rfl⟩
  · exact h.elim
def Mk (k:IntKind):Nat := @IntKind.rec (fun _ => Nat) 256 65536 4294967296 18446744073709551616 256 65536 4294967296 18446744073709551616 k
def Hk (k:IntKind):Nat := @IntKind.rec (fun _ => Nat) 128 32768 2147483648 9223372036854775808 256 65536 4294967296 18446744073709551616 k
def kix (k:IntKind):Nat := @IntKind.rec (fun _ => Nat) 0 1 2 3 4 5 6 7 k
def EE (k:IntKind) (r:Nat):Int := if r<Hk k then (r:Int) else (r:Int) - (Mk k:Int)
def Ds (k j:IntKind):Bool := Nat.beq (kix k) (kix j)
theorem Db {k j:IntKind}:Ds k j=true ↔ k=j := by
  cases k <;> cases j <;> simp [Ds, kix]
theorem Gu (k:IntKind):0<Mk k := by cases k <;> simp [Mk]
theorem Ji (k:IntKind):Hk k≤Mk k := by cases k <;> simp [Mk, Hk]
theorem Ho (k:IntKind):Mk k=2 ^ k.bits := by cases k <;> rfl
theorem J4 {k:IntKind} {z:Int} {r:Nat} (h:z % (Mk k:Int)=r):k.wrap z=EE k r := by
  cases k <;> simp [Mk, EE, Hk, IntKind.wrap, IntKind.bits, IntKind.signed] at h ⊢ <;> (repeat' split) <;> omega
theorem H3 (k:IntKind) (a:Nat):EE k a % (Mk k:Int)=((a % Mk k:Nat):Int) := by
  unfold EE
  split
  · exact (Int.natCast_emod a (Mk k)).symm
  · rw [Int.sub_emod_right]; exact (Int.natCast_emod a (Mk k)).symm
theorem CC {k:IntKind} {a:Nat} (h:a<Hk k):EE k a=a := by unfold EE; rw [if_pos h]
theorem EU {k:IntKind} {a:Nat} (h:¬ a<Hk k):EE k a=a - Mk k := by unfold EE; rw [if_neg h]
theorem Mv {k:IntKind} {a b:Nat} (ha:a<Mk k) (hb:b<Mk k) (h:EE k a=EE k b):a=b := by
  have h1 := H3 k a
  have h2 := H3 k b
  rw [h, h2, Nat.mod_eq_of_lt ha, Nat.mod_eq_of_lt hb] at h1
  omega
def Gx (k:IntKind) (a b:Nat):Bool :=
  br (Nat.ble (Hk k) a) (br (Nat.ble (Hk k) b) (Nat.ble (Nat.succ a) b) true) (br (Nat.ble (Hk k) b) false (Nat.ble (Nat.succ a) b))
theorem Ap {a b:Nat}:Nat.ble a b=true ↔ a≤b := ⟨Nat.le_of_ble_eq_true, Nat.ble_eq_true_of_le⟩
theorem Df {a b:Nat} (h:b<a):Nat.ble a b=false := Bool.eq_false_iff.2 (fun e => by have := Ap.1 e; omega)
theorem Aa (a b:Nat):Nat.ble a b=decide (a≤b) := by rw [Bool.eq_iff_iff, Ap]; simp
theorem Hs {k:IntKind} {a b:Nat} (ha:a<Mk k) (hb:b<Mk k):Gx k a b=decide (EE k a<EE k b) := by
  have hH := Ji k
  unfold Gx
  by_cases h1:Hk k≤a
  · rw [Ap.2 h1, AG, EU (by omega)]
    by_cases h2:Hk k≤b
    · rw [Ap.2 h2, AG, EU (by omega), Aa]; apply decide_eq_decide.2; omega
    · rw [Df (by omega), CB, CC (by omega)]; symm; apply decide_eq_true; omega
  · rw [Df (by omega), CB, CC (by omega)]
    by_cases h2:Hk k≤b
    · rw [Ap.2 h2, AG, EU (by omega)]; symm; apply decide_eq_false; omega
    · rw [Df (by omega), CB, CC (by omega), Aa]; apply decide_eq_decide.2; omega
def CJ:List UInt8->Nat
  | [] => 0
  | b::l => b.toNat+256*CJ l
theorem SY (l:List UInt8):CJ l<256 ^ l.length := by
  induction l with
  | nil => simp [CJ]
  | cons b l ih =>
    have := b.toNat_lt
    simp only [CJ, List.length_cons, Nat.pow_succ]
    omega
theorem Jt (a b:List UInt8):CJ (a++b)=CJ a+256 ^ a.length*CJ b := by
  induction a with
  | nil => simp [CJ]
  | cons x a ih => simp only [List.cons_append, CJ, ih, List.length_cons, Nat.pow_succ, Nat.mul_add, Nat.mul_assoc, Nat.add_assoc]; rw [Nat.mul_left_comm]
theorem KX {a b:List UInt8} (hl:a.length=b.length) (h:CJ a=CJ b):a=b := by
  induction a generalizing b with
  | nil => cases b with
    | nil => rfl
    | cons => simp at hl
  | cons x a ih =>
    cases b with
    | nil => simp at hl
    | cons y b =>
      simp only [CJ] at h
      have hx := x.toNat_lt; have hy := y.toNat_lt
      have h1:x.toNat=y.toNat := by omega
      have h2:CJ a=CJ b := by omega
      rw [ih (by simpa using hl) h2, UInt8.toNat_inj.1 h1]
theorem L4 (l:List UInt8):∀ n, CJ l / 256 ^ n=CJ (l.drop n) := by
  intro n
  induction n generalizing l with
  | zero => simp
  | succ n ih =>
    cases l with
    | nil => simp [CJ]
    | cons b l =>
      have := b.toNat_lt
      rw [Nat.pow_succ, Nat.mul_comm, ←Nat.div_div_eq_div_mul]
      have:CJ (b::l) / 256=CJ l := by simp only [CJ]; omega
      rw [this, ih, List.drop_succ_cons]
theorem L8 (l:List UInt8):∀ n, CJ l % 256 ^ n=CJ (l.take n) := by
  intro n
  have h := Jt (l.take n) (l.drop n)
  rw [List.take_append_drop] at h
  have hlt := SY (l.take n)
  by_cases hn:n≤l.length
  · have hlen:(l.take n).length=n := by simp [hn]
    rw [hlen] at h hlt
    rw [h, Nat.add_mul_mod_self_left, Nat.mod_eq_of_lt hlt]
  · rw [List.take_of_length_le (by omega)] at hlt ⊢
    exact Nat.mod_eq_of_lt (Nat.lt_of_lt_of_le hlt (Nat.pow_le_pow_right (by omega) (by omega)))
theorem Jw (l:List UInt8) (i:Nat) (h:i<l.length):(CJ l / 256 ^ i) % 256=l[i].toNat := by
  rw [L4, List.drop_eq_getElem_cons h]
  have := l[i].toNat_lt
  simp only [CJ]; omega
/-- c without its first i bytes. -/
def sh (c i:Nat):Nat := Nat.shiftRight c (Nat.mul 8 i)
theorem GA (c i:Nat):sh c i=c / 256 ^ i := by
  show c >>> (8*i)=_
  rw [Nat.shiftRight_eq_div_pow, Nat.pow_mul]
/-- Its first i bytes. -/
def lo (c i:Nat):Nat := Nat.mod c (Nat.pow 256 i)
theorem FX (c i:Nat):lo c i=c % 256 ^ i := rfl
/-- i bytes further on. -/
def up (c i:Nat):Nat := Nat.shiftLeft c (Nat.mul 8 i)
theorem Tk (c i:Nat):up c i=256 ^ i*c := by
  show c <<< (8*i)=_
  rw [Nat.shiftLeft_eq, Nat.pow_mul, Nat.mul_comm]
/-- The code of a function that ranges over a function and appends what comes: the round's parameter, the box of its slice, how many registers. -/
structure ApC where
  asg:Code
  bod:Code
  par:Nat
  box:Nat
  ntm:Nat
/-- What the symbols stand for; the functions that range over a function; blocks that stay as they are. -/
structure Env where
  v:Nat->Value
  ap:Nat->Option ApC
  gl:Nat->Option (Array Value×TypeId×(Nat×Nat)) := fun _ => none
abbrev Dh := K4->Option (Nat×Nat×Nat)
def EG:Nl->Value
  | .ptr => .pointer none
  | .sl => .slice none 0 0
  | .map => .map none
  | .fn => .nilFunc
  | .iface => .nilIface
/-- A bool that is told: the bit j of i's lowest 32. -/
def Tt (i j:Nat):Bool := Nat.beq (Nat.mod (Nat.div (Nat.mod i 4294967296) (Nat.pow 2 j)) 2) 1
def Yc (i:Nat):Nat := Nat.div (Nat.sub i 73786976294838206464) 281474976710656
def tdN (i:Nat):Nat := Nat.mod (Nat.div (Nat.sub i 73786976294838206464) 1099511627776) 256
def tdD (i j:Nat):Nat := Nat.mod (Nat.div (Nat.mod (Nat.sub i 73786976294838206464) 1099511627776) (Nat.pow (Yc i) j)) (Yc i)
def Lu (i:Nat):Nat := Nat.mod (Nat.div (Nat.sub i 36893488147419103233) 65536) 65536
def Zg (i:Nat):Nat := Nat.div (Nat.sub i 36893488147419103233) 4294967296
def T6 (i:Nat):Nat := Nat.mod (Nat.sub i 36893488147419103233) 65536
/-- A cell that stays: some bool (i=0), a symbol, a bool of which the first ones are told (2^64+their number*2^32+their bits), some integer (from 2^65), an integer told by its remainder (from 2^66). -/
def NV (ρ:Env) (i j:Nat) (y:Value):Prop := (i=0 ∧ ∃ b, y = .bool b)∨(1≤i∧i<18446744073709551616∧y=ρ.v (i+j) ∧ ∃ r, r<Mk .i64∧y = .int .i64 (EE .i64 r)) ∨
  (18446744073709551616≤i∧i<36893488147419103232 ∧ ∃ b, y = .bool b∧(j<(i - 18446744073709551616) / 4294967296->b=Tt i j))∨(36893488147419103232≤i∧i<73786976294838206464 ∧ ∃ r, r<Mk .i64∧y = .int .i64 (EE .i64 r)∧(36893488147419103232<i->j=Zg i->(EE .i64 r).tmod (Lu i:Nat)+(Lu i:Nat)=(T6 i:Nat))) ∨
  (73786976294838206464≤i ∧ ∃ z:Int, y = .int .i64 z ∧ -9223372036854775808≤z∧z<9223372036854775808∧(j<tdN i->z.natAbs % Yc i=tdD i j))
/-- What is told of memory that stays. -/
def HX (ρ:Env):RV->Value->Prop
  | .i k r, x => r<Mk k∧x = .int k (EE k r)
  | .b b, x => x = .bool b
  | .s n c, x => ∃ s:ByteArray, x = .string s∧s.size=n∧CJ s.data.toList=c
  | .y n c, x => ∃ a cap, x = .slice (some a) n cap∧n≤cap∧c<256 ^ n∧(0<n->∃ b o ce e fr, a=⟨b, o, none⟩∧ρ.gl b=some (ce, e, fr) ∧ ∀ j, j<n->ce[o+j]? = some (.int .u8 ((c / 256 ^ j % 256:Nat):Int)))
  | .nl, x => x = .slice none 0 0
def T8 (ρ:Env) (l:List RV) (ce:Array Value) (o:Nat):Prop := ∀ j v, l[j]? = some v->∃ y, ce[o+j]? = some y∧HX ρ v y
def RV.v:RV->V
  | .i k r => .int k r
  | .b q => .bool q
  | .s n c => .str n c
  | .y n c => .oth (.rb n c)
  | .nl => .nil .sl
section
variable (ρ:Env) (φ:Dh)
mutual
def CD:V->Value->Prop
  | .int k r, x => r<Mk k∧x = .int k (EE k r)
  | .bool b, x => x = .bool b
  | .ptr p off, x => ∃ b s tot, φ p=some (b, s, tot)∧x = .pointer (some ⟨b, s+off, none⟩)
  | .sl p off len cap ex esz, x => ∃ b s tot o cap', φ p=some (b, s, tot)∧x = .slice (some ⟨b, o, none⟩) len cap'∧len≤cap∧cap≤cap' ∧
      (ex=true->cap'=cap)∧(0<cap'->o=s+off∧o+cap'*esz≤tot)
  | .str n c, x => ∃ s:ByteArray, x = .string s∧s.size=n∧CJ s.data.toList=c
  | .agg l, x => ∃ cs:Array Value, x = .agg cs∧E5 l cs.toList ∧ ∀ y∈cs.toList, y.oneCell'=true
  | .nil w, x => x=EG w
  | .map p, x => ∃ b s tot, φ p=some (b, s, tot)∧x = .map (some b)
  | .fn f caps, x => ∃ cs:Array Value, x = .func (.func f) #[] cs∧E5 caps cs.toList
  | .tup l, x => ∃ cs:Array Value, x = .tuple cs∧E5 l cs.toList
  | .oth o, x => match o with | .any => True | .sym i => x=ρ.v i | .yl p => (∃ b s tot, φ p=some (b, s, tot)∧x = .func (.yield b) #[] #[]) | .no => False | .iv k lo hi => ∃ r, lo≤r∧r≤hi∧r<Mk k∧x = .int k (EE k r) | .os lo hi => ∃ p len cap, x = .slice p len cap∧lo≤len∧len≤hi∧len≤cap | .bl => ∃ b, x = .bool b | .rs m j => ∃ z:Int, x = .int .i64 z ∧ -9223372036854775808≤z∧z<9223372036854775808∧(m<36893488147419103232∧z.natAbs % (m % 18446744073709551616)=j∨(36893488147419103232≤m∧j % 18446744073709551616≤z.natAbs % (m % 18446744073709551616)∧z.natAbs % (m % 18446744073709551616)≤j / 18446744073709551616))∧(18446744073709551616≤m->m<36893488147419103232->0≤z)∧(73786976294838206464≤m->z<0) | .ss lo hi n c => ∃ s:ByteArray, x = .string s∧lo≤s.size∧s.size≤hi ∧ ¬ (s.size=n∧CJ s.data.toList=c) | .ro i lo hi z => ∃ b o len cap c e fr, x = .slice (some ⟨b, o, none⟩) len cap∧lo≤len∧len≤hi∧len≤cap∧ρ.gl b=some (c, e, fr) ∧ ∀ j, j<len*z->∃ y, c[o+j]? = some y∧NV ρ i j y | .ap i j m => ∃ b o c e fr, x = .pointer (some ⟨b, o, none⟩)∧ρ.gl b=some (c, e, fr) ∧ ∀ q, q<m->∃ y, c[o+q]? = some y∧NV ρ i (j+q) y | .sy k i => x=ρ.v i ∧ ∃ r, r<Mk k∧x = .int k (EE k r) | .rb n c => HX ρ (.y n c) x | .rx l m z => ∃ a cap, x = .slice (some a) m cap∧m≤cap∧l.length=m*z∧(0<m->∃ b o ce e fr, a=⟨b, o, none⟩∧ρ.gl b=some (ce, e, fr)∧T8 ρ l ce o) | .rp l => ∃ b o ce e fr, x = .pointer (some ⟨b, o, none⟩)∧ρ.gl b=some (ce, e, fr)∧T8 ρ l ce o
def E5:List V->List Value->Prop
  | [], l => l=[]
  | v::vs, l => ∃ y ys, l=y::ys∧CD v y∧E5 vs ys
end
end
theorem R3 {ρ:Env} {φ:Dh} {v:RV} {x:Value} (h:HX ρ v x):CD ρ φ v.v x := by
  cases v with
  | i k r => simpa only [CD, HX, RV.v] using h
  | b b => simpa only [CD, HX, RV.v] using h
  | s n c => simpa only [CD, HX, RV.v] using h
  | y n c => simpa only [CD, RV.v] using h
  | nl => simpa only [CD, HX, RV.v, EG] using h
end Go.Ev

namespace Go.Ev
abbrev Di {A0:Sort _} (s:String):A0->R := fun _ => .fail s
abbrev CN {A0 A1:Sort _} (s:String):A0->A1->R := fun _ _ => .fail s
abbrev Ey {A0 A1 A2:Sort _} (s:String):A0->A1->A2->R := fun _ _ _ => .fail s
abbrev HO {A0 A1 A2 A3:Sort _} (s:String):A0->A1->A2->A3->R := fun _ _ _ _ => .fail s
abbrev fF5 {A0 A1 A2 A3 A4:Sort _} (s:String):A0->A1->A2->A3->A4->R := fun _ _ _ _ _ => .fail s
abbrev Gg {A0 A1 A2 A3 A4 A5:Sort _} (s:String):A0->A1->A2->A3->A4->A5->R := fun _ _ _ _ _ _ => .fail s
set_option linter.unusedVariables false
def Gc (m:Nat):List V->(List V->R)->R :=
  @Nat.rec (fun _ => List V->(List V->R)->R) (fun _ k => k [])
    (fun _ ih xs k => @List.rec V (fun _ => R) (.fail "") (fun x ys _ => ih ys fun zs => k (x::zs)) xs) m
def GW (m:Nat):List V->(List V->R)->R :=
  @Nat.rec (fun _ => List V->(List V->R)->R) (fun xs k => k xs)
    (fun _ ih xs k => @List.rec V (fun _ => R) (.fail "") (fun _ ys _ => ih ys k) xs) m
def Gv (m:Nat):List V->(V->R)->R :=
  @Nat.rec (fun _ => List V->(V->R)->R) (fun xs k => @List.rec V (fun _ => R) (.fail "") (fun x _ _ => k x) xs)
    (fun _ ih xs k => @List.rec V (fun _ => R) (.fail "") (fun _ ys _ => ih ys k) xs) m
def HY (xs ys:List V):(List V->R)->R :=
  @List.rec V (fun _ => (List V->R)->R) (fun k => k ys) (fun x _ ih k => ih fun zs => k (x::zs)) xs
def Jl (xs:List V):(Nat->R)->R :=
  @List.rec V (fun _ => (Nat->R)->R) (fun k => k 0) (fun _ _ ih k => ih fun n => Ah (Nat.succ n) k) xs
theorem HR {m:Nat} {xs:List V} {k:List V->R} (h:(Gc m xs k).good):m≤xs.length∧Gc m xs k=k (xs.take m) := by
  induction m generalizing xs k with
  | zero => exact ⟨Nat.zero_le _, rfl⟩
  | succ m ih =>
    cases xs with
    | nil => exact h.elim
    | cons x xs =>
      have := ih (xs := xs) (k := fun zs => k (x::zs)) h
      exact ⟨by simpa using this.1, this.2⟩
theorem HI {m:Nat} {xs:List V} {k:List V->R} (h:(GW m xs k).good):m≤xs.length∧GW m xs k=k (xs.drop m) := by
  induction m generalizing xs with
  | zero => exact ⟨Nat.zero_le _, rfl⟩
  | succ m ih =>
    cases xs with
    | nil => exact h.elim
    | cons x xs =>
      have := ih (xs := xs) h
      exact ⟨by simpa using this.1, this.2⟩
theorem Hw {m:Nat} {xs:List V} {k:V->R} (h:(Gv m xs k).good):∃ v, xs[m]? = some v∧Gv m xs k=k v := by
  induction m generalizing xs with
  | zero =>
    cases xs with
    | nil => exact h.elim
    | cons x xs => exact ⟨x, rfl, rfl⟩
  | succ m ih =>
    cases xs with
    | nil => exact h.elim
    | cons x xs =>
      obtain ⟨v, h1, h2⟩ := ih (xs := xs) h
      exact ⟨v, by simpa using h1, h2⟩
theorem Hu (xs ys:List V) (k:List V->R):HY xs ys k=k (xs++ys) := by
  induction xs generalizing k with
  | nil => rfl
  | cons x xs ih => exact ih fun zs => k (x::zs)
theorem FL (xs:List V) (k:Nat->R):Jl xs k=k xs.length := by
  induction xs generalizing k with
  | nil => rfl
  | cons x xs ih => exact (ih fun n => Ah (Nat.succ n) k).trans (A9 _ _)
def Ki (v:V) (κ:IntKind->Nat->R):R :=
  @V.rec (fun _ => R) (fun _ => Unit) (fun k r => κ k r) (Di "") (CN "") (Gg "") (CN "") (CN "") (Di "") (Di "") (Ey "") (CN "") (Di "") () (fun _ _ _ _ => ()) v
def RE (v:V) (κ:Bool->R):R :=
  @V.rec (fun _ => R) (fun _ => Unit) (CN "") (fun b => κ b) (CN "") (Gg "") (CN "") (CN "") (Di "") (Di "") (Ey "") (CN "") (Di "") () (fun _ _ _ _ => ()) v
def MT (v:V) (κ:K4->Nat->R):R :=
  @V.rec (fun _ => R) (fun _ => Unit) (CN "") (Di "") (fun p off => κ p off) (Gg "") (CN "") (CN "") (Di "") (Di "") (Ey "") (CN "") (Di "") () (fun _ _ _ _ => ()) v
def GM (v:V) (κn:R) (κ:K4->Nat->Nat->Nat->Bool->Nat->R):R :=
  @V.rec (fun _ => R) (fun _ => Unit) (CN "") (Di "") (CN "") (fun p off len cap ex esz => κ p off len cap ex esz) (CN "") (CN "") (fun w => @Nl.rec (fun _ => R) (.fail "") κn (.fail "") (.fail "") (.fail "") w) (Di "") (Ey "") (CN "") (Di "") () (fun _ _ _ _ => ()) v
def Dy (v:V) (κ:Nat->Nat->R):R :=
  @V.rec (fun _ => R) (fun _ => Unit) (CN "") (Di "") (CN "") (Gg "") (fun n c => κ n c) (CN "") (Di "") (Di "") (Ey "") (CN "") (Di "") () (fun _ _ _ _ => ()) v
def asAgg (v:V) (κ:List V->R):R :=
  @V.rec (fun _ => R) (fun _ => Unit) (CN "") (Di "") (CN "") (Gg "") (CN "") (fun l _i => κ l) (Di "") (Di "") (Ey "") (CN "") (Di "") () (fun _ _ _ _ => ()) v
def N0 (v:V) (κ:List V->R):R :=
  @V.rec (fun _ => R) (fun _ => Unit) (CN "") (Di "") (CN "") (Gg "") (CN "") (CN "") (Di "") (Di "") (Ey "") (fun l _i => κ l) (Di "") () (fun _ _ _ _ => ()) v
def Gs (v:V) (κn:R) (κ:K4->R):R :=
  @V.rec (fun _ => R) (fun _ => Unit) (CN "") (Di "") (CN "") (Gg "") (CN "") (CN "") (fun w => @Nl.rec (fun _ => R) (.fail "") (.fail "") κn (.fail "") (.fail "") w) (fun p => κ p) (Ey "") (CN "") (Di "") () (fun _ _ _ _ => ()) v
def S8 (v:V) (κ:Nat->List V->R):R :=
  @V.rec (fun _ => R) (fun _ => Unit) (CN "") (Di "") (CN "") (Gg "") (CN "") (CN "") (Di "") (Di "") (fun f caps _i => κ f caps) (CN "") (Di "") () (fun _ _ _ _ => ()) v
def GO (v:V) (κ:List V->R):R :=
  @V.rec (fun _ => R) (fun _ => Unit) (fun _ _ => κ [v]) (fun _ => κ [v]) (fun _ _ => κ [v]) (fun _ _ _ _ _ _ => κ [v]) (fun _ _ => κ [v]) (fun l _i => κ l) (fun _ => κ [v]) (fun _ => κ [v]) (fun _ _ _ => κ [v]) (fun l _i => .fail "") (fun o => @Ot.rec (fun _ => R) (.fail "") (fun _ => κ [v]) (Di "") (.fail "") (fun _ _ _ => κ [v]) (fun _ _ => κ [v]) (κ [v]) (fun _ _ => κ [v]) (fun _ _ _ _ => κ [v]) (fun _ _ _ _ => κ [v]) (fun _ _ _ => κ [v]) (fun _ _ => κ [v]) (fun _ _ => κ [v]) (fun _ _ _ => κ [v]) (fun _ => κ [v]) o) () (fun _ _ _ _ => ()) v
/-- Is it a slice that is not looked into? -/
def osK (v:V) (κ:Nat->Nat->R) (e:R):R :=
  @V.rec (fun _ => R) (fun _ => Unit) (fun _ _ => e) (fun _ => e) (fun _ _ => e) (fun _ _ _ _ _ _ => e) (fun _ _ => e) (fun _ _ => e) (fun _ => e) (fun _ => e) (fun _ _ _ => e) (fun _ _ => e) (fun o => @Ot.rec (fun _ => R) e (fun _ => e) (fun _ => e) e (fun _ _ _ => e) (fun lo hi => κ lo hi) e (fun _ _ => e) (fun _ _ _ _ => e) (fun _ _ _ _ => e) (fun _ _ _ => e) (fun _ _ => e) (fun _ _ => e) (fun _ _ _ => e) (fun _ => e) o) () (fun _ _ _ _ => ()) v
theorem Ud (v:V) (κ:Nat->Nat->R) (e:R):(∃ lo hi, v = .oth (.os lo hi)∧osK v κ e=κ lo hi)∨osK v κ e=e := by
  cases v with
  | oth o => cases o with
    | os lo hi => exact .inl ⟨lo, hi, rfl, rfl⟩
    | _ => exact .inr rfl
  | _ => exact .inr rfl
/-- Is it an integer Gz by a remainder? -/
def rsK (v:V) (κ:Nat->Nat->R) (e:R):R :=
  @V.rec (fun _ => R) (fun _ => Unit) (fun _ _ => e) (fun _ => e) (fun _ _ => e) (fun _ _ _ _ _ _ => e) (fun _ _ => e) (fun _ _ => e) (fun _ => e) (fun _ => e) (fun _ _ _ => e) (fun _ _ => e) (fun o => @Ot.rec (fun _ => R) e (fun _ => e) (fun _ => e) e (fun _ _ _ => e) (fun _ _ => e) e (fun m j => κ m j) (fun _ _ _ _ => e) (fun _ _ _ _ => e) (fun _ _ _ => e) (fun _ _ => e) (fun _ _ => e) (fun _ _ _ => e) (fun _ => e) o) () (fun _ _ _ _ => ()) v
theorem U7 (v:V) (κ:Nat->Nat->R) (e:R):(∃ m j, v = .oth (.rs m j)∧rsK v κ e=κ m j)∨rsK v κ e=e := by
  cases v with
  | oth o => cases o with
    | rs m j => exact .inl ⟨m, j, rfl, rfl⟩
    | _ => exact .inr rfl
  | _ => exact .inr rfl
/-- Is it a text that is not looked into? -/
def Ww (v:V) (κ:Nat->Nat->Nat->Nat->R) (e:R):R :=
  @V.rec (fun _ => R) (fun _ => Unit) (fun _ _ => e) (fun _ => e) (fun _ _ => e) (fun _ _ _ _ _ _ => e) (fun _ _ => e) (fun _ _ => e) (fun _ => e) (fun _ => e) (fun _ _ _ => e) (fun _ _ => e) (fun o => @Ot.rec (fun _ => R) e (fun _ => e) (fun _ => e) e (fun _ _ _ => e) (fun _ _ => e) e (fun _ _ => e) (fun lo hi n c => κ lo hi n c) (fun _ _ _ _ => e) (fun _ _ _ => e) (fun _ _ => e) (fun _ _ => e) (fun _ _ _ => e) (fun _ => e) o) () (fun _ _ _ _ => ()) v
theorem LZ (v:V) (κ:Nat->Nat->Nat->Nat->R) (e:R):(∃ lo hi n c, v = .oth (.ss lo hi n c)∧Ww v κ e=κ lo hi n c)∨Ww v κ e=e := by
  cases v with
  | oth o => cases o with
    | ss lo hi n c => exact .inl ⟨lo, hi, n, c, rfl, rfl⟩
    | _ => exact .inr rfl
  | _ => exact .inr rfl
/-- A pointer, or what is not looked into. -/
def NS (v:V) (κ:K4->Nat->R) (κo:Ot->R):R :=
  @V.rec (fun _ => R) (fun _ => Unit) (CN "") (Di "") (fun p off => κ p off) (Gg "") (CN "") (CN "") (Di "") (Di "") (Ey "") (CN "") (fun o => κo o) () (fun _ _ _ _ => ()) v
/-- A slice, or what is not looked into. -/
def Gy (v:V) (κn:R) (κ:K4->Nat->Nat->Nat->Bool->Nat->R) (κo:Ot->R):R :=
  @V.rec (fun _ => R) (fun _ => Unit) (CN "") (Di "") (CN "") (fun p off len cap ex esz => κ p off len cap ex esz) (CN "") (CN "") (fun w => @Nl.rec (fun _ => R) (.fail "") κn (.fail "") (.fail "") (.fail "") w) (Di "") (Ey "") (CN "") (fun o => κo o) () (fun _ _ _ _ => ()) v
theorem KB {v:V} {κ:K4->Nat->R} {κo:Ot->R} (h:(NS v κ κo).good):(∃ p off, v = .ptr p off∧NS v κ κo=κ p off)∨(∃ o, v = .oth o∧NS v κ κo=κo o) := by
  cases v with
  | ptr p off => exact .inl ⟨p, off, rfl, rfl⟩
  | oth o => exact .inr ⟨o, rfl, rfl⟩
  | _ => exact h.elim
theorem Ie {v:V} {κn:R} {κ:K4->Nat->Nat->Nat->Bool->Nat->R} {κo:Ot->R} (h:(Gy v κn κ κo).good) :
    (v = .nil .sl∧Gy v κn κ κo=κn)∨(∃ p off len cap ex esz, v = .sl p off len cap ex esz∧Gy v κn κ κo=κ p off len cap ex esz)∨(∃ o, v = .oth o∧Gy v κn κ κo=κo o) := by
  cases v with
  | sl p off len cap ex esz => exact .inr (.inl ⟨p, off, len, cap, ex, esz, rfl, rfl⟩)
  | nil w => cases w with
    | sl => exact .inl ⟨rfl, rfl⟩
    | _ => exact h.elim
  | oth o => exact .inr (.inr ⟨o, rfl, rfl⟩)
  | _ => exact h.elim
def Yj (o:Ot) (κ:Nat->Nat->R) (e:R):R :=
  @Ot.rec (fun _ => R) e (fun _ => e) (fun _ => e) e (fun _ _ _ => e) (fun lo hi => κ lo hi) e (fun _ _ => e) (fun _ _ _ _ => e) (fun _ _ _ _ => e) (fun _ _ _ => e) (fun _ _ => e) (fun _ _ => e) (fun _ _ _ => e) (fun _ => e) o
def SJ (o:Ot) (κ:Nat->Nat->Nat->Nat->R) (e:R):R :=
  @Ot.rec (fun _ => R) e (fun _ => e) (fun _ => e) e (fun _ _ _ => e) (fun _ _ => e) e (fun _ _ => e) (fun _ _ _ _ => e) (fun i lo hi z => κ i lo hi z) (fun _ _ _ => e) (fun _ _ => e) (fun _ _ => e) (fun _ _ _ => e) (fun _ => e) o
def Uz (o:Ot) (κ:Nat->Nat->Nat->R) (e:R):R :=
  @Ot.rec (fun _ => R) e (fun _ => e) (fun _ => e) e (fun _ _ _ => e) (fun _ _ => e) e (fun _ _ => e) (fun _ _ _ _ => e) (fun _ _ _ _ => e) (fun i j m => κ i j m) (fun _ _ => e) (fun _ _ => e) (fun _ _ _ => e) (fun _ => e) o
def Yu (o:Ot) (κ:IntKind->Nat->R) (e:R):R :=
  @Ot.rec (fun _ => R) e (fun _ => e) (fun _ => e) e (fun _ _ _ => e) (fun _ _ => e) e (fun _ _ => e) (fun _ _ _ _ => e) (fun _ _ _ _ => e) (fun _ _ _ => e) (fun k i => κ k i) (fun _ _ => e) (fun _ _ _ => e) (fun _ => e) o
theorem S0 (o:Ot) (κ:IntKind->Nat->R) (e:R):(∃ k i, o = .sy k i∧Yu o κ e=κ k i)∨Yu o κ e=e := by
  cases o with
  | sy k i => exact .inl ⟨k, i, rfl, rfl⟩
  | _ => exact .inr rfl
def Kg (o:Ot) (κ:Nat->Nat->R) (e:R):R :=
  @Ot.rec (fun _ => R) e (fun _ => e) (fun _ => e) e (fun _ _ _ => e) (fun _ _ => e) e (fun _ _ => e) (fun _ _ _ _ => e) (fun _ _ _ _ => e) (fun _ _ _ => e) (fun _ _ => e) (fun n c => κ n c) (fun _ _ _ => e) (fun _ => e) o
def Mm (o:Ot) (κ:List RV->Nat->Nat->R) (e:R):R :=
  @Ot.rec (fun _ => R) e (fun _ => e) (fun _ => e) e (fun _ _ _ => e) (fun _ _ => e) e (fun _ _ => e) (fun _ _ _ _ => e) (fun _ _ _ _ => e) (fun _ _ _ => e) (fun _ _ => e) (fun _ _ => e) (fun l m z => κ l m z) (fun _ => e) o
def NI (o:Ot) (κ:List RV->R) (e:R):R :=
  @Ot.rec (fun _ => R) e (fun _ => e) (fun _ => e) e (fun _ _ _ => e) (fun _ _ => e) e (fun _ _ => e) (fun _ _ _ _ => e) (fun _ _ _ _ => e) (fun _ _ _ => e) (fun _ _ => e) (fun _ _ => e) (fun _ _ _ => e) (fun l => κ l) o
def VY (l:List RV) (κ:V->R):R := @List.rec RV (fun _ => R) (.fail "") (fun v _ _ => κ v.v) l
def GU {α:Type} (o:Option α):Bool := @Option.rec α (fun _ => Bool) false (fun _ => true) o
theorem F0 {v:V} {κ:IntKind->Nat->R} (h:(Ki v κ).good):∃ k r, v = .int k r∧Ki v κ=κ k r := by
  cases v with
  | int k r => exact ⟨k, r, rfl, rfl⟩
  | _ => exact h.elim
theorem HF {v:V} {κ:Bool->R} (h:(RE v κ).good):∃ b, v = .bool b∧RE v κ=κ b := by
  cases v with
  | bool b => exact ⟨b, rfl, rfl⟩
  | _ => exact h.elim
theorem FW {v:V} {κ:K4->Nat->R} (h:(MT v κ).good):∃ p off, v = .ptr p off∧MT v κ=κ p off := by
  cases v with
  | ptr p off => exact ⟨p, off, rfl, rfl⟩
  | _ => exact h.elim
theorem Gd {v:V} {κn:R} {κ:K4->Nat->Nat->Nat->Bool->Nat->R} (h:(GM v κn κ).good) :
    (v = .nil .sl∧GM v κn κ=κn) ∨ ∃ p off len cap ex esz, v = .sl p off len cap ex esz∧GM v κn κ=κ p off len cap ex esz := by
  cases v with
  | sl p off len cap ex esz => exact .inr ⟨p, off, len, cap, ex, esz, rfl, rfl⟩
  | nil w => cases w with
    | sl => exact .inl ⟨rfl, rfl⟩
    | _ => exact h.elim
  | _ => exact h.elim
theorem EC {v:V} {κ:Nat->Nat->R} (h:(Dy v κ).good):∃ n c, v = .str n c∧Dy v κ=κ n c := by
  cases v with
  | str n c => exact ⟨n, c, rfl, rfl⟩
  | _ => exact h.elim
theorem Fc {v:V} {κ:List V->R} (h:(asAgg v κ).good):∃ l, v = .agg l∧asAgg v κ=κ l := by
  cases v with
  | agg l => exact ⟨l, rfl, rfl⟩
  | _ => exact h.elim
theorem Ns {v:V} {κ:List V->R} (h:(N0 v κ).good):∃ l, v = .tup l∧N0 v κ=κ l := by
  cases v with
  | tup l => exact ⟨l, rfl, rfl⟩
  | _ => exact h.elim
theorem G6 {v:V} {κn:R} {κ:K4->R} (h:(Gs v κn κ).good) :
    (v = .nil .map∧Gs v κn κ=κn) ∨ ∃ p, v = .map p∧Gs v κn κ=κ p := by
  cases v with
  | map p => exact .inr ⟨p, rfl, rfl⟩
  | nil w => cases w with
    | map => exact .inl ⟨rfl, rfl⟩
    | _ => exact h.elim
  | _ => exact h.elim
theorem Og {v:V} {κ:Nat->List V->R} (h:(S8 v κ).good):∃ f caps, v = .fn f caps∧S8 v κ=κ f caps := by
  cases v with
  | fn f caps => exact ⟨f, caps, rfl, rfl⟩
  | _ => exact h.elim
/-- The cells of an abstract value. -/
def V.cl:V->List V
  | .agg l => l
  | v => [v]
/-- A value of one cell, or an aggregate. -/
def V.celled:V->Prop
  | .tup _ => False
  | .oth .any => False
  | .oth (.yl _) => False
  | .oth .no => False
  | _ => True
theorem I5 {v:V} {κ:List V->R} (h:(GO v κ).good):v.celled∧GO v κ=κ v.cl := by
  cases v with
  | tup l => exact h.elim
  | oth o => cases o with
    | any => exact h.elim
    | yl p => exact h.elim
    | no => exact h.elim
    | _ => exact ⟨trivial, rfl⟩
  | _ => exact ⟨trivial, rfl⟩
def Cs.at (cs:Cs) (i:Nat):Option V :=
  match cs with
  | .l xs => xs[i]?
  | .b n c => if i<n then some (.int .u8 (c / 256 ^ i % 256)) else none
def Cs.len:Cs->Nat
  | .l xs => xs.length
  | .b n _ => n
theorem Cs.at_lt {cs:Cs} {i:Nat} (h:i<cs.len):∃ v, cs.at i=some v := by
  cases cs with
  | l xs => exact ⟨xs[i], by simp [Cs.at, List.getElem?_eq_getElem h]⟩
  | b n c => exact ⟨_, if_pos h⟩
theorem Cs.at_none {cs:Cs} {i:Nat} (h:cs.len≤i):cs.at i=none := by
  cases cs with
  | l xs => simp only [Cs.at]; exact List.getElem?_eq_none h
  | b n c => exact if_neg (Nat.not_lt.2 h)
theorem Cs.lt_of_at {cs:Cs} {i:Nat} {v:V} (h:cs.at i=some v):i<cs.len := by
  rcases Nat.lt_or_ge i cs.len with h' | h'
  · exact h'
  · rw [Cs.at_none h'] at h; exact absurd h (by simp)
def Ht (cs:Cs) (i:Nat) (κ:V->R):R :=
  @Cs.rec (fun _ => R) (fun xs => Gv i xs κ) (fun n c => br (Nat.ble (Nat.succ i) n) (Ah (lo (sh c i) 1) fun r => κ (.int .u8 r)) (.fail "")) cs
theorem V0 (c i:Nat):lo (sh c i) 1=c / 256 ^ i % 256 := by rw [FX, GA]
theorem JY {cs:Cs} {i:Nat} {κ:V->R} (h:(Ht cs i κ).good):∃ v, cs.at i=some v∧Ht cs i κ=κ v := by
  cases cs with
  | l xs => exact Hw h
  | b n c =>
    obtain ⟨h1, h2⟩ := AJ (show R.good (br (Nat.ble (Nat.succ i) n) _ (.fail _)) from h)
    refine ⟨.int .u8 (c / 256 ^ i % 256), ?_, ?_⟩
    · exact if_pos (show i<n from Ap.1 h1)
    · show br (Nat.ble (Nat.succ i) n) _ _=_
      rw [h2, A9, V0]
theorem If (d i m:Nat) (hi:i<m):d % 256 ^ m / 256 ^ i % 256=d / 256 ^ i % 256 := by
  have hm:256 ^ m=256 ^ i*(256*256 ^ (m - i - 1)) := by
    rw [←Nat.pow_succ', ←Nat.pow_add]; congr 1; omega
  rw [hm, Nat.mod_mul_right_div_self, Nat.mod_mul_right_mod]
def Dt (cs:Cs) (off m:Nat) (κ:Cs->R):R :=
  @Cs.rec (fun _ => R) (fun xs => GW off xs fun ys => Gc m ys fun zs => κ (.l zs))
    (fun n c => br (Nat.ble (Nat.add off m) n) (Ah (lo (sh c off) m) fun r => κ (.b m r)) (.fail "")) cs
theorem Fb {cs:Cs} {off m:Nat} {κ:Cs->R} (h:(Dt cs off m κ).good) :
    off+m≤cs.len ∧ ∃ y:Cs, y.len=m∧(∀ i, i<m->y.at i=cs.at (off+i))∧Dt cs off m κ=κ y := by
  cases cs with
  | l xs =>
    obtain ⟨h1, e1⟩ := HI (h:(GW off xs _).good)
    have h':(Gc m (xs.drop off) fun zs => κ (.l zs)).good := by rw [←e1]; exact h
    obtain ⟨h2, e2⟩ := HR h'
    simp only [List.length_drop] at h2
    refine ⟨by simp only [Cs.len]; omega, .l ((xs.drop off).take m), by simp [Cs.len]; omega, fun i hi => ?_, e1.trans e2⟩
    simp [Cs.at, hi]
  | b n c =>
    obtain ⟨h1, h2⟩ := AJ (show R.good (br (Nat.ble (Nat.add off m) n) _ (.fail _)) from h)
    have h1:off+m≤n := Ap.1 h1
    refine ⟨h1, .b m (c / 256 ^ off % 256 ^ m), rfl, fun i hi => ?_, ?_⟩
    · simp only [Cs.at]
      rw [if_pos hi, if_pos (by omega)]
      congr 2
      rw [Nat.pow_add, ←Nat.div_div_eq_div_mul]
      generalize c / 256 ^ off=d
      exact (If d i m hi)
    · show br (Nat.ble (Nat.add off m) n) _ _=_
      rw [h2, A9, FX, GA]
end Go.Ev

namespace Go.Ev
set_option linter.unusedVariables false
theorem Cs.b_pos {n c i:Nat} (h:i<n):(Cs.b n c).at i=some (.int .u8 (c / 256 ^ i % 256)) := if_pos h
theorem Cs.b_neg {n c i:Nat} (h:¬ i<n):(Cs.b n c).at i=none := if_neg h
def O9 (v:V) (κ:Nat->R) (e:R):R :=
  @V.rec (fun _ => R) (fun _ => Unit) (fun k r => br (Ds k .u8) (br (Nat.ble r 255) (κ r) e) e) (fun _ => e) (fun _ _ => e) (fun _ _ _ _ _ _ => e) (fun _ _ => e) (fun _ _ => e) (fun _ => e) (fun _ => e) (fun _ _ _ => e) (fun _ _ => e) (fun _ => e) () (fun _ _ _ _ => ()) v
theorem VI (v:V) (κ:Nat->R) (e:R):O9 v κ e=e ∨ ∃ r, v = .int .u8 r∧r<256∧O9 v κ e=κ r := by
  cases v with
  | int k r =>
    by_cases hk:Ds k .u8=true
    · have := Db.1 hk
      subst this
      by_cases hr:Nat.ble r 255=true
      · refine .inr ⟨r, rfl, by have := Ap.1 hr; omega, ?_⟩
        show br (Ds .u8 .u8) (br (Nat.ble r 255) (κ r) e) e=_
        rw [hk, hr]; rfl
      · refine .inl ?_
        show br (Ds .u8 .u8) (br (Nat.ble r 255) (κ r) e) e=_
        rw [hk, Bool.eq_false_iff.2 hr]; rfl
    · refine .inl ?_
      show br (Ds k .u8) (br (Nat.ble r 255) (κ r) e) e=_
      rw [Bool.eq_false_iff.2 hk]; rfl
  | _ => exact .inl rfl
def Fi (xs:List V):(Nat->Nat->R)->R->R :=
  @List.rec V (fun _ => (Nat->Nat->R)->R->R) (fun κ _ => κ 0 0)
    (fun x _ ih κ e => O9 x (fun r => ih (fun n c => Ah (Nat.succ n) fun n => Ah (Nat.add r (Nat.mul 256 c)) fun c => κ n c) e) e) xs
theorem Nu (xs:List V):∀ (κ:Nat->Nat->R) (e:R), Fi xs κ e=e ∨ ∃ n c, Fi xs κ e=κ n c∧(Cs.b n c).len=xs.length∧(∀ i, (Cs.b n c).at i=xs[i]?)∧c<256 ^ n := by
  induction xs with
  | nil => exact fun κ e => .inr ⟨0, 0, rfl, rfl, fun i => by simp [Cs.at], by simp⟩
  | cons x xs ih =>
    intro κ e
    rcases VI x (fun r => Fi xs (fun n c => Ah (Nat.succ n) fun n => Ah (Nat.add r (Nat.mul 256 c)) fun c => κ n c) e) e with h | ⟨r, rfl, hr, h⟩
    · exact .inl h
    · rcases ih (fun n c => Ah (Nat.succ n) fun n => Ah (Nat.add r (Nat.mul 256 c)) fun c => κ n c) e with h' | ⟨n, c, h', hl, hc, hlt⟩
      · exact .inl (h.trans h')
      · refine .inr ⟨n+1, r+256*c, ?_, ?_, fun i => ?_, by rw [Nat.pow_succ]; omega⟩
        · refine (h.trans h').trans ?_
          rw [A9, A9]; rfl
        · simp only [Cs.len] at hl ⊢; simp [hl]
        · cases i with
          | zero =>
            simp only [Cs.at, List.getElem?_cons_zero]
            rw [if_pos (by omega)]
            congr 2
            simp; omega
          | succ i =>
            rw [List.getElem?_cons_succ, ←hc i]
            simp only [Cs.at]
            by_cases hi:i<n
            · rw [if_pos (by omega), if_pos hi]
              congr 2
              rw [Nat.pow_succ, Nat.mul_comm (256 ^ i) 256, ←Nat.div_div_eq_div_mul]
              congr 2
              omega
            · rw [if_neg (by omega), if_neg hi]
def Hp (n:Nat):Nat->(List V->R)->R :=
  @Nat.rec (fun _ => Nat->(List V->R)->R) (fun _ κ => κ [])
    (fun _ ih c κ => Ah (lo c 1) fun r => Ah (sh c 1) fun d => ih d fun zs => κ (.int .u8 r::zs)) n
theorem Nd (n:Nat):∀ (c:Nat) (κ:List V->R), ∃ zs, Hp n c κ=κ zs∧zs.length=n ∧ ∀ i, zs[i]? = (Cs.b n c).at i := by
  induction n with
  | zero => exact fun c κ => ⟨[], rfl, rfl, fun i => by simp [Cs.at]⟩
  | succ n ih =>
    intro c κ
    obtain ⟨zs, h1, h2, h3⟩ := ih (sh c 1) (fun zs => κ (.int .u8 (lo c 1)::zs))
    refine ⟨.int .u8 (lo c 1)::zs, ?_, by simp [h2], fun i => ?_⟩
    · refine Eq.trans ?_ h1
      exact (A9 (lo c 1) (fun r => Ah (sh c 1) fun d => Hp n d fun zs => κ (.int .u8 r::zs))).trans (A9 (sh c 1) _)
    · cases i with
      | zero => simp [Cs.at, FX]
      | succ i =>
        rw [List.getElem?_cons_succ, h3]
        simp only [Cs.at, GA]
        by_cases hi:i<n
        · rw [if_pos hi, if_pos (show i+1<n+1 by omega), Nat.div_div_eq_div_mul, ←Nat.pow_add, Nat.add_comm 1 i]
        · rw [if_neg hi, if_neg (show ¬ i+1<n+1 by omega)]
def GX (cs:Cs) (κ:List V->R):R := @Cs.rec (fun _ => R) (fun xs => κ xs) (fun n c => Hp n c κ) cs
theorem IF (cs:Cs) (κ:List V->R):∃ zs, GX cs κ=κ zs∧zs.length=cs.len ∧ ∀ i, zs[i]? = cs.at i := by
  cases cs with
  | l xs => exact ⟨xs, rfl, rfl, fun _ => rfl⟩
  | b n c => exact Nd n c κ
def Y8 (cs:Cs) (κ:Nat->R):R := @Cs.rec (fun _ => R) (fun xs => Jl xs κ) (fun n _ => κ n) cs
theorem Xy (cs:Cs) (κ:Nat->R):Y8 cs κ=κ cs.len := by
  cases cs with
  | l xs => exact FL xs κ
  | b n c => rfl
def R2 (n c off m d:Nat) (κ:Cs->R):R :=
  br (Nat.ble (Nat.add off m) n) (Ah (Nat.add (lo c off) (up (Nat.add (lo d m) (up (sh c (Nat.add off m)) m)) off)) fun r => κ (.b n r)) (.fail "")
def Q4 (cs:Cs) (off:Nat) (y:Cs) (κ:Cs->R):R :=
  @Cs.rec (fun _ => R)
    (fun xs => GX y fun ys => Gc off xs fun a => Jl ys fun m => Ah (Nat.add off m) fun j => GW j xs fun b => HY ys b fun t => HY a t fun zs => κ (.l zs))
    (fun n c => @Cs.rec (fun _ => R) (fun ys => Fi ys (fun m d => R2 n c off m d κ) (.fail "")) (fun m d => R2 n c off m d κ) y) cs
def Tx (cs:Cs) (off:Nat) (y z:Cs):Prop :=
  off+y.len≤cs.len∧z.len=cs.len∧(∀ i, i<off->z.at i=cs.at i)∧(∀ i, i<y.len->z.at (off+i)=y.at i)∧(∀ i, off+y.len≤i->z.at i=cs.at i)
theorem MD (a b j i:Nat) (hi:i<j):(a % 256 ^ j+256 ^ j*b) / 256 ^ i % 256=a / 256 ^ i % 256 := by
  have h:(a % 256 ^ j+256 ^ j*b) % 256 ^ j=a % 256 ^ j := by rw [Nat.add_mul_mod_self_left, Nat.mod_mod]
  rw [←If _ i j hi, h, If _ i j hi]
theorem JT (a b j i:Nat):(a % 256 ^ j+256 ^ j*b) / 256 ^ (j+i) % 256=b / 256 ^ i % 256 := by
  have hp:0<256 ^ j := Nat.pow_pos (by omega)
  rw [Nat.pow_add, ←Nat.div_div_eq_div_mul, Nat.add_mul_div_left _ _ hp, Nat.div_eq_of_lt (Nat.mod_lt _ hp), Nat.zero_add]
theorem O6 {n c off m d:Nat} {κ:Cs->R} (h:(R2 n c off m d κ).good):∃ z, Tx (.b n c) off (.b m d) z∧R2 n c off m d κ=κ z := by
  obtain ⟨h1, h2⟩ := AJ (show R.good (br (Nat.ble (Nat.add off m) n) _ (.fail _)) from h)
  have h1:off+m≤n := Ap.1 h1
  refine ⟨.b n (c % 256 ^ off+256 ^ off*(d % 256 ^ m+256 ^ m*(c / 256 ^ (off+m)))), ⟨h1, rfl, fun i hi => ?_, fun i hi => ?_, fun i hi => ?_⟩, ?_⟩
  · simp only [Cs.at]
    rw [MD _ _ _ _ hi]
  · simp only [Cs.len] at hi
    simp only [Cs.at]
    rw [if_pos (by omega), if_pos hi, JT, MD _ _ _ _ hi]
  · simp only [Cs.len] at hi
    simp only [Cs.at]
    obtain ⟨e, rfl⟩:∃ e, i=off+(m+e) := ⟨i - off - m, by omega⟩
    rw [JT, JT, Nat.div_div_eq_div_mul, ←Nat.pow_add, Nat.add_assoc]
  · show br (Nat.ble (Nat.add off m) n) _ _=_
    rw [h2, A9]
    simp only [FX, Tk, GA]
    rfl
theorem Ue {cs:Cs} {off:Nat} {y:Cs} {κ:Cs->R} (h:(Q4 cs off y κ).good):∃ z, Tx cs off y z∧Q4 cs off y κ=κ z := by
  cases cs with
  | l xs =>
    obtain ⟨ys, e0, hyl, hya⟩ := IF y (fun ys => Gc off xs fun a => Jl ys fun m => Ah (Nat.add off m) fun j => GW j xs fun b => HY ys b fun t => HY a t fun zs => κ (.l zs))
    have e0:Q4 (.l xs) off y κ=_ := e0
    rw [e0] at h
    obtain ⟨h1, e1⟩ := HR h
    rw [e1, FL, A9] at h
    obtain ⟨h2, e2⟩ := HI h
    simp only [Nat.add_eq] at h2
    have hlen:ys.length=y.len := hyl
    refine ⟨.l (xs.take off++(ys++xs.drop (off+ys.length))), ⟨?_, ?_, fun i hi => ?_, fun i hi => ?_, fun i hi => ?_⟩, ?_⟩
    · show off+y.len≤xs.length
      omega
    · show (xs.take off++(ys++xs.drop (off+ys.length))).length=xs.length
      simp only [List.length_append, List.length_take, List.length_drop]; omega
    · simp only [Cs.at]
      rw [List.getElem?_append_left (by rw [List.length_take]; omega), List.getElem?_take, if_pos hi]
    · simp only [Cs.at]
      rw [List.getElem?_append_right (by rw [List.length_take]; omega), List.length_take, Nat.min_eq_left h1, Nat.add_sub_cancel_left,
        List.getElem?_append_left (by omega)]
      exact hya i
    · simp only [Cs.at]
      rw [List.getElem?_append_right (by rw [List.length_take]; omega), List.length_take, Nat.min_eq_left h1,
        List.getElem?_append_right (by omega), List.getElem?_drop]
      congr 1; omega
    · rw [e0, e1, FL, A9, e2, Hu, Hu]; rfl
  | b n c =>
    cases y with
    | l ys =>
      rcases Nu ys (fun m d => R2 n c off m d κ) (.fail "") with e | ⟨m, d, e, hl, ha, _⟩
      · have e:Q4 (.b n c) off (.l ys) κ=_ := e
        rw [e] at h; exact h.elim
      · have e:Q4 (.b n c) off (.l ys) κ=_ := e
        rw [e] at h
        obtain ⟨z, ⟨g1, g2, g3, g4, g5⟩, e'⟩ := O6 h
        refine ⟨z, ⟨?_, g2, g3, fun i hi => ?_, fun i hi => g5 i ?_⟩, e.trans e'⟩
        · rw [hl] at g1; exact g1
        · rw [g4 i (by rw [hl]; exact hi)]; exact ha i
        · rw [hl]; exact hi
    | b m d => exact O6 h
def Wi (n c m d:Nat) (κ:Cs->R):R :=
  Ah (Nat.add n m) fun l => Ah (Nat.add (lo c n) (up d n)) fun r => κ (.b l r)
def TO (x y:Cs) (κ:Cs->R):R :=
  @Cs.rec (fun _ => R) (fun xs => GX y fun ys => HY xs ys fun zs => κ (.l zs))
    (fun n c => @Cs.rec (fun _ => R) (fun ys => Fi ys (fun m d => Wi n c m d κ) (Hp n c fun xs => HY xs ys fun zs => κ (.l zs))) (fun m d => Wi n c m d κ) y) x
def Tw (x y z:Cs):Prop := z.len=x.len+y.len∧(∀ i, i<x.len->z.at i=x.at i)∧(∀ i, z.at (x.len+i)=y.at i)
theorem Aba (xs ys:List V) (x y:Cs) (hx:xs.length=x.len) (hxa:∀ i, xs[i]? = x.at i) (hy:ys.length=y.len) (hya:∀ i, ys[i]? = y.at i):Tw x y (.l (xs++ys)) := by
  refine ⟨by simp [Cs.len, hx, hy], fun i hi => ?_, fun i => ?_⟩
  · simp only [Cs.at]; rw [List.getElem?_append_left (by omega)]; exact hxa i
  · simp only [Cs.at]; rw [List.getElem?_append_right (by omega), hx, Nat.add_sub_cancel_left]; exact hya i
theorem TA (n c m d:Nat) (κ:Cs->R):∃ z, Tw (.b n c) (.b m d) z∧Wi n c m d κ=κ z := by
  refine ⟨.b (n+m) (c % 256 ^ n+256 ^ n*d), ⟨rfl, fun i hi => ?_, fun i => ?_⟩, ?_⟩
  · simp only [Cs.len] at hi
    simp only [Cs.at]
    rw [if_pos (by omega), if_pos hi, MD _ _ _ _ hi]
  · show (Cs.b (n+m) _).at (n+i)=(Cs.b m d).at i
    by_cases hi:i<m
    · rw [Cs.b_pos (by omega), Cs.b_pos hi, JT]
    · rw [Cs.b_neg (by omega), Cs.b_neg hi]
  · simp only [Wi, A9, FX, Tk]; rfl
theorem Wz (x y:Cs) (κ:Cs->R):∃ z, Tw x y z∧TO x y κ=κ z := by
  cases x with
  | l xs =>
    obtain ⟨ys, e0, hyl, hya⟩ := IF y (fun ys => HY xs ys fun zs => κ (.l zs))
    exact ⟨_, Aba xs ys (.l xs) y rfl (fun _ => rfl) hyl hya, e0.trans (Hu _ _ _)⟩
  | b n c =>
    cases y with
    | l ys =>
      rcases Nu ys (fun m d => Wi n c m d κ) (Hp n c fun xs => HY xs ys fun zs => κ (.l zs)) with e | ⟨m, d, e, hl, ha, _⟩
      · obtain ⟨xs, e1, h2, h3⟩ := Nd n c (fun xs => HY xs ys fun zs => κ (.l zs))
        exact ⟨_, Aba xs ys (.b n c) (.l ys) h2 h3 rfl (fun _ => rfl), (e.trans e1).trans (Hu _ _ _)⟩
      · obtain ⟨z, ⟨g1, g2, g3⟩, e'⟩ := TA n c m d κ
        refine ⟨z, ⟨by rw [g1, hl]; rfl, g2, fun i => (g3 i).trans (ha i)⟩, e.trans e'⟩
    | b m d => exact TA n c m d κ
def Aam (m:Nat):List V->(List V->R)->R :=
  @Nat.rec (fun _ => List V->(List V->R)->R) (fun _ κ => κ []) (fun _ ih z κ => ih z fun zs => HY z zs κ) m
theorem Xq (m:Nat) (z:List V) (κ:List V->R):∃ zs, Aam m z κ=κ zs∧zs.length=m*z.length ∧ ∀ i, i<m*z.length->zs[i]? = z[i % z.length]? := by
  induction m generalizing κ with
  | zero => exact ⟨[], rfl, by simp, fun i hi => by simp at hi⟩
  | succ m ih =>
    obtain ⟨zs, h1, h2, h3⟩ := ih (fun zs => HY z zs κ)
    refine ⟨z++zs, h1.trans (Hu _ _ _), by rw [List.length_append, h2, Nat.succ_mul]; omega, fun i hi => ?_⟩
    by_cases hz:i<z.length
    · rw [List.getElem?_append_left hz, Nat.mod_eq_of_lt hz]
    · rw [List.getElem?_append_right (by omega), h3 _ (by rw [Nat.succ_mul] at hi; omega)]
      congr 1
      rw [←Nat.mod_eq_sub_mod (by omega)]
def HS (u8:Bool) (z:List V) (m:Nat) (κ:Cs->R):R :=
  br u8 (κ (.b m 0)) (Aam m z fun zs => κ (.l zs))
theorem JQ (u8:Bool) (z:List V) (m:Nat) (κ:Cs->R) (hu:u8=true->z=[.int .u8 0]) :
    ∃ y:Cs, HS u8 z m κ=κ y∧y.len=m*z.length ∧ ∀ i, i<m*z.length->y.at i=z[i % z.length]? := by
  cases u8 with
  | true =>
    rw [hu rfl]
    refine ⟨.b m 0, rfl, by simp [Cs.len], fun i hi => ?_⟩
    simp only [Cs.at]
    rw [if_pos (by simpa using hi)]
    simp [Nat.mod_one]
  | false =>
    obtain ⟨zs, h1, h2, h3⟩ := Xq m z (fun zs => κ (.l zs))
    exact ⟨.l zs, h1, h2, h3⟩
end Go.Ev

namespace Go.Ev
set_option linter.unusedVariables false
inductive Opd where
  | t (p:K2)
  | c (v:V)
/-- Scalars: integers, strings, bools. -/
inductive Sc where
  | i
  | s
  | b
/-- How two values are held against each other: scalars; structs of scalars at these offsets; references. -/
inductive Plan where
  | sc (k:Sc)
  | st (fs:List (Nat×Sc))
  | ks (l:List Sc)
  | rf (w:Nl)
structure Part where
  off:Nat
  size:Nat
  x:Opd
def FE (o:Opd) (t:Regs) (κ:V->R):R := @Opd.rec (fun _ => R) (fun p => Kn p t κ) (fun v => κ v) o
def ev (o:Opd) (t:Regs):V := match o with | .t p => Dx p t | .c v => v
theorem CL (o:Opd) (t:Regs) (κ:V->R):FE o t κ=κ (ev o t) := by
  cases o with
  | t p => exact Fh p t κ
  | c v => rfl
def Qq (l:List Opd) (t:Regs):(List V->R)->R :=
  @List.rec Opd (fun _ => (List V->R)->R) (fun κ => κ []) (fun o _ ih κ => FE o t fun v => ih fun vs => κ (v::vs)) l
theorem I7 (l:List Opd) (t:Regs) (κ:List V->R):Qq l t κ=κ (l.map (ev · t)) := by
  induction l generalizing κ with
  | nil => rfl
  | cons o l ih =>
    show FE o t _=_
    rw [CL]
    exact ih _
inductive AK where
  | mv (x:Opd)
  | pick (c a b:Opd)
  | alc (cs:Cs)
  | box (x:Opd)
  | build (zero:List V) (parts:List Part)
  | bslice (u8:Bool) (len esz:Nat) (zero:List V) (parts:List Part)
  | ld (x:Opd)
  | ldn (m:Nat) (x:Opd)
  | st (m:Nat) (a x:Opd)
  | nilck (x:Opd)
  | bin (op:BinOp) (x y:Opd)
  | eq (neg:Bool) (pl:Plan) (x y:Opd)
  | not (x:Opd)
  | neg (x:Opd)
  | com (x:Opd)
  | cvi (k:IntKind) (x:Opd)
  | b2s (x:Opd)
  | s2b (x:Opd)
  | idn (x:Opd)
  | bsl (x:Opd)
  | mkfn (f:Nat) (caps:List Opd)
  | mkmap 
  | mksl (eb:Nat) (u8:Bool) (zero:List V) (l c:Opd)
  | slS (x:Opd) (lo hi:Option Opd)
  | slL (esz:Nat) (x:Opd) (lo hi:Option Opd)
  | slA (m esz:Nat) (x:Opd) (lo hi:Option Opd)
  | fad (off:Nat) (x:Opd)
  | fld (off size:Nat) (ag:Bool) (x:Opd)
  | ixS (esz:Nat) (x i:Opd)
  | ixA (m esz:Nat) (x i:Opd)
  | idS (x i:Opd)
  | idA (m esz:Nat) (ag:Bool) (x i:Opd)
  | lk (pl:Plan) (zero:V) (ok:Bool) (m k:Opd)
  | mu (pl:Plan) (m k v:Opd)
  | del (pl:Plan) (m k:Opd)
  | ext (i:Nat) (x:Opd)
  | call (f:Nat) (args:List Opd)
  | calld (x:Opd) (args:List Opd)
  | lnS (x:Opd)
  | lnL (x:Opd)
  | lnM (x:Opd)
  | min (x y:Opd)
  | max (x y:Opd)
  | app (esz eb:Nat) (x y:Opd)
  | appz (esz eb:Nat) (u8:Bool) (zero:List V) (x c:Opd)
  | cpy (esz:Nat) (x y:Opd)
  | max3 (x y z:Opd)
  | cpL (x:Opd)
  | clr (u8:Bool) (zero:List V) (x:Opd)
  | bad (why:String)
def X6 (k:IntKind) (a:Nat) (j:IntKind) (b:Nat) (κ:V->R):R := br (Ds k j) (Ah (Nat.mod (Nat.add a b) (Mk k)) fun r => κ (.int k r)) (.fail "")
def Qk (k:IntKind) (a:Nat) (j:IntKind) (b:Nat) (κ:V->R):R := br (Ds k j) (Ah (Nat.mod (Nat.add a (Nat.sub (Mk k) b)) (Mk k)) fun r => κ (.int k r)) (.fail "")
def WX (k:IntKind) (a:Nat) (j:IntKind) (b:Nat) (κ:V->R):R := br (Ds k j) (Ah (Nat.mod (Nat.mul a b) (Mk k)) fun r => κ (.int k r)) (.fail "")
/-- Both are not negative. -/
def Q9 (k:IntKind) (a:Nat) (j:IntKind) (b:Nat) (κ:R):R :=
  br (Ds k j) (br (Nat.ble (Nat.succ a) (Hk k)) (br (Nat.ble (Nat.succ b) (Hk k)) κ (.fail "")) (.fail "")) (.fail "")
def TZ (k:IntKind) (a:Nat) (j:IntKind) (b:Nat) (κ:V->R):R := Q9 k a j b (br (Nat.ble 1 b) (Ah (Nat.div a b) fun r => κ (.int k r)) (.fail ""))
def Qz (k:IntKind) (a:Nat) (j:IntKind) (b:Nat) (κ:V->R):R := Q9 k a j b (br (Nat.ble 1 b) (Ah (Nat.mod a b) fun r => κ (.int k r)) (.fail ""))
def OI (k:IntKind) (a:Nat) (j:IntKind) (b:Nat) (κ:V->R):R :=
  br (Ds k j) (br (Nat.ble (Nat.succ b) (Hk k)) (br (Nat.ble 1 b) (Ah (@Bool.rec (fun _ => Nat) (Nat.sub (Mk k) (Nat.mod (Nat.sub (Mk k) a) b)) 0 (Nat.beq (Nat.mod (Nat.sub (Mk k) a) b) 0)) fun r => κ (.int k r)) (.fail "")) (.fail "")) (.fail "")
def NT (k:IntKind) (a:Nat) (j:IntKind) (b:Nat) (κ:V->R):R := br (Nat.ble (Nat.succ a) (Hk k)) (Qz k a j b κ) (OI k a j b κ)
def UZ (k:IntKind) (a:Nat) (j:IntKind) (b:Nat) (κ:V->R):R := br (Ds k j) (Ah (Nat.land a b) fun r => κ (.int k r)) (.fail "")
def ZI (k:IntKind) (a:Nat) (j:IntKind) (b:Nat) (κ:V->R):R := br (Ds k j) (Ah (Nat.lor a b) fun r => κ (.int k r)) (.fail "")
def UU (k:IntKind) (a:Nat) (j:IntKind) (b:Nat) (κ:V->R):R := br (Ds k j) (Ah (Nat.xor a b) fun r => κ (.int k r)) (.fail "")
def Qs (k:IntKind) (a:Nat) (j:IntKind) (b:Nat) (κ:V->R):R := br (Ds k j) (Ah (Nat.land a (Nat.sub (Nat.sub (Mk k) 1) b)) fun r => κ (.int k r)) (.fail "")
def VD (k:IntKind) (a:Nat) (j:IntKind) (b:Nat) (κ:V->R):R :=
  br (Nat.ble (Nat.succ b) (Hk j)) (br (Nat.ble b 64) (Ah (Nat.mod (Nat.shiftLeft a b) (Mk k)) fun r => κ (.int k r)) (κ (.int k 0))) (.fail "")
def TW (k:IntKind) (a:Nat) (j:IntKind) (b:Nat) (κ:V->R):R :=
  br (Nat.ble (Nat.succ b) (Hk j)) (br (Nat.ble (Nat.succ a) (Hk k)) (br (Nat.ble b 64) (Ah (Nat.shiftRight a b) fun r => κ (.int k r)) (κ (.int k 0))) (.fail "")) (.fail "")
def ieq (k:IntKind) (a:Nat) (j:IntKind) (b:Nat) (κ:V->R):R := br (Ds k j) (Er (Nat.beq a b) fun r => κ (.bool r)) (.fail "")
def ine (k:IntKind) (a:Nat) (j:IntKind) (b:Nat) (κ:V->R):R := br (Ds k j) (br (Nat.beq a b) (κ (.bool false)) (κ (.bool true))) (.fail "")
def ilt (k:IntKind) (a:Nat) (j:IntKind) (b:Nat) (κ:V->R):R := br (Ds k j) (Er (Gx k a b) fun r => κ (.bool r)) (.fail "")
def igt (k:IntKind) (a:Nat) (j:IntKind) (b:Nat) (κ:V->R):R := br (Ds k j) (Er (Gx k b a) fun r => κ (.bool r)) (.fail "")
def ile (k:IntKind) (a:Nat) (j:IntKind) (b:Nat) (κ:V->R):R := br (Ds k j) (br (Gx k b a) (κ (.bool false)) (κ (.bool true))) (.fail "")
def ige (k:IntKind) (a:Nat) (j:IntKind) (b:Nat) (κ:V->R):R := br (Ds k j) (br (Gx k a b) (κ (.bool false)) (κ (.bool true))) (.fail "")
def NP (op:BinOp):IntKind->Nat->IntKind->Nat->(V->R)->R :=
  @BinOp.rec (fun _ => IntKind->Nat->IntKind->Nat->(V->R)->R) X6 Qk WX TZ NT UZ ZI UU VD TW Qs ieq ine ilt ile igt ige op
def YO (n c m d:Nat) (κ:V->R):R :=
  Ah (Nat.add n m) fun l => br (Nat.ble l 1000000000) (Ah (Nat.add c (up d n)) fun r => κ (.str l r)) (.fail "")
def G2 (n c m d:Nat):Bool := and (Nat.beq n m) (Nat.beq c d)
/-- Is the first of two texts the lesser, by its bytes? -/
def Sd (n:Nat):Nat->Nat->Nat->Bool :=
  @Nat.rec (fun _ => Nat->Nat->Nat->Bool) (fun _ m _ => Nat.ble 1 m)
    (fun _ ih c m d => @Nat.rec (fun _ => Bool) false (fun m _ => br (Nat.beq (lo c 1) (lo d 1)) (ih (sh c 1) m (sh d 1)) (Nat.ble (Nat.succ (lo c 1)) (lo d 1))) m) n
def O2 (n c m d:Nat) (κ:V->R):R := .fail ""
def Yf (n c m d:Nat) (κ:V->R):R := Er (G2 n c m d) fun r => κ (.bool r)
def sne (n c m d:Nat) (κ:V->R):R := br (G2 n c m d) (κ (.bool false)) (κ (.bool true))
def slt (n c m d:Nat) (κ:V->R):R := Er (Sd n c m d) fun r => κ (.bool r)
def sgt (n c m d:Nat) (κ:V->R):R := .fail ""
def sle (n c m d:Nat) (κ:V->R):R := .fail ""
def sge (n c m d:Nat) (κ:V->R):R := br (Sd n c m d) (κ (.bool false)) (κ (.bool true))
def Mo (op:BinOp):Nat->Nat->Nat->Nat->(V->R)->R :=
  @BinOp.rec (fun _ => Nat->Nat->Nat->Nat->(V->R)->R) YO O2 O2 O2 O2 O2 O2 O2 O2 O2 O2 Yf sne slt sle sgt sge op
def LT (v:V) (κ:IntKind->Nat->Nat->R):R :=
  @V.rec (fun _ => R) (fun _ => Unit) (fun k r => κ k r r) (Di "") (CN "") (Gg "") (CN "") (CN "") (Di "") (Di "") (Ey "") (CN "") (fun o => @Ot.rec (fun _ => R) (.fail "") (fun _ => (.fail "")) (fun _ => (.fail "")) (.fail "") (fun k lo hi => κ k lo hi) (fun _ _ => (.fail "")) (.fail "") (fun m _ => br (Nat.ble 18446744073709551616 m) (br (Nat.ble (Nat.succ m) 36893488147419103232) (κ .i64 0 9223372036854775807) (.fail "")) (.fail "")) (fun _ _ _ _ => (.fail "")) (fun _ _ _ _ => (.fail "")) (fun _ _ _ => (.fail "")) (fun k _ => κ k 0 (Nat.sub (Mk k) 1)) (fun _ _ => (.fail "")) (fun _ _ _ => (.fail "")) (fun _ => (.fail "")) o) () (fun _ _ _ _ => ()) v
def Dn (H M r:Nat):Nat := br (Nat.ble H r) (Nat.sub r H) (Nat.add r (Nat.sub M H))
def Fg (H lo hi:Nat):Bool := br (Nat.ble (Nat.succ hi) H) true (Nat.ble H lo)
def WT (a b c d:Nat) (κ:V->R):R := br (Nat.ble (Nat.succ b) c) (κ (.bool true)) (br (Nat.ble d a) (κ (.bool false)) (κ (.oth .bl)))
def Xl (a b c d:Nat) (κ:V->R):R := br (Nat.ble (Nat.succ b) c) (κ (.bool false)) (br (Nat.ble d a) (κ (.bool true)) (κ (.oth .bl)))
def OZ (a b c d:Nat):Bool := br (Nat.beq a b) (br (Nat.beq b c) (Nat.beq c d) false) false
def YC (a b c d:Nat) (κ:V->R):R := br (Nat.ble (Nat.succ b) c) (κ (.bool false)) (br (Nat.ble (Nat.succ d) a) (κ (.bool false)) (br (OZ a b c d) (κ (.bool true)) (κ (.oth .bl))))
def YR (a b c d:Nat) (κ:V->R):R := br (Nat.ble (Nat.succ b) c) (κ (.bool true)) (br (Nat.ble (Nat.succ d) a) (κ (.bool true)) (br (OZ a b c d) (κ (.bool false)) (κ (.oth .bl))))
def JF (a b c d:Nat) (κ:V->R):R := .fail ""
def Zp (op:BinOp):Nat->Nat->Nat->Nat->(V->R)->R :=
  @BinOp.rec (fun _ => Nat->Nat->Nat->Nat->(V->R)->R) JF JF JF JF JF JF JF JF JF JF JF YC YR WT (fun a b c d κ => Xl c d a b κ) (fun a b c d κ => WT c d a b κ) Xl op
def Kw (op:BinOp) (κ:V->R):R :=
  @BinOp.rec (fun _ => R) (.fail "") (.fail "") (.fail "") (.fail "") (.fail "") (.fail "") (.fail "") (.fail "") (.fail "") (.fail "") (.fail "") (κ (.oth .bl)) (κ (.oth .bl)) (κ (.oth .bl)) (κ (.oth .bl)) (κ (.oth .bl)) (κ (.oth .bl)) op
/-- Alike or not, where the bounds are apart. -/
def WA (op:BinOp) (κ:V->R) (e:R):R := @BinOp.rec (fun _ => R) e e e e e e e e e e e (κ (.bool false)) (κ (.bool true)) e e e e op
def W8 (op:BinOp) (a b c d:Nat) (κ:V->R):R := br (br (Nat.ble (Nat.succ b) c) true (Nat.ble (Nat.succ d) a)) (WA op κ (Kw op κ)) (Kw op κ)
def Jk (op:BinOp) (x y:V) (κ:V->R):R :=
  LT x fun k a b => LT y fun j c d => br (Ds k j) (br (Fg (Hk k) a b) (br (Fg (Hk k) c d) (Zp op (Dn (Hk k) (Mk k) a) (Dn (Hk k) (Mk k) b) (Dn (Hk k) (Mk k) c) (Dn (Hk k) (Mk k) d) κ) (W8 op a b c d κ)) (W8 op a b c d κ)) (.fail "")
def SR (x y:V) (κ:V->R):R :=
  LT x fun k a b => LT y fun j c d => br (Ds k j) (Ah (Nat.add a c) fun lo => Ah (Nat.add b d) fun hi => br (Nat.ble (Nat.succ hi) (Hk k)) (κ (.oth (.iv k lo hi))) (Ah (Nat.sub (Mk k) 1) fun m => κ (.oth (.iv k 0 m)))) (.fail "")
def Te (x y:V) (κ:V->R):R :=
  LT x fun k a b => LT y fun j c d => br (Ds k j) (br (Nat.ble d a) (br (Nat.ble (Nat.succ b) (Hk k)) (Ah (Nat.sub a d) fun lo => Ah (Nat.sub b c) fun hi => κ (.oth (.iv k lo hi))) (.fail "")) (.fail "")) (.fail "")
/-- The remainder of an integer Gz by bounds: below the divisor, or any. -/
def SZ (x y:V) (κ:V->R):R :=
  LT x fun k a b => Ki y fun j d => br (Ds k .i64) (br (Ds j .i64) (br (Nat.ble 1 d) (br (Nat.ble (Nat.succ d) 9223372036854775808)
    (br (Nat.ble (Nat.succ b) 9223372036854775808) (Ah (Nat.sub d 1) fun e => κ (.oth (.iv .i64 0 e))) (κ (.oth (.iv .i64 0 18446744073709551615)))) (.fail "")) (.fail "")) (.fail "")) (.fail "")
def IE (op:BinOp) (x y:V) (κ:V->R):R :=
  @BinOp.rec (fun _ => R) (SR x y κ) (Te x y κ) (Jk op x y κ) (Jk op x y κ) (SZ x y κ) (Jk op x y κ) (Jk op x y κ) (Jk op x y κ) (Jk op x y κ) (Jk op x y κ) (Jk op x y κ) (Jk op x y κ) (Jk op x y κ) (Jk op x y κ) (Jk op x y κ) (Jk op x y κ) (Jk op x y κ) op
def Wt (a b c d:Nat) (yes no:R):R := br (Nat.ble (Nat.succ b) c) yes (br (Nat.ble d a) no (.fail ""))
def YX (u v:V) (κ:V->R):R :=
  LT u fun k a b => LT v fun j c d => br (Ds k j) (br (Fg (Hk k) a b) (br (Fg (Hk k) c d) (Wt (Dn (Hk k) (Mk k) a) (Dn (Hk k) (Mk k) b) (Dn (Hk k) (Mk k) c) (Dn (Hk k) (Mk k) d) (κ v) (κ u)) (.fail "")) (.fail "")) (.fail "")
def YV (u v:V) (κ:V->R):R :=
  LT u fun k a b => LT v fun j c d => br (Ds k j) (br (Fg (Hk k) a b) (br (Fg (Hk k) c d) (Wt (Dn (Hk k) (Mk k) c) (Dn (Hk k) (Mk k) d) (Dn (Hk k) (Mk k) a) (Dn (Hk k) (Mk k) b) (κ v) (κ u)) (.fail "")) (.fail "")) (.fail "")
/-- .. of a negative one. -/
def XX (m j b:Nat) (κ:V->R):R := br (Nat.beq m (Nat.add 73786976294838206464 b)) (Ah (Nat.mod j 18446744073709551616) fun d => br (Nat.beq d (Nat.div j 18446744073709551616)) (br (Nat.ble 1 d) (Ah (Nat.sub 18446744073709551616 d) fun r => κ (.int .i64 r)) (.fail "")) (.fail "")) (.fail "")
/-- The remainder of an integer that is Gz by it. -/
def TD (op:BinOp) (x y:V) (κ:V->R) (e:R):R :=
  @BinOp.rec (fun _ => R) e e e e (rsK x (fun m j => Ki y fun k b => br (Ds k .i64) (br (Nat.ble 1 b) (br (Nat.ble (Nat.succ b) 9223372036854775808) (br (Nat.beq m (Nat.add 18446744073709551616 b)) (κ (.int .i64 j)) (br (Nat.beq m b) (br (Nat.beq j 0) (κ (.int .i64 0)) (κ (.oth (.iv .i64 1 18446744073709551615)))) (XX m j b κ))) (.fail "")) (.fail "")) (.fail "")) e) e e e e e e e e e e e e op
def ZF (v:V) (κ:IntKind->Nat->R) (e:R):R :=
  @V.rec (fun _ => R) (fun _ => Unit) (fun _ _ => e) (fun _ => e) (fun _ _ => e) (fun _ _ _ _ _ _ => e) (fun _ _ => e) (fun _ _ => e) (fun _ => e) (fun _ => e) (fun _ _ _ => e) (fun _ _ => e) (fun o => Yu o κ e) () (fun _ _ _ _ => ()) v
/-- Two symbols that are one. -/
def N3 (x y:V) (a e:R):R := ZF x (fun k i => ZF y (fun j i' => br (Ds k j) (br (Nat.beq i i') a e) e) e) e
def syX (op:BinOp) (x y:V) (κ:V->R) (e:R):R := @BinOp.rec (fun _ => R) e e e e e e e e e e e (N3 x y (κ (.bool true)) e) (N3 x y (κ (.bool false)) e) e e e e op
def Mx (op:BinOp) (x y:V) (κ:V->R):R := syX op x y κ (TD op x y κ (IE op x y κ))
/-- A text that is not looked into held against one that is. -/
def Td (op:BinOp) (l0 l1 n c m d:Nat) (κ:V->R):R :=
  br (br (Nat.ble l0 m) (br (Nat.ble m l1) (br (Nat.beq m n) (Nat.beq d c) false) true) true)
    (@BinOp.rec (fun _ => R) (.fail "") (.fail "") (.fail "") (.fail "") (.fail "") (.fail "") (.fail "") (.fail "") (.fail "") (.fail "") (.fail "") (κ (.bool false)) (κ (.bool true)) (.fail "") (.fail "") (.fail "") (.fail "") op) (.fail "")
def F7 (op:BinOp) (x y:V) (κ:V->R):R := Ww x (fun l0 l1 n c => Dy y fun m d => Td op l0 l1 n c m d κ) (Mx op x y κ)
def Q6 (op:BinOp) (x y:V) (κ:V->R):R :=
  @V.rec (fun _ => R) (fun _ => Unit) (fun k r => @V.rec (fun _ => R) (fun _ => Unit) (fun j b => NP op k r j b κ) (Di "") (CN "") (Gg "") (CN "") (CN "") (Di "") (Di "") (Ey "") (CN "") (fun _ => Mx op x y κ) () (fun _ _ _ _ => ()) y) (Di "") (CN "") (Gg "") (fun n c => Dy y fun m d => Mo op n c m d κ) (CN "") (Di "") (Di "") (Ey "") (CN "") (fun _ => F7 op x y κ) () (fun _ _ _ _ => ()) x
def eqI (x y:V) (κ:Bool->R):R := Ki x fun k a => Ki y fun j b => br (Ds k j) (Er (Nat.beq a b) κ) (.fail "")
def eqS (x y:V) (κ:Bool->R):R := Dy x fun n c => Dy y fun m d => Er (G2 n c m d) κ
def eqB (x y:V) (κ:Bool->R):R := RE x fun b => RE y fun c => br b (br c (κ true) (κ false)) (br c (κ false) (κ true))
def NZ (k:Sc):V->V->(Bool->R)->R := @Sc.rec (fun _ => V->V->(Bool->R)->R) eqI eqS eqB k
def Nl.ix (w:Nl):Nat := @Nl.rec (fun _ => Nat) 0 1 2 3 4 w
/-- A reference of that sort: nil, or another one. -/
def Jj (w:Nl) (v:V) (κn κo:R):R :=
  @V.rec (fun _ => R) (fun _ => Unit) (CN "") (Di "") (fun p off => br (Nat.beq w.ix 0) κo (.fail "")) (fun p off len cap ex esz => br (Nat.beq w.ix 1) κo (.fail "")) (CN "") (CN "") (fun w' => br (Nat.beq w'.ix w.ix) κn (.fail "")) (fun p => br (Nat.beq w.ix 2) κo (.fail "")) (fun f caps _i => br (Nat.beq w.ix 3) κo (.fail "")) (CN "") (fun o => br (Nat.beq w.ix 1) (Kg o (fun _ _ => κo) (Mm o (fun _ _ _ => κo) (.fail ""))) (.fail "")) () (fun _ _ _ _ => ()) v
def Mn (w:Nl) (x y:V) (κ:Bool->R):R :=
  Jj w x (Jj w y (κ true) (κ false)) (Jj w y (κ false) (MT x fun p o => MT y fun q o' => br (K4.beq p q) (Er (Nat.beq o o') κ) (.fail "")))
def LK (fs:List (Nat×Sc)) (x y:List V) (κ:Bool->R):R :=
  @List.rec (Nat×Sc) (fun _ => R) (κ true) (fun f _ ih => @Prod.rec Nat Sc (fun _ => R) (fun o k => Gv o x fun u => Gv o y fun v => NZ k u v fun r => br r ih (κ false)) f) fs
/-- Structs that are scalars throughout, cell by cell. -/
def QL (ks:List Sc):List V->List V->(Bool->R)->R :=
  @List.rec Sc (fun _ => List V->List V->(Bool->R)->R)
    (fun a b κ => @List.rec V (fun _ => R) (@List.rec V (fun _ => R) (κ true) (Ey "") b) (Ey "") a)
    (fun k _ ih a b κ => @List.rec V (fun _ => R) (.fail "") (fun u a _ => @List.rec V (fun _ => R) (.fail "") (fun v b _ => NZ k u v fun r => br r (ih a b κ) (κ false)) b) a) ks
def NM (pl:Plan) (x y:V) (κ:Bool->R):R :=
  @Plan.rec (fun _ => R) (fun k => NZ k x y κ) (fun fs => asAgg x fun a => asAgg y fun b => LK fs a b κ) (fun l => asAgg x fun a => asAgg y fun b => QL l a b κ) (fun w => Mn w x y κ) pl
def R5 (ks:List Sc):List V->R->R :=
  @List.rec Sc (fun _ => List V->R->R) (fun a κ => @List.rec V (fun _ => R) κ (Ey "") a) (fun _ _ ih a κ => @List.rec V (fun _ => R) (.fail "") (fun _ l _ => ih l κ) a) ks
/-- Is it such a key? -/
def N2 (pl:Plan) (v:V) (κ:R):R :=
  @Plan.rec (fun _ => R) (fun k => @Sc.rec (fun _ => R) (Ki v fun _ _ => κ) (Dy v fun _ _ => κ) (RE v fun _ => κ) k) (Di "") (fun l => asAgg v fun a => R5 l a κ) (Di "") pl
def Hh (pl:Plan) (k:V) (es:List (V×V)) (κf:V->R) (κn:R):R :=
  @List.rec (V×V) (fun _ => R) κn (fun e _ ih => @Prod.rec V V (fun _ => R) (fun a b => NM pl k a fun r => br r (κf b) ih) e) es
def Hd (pl:Plan) (k v:V) (es:List (V×V)):(List (V×V)->R)->R :=
  @List.rec (V×V) (fun _ => (List (V×V)->R)->R) (fun κ => κ [(k, v)])
    (fun e tl ih κ => @Prod.rec V V (fun _ => R) (fun a _ => NM pl k a fun r => br r (κ ((k, v)::tl)) (ih fun l => κ (e::l))) e) es
def Kl (pl:Plan) (k:V) (es:List (V×V)):(List (V×V)->R)->R :=
  @List.rec (V×V) (fun _ => (List (V×V)->R)->R) (fun κ => κ [])
    (fun e tl ih κ => @Prod.rec V V (fun _ => R) (fun a _ => NM pl k a fun r => br r (κ tl) (ih fun l => κ (e::l))) e) es
/-- The stamps behind an update: of an entry that is new the clock, else as they were. -/
def J0 (es:List (V×V)):List Nat->Bool :=
  @List.rec (V×V) (fun _ => List Nat->Bool) (fun bs => @List.rec Nat (fun _ => Bool) true (fun _ _ _ => false) bs) (fun _ _ ih bs => @List.rec Nat (fun _ => Bool) false (fun _ bs _ => ih bs) bs) es
def Tl (bs:List Nat) (c:Nat):(List Nat->R)->R :=
  @List.rec Nat (fun _ => (List Nat->R)->R) (fun κ => κ [c]) (fun b _ ih κ => ih fun l => κ (b::l)) bs
def UQ (es:List (V×V)) (bs:List Nat) (c:Nat) (κ:List Nat->Nat->R):R :=
  br (J0 es bs) (κ bs c) (Tl bs c fun bs => Ah (Nat.succ c) fun c => κ bs c)
/-- .. and behind a removal. -/
def Kf (pl:Plan) (k:V) (es:List (V×V)):List Nat->(List Nat->R)->R :=
  @List.rec (V×V) (fun _ => List Nat->(List Nat->R)->R) (fun bs κ => κ bs)
    (fun e _ ih bs κ => @List.rec Nat (fun _ => R) (.fail "") (fun b tl _ => @Prod.rec V V (fun _ => R) (fun a _ => NM pl k a fun r => br r (κ tl) (ih tl fun l => κ (b::l))) e) bs) es
def Vf (es:List (V×V)):(Nat->R)->R :=
  @List.rec (V×V) (fun _ => (Nat->R)->R) (fun κ => κ 0) (fun _ _ ih κ => ih fun n => Ah (Nat.succ n) κ) es
def Kd (p:K4) (h:Heap) (κ:Cs->Bool->Option K4->R):R :=
  Tp p h fun o => @Option.rec Ob (fun _ => R) (.fail "") (fun o => @Ob.rec (fun _ => R) κ (Ey "") (HO "") (.fail "") (CN "") o) o
def Oh (p:K4) (h:Heap) (κ:List (V×V)->List Nat->Nat->R):R :=
  Tp p h fun o => @Option.rec Ob (fun _ => R) (.fail "") (fun o => @Ob.rec (fun _ => R) (Ey "") κ (HO "") (.fail "") (CN "") o) o
def Fz (h:Heap) (n:K4) (o:Ob) (κ:Heap->K4->R):R := H6 n h (some o) fun h' => n.nx fun n' => κ h' n'
def JO (prev:Option K4) (h:Heap) (κ:Heap->R):R := @Option.rec K4 (fun _ => R) (κ h) (fun q => H6 q h none κ) prev
def GN (h:Heap) (p:K4) (off:Nat) (y:Cs) (κ:Heap->R):R :=
  Kd p h fun cs sup prev => br sup (.fail "") (Q4 cs off y fun cs' => JO prev h fun h => H6 p h (some (.c cs' false none)) κ)
/-- An index: not negative. -/
def LD (v:V) (κ:Nat->R):R := Ki v fun k r => br (Nat.ble (Nat.succ r) (Hk k)) (κ r) (.fail "")
def Es (o:Option Opd) (t:Regs) (d:Nat) (κ:Nat->R):R := @Option.rec Opd (fun _ => R) (κ d) (fun x => FE x t fun v => LD v κ) o
def FZ (n:Nat) (κ:V->R):R := br (Nat.ble (Nat.succ n) 9223372036854775808) (κ (.int .i64 n)) (.fail "")
def NO (xs:List V) (off:Nat) (ys:List V) (κ:List V->R):R :=
  Gc off xs fun a => Jl ys fun m => Ah (Nat.add off m) fun j => GW j xs fun b => HY ys b fun t => HY a t κ
def FQ (parts:List Part) (t:Regs):List V->(List V->R)->R :=
  @List.rec Part (fun _ => List V->(List V->R)->R) (fun z κ => κ z)
    (fun p _ ih z κ => @Part.rec (fun _ => R) (fun off size x => FE x t fun v => GO v fun l => Jl l fun m => br (Nat.beq m size) (NO z off l fun z => ih z κ) (.fail "")) p) parts
def ZG (i j:Nat) (κ:V->R):R := br (Nat.ble (Nat.succ j) (tdN i)) (Ah (Yc i) fun m => br (Nat.ble (Nat.succ m) 18446744073709551616) (Ah (tdD i j) fun d => κ (.oth (.rs m d))) (.fail "")) (κ (.oth (.iv .i64 0 18446744073709551615)))
def apC (i j:Nat) (κ:V->R):R := br (Nat.ble i 36893488147419103232) (κ (.oth (.iv .i64 0 18446744073709551615))) (br (Nat.beq j (Zg i))
  (Ah (Lu i) fun m => Ah (T6 i) fun t => br (Nat.ble (Nat.succ m) t) (Ah (Nat.sub t m) fun d => κ (.oth (.rs (Nat.add 18446744073709551616 m) d)))
    (br (Nat.beq t m) (br (Nat.ble 1 m) (κ (.oth (.rs m 0))) (.fail "")) (Ah (Nat.sub m t) fun d => κ (.oth (.rs (Nat.add 73786976294838206464 m) (Nat.add (Nat.mul d 18446744073709551616) d))))))
  (κ (.oth (.iv .i64 0 18446744073709551615))))
/-- A cell of memory that stays. -/
def XO (i j:Nat) (κ:V->R):R := br (Nat.beq i 0) (κ (.oth .bl)) (br (Nat.ble i 18446744073709551615) (Ah (Nat.add i j) fun q => κ (.oth (.sy .i64 q)))
  (br (Nat.ble i 36893488147419103231) (br (Nat.ble (Nat.succ j) (Nat.div (Nat.sub i 18446744073709551616) 4294967296)) (br (Tt i j) (κ (.bool true)) (κ (.bool false))) (κ (.oth .bl))) (br (Nat.ble i 73786976294838206463) (apC i j κ) (ZG i j κ))))
def M9 (m:Nat):Nat->List V := @Nat.rec (fun _ => Nat->List V) (fun _ => []) (fun _ ih i => .oth (.sy .i64 i)::ih (Nat.succ i)) m
/-- The cells of a slice or string, and how many elements they are. -/
def JB (esz:Nat) (v:V) (h:Heap) (κ:Nat->Cs->R):R :=
  @V.rec (fun _ => R) (fun _ => Unit) (CN "") (Di "") (CN "") (fun p off len cap ex esz' => br (Nat.beq esz' esz) (Kd p h fun cs _ _ => Ah (Nat.mul len esz) fun m => Dt cs off m fun y => κ len y) (.fail "")) (fun n c => br (Nat.beq esz 1) (κ n (.b n c)) (.fail "")) (CN "") (fun w => @Nl.rec (fun _ => R) (.fail "") (κ 0 (.l [])) (.fail "") (.fail "") (.fail "") w) (Di "") (Ey "") (CN "") (fun o => SJ o (fun i l0 l1 z => br (Nat.beq z esz) (br (Nat.beq l0 l1) (br (and (Nat.ble 1 i) (Nat.ble i 18446744073709551615)) (Ah (Nat.mul l0 esz) fun m => κ l0 (.l (M9 m i))) (.fail "")) (.fail "")) (.fail "")) (Mm o (fun l m z => br (Nat.beq z esz) (br (Nat.beq l.length (Nat.mul m z)) (κ m (.l (l.map RV.v))) (.fail "")) (.fail "")) (Kg o (fun m c => br (Nat.beq esz 1) (κ m (.b m c)) (.fail "")) (.fail "")))) () (fun _ _ _ _ => ()) v
/-- What an append gives that was given the cells. -/
def GS (esz eb:Nat) (x:V) (m:Nat) (y:Cs) (h:Heap) (n:K4) (κ:KV):R :=
  GM x
    (br (Nat.beq m 0) (κ (.nil .sl) h n) (br (Nat.ble (Nat.mul (Nat.add (Nat.mul 4 m) 4096) eb) 281474976710656) (Fz h n (.c y false none) fun h' n' => κ (.sl n 0 m m false esz) h' n') (.fail "")))
    (fun p off len cap ex esz' => br (Nat.beq esz' esz) (br (Nat.beq m 0) (κ x h n) (Ah (Nat.add len m) fun need =>
      br (Nat.ble need cap)
        (Ah (Nat.add off (Nat.mul len esz)) fun j => GN h p j y fun h' => κ (.sl p off need cap ex esz) h' n)
        (br (Nat.ble (Nat.mul (Nat.add (Nat.mul 4 need) 4096) eb) 281474976710656)
          (Kd p h fun cs sup prev => Ah (Nat.mul len esz) fun l => Dt cs off l fun a => TO a y fun z =>
            br ex
              (Fz h n (.c z false none) fun h' n' => κ (.sl n 0 need need false esz) h' n')
              (br sup (.fail "")
                (Ah (Nat.add off l) fun j => Dt cs 0 j fun old => JO prev h fun h => H6 p h (some (.c old true none)) fun h =>
                  Fz h n (.c z false (some p)) fun h' n' => κ (.sl n 0 need need false esz) h' n')))
          (.fail "")))) (.fail ""))
abbrev CF := Nat->List V->Heap->K4->R
def Xg (x:Opd) (cf:CF) (t:Regs) (h:Heap) (n:K4) (κ:KV):R :=
  FE x t fun v => κ v h n
def KG (c a b:Opd) (cf:CF) (t:Regs) (h:Heap) (n:K4) (κ:KV):R :=
  FE c t fun v => RE v fun q => br q (FE a t fun v => κ v h n) (FE b t fun v => κ v h n)
def Qy (cs:Cs) (cf:CF) (t:Regs) (h:Heap) (n:K4) (κ:KV):R :=
  Fz h n (.c cs false none) fun h' n' => κ (.ptr n 0) h' n'
def Ls (x:Opd) (cf:CF) (t:Regs) (h:Heap) (n:K4) (κ:KV):R :=
  FE x t fun v => GO v fun l => Fz h n (.c (.l l) false none) fun h' n' => κ (.ptr n 0) h' n'
def T4 (zero:List V) (parts:List Part) (cf:CF) (t:Regs) (h:Heap) (n:K4) (κ:KV):R :=
  FQ parts t zero fun l => κ (.agg l) h n
def JH (u8:Bool) (len esz:Nat) (zero:List V) (parts:List Part) (cf:CF) (t:Regs) (h:Heap) (n:K4) (κ:KV):R :=
  FQ parts t zero fun l => br u8 (Fi l (fun m c => Fz h n (.c (.b m c) false none) fun h' n' => κ (.sl n 0 len len true esz) h' n') (.fail "")) (Fz h n (.c (.l l) false none) fun h' n' => κ (.sl n 0 len len true esz) h' n')
def UI (x:Opd) (cf:CF) (t:Regs) (h:Heap) (n:K4) (κ:KV):R :=
  FE x t fun v => NS v (fun p off => Kd p h fun cs _ _ => Ht cs off fun v => κ v h n) (fun o => Uz o (fun i j m => br (Nat.ble 1 m) (XO i j fun v => κ v h n) (.fail "")) (NI o (fun l => VY l fun v => κ v h n) (.fail "")))
def Pf (m:Nat) (x:Opd) (cf:CF) (t:Regs) (h:Heap) (n:K4) (κ:KV):R :=
  FE x t fun v => NS v (fun p off => Kd p h fun cs _ _ => Dt cs off m fun y => GX y fun l => κ (.agg l) h n) (fun o => NI o (fun l => br (Nat.ble m l.length) (κ (.agg ((l.take m).map RV.v)) h n) (.fail "")) (.fail ""))
def U8 (m:Nat) (a x:Opd) (cf:CF) (t:Regs) (h:Heap) (n:K4) (κ:KV):R :=
  FE a t fun u => MT u fun p off => FE x t fun v => GO v fun l => Jl l fun k => br (Nat.beq k m) (GN h p off (.l l) fun h' => κ Ec h' n) (.fail "")
def Fu (x:Opd) (cf:CF) (t:Regs) (h:Heap) (n:K4) (κ:KV):R :=
  FE x t fun v => @V.rec (fun _ => R) (fun _ => Unit) (CN "") (Di "") (fun p off => κ v h n) (Gg "") (CN "") (CN "") (Di "") (Di "") (fun f caps _i => κ v h n) (CN "") (fun o => NI o (fun _ => κ v h n) (.fail "")) () (fun _ _ _ _ => ()) v
def Nz (op:BinOp) (x y:Opd) (cf:CF) (t:Regs) (h:Heap) (n:K4) (κ:KV):R :=
  FE x t fun u => FE y t fun v => Q6 op u v fun r => κ r h n
def Us (neg:Bool) (pl:Plan) (x y:Opd) (cf:CF) (t:Regs) (h:Heap) (n:K4) (κ:KV):R :=
  FE x t fun u => FE y t fun v => NM pl u v fun r => br neg (br r (κ (.bool false) h n) (κ (.bool true) h n)) (κ (.bool r) h n)
def Pm (x:Opd) (cf:CF) (t:Regs) (h:Heap) (n:K4) (κ:KV):R :=
  FE x t fun v => RE v fun q => br q (κ (.bool false) h n) (κ (.bool true) h n)
def OG (x:Opd) (cf:CF) (t:Regs) (h:Heap) (n:K4) (κ:KV):R :=
  FE x t fun v => Ki v fun k r => Qk k 0 k r fun v => κ v h n
def Oz (x:Opd) (cf:CF) (t:Regs) (h:Heap) (n:K4) (κ:KV):R :=
  FE x t fun v => Ki v fun k r => Ah (Nat.xor (Nat.sub (Mk k) 1) r) fun r => κ (.int k r) h n
def OO (k:IntKind) (x:Opd) (cf:CF) (t:Regs) (h:Heap) (n:K4) (κ:KV):R :=
  FE x t fun v => Ki v fun j r => br (Nat.ble (Nat.succ r) (Hk j)) (Ah (Nat.mod r (Mk k)) fun r => κ (.int k r) h n) (br (Nat.ble (Mk k) (Mk j)) (Ah (Nat.mod r (Mk k)) fun r => κ (.int k r) h n) (Ah (Nat.sub (Mk k) (Nat.sub (Mk j) r)) fun r => κ (.int k r) h n))
def M5 (x:Opd) (cf:CF) (t:Regs) (h:Heap) (n:K4) (κ:KV):R :=
  FE x t fun v => Gy v (κ (.str 0 0) h n) (fun p off len cap ex esz => br (Nat.beq esz 1) (Kd p h fun cs _ _ => Dt cs off len fun y => GX y fun l => Fi l (fun m c => κ (.str m c) h n) (.fail "")) (.fail "")) (fun o => Kg o (fun m c => κ (.str m c) h n) (.fail ""))
def Lk (x:Opd) (cf:CF) (t:Regs) (h:Heap) (n:K4) (κ:KV):R :=
  FE x t fun v => Dy v fun m c => Fz h n (.c (.b m c) false none) fun h' n' => κ (.sl n 0 m m false 1) h' n'
def P9 (x:Opd) (cf:CF) (t:Regs) (h:Heap) (n:K4) (κ:KV):R :=
  FE x t fun v => Dy v fun _ _ => κ v h n
def O7 (x:Opd) (cf:CF) (t:Regs) (h:Heap) (n:K4) (κ:KV):R :=
  FE x t fun v => GM v (.fail "") (fun p _ _ _ _ _ => Kd p h fun _ _ _ => κ v h n)
def Su (f:Nat) (caps:List Opd) (cf:CF) (t:Regs) (h:Heap) (n:K4) (κ:KV):R :=
  Qq caps t fun l => κ (.fn f l) h n
def Ln  (cf:CF) (t:Regs) (h:Heap) (n:K4) (κ:KV):R :=
  Fz h n (.m [] [] 0) fun h' n' => κ (.map n) h' n'
def Jd (eb:Nat) (u8:Bool) (zero:List V) (l c:Opd) (cf:CF) (t:Regs) (h:Heap) (n:K4) (κ:KV):R :=
  FE l t fun u => LD u fun a => FE c t fun v => LD v fun b => br (Nat.ble a b) (br (Nat.ble (Nat.mul eb b) 281474976710656) (HS u8 zero b fun y => Fz h n (.c y false none) fun h' n' => Jl zero fun esz => κ (.sl n 0 a b true esz) h' n') (.fail "")) (.fail "")
def Lb (x:Opd) (lo hi:Option Opd) (cf:CF) (t:Regs) (h:Heap) (n:K4) (κ:KV):R :=
  FE x t fun v => Ww v (fun l0 l1 _ _ => br (br (GU hi) true (Nat.beq l0 l1)) (Es hi t l0 fun b => Es lo t 0 fun a => br (Nat.ble a b) (br (Nat.ble b l0) (Ah (Nat.sub b a) fun l => κ (.oth (.ss l l (Nat.succ l) 0)) h n) (.fail "")) (.fail "")) (.fail "")) <| Dy v fun m c => Es hi t m fun b => Es lo t 0 fun a => br (Nat.ble a b) (br (Nat.ble b m) (Ah (Nat.sub b a) fun l => Ah (Ev.lo (sh c a) l) fun r => κ (.str l r) h n) (.fail "")) (.fail "")
def L6 (esz:Nat) (x:Opd) (lo hi:Option Opd) (cf:CF) (t:Regs) (h:Heap) (n:K4) (κ:KV):R :=
  FE x t fun v => osK v (fun l0 l1 => br (br (GU hi) true (Nat.beq l0 l1)) (Es hi t l0 fun b => Es lo t 0 fun a => br (Nat.ble a b) (br (Nat.ble b l0) (Ah (Nat.sub b a) fun l => κ (.oth (.os l l)) h n) (.fail "")) (.fail "")) (.fail "")) <| Gy v (Es hi t 0 fun b => Es lo t 0 fun a => br (Nat.beq b 0) (br (Nat.beq a 0) (κ (.nil .sl) h n) (.fail "")) (.fail "")) (fun p off len cap ex esz' => Es hi t len fun b => Es lo t 0 fun a => br (Nat.beq esz' esz) (br (Nat.ble a b) (br (Nat.ble b cap) (Ah (Nat.sub b a) fun l => Ah (Nat.sub cap a) fun c => Ah (Nat.add off (Nat.mul a esz)) fun o => κ (.sl p o l c ex esz) h n) (.fail "")) (.fail "")) (.fail "")) (fun o => Mm o (fun l m z => Es hi t m fun b => Es lo t 0 fun a => br (Nat.beq z esz) (br (Nat.ble a b) (br (Nat.ble b m) (Ah (Nat.sub b a) fun k => Ah (Nat.mul a esz) fun j => Ah (Nat.mul k esz) fun q => κ (.oth (.rx ((l.drop j).take q) k esz)) h n) (.fail "")) (.fail "")) (.fail "")) (Kg o (fun m c => Es hi t m fun b => Es lo t 0 fun a => br (Nat.beq esz 1) (br (Nat.ble a b) (br (Nat.ble b m) (Ah (Nat.sub b a) fun k => Ah (Ev.lo (sh c a) k) fun r => κ (.oth (.rb k r)) h n) (.fail "")) (.fail "")) (.fail "")) (.fail "")))
def KW (m esz:Nat) (x:Opd) (lo hi:Option Opd) (cf:CF) (t:Regs) (h:Heap) (n:K4) (κ:KV):R :=
  FE x t fun v => MT v fun p off => Kd p h fun cs _ _ => Y8 cs fun z => br (Nat.ble (Nat.add off (Nat.mul m esz)) z) (Es hi t m fun b => Es lo t 0 fun a => br (Nat.ble a b) (br (Nat.ble b m) (Ah (Nat.sub b a) fun l => Ah (Nat.sub m a) fun c => Ah (Nat.add off (Nat.mul a esz)) fun o => κ (.sl p o l c true esz) h n) (.fail "")) (.fail "")) (.fail "")
def OY (off:Nat) (x:Opd) (cf:CF) (t:Regs) (h:Heap) (n:K4) (κ:KV):R :=
  FE x t fun v => NS v (fun p o => Ah (Nat.add o off) fun o => κ (.ptr p o) h n) (fun o => Uz o (fun i j m => br (Nat.ble (Nat.succ off) m) (Ah (Nat.add j off) fun j => Ah (Nat.sub m off) fun m => κ (.oth (.ap i j m)) h n) (.fail "")) (NI o (fun l => br (Nat.ble (Nat.succ off) l.length) (κ (.oth (.rp (l.drop off))) h n) (.fail "")) (.fail "")))
def Pa (off size:Nat) (ag:Bool) (x:Opd) (cf:CF) (t:Regs) (h:Heap) (n:K4) (κ:KV):R :=
  FE x t fun v => asAgg v fun l => br ag (GW off l fun r => Gc size r fun r => κ (.agg r) h n) (Gv off l fun v => κ v h n)
def OB (esz:Nat) (x i:Opd) (cf:CF) (t:Regs) (h:Heap) (n:K4) (κ:KV):R :=
  FE x t fun v => FE i t fun u => LD u fun a => Gy v (.fail "") (fun p off len cap ex esz' => br (Nat.beq esz' esz) (br (Nat.ble (Nat.succ a) len) (Ah (Nat.add off (Nat.mul a esz)) fun o => κ (.ptr p o) h n) (.fail "")) (.fail "")) (fun o => SJ o (fun i lo hi z => br (Nat.beq z esz) (br (Nat.ble (Nat.succ a) lo) (Ah (Nat.mul a esz) fun j => κ (.oth (.ap i j esz)) h n) (.fail "")) (.fail "")) (Mm o (fun l m z => br (Nat.beq z esz) (br (Nat.ble (Nat.succ a) m) (Ah (Nat.mul a esz) fun j => κ (.oth (.rp (l.drop j))) h n) (.fail "")) (.fail "")) (Kg o (fun m c => br (Nat.beq esz 1) (br (Nat.ble (Nat.succ a) m) (Ah (Ev.lo (sh c a) 1) fun r => κ (.oth (.rp [.i .u8 r])) h n) (.fail "")) (.fail "")) (.fail ""))))
def Px (m esz:Nat) (x i:Opd) (cf:CF) (t:Regs) (h:Heap) (n:K4) (κ:KV):R :=
  FE x t fun v => FE i t fun u => LD u fun a => MT v fun p off => br (Nat.ble (Nat.succ a) m) (Ah (Nat.add off (Nat.mul a esz)) fun o => κ (.ptr p o) h n) (.fail "")
def OQ (x i:Opd) (cf:CF) (t:Regs) (h:Heap) (n:K4) (κ:KV):R :=
  FE x t fun v => FE i t fun u => LD u fun a => Dy v fun m c => br (Nat.ble (Nat.succ a) m) (Ah (Ev.lo (sh c a) 1) fun r => κ (.int .u8 r) h n) (.fail "")
def Pd (m esz:Nat) (ag:Bool) (x i:Opd) (cf:CF) (t:Regs) (h:Heap) (n:K4) (κ:KV):R :=
  FE x t fun v => FE i t fun u => LD u fun a => asAgg v fun l => br (Nat.ble (Nat.succ a) m) (Ah (Nat.mul a esz) fun j => br ag (GW j l fun r => Gc esz r fun r => κ (.agg r) h n) (Gv j l fun v => κ v h n)) (.fail "")
def Uv (pl:Plan) (zero:V) (ok:Bool) (m k:Opd) (cf:CF) (t:Regs) (h:Heap) (n:K4) (κ:KV):R :=
  FE m t fun u => FE k t fun v => N2 pl v <| Gs u (br ok (κ (.tup [zero, .bool false]) h n) (κ zero h n)) (fun p => Oh p h fun es _ _ => Hh pl v es (fun r => br ok (κ (.tup [r, .bool true]) h n) (κ r h n)) (br ok (κ (.tup [zero, .bool false]) h n) (κ zero h n)))
def TP (pl:Plan) (m k v:Opd) (cf:CF) (t:Regs) (h:Heap) (n:K4) (κ:KV):R :=
  FE m t fun u => FE k t fun a => FE v t fun b => N2 pl a <| Gs u (.fail "") (fun p => Oh p h fun es bs c => Hd pl a b es fun es => UQ es bs c fun bs c => H6 p h (some (.m es bs c)) fun h' => κ Ec h' n)
def On (pl:Plan) (m k:Opd) (cf:CF) (t:Regs) (h:Heap) (n:K4) (κ:KV):R :=
  FE m t fun u => FE k t fun a => N2 pl a <| Gs u (κ (.tup []) h n) (fun p => Oh p h fun es bs c => Kl pl a es fun es' => Kf pl a es bs fun bs => H6 p h (some (.m es' bs c)) fun h' => κ (.tup []) h' n)
def Ow (i:Nat) (x:Opd) (cf:CF) (t:Regs) (h:Heap) (n:K4) (κ:KV):R :=
  FE x t fun v => N0 v fun l => Gv i l fun v => κ v h n
def Qg (f:Nat) (args:List Opd) (cf:CF) (t:Regs) (h:Heap) (n:K4) (κ:KV):R :=
  Qq args t fun l => @R.rec (fun _ => R) (HO "") (fun v h n => κ v h n) (fun w => .fail w) (HO "") (cf f l h n)
def Hn (x:Opd) (args:List Opd) (cf:CF) (t:Regs) (h:Heap) (n:K4) (κ:KV):R :=
  FE x t fun v => S8 v fun f caps => Qq args t fun l => HY l caps fun l => @R.rec (fun _ => R) (HO "") (fun v h n => κ v h n) (fun w => .fail w) (HO "") (cf f l h n)
def Pc (x:Opd) (cf:CF) (t:Regs) (h:Heap) (n:K4) (κ:KV):R :=
  FE x t fun v => Ww v (fun l0 l1 _ _ => br (Nat.ble (Nat.succ l1) 9223372036854775808) (κ (.oth (.iv .i64 l0 l1)) h n) (.fail "")) <| Dy v fun m _ => FZ m fun v => κ v h n
def Pj (x:Opd) (cf:CF) (t:Regs) (h:Heap) (n:K4) (κ:KV):R :=
  FE x t fun v => Gy v (κ (.int .i64 0) h n) (fun p off len cap ex esz => FZ len fun v => κ v h n) (fun o => Yj o (fun l0 l1 => br (Nat.ble (Nat.succ l1) 9223372036854775808) (κ (.oth (.iv .i64 l0 l1)) h n) (.fail "")) (SJ o (fun i l0 l1 z => br (Nat.ble (Nat.succ l1) 9223372036854775808) (br (Nat.beq l0 l1) (κ (.int .i64 l0) h n) (κ (.oth (.iv .i64 l0 l1)) h n)) (.fail "")) (Mm o (fun l m z => FZ m fun v => κ v h n) (Kg o (fun m c => FZ m fun v => κ v h n) (.fail "")))))
def Oo (x:Opd) (cf:CF) (t:Regs) (h:Heap) (n:K4) (κ:KV):R :=
  FE x t fun v => Gs v (κ (.int .i64 0) h n) (fun p => Oh p h fun es _ _ => Vf es fun m => FZ m fun v => κ v h n)
def Pr (x y:Opd) (cf:CF) (t:Regs) (h:Heap) (n:K4) (κ:KV):R :=
  FE x t fun u => FE y t fun v => YV u v fun v => κ v h n
def Pw (x y:Opd) (cf:CF) (t:Regs) (h:Heap) (n:K4) (κ:KV):R :=
  FE x t fun u => FE y t fun v => YX u v fun v => κ v h n
def Ph (esz eb:Nat) (x y:Opd) (cf:CF) (t:Regs) (h:Heap) (n:K4) (κ:KV):R :=
  FE x t fun u => FE y t fun v => JB esz v h fun m y => GS esz eb u m y h n κ
def LI (esz eb:Nat) (u8:Bool) (zero:List V) (x c:Opd) (cf:CF) (t:Regs) (h:Heap) (n:K4) (κ:KV):R :=
  FE x t fun u => FE c t fun v => LD v fun m => br (Nat.ble (Nat.mul eb m) 281474976710656) (HS u8 zero m fun y => GS esz eb u m y h n κ) (.fail "")
def OF (esz:Nat) (x y:Opd) (cf:CF) (t:Regs) (h:Heap) (n:K4) (κ:KV):R :=
  FE x t fun u => FE y t fun v => JB esz v h fun m y => GM u (κ (.int .i64 0) h n) (fun p off len cap ex esz' => br (Nat.beq esz' esz) (Ah (@Bool.rec (fun _ => Nat) len m (Nat.ble m len)) fun k => br (Nat.beq k 0) (κ (.int .i64 0) h n) (Ah (Nat.mul k esz) fun j => Dt y 0 j fun y => GN h p off y fun h => FZ k fun v => κ v h n)) (.fail ""))
def LU (x y z:Opd) (cf:CF) (t:Regs) (h:Heap) (n:K4) (κ:KV):R :=
  FE x t fun u => FE y t fun v => FE z t fun w => Ki u fun k a => Ki v fun j b => Ki w fun i c => br (Ds k j) (br (Ds k i) (br (Gx k a b) (br (Gx k b c) (κ w h n) (κ v h n)) (br (Gx k a c) (κ w h n) (κ u h n))) (.fail "")) (.fail "")
def OJ (x:Opd) (cf:CF) (t:Regs) (h:Heap) (n:K4) (κ:KV):R :=
  FE x t fun v => GM v (κ (.int .i64 0) h n) (fun p off len cap ex esz => br ex (FZ cap fun v => κ v h n) (.fail ""))
def Pu (u8:Bool) (zero:List V) (x:Opd) (cf:CF) (t:Regs) (h:Heap) (n:K4) (κ:KV):R :=
  FE x t fun v => GM v (κ (.tup []) h n) (fun p off len cap ex esz => Jl zero fun m => br (Nat.beq m esz) (br (Nat.beq len 0) (κ (.tup []) h n) (HS u8 zero len fun y => GN h p off y fun h => κ (.tup []) h n)) (.fail ""))
def TJ (why:String) (cf:CF) (t:Regs) (h:Heap) (n:K4) (κ:KV):R :=
  .fail ""
def Kk (o:AK):CF->Regs->Heap->K4->KV->R :=
  @AK.rec (fun _ => CF->Regs->Heap->K4->KV->R) Xg KG Qy Ls T4 JH UI Pf U8 Fu Nz Us Pm OG Oz OO M5 Lk P9 O7 Su Ln Jd Lb L6 KW OY Pa OB Px OQ Pd Uv TP On Ow Qg Hn Pc Pj Oo Pr Pw Ph LI OF LU OJ Pu TJ o
end Go.Ev

namespace Go.Ev
set_option linter.unusedVariables false
structure AOp where
  dst:Option K2
  g:Option (K2×Bool)
  k:AK
/-- One step of a region that draws its order, in one order: a reading (or what hangs on registers alone); an effect; what makes memory, at a place kept for it; a reading N6 again, which must tell the same; a place kept that must be free; a reading of what was N6 at a place kept. -/
inductive Item where
  | rd (i:Nat) (o:AOp)
  | ef (i:Nat) (o:AOp)
  | al (i:Nat) (j:D) (o:AOp)
  | ck (i:Nat) (o:AOp)
  | no (j:D)
  | rn (i:Nat) (j:D) (o:AOp)
/-- What begins a range over a map, goes on with it, tells its entry; a call that may come to many ways; a call of what is told. -/
inductive Sp where
  | rng (x:Opd)
  | nxt (x:Opd)
  | ent (x:Opd)
  | tcl (f:Nat) (l:List Opd)
  | dcl (x:Opd) (l:List Opd)
inductive AC where
  | skip
  | seq (a b:AC)
  | ops (l:List AOp)
  | drawn (al:Bool) (l:List Item)
  | cond (c:Opd) (a b:AC)
  | block (id:Nat) (b:AC)
  | loop (b:AC)
  | exit (id:Nat)
  | ret
  | bad (why:String)
  | spl (pre:List AOp) (sp:Sp) (d:Option K2) (post:List AOp)
inductive ARes where
  | tmp (p:K2)
  | cel (p:K2) (m:Option Nat)
structure AFn where
  ps:List K2
  code:AC
  rs:List ARes
abbrev Rv := List V->Heap->K4->R
/-- Is the operation wanted? Its guard is what another one of the region has told. -/
def Fq (g:Option (K2×Bool)) (t:Regs) (yes no:R):R :=
  @Option.rec (K2×Bool) (fun _ => R) yes (fun p => @Prod.rec K2 Bool (fun _ => R) (fun r want => Kn r t fun v =>
    @V.rec (fun _ => R) (fun _ => Unit) (fun _ _ => no) (fun b => br (Bool.rec (Bool.rec true false b) b want) yes no) (fun _ _ => no) (fun _ _ _ _ _ _ => no) (fun _ _ => no) (fun _ _ => no) (fun _ => no) (fun _ => no) (fun _ _ _ => no) (fun _ _ => no) (fun o => .fail "") () (fun _ _ _ _ => ()) v) p) g
/-- Two open values are one: both any, both some bool, or integers between the same bounds. -/
def asO (v:V) (κ:Ot->R):R :=
  @V.rec (fun _ => R) (fun _ => Unit) (fun _ _ => (.fail "")) (fun _ => (.fail "")) (fun _ _ => (.fail "")) (fun _ _ _ _ _ _ => (.fail "")) (fun _ _ => (.fail "")) (fun _ _ => (.fail "")) (fun _ => (.fail "")) (fun _ => (.fail "")) (fun _ _ _ => (.fail "")) (fun _ _ => (.fail "")) (fun o => κ o) () (fun _ _ _ _ => ()) v
def ZH (u:Ot) (κ:R):R := @Ot.rec (fun _ => R) κ (fun _ => (.fail "")) (fun _ => (.fail "")) (.fail "") (fun _ _ _ => (.fail "")) (fun _ _ => (.fail "")) (.fail "") (fun _ _ => (.fail "")) (fun _ _ _ _ => (.fail "")) (fun _ _ _ _ => (.fail "")) (fun _ _ _ => (.fail "")) (fun _ _ => (.fail "")) (fun _ _ => (.fail "")) (fun _ _ _ => (.fail "")) (fun _ => (.fail "")) u
def Acs (u:Ot) (κ:R):R := @Ot.rec (fun _ => R) (.fail "") (fun _ => (.fail "")) (fun _ => (.fail "")) (.fail "") (fun _ _ _ => (.fail "")) (fun _ _ => (.fail "")) κ (fun _ _ => (.fail "")) (fun _ _ _ _ => (.fail "")) (fun _ _ _ _ => (.fail "")) (fun _ _ _ => (.fail "")) (fun _ _ => (.fail "")) (fun _ _ => (.fail "")) (fun _ _ _ => (.fail "")) (fun _ => (.fail "")) u
def Ac6 (u:Ot) (κ:IntKind->Nat->Nat->R):R := @Ot.rec (fun _ => R) (.fail "") (fun _ => (.fail "")) (fun _ => (.fail "")) (.fail "") (fun k lo hi => κ k lo hi) (fun _ _ => (.fail "")) (.fail "") (fun _ _ => (.fail "")) (fun _ _ _ _ => (.fail "")) (fun _ _ _ _ => (.fail "")) (fun _ _ _ => (.fail "")) (fun _ _ => (.fail "")) (fun _ _ => (.fail "")) (fun _ _ _ => (.fail "")) (fun _ => (.fail "")) u
def Yb (o u:Ot) (κ:R):R :=
  @Ot.rec (fun _ => R) (ZH u κ) (fun _ => (.fail "")) (fun _ => (.fail "")) (.fail "") (fun k lo hi => Ac6 u fun k' lo' hi' => br (Ds k k') (br (Nat.beq lo lo') (br (Nat.beq hi hi') κ (.fail "")) (.fail "")) (.fail "")) (fun _ _ => (.fail "")) (Acs u κ) (fun _ _ => (.fail "")) (fun _ _ _ _ => (.fail "")) (fun _ _ _ _ => (.fail "")) (fun _ _ _ => (.fail "")) (fun _ _ => (.fail "")) (fun _ _ => (.fail "")) (fun _ _ _ => (.fail "")) (fun _ => (.fail "")) o
/-- Two abstract values are one. -/
def E9 (x:V):V->R->R :=
  @V.rec (fun _ => V->R->R) (fun _ => List V->R->R)
    (fun k r y κ => Ki y fun j b => br (Ds k j) (br (Nat.beq r b) κ (.fail "")) (.fail ""))
    (fun b y κ => RE y fun c => br (Bool.rec (Bool.rec true false b) b c) κ (.fail ""))
    (fun p off y κ => MT y fun q o => br (K4.beq p q) (br (Nat.beq off o) κ (.fail "")) (.fail ""))
    (fun p off len cap ex esz y κ => GM y (.fail "") fun q o l c e z => br (K4.beq p q) (br (and (Nat.beq off o) (and (Nat.beq len l) (and (Nat.beq cap c) (and (Bool.rec (Bool.rec true false ex) ex e) (Nat.beq esz z))))) κ (.fail "")) (.fail ""))
    (fun n c y κ => Dy y fun m d => br (G2 n c m d) κ (.fail ""))
    (fun _ ih y κ => asAgg y fun l => ih l κ)
    (fun w y κ => @V.rec (fun _ => R) (fun _ => Unit) (CN "") (Di "") (CN "") (Gg "") (CN "") (CN "")
      (fun u => br (Nat.beq (@Nl.rec (fun _ => Nat) 0 1 2 3 4 w) (@Nl.rec (fun _ => Nat) 0 1 2 3 4 u)) κ (.fail "")) (Di "") (Ey "") (CN "") (Di "") () (fun _ _ _ _ => ()) y)
    (fun p y κ => Gs y (.fail "") fun q => br (K4.beq p q) κ (.fail ""))
    (fun f _ ih y κ => S8 y fun g l => br (Nat.beq f g) (ih l κ) (.fail ""))
    (fun _ ih y κ => N0 y fun l => ih l κ)
    (fun o y κ => asO y fun u => Yb o u κ)
    (fun l κ => @List.rec V (fun _ => R) κ (Ey "") l)
    (fun _ _ ihx ihl l κ => @List.rec V (fun _ => R) (.fail "") (fun y ys _ => ihx y (ihl ys κ)) l) x
/-- The value alone. -/
def MA:KV := fun v _ _ => .rv v Dd ⟨.d0, .d0, .d0, .d0⟩
/-- An operation's value and what it leaves. -/
def Iu (r:R) (κ:V->Heap->K4->R):R := @R.rec (fun _ => R) (HO "") (fun v h n => κ v h n) (fun w => .fail w) (HO "") r
def II (o:Option Ob) (κ:R):R := @Option.rec Ob (fun _ => R) κ (Di "") o
def YW (o:Option Ob) (κ:Ob->R):R := @Option.rec Ob (fun _ => R) (.fail "") κ o
def Vi (d:Option K2) (κ:K2->R):R := @Option.rec K2 (fun _ => R) (.fail "") κ d
/-- Rounds of a loop. -/
def Gw (body:S->Heap->K4->R) (m:Nat):S->Heap->K4->R :=
  @Nat.rec (fun _ => S->Heap->K4->R) (Ey "")
    (fun _ rec t h n => @R.rec (fun _ => R) (fun e t h n => @Ex.rec (fun _ => R) (rec t h n) (fun id => .ok (.exit id) t h n) (.ok .ret t h n) e) (Ey "") (fun w => .fail w) (fun _ _ a b => .both a b) (body t h n)) m
def Uq (args:List V):List K2->Regs->(Regs->R)->R :=
  @List.rec V (fun _ => List K2->Regs->(Regs->R)->R) (fun ps t κ => @List.rec K2 (fun _ => R) (κ t) (Ey "") ps)
    (fun v _ ih ps t κ => @List.rec K2 (fun _ => R) (.fail "") (fun p qs _ => Qe p t v fun t => ih qs t κ) ps) args
def MG (r:ARes) (t:Regs) (h:Heap) (κ:V->R):R :=
  @ARes.rec (fun _ => R) (fun p => Kn p t κ) (fun p m => Kn p t fun v => MT v fun q off => Kd q h fun cs _ _ =>
    @Option.rec Nat (fun _ => R) (Ht cs off κ) (fun m => Dt cs off m fun y => GX y fun l => κ (.agg l)) m) r
def Mq (rs:List ARes) (t:Regs) (h:Heap):(List V->R)->R :=
  @List.rec ARes (fun _ => (List V->R)->R) (fun κ => κ []) (fun r _ ih κ => MG r t h fun v => ih fun vs => κ (v::vs)) rs
def RQ (rs:List ARes) (t:Regs) (h:Heap) (n:K4):R :=
  Mq rs t h fun l => @List.rec V (fun _ => R) (.rv (.tup []) h n) (fun v vs _ => @List.rec V (fun _ => R) (.rv v h n) (fun _ _ _ => .rv (.tup l) h n) vs) l
end Go.Ev

namespace Go.Ev
set_option linter.unusedVariables false
def MC (v:Value):Option V :=
  match v with
  | .bool b => some (.bool b)
  | .int k n => match n with
    | .ofNat m => if Nat.ble (Nat.succ m) (Hk k) then some (.int k m) else none
    | .negSucc m => if Nat.ble (Nat.add (Hk k) (Nat.succ m)) (Mk k) then some (.int k (Nat.sub (Mk k) (Nat.succ m))) else none
  | .string s => some (.str s.size (CJ s.data.toList))
  | .pointer none => some (.nil .ptr)
  | .slice none 0 0 => some (.nil .sl)
  | .map none => some (.nil .map)
  | .nilFunc => some (.nil .fn)
  | .nilIface => some (.nil .iface)
  | _ => none
def Kt:List Value->Option (List V)
  | [] => some []
  | v::l => match MC v, Kt l with
    | some x, some xs => some (x::xs)
    | _, _ => none
def LE (v:Value):Option V :=
  match v with
  | .agg cs => (Kt cs.toList).map .agg
  | .tuple cs => if cs.toList.isEmpty then some (.tup []) else none
  | .func (.func f) first caps => if first.toList.isEmpty&&caps.toList.isEmpty then some (.fn f []) else none
  | v => MC v
section
variable (P:Program) (N:Nat)
def Jf (t:Nat):Option K2 := if t<N then K2.ofN t else none
def Da:Operand->Option Opd
  | .tmp t => (Jf N t).map .t
  | .const v => (LE v).map .c
  | .func f => some (.c (.fn f []))
  | .global _ => none
def E6:List Operand->Option (List Opd)
  | [] => some []
  | o::l => match Da N o, E6 l with
    | some x, some xs => some (x::xs)
    | _, _ => none
def Iz:Option Operand->Option (Option Opd)
  | none => some none
  | some o => (Da N o).map some
def FY (t:TypeId):Option (List V) := ((P.info? t).bind (·.zero)).bind fun z => Kt z.cells.toList
def DJ (t:TypeId):Option Nat := (P.info? t).map (·.size)
def HL (t:TypeId):Option Nat := (P.info? t).map (·.bytes)
def ND (t:TypeId):Option Bool := (P.underlying t).map fun d => match d with | .struct _ | .array _ _ => true | _ => false
def YZ (t:TypeId):Bool := match P.underlying t with | some (.int .u8) => true | _ => false
def RF (t:TypeId):Option Sc :=
  match P.underlying t with
  | some (.int _) => some .i
  | some .string => some .s
  | some .bool => some .b
  | _ => none
/-- The offsets of a struct's fields, all of them scalars. -/
def JN:List Field->Option (List (Nat×Sc))
  | [] => some []
  | f::l => if f.name ≠ "_" then
      match RF P f.type, JN l with
      | some k, some r => some ((f.offset, k)::r)
      | _, _ => none
    else none
def MN (t:TypeId):Option Plan :=
  match P.underlying t with
  | some .bool => some (.sc .b)
  | some (.struct fs) => if P.stoodInHeld t then none else (JN P fs.toList).map .st
  | some (.pointer e) => match DJ P e with
    | some (_+1) => some (.rf .ptr)
    | _ => none
  | some (.slice _) => some (.rf .sl)
  | some (.map _ _) => some (.rf .map)
  | some (.func _ _ _) => some (.rf .fn)
  | _ => none
def Km (t:TypeId):Option Plan :=
  match P.underlying t with
  | some (.struct fs) =>
    if P.stoodInHeld t then none else
    match JN P fs.toList with
    | some offs => if offs.map (·.1)=List.range offs.length then some (.ks (offs.map (·.2))) else none
    | none => none
  | _ => (RF P t).map .sc
def Io (place:Nat->Option (Nat×Nat)):List (Nat×Operand)->Option (List Part)
  | [] => some []
  | (i, o)::l => match place i, Da N o, Io place l with
    | some (off, size), some x, some xs => some (⟨off, size, x⟩::xs)
    | _, _, _ => none
/-- So many elements' zero cells. -/
def GK (z:List V):Nat->List V
  | 0 => []
  | n+1 => z++GK z n
/-- The zero of a byte. -/
def NY:List V->Bool
  | [.int .u8 0] => true
  | _ => false
def HM (b:Builtin) (argTypes:Array TypeId) (args:List Opd):Option AK :=
  match b, argTypes.toList, args with
  | .len, t::_, x::_ =>
    match P.underlying t with
    | some .string => some (.lnS x)
    | some (.slice _) => some (.lnL x)
    | some (.map _ _) => some (.lnM x)
    | _ => none
  | .min, _, [x, y] => some (.min x y)
  | .max, _, [x, y] => some (.max x y)
  | .max, _, [x, y, z] => some (.max3 x y z)
  | .append, [t, u], [x, y] =>
    match P.underlying t, P.underlying u with
    | some (.slice e), some (.int _) =>
      match DJ P e, HL P e, FY P e with
      | some s, some b, some z => if s == z.length&&0<s&&0<b then some (.appz s b (NY z) z x y) else none
      | _, _, _ => none
    | some (.slice e), some _ =>
      match DJ P e, HL P e, FY P e with
      | some s, some b, some z => if s == z.length&&0<s&&0<b then some (.app s b x y) else none
      | _, _, _ => none
    | _, _ => none
  | .copy, t::_, [x, y] =>
    match P.underlying t with
    | some (.slice e) => match DJ P e with
      | some s => if 0<s then some (.cpy s x y) else none
      | none => none
    | _ => none
  | .delete, t::_, [m, k] =>
    match P.underlying t with
    | some (.map kt _) => (Km P kt).map fun pl => .del pl m k
    | _ => none
  | .cap, t::_, x::_ =>
    match P.underlying t with
    | some (.slice _) => some (.cpL x)
    | _ => none
  | .clear, t::_, x::_ =>
    match P.underlying t with
    | some (.slice e) => match DJ P e, FY P e with
      | some s, some z => if s == z.length&&0<s then some (.clr (NY z) z x) else none
      | _, _ => none
    | _ => none
  | _, _, _ => none
def Im (o:Oper):Option AK :=
  match o.op with
  | .move x | .assign x => (Da N x).map .mv
  | .pick c a b => match Da N c, Da N a, Da N b with
    | some c, some a, some b => some (.pick c a b)
    | _, _, _ => none
  | .alloc e => (FY P e).map fun z => .alc (.l z)
  | .box _ x => (Da N x).map .box
  | .build t parts =>
    match P.underlying t, FY P t with
    | some (.struct fs), some z => (fs.toList.mapM fun f => (P.info? f.type).map fun i => (f.offset, i.size)).bind fun places => (Io N (places.toArray[·]?) parts.toList).map fun ps => .build z ps
    | some (.array _ e), some z => (DJ P e).bind fun s => (Io N (fun i => some (i*s, s)) parts.toList).map fun ps => .build z ps
    | _, _ => none
  | .buildSlice t len parts =>
    match P.underlying t with
    | some (.slice e) =>
      match DJ P e, FY P e with
      | some s, some z => if s == z.length&&0<s&&len*s≤2 ^ 24 then
          (Io N (fun i => some (i*s, s)) parts.toList).map fun ps => .bslice (YZ P e&&s == 1) len s (GK z len) ps else none
      | _, _ => none
    | _ => none
  | .load t a => match ND P t, DJ P t, Da N a with
    | some true, some s, some a => some (.ldn s a)
    | some false, _, some a => some (.ld a)
    | _, _, _ => none
  | .store t a x => match DJ P t, Da N a, Da N x with
    | some s, some a, some x => some (.st s a x)
    | _, _, _ => none
  | .nilCheck x => (Da N x).map .nilck
  | .binOp op t x y _ =>
    match Da N x, Da N y with
    | some a, some b =>
      match op, P.underlying t with
      | .eql, some (.int _) | .eql, some .string => some (.bin .eql a b)
      | .neq, some (.int _) | .neq, some .string => some (.bin .neq a b)
      | .eql, _ => if P.eqGuardType P.depth t then none else (MN P t).map fun pl => .eq false pl a b
      | .neq, _ => if P.eqGuardType P.depth t then none else (MN P t).map fun pl => .eq true pl a b
      | op, _ => some (.bin op a b)
    | _, _ => none
  | .unOp op _ x =>
    match op, Da N x with
    | .not, some x => some (.not x)
    | .neg, some x => some (.neg x)
    | .xor, some x => some (.com x)
    | _, _ => none
  | .convert src dst x =>
    match P.underlying src, P.underlying dst, Da N x with
    | some (.int _), some (.int k), some x => some (.cvi k x)
    | some .string, some .string, some x => some (.idn x)
    | some .string, some (.slice e), some x => if YZ P e then some (.s2b x) else none
    | some (.slice e), some .string, some x => if YZ P e then some (.b2s x) else none
    | some (.slice _), some (.slice e), some x => if src == dst&&YZ P e then some (.bsl x) else none
    | _, _, _ => none
  | .makeFunc fn first caps =>
    match fn, first.toList, E6 N caps.toList with
    | .func f, [], some l => some (.mkfn f l)
    | _, _, _ => none
  | .makeMap _ none => some .mkmap
  | .makeSlice t l c =>
    match P.underlying t, Da N l, Da N c with
    | some (.slice e), some l, some c =>
      match DJ P e, HL P e, FY P e with
      | some s, some b, some z => if s == z.length&&0<s&&0<b then some (.mksl b (NY z) z l c) else none
      | _, _, _ => none
    | _, _, _ => none
  | .slice t x lo hi none =>
    match P.underlying t, Da N x, Iz N lo, Iz N hi with
    | some .string, some x, some lo, some hi => some (.slS x lo hi)
    | some (.slice e), some x, some lo, some hi => (DJ P e).map fun s => .slL s x lo hi
    | some (.array m e), some x, some lo, some hi => (DJ P e).map fun s => .slA m s x lo hi
    | _, _, _, _ => none
  | .fieldAddr s x f =>
    match P.underlying s, Da N x with
    | some (.struct fs), some x => (fs[f]?).bind fun f => match DJ P f.type with
      | some (_+1) => some (.fad f.offset x)
      | _ => none
    | _, _ => none
  | .field s x f =>
    match P.underlying s, Da N x with
    | some (.struct fs), some x => (fs[f]?).bind fun f => match ND P f.type, DJ P f.type with
      | some ag, some sz => some (.fld f.offset sz ag x)
      | _, _ => none
    | _, _ => none
  | .indexAddr t x i =>
    match P.underlying t, Da N x, Da N i with
    | some (.slice e), some x, some i => (DJ P e).map fun s => .ixS s x i
    | some (.array m e), some x, some i => (DJ P e).map fun s => .ixA m s x i
    | _, _, _ => none
  | .index t x i =>
    match P.underlying t, Da N x, Da N i with
    | some .string, some x, some i => some (.idS x i)
    | some (.array m e), some x, some i => match ND P e, DJ P e with
      | some ag, some s => some (.idA m s ag x i)
      | _, _ => none
    | _, _, _ => none
  | .lookup t m k ok =>
    match P.underlying t, Da N m, Da N k with
    | some (.map kt e), some m, some k =>
      match Km P kt, (P.info? e).bind (·.zero) with
      | some pl, some z => (LE z).map fun z => .lk pl z ok m k
      | _, _ => none
    | _, _, _ => none
  | .mapUpdate t m k v | .insert t m k v =>
    match P.underlying t, Da N m, Da N k, Da N v with
    | some (.map kt _), some m, some k, some v => (Km P kt).map fun pl => .mu pl m k v
    | _, _, _, _ => none
  | .extract x i => (Da N x).map fun x => .ext i x
  | .call c =>
    match c.callee, E6 N c.args.toList with
    | .builtin b, some args => HM P b c.argTypes args
    | .value (.func f), some args => some (.call f args)
    | .value x, some args => (Da N x).map fun x => .calld x args
    | _, _ => none
  | _ => none
/-- An operation, its guard read off the region's other operations. -/
def Me (ops:Array Oper) (o:Oper):Option AOp :=
  match (match o.dst with | none => some none | some d => (Jf N d).map some:Option (Option K2)),
    (match o.guard with | none => some none | some (j, w) => ((ops[j]?).bind (·.dst)).bind fun d => (Jf N d).map fun s => some (s, w):Option (Option (K2×Bool))) with
  | some d, some g => some ⟨d, g, (Im P N o).getD (.bad o.pos)⟩
  | _, _ => none
def Ke (ops:Array Oper):List Oper->Option (List AOp)
  | [] => some []
  | o::l => match Me P N ops o, Ke ops l with
    | some x, some xs => some (x::xs)
    | _, _ => none
/-- 0: it hangs on registers alone; 1: it reads; 2: it makes memory; 3: it does more. -/
def AK.sort:AK->Nat
  | .ld _ | .ldn _ _ | .b2s _ | .slA _ _ _ _ _ | .lk _ _ _ _ _ | .lnM _ => 1
  | .alc _ | .box _ | .bslice _ _ _ _ _ | .s2b _ | .mkmap | .mksl _ _ _ _ _ => 2
  | .st _ _ _ | .mu _ _ _ _ | .del _ _ _ | .call _ _ | .calld _ _ | .app _ _ _ _ | .appz _ _ _ _ _ _ | .cpy _ _ _ | .clr _ _ _ | .bsl _ | .bad _ => 3
  | _ => 0
def FG (o:Oper):List Nat := o.after.toList.filterMap fun e => if Region.binds .any e then some e.on else none
/-- Of each operation all that stand ahead of it, as bits. -/
def Abn (deps:List (List Nat)):List Nat :=
  deps.foldl (fun acc ds => acc++[ds.foldl (fun s d => s ||| 2 ^ d ||| acc.getD d 0) 0]) []
def AK.opds:AK->List Opd
  | .mv x | .box x | .ld x | .ldn _ x | .nilck x | .not x | .neg x | .com x | .cvi _ x | .b2s x | .s2b x | .idn x | .bsl x | .fad _ x | .fld _ _ _ x | .ext _ x | .lnS x | .lnL x | .lnM x | .cpL x | .clr _ _ x => [x]
  | .pick c a b | .max3 c a b => [c, a, b]
  | .alc _ | .mkmap | .bad _ => []
  | .build _ ps | .bslice _ _ _ _ ps => ps.map (·.x)
  | .st _ a x | .bin _ a x | .eq _ _ a x | .ixS _ a x | .ixA _ _ a x | .idS a x | .idA _ _ _ a x | .lk _ _ _ a x | .del _ a x | .min a x | .max a x | .app _ _ a x | .appz _ _ _ _ a x | .cpy _ a x
  | .mksl _ _ _ a x => [a, x]
  | .mu _ m k v => [m, k, v]
  | .mkfn _ l | .call _ l => l
  | .calld x l => x::l
  | .slS x lo hi | .slL _ x lo hi | .slA _ _ x lo hi => x::(lo.toList++hi.toList)
def K2.beq (p q:K2):Bool := and (p.b.beq q.b) (p.a.beq q.a)
def Xm (p:K2) (l:List K2):Bool := l.any (K2.beq p)
/-- The registers that an operation reads. -/
def AOp.slots (o:AOp):List K2 :=
  (o.k.opds.filterMap fun x => match x with | .t p => some p | .c _ => none)++(match o.g with | some (p, _) => [p] | none => [])
/-- The items of a drawn region, told by numbers. -/
inductive SI where
  | rd (i:Nat)
  | ef (i:Nat)
  | al (i:Nat) (j:D)
  | ck (i:Nat)
  | no (j:D)
  | rn (i a:Nat) (j:D)
def SI.ix:SI->Option Nat
  | .rd i => some i
  | .ef i => some i
  | .al i _ => some i
  | .rn i _ _ => some i
  | _ => none
def SI.isEf:SI->Bool
  | .ef _ => true
  | _ => false
def SI.isAl:SI->Bool
  | .al _ _ => true
  | _ => false
/-- What is read here, first or again. -/
def SI.reads:SI->Option Nat
  | .rd i => some i
  | .ck i => some i
  | _ => none
def SI.isCk (i:Nat):SI->Bool
  | .ck j => Nat.beq i j
  | _ => false
def EK:AOp := ⟨none, none, .bad "no such operation"⟩
def N9 (os:List AOp):SI->Item
  | .rd i => .rd i (os.getD i EK)
  | .ef i => .ef i (os.getD i EK)
  | .al i j => .al i j (os.getD i EK)
  | .ck i => .ck i (os.getD i EK)
  | .no j => .no j
  | .rn i _ j => .rn i j (os.getD i EK)
/-- What is Gz of a drawn region: sorts, registers written and read, what each hangs on, ancestors, the items. -/
structure Plot where
  so:List Nat
  ds:List (Option K2)
  sl:List (List K2)
  de:List (List Nat)
  an:List Nat
  sk:List SI
namespace Plot
variable (p:Plot)
def m:Nat := p.so.length
def sort (i:Nat):Nat := p.so.getD i 9
def dst (i:Nat):Option K2 := p.ds.getD i none
def slots (i:Nat):List K2 := p.sl.getD i []
def deps (i:Nat):List Nat := p.de.getD i []
def anc (i d:Nat):Bool := (p.an.getD i 0).testBit d
def pos (i:Nat):Nat := p.sk.findIdx fun x => match x.ix with | some j => Nat.beq i j | none => false
/-- How many effects stand ahead of a place. -/
def bat (l:Nat):Nat := ((p.sk.take l).filter SI.isEf).length
def effs:List Nat := p.sk.filterMap fun x => match x with | .ef i => some i | _ => none
def all (f:Nat->Bool):Bool := (List.range p.m).all f
/-- What depends on nothing but its number, kept. -/
structure Tab where
  po:List Nat
  ba:List Nat
  ef:List Nat
def tab:Tab := ⟨(List.range p.m).map p.pos, (List.range (p.sk.length+1)).map p.bat, p.effs⟩
def writes (w:Nat) (l:List K2):Bool := match p.dst w with | some d => Xm d l | none => false
def okDst:Bool := p.all fun i => p.all fun j => Nat.beq i j || match p.dst i with | some d => !(match p.dst j with | some e => d.beq e | none => false) | none => true
def okDeps:Bool := p.all fun i => (p.deps i).all fun d => Nat.blt d i
def okAnc:Bool := p.all fun i => p.all fun d => !p.anc i d || (p.deps i).any fun c => Nat.beq c d || p.anc c d
def okPos (t:Tab):Bool := p.all fun i => match p.sk[t.po.getD i 0]? with
  | some (.ef j) => Nat.beq i j&&Nat.beq (p.sort i) 3
  | some (.al j _) => Nat.beq i j&&Nat.beq (p.sort i) 2
  | some (.rd j) => Nat.beq i j&&Nat.ble (p.sort i) 1
  | some (.rn j a d) => Nat.beq i j&&(Nat.ble (p.sort i) 1&&(Nat.blt a p.m&&(p.anc i a&&(Nat.blt (t.po.getD a 0) (t.po.getD i 0)&&(Nat.beq (t.ba.getD (t.po.getD a 0) 0) (t.ba.getD (t.po.getD i 0) 0) &&
      match p.sk[t.po.getD a 0]? with | some (.al a' d') => Nat.beq a a'&&d.beq d' | _ => false)))))
  | _ => false
def okUniq (t:Tab):Bool := (List.range p.sk.length).all fun l => match p.sk[l]? with
  | some x => match x.ix with
    | some i => Nat.blt i p.m&&Nat.beq (t.po.getD i 0) l
    | none => match x with
      | .ck i => Nat.blt i p.m&&Nat.blt (t.po.getD i 0) l&&Nat.ble (p.sort i) 1
      | _ => true
  | none => false
def okSlots (t:Tab):Bool := p.all fun i => p.all fun w => !p.writes w (p.slots i) || (!Nat.beq i w&&((p.anc i w&&Nat.blt (t.po.getD w 0) (t.po.getD i 0)) ||
  (p.anc w i&&Nat.blt (t.po.getD i 0) (t.po.getD w 0)&&(List.range p.sk.length).all fun l => match p.sk[l]? with | some x => !x.isCk i || Nat.blt l (t.po.getD w 0) | none => true)))
def okEff (t:Tab):Bool := t.ef.all fun i => t.ef.all fun j => !Nat.blt (t.po.getD i 0) (t.po.getD j 0) || p.anc j i
/-- With j effects done the operation cannot be next. -/
def never (t:Tab) (i j:Nat):Bool := t.ef.any fun e => (p.anc i e&&Nat.ble j (t.ba.getD (t.po.getD e 0) 0)) || (p.anc e i&&Nat.blt (t.ba.getD (t.po.getD e 0) 0) j)
/-- What was N6 in a later batch, or in this one, is read. -/
def fresh (t:Tab) (i j:Nat):Bool := match p.sk[t.po.getD i 0]? with | some (.rn _ a _) => Nat.ble j (t.ba.getD (t.po.getD a 0) 0) | _ => false
def okRead (t:Tab):Bool := p.all fun i => !Nat.beq (p.sort i) 1 || (List.range (t.ef.length+1)).all fun j => p.never t i j || p.fresh t i j ||
  (List.range p.sk.length).any fun l => Nat.beq (t.ba.getD l 0) j&&match p.sk[l]? with | some x => (match x.reads with | some i' => Nat.beq i i' | none => false) | none => false
def okAl (t:Tab):Bool := p.all fun i => !Nat.beq (p.sort i) 2 || match p.sk[t.po.getD i 0]? with
  | some (.al _ d) => ((List.range (t.ef.length+1)).all fun j => if Nat.ble j (t.ba.getD (t.po.getD i 0) 0) then
        (List.range p.sk.length).any fun l => Nat.beq (t.ba.getD l 0) j&&match p.sk[l]? with | some (.no d') => d.beq d' | _ => false
      else t.ef.any fun e => p.anc e i&&Nat.blt (t.ba.getD (t.po.getD e 0) 0) j) &&
    p.all fun i' => Nat.beq i i' || match p.sk[t.po.getD i' 0]? with | some (.al _ d') => !d.beq d' | _ => true
  | _ => false
def ok:Bool :=
  let t := p.tab
  p.okDst&&(p.okDeps&&(p.okAnc&&(p.okPos t&&(p.okUniq t&&(p.okSlots t&&(p.okEff t&&(p.okRead t&&p.okAl t)))))))
end Plot
/-- How many of the effects stand ahead. -/
def Aaq (effs:List Nat) (anc:Nat):Nat := (effs.filter (anc.testBit ·)).length
/-- How many effects there are ahead of the first one that it stands ahead of. -/
def ZZ (effs:List (Nat×Nat)) (i:Nat):Nat := (effs.takeWhile fun e => !e.2.testBit i).length
/-- The PF: effects as their number (from 1), readings as early as they may, what makes memory as late, the rest behind what it hangs on. -/
def PF (effs:List (Nat×Nat)):List (Nat×List Nat×Nat×Nat)->List Nat->List Nat
  | [], acc => acc
  | (i, deps, anc, sort)::l, acc =>
    let b := deps.foldl (fun m d => max m (acc.getD d 0)) 0
    let b := match sort with
      | 1 => max b (Aaq (effs.map (·.1)) anc)
      | 2 => max b (ZZ effs i)
      | 3 => Aaq (effs.map (·.1)) anc+1
      | _ => b
    PF effs l (acc++[b])
/-- The plot of a region. -/
def YF (so:List Nat) (de:List (List Nat)) (an:List Nat) (ro:List (Option Nat)):List SI :=
  let idx := List.range so.length
  let ef := (idx.filter fun i => so.getD i 0 == 3).map fun i => (i, an.getD i 0)
  let ba := PF ef (idx.map fun i => (i, de.getD i [], an.getD i 0, so.getD i 0)) []
  let al := idx.filter fun i => so.getD i 0 == 2
  let dig := fun i => D.ofN (al.takeWhile (· != i)).length
  let item := fun i => if so.getD i 0 == 2 then SI.al i (dig i) else match ro.getD i none with
    | some a => if so.getD i 0 == 1&&ba.getD i 0 == ba.getD a 0 then SI.rn i a (dig a) else SI.rd i
    | none => SI.rd i
  (List.range (ef.length+1)).flatMap fun j =>
    ((idx.filter fun i => so.getD i 0 == 3&&ba.getD i 0 == j).map SI.ef) ++
    ((al.filter fun i => Nat.ble j (ba.getD i 0)).map fun i => SI.no (dig i)) ++
    ((idx.filter fun i => so.getD i 0 != 3&&ba.getD i 0 == j).map item) ++
    ((idx.filter fun i => so.getD i 0 == 1&&Nat.blt (ba.getD i 0) j&&Nat.ble j (ZZ ef i)).map SI.ck)
/-- What an operation reads, or leads to. -/
def AK.base:AK->Option K2
  | .ld (.t p) | .ldn _ (.t p) | .b2s (.t p) | .slA _ _ (.t p) _ _ | .lk _ _ _ (.t p) _ | .lnM (.t p) | .ixS _ (.t p) _ | .ixA _ _ (.t p) _ | .fad _ (.t p) | .slL _ (.t p) _ _ | .nilck (.t p) | .idn (.t p) => some p
  | _ => none
/-- The operation that N6 what is read. -/
def VO (os:List AOp):Nat->Nat->Option Nat
  | 0, _ => none
  | fuel+1, i => match os[i]? with
    | some o => match o.k.base with
      | some q =>
        let j := os.findIdx fun x => match x.dst with | some d => d.beq q | none => false
        match os[j]? with
        | some x => if x.k.sort == 2 then some j else if Nat.blt j i then VO os fuel j else none
        | none => none
      | none => none
    | none => none
def EN (deps:List (List Nat)) (os:List AOp):Plot :=
  let so := os.map (·.k.sort)
  let an := Abn deps
  ⟨so, os.map (·.dst), os.map AOp.slots, deps, an, YF so deps an ((List.range so.length).map fun i => if so.getD i 0 == 1 then VO os 6 i else none)⟩
def EW (ops:Array Oper) (draw:Bool):AC :=
  match Ke P N ops ops.toList with
  | none => .bad "a region of it registers"
  | some os =>
    if draw then
      let p := EN (ops.toList.map FG) os
      if p.ok then .drawn (p.sk.any SI.isAl) (p.sk.map (N9 os)) else .bad "a region of it order"
    else .ops os
/-- Functions whose result hangs on the order in which a map tells its keys. -/
def Ym (f:FuncId):Bool := match P.funcs[f]? with
  | some fn => fn.origin == "slices.Collect" || fn.origin == "slices.AppendSeq" || fn.name == "stillroom/stillroomtop.small"
  | none => false
def cSp (o:Oper):Option Sp := match o.op with
  | .range ty x => match P.underlying ty with | some (.map _ _) => (Da N x).map .rng | _ => none
  | .next x s => if s then none else (Da N x).map .nxt
  | .entry x => (Da N x).map .ent
  | .call ct => match ct.callee with
    | .value (.func f) => if Ym P f then (E6 N ct.args.toList).map (.tcl f) else none
    | .value (.tmp s) => match Da N (.tmp s), E6 N ct.args.toList with
      | some x, some l => some (.dcl x l)
      | _, _ => none
    | _ => none
  | _ => none
def Yl (o:Oper):Option (Option K2) := match o.dst with | none => some none | some d => (Jf N d).map some
def QP (ops:Array Oper):List Oper->Option (List AOp×Sp×Option K2×List AOp)
  | [] => none
  | o::l => match cSp P N o with
    | some sp => match o.guard, Yl N o, Ke P N ops l with
      | none, some d, some post => some ([], sp, d, post)
      | _, _, _ => none
    | none => match QP ops l with
      | none => none
      | some r => match Me P N ops o with
        | some x => some (x::r.1, r.2)
        | none => none
def WU (ops:Array Oper) (draw:Bool):AC :=
  if draw then EW P N ops true else match QP P N ops ops.toList with
  | some r => .spl r.1 r.2.1 r.2.2.1 r.2.2.2
  | none => EW P N ops false
def Dq:Code->AC
  | .skip => .skip
  | .region _ ops draw => WU P N ops draw
  | .seq a b => .seq (Dq a) (Dq b)
  | .cond c a b => match Da N c with
    | some c => .cond c (Dq a) (Dq b)
    | none => .bad "a test"
  | .block id b => .block id (Dq b)
  | .loop b => .loop (Dq b)
  | .exit id => .exit id
  | .label _ => .skip
  | .ret => .ret
  | .rangeFunc _ _ _ _ => .bad "a range over a function"
  | .scope _ => .bad "a scope"
  | .goto _ => .bad "a goto"
  | .refuse why => .bad why
def Iq:List Nat->Option (List K2)
  | [] => some []
  | t::l => match Jf N t, Iq l with
    | some x, some xs => some (x::xs)
    | _, _ => none
def EZ:List ResultVar->Option (List ARes)
  | [] => some []
  | .tmp t::l => match Jf N t, EZ l with
    | some x, some xs => some (.tmp x::xs)
    | _, _ => none
  | .cell t ty::l => match Jf N t, ND P ty, DJ P ty, EZ l with
    | some x, some ag, some m, some xs => some (.cel x (if ag then some m else none)::xs)
    | _, _, _, _ => none
end
/-- A function. -/
def N7 (P:Program) (f:FuncId):Option AFn :=
  match P.funcs[f]? with
  | some fn =>
    match fn.body, Iq fn.ntmps (List.range (fn.params.size+fn.nfree)), EZ P fn.ntmps fn.results.toList with
    | some c, some ps, some rs => if fn.name == "runtime.NumGoroutine" then none else some ⟨ps, Dq P fn.ntmps c, rs⟩
    | _, _, _ => none
  | none => none
end Go.Ev

namespace Go.Ev
set_option linter.unusedVariables false
section
variable {ρ:Env}
def Dh.le (φ φ':Dh):Prop := ∀ p x, φ p=some x->φ' p=some x
theorem Dh.le_refl (φ:Dh):Dh.le φ φ := fun _ _ h => h
theorem Dh.le_trans {a b c:Dh} (h:Dh.le a b) (k:Dh.le b c):Dh.le a c := fun p x hx => k p x (h p x hx)
mutual
theorem HE {φ φ':Dh} (h:Dh.le φ φ'):∀ {v:V} {x:Value}, CD ρ φ v x->CD ρ φ' v x
  | .int _ _, _, r => by simpa only [CD] using r
  | .bool _, _, r => by simpa only [CD] using r
  | .ptr _ _, _, r => by
    simp only [CD] at r ⊢
    obtain ⟨b, s, tot, hp, e⟩ := r
    exact ⟨b, s, tot, h _ _ hp, e⟩
  | .sl _ _ _ _ _ _, _, r => by
    simp only [CD] at r ⊢
    obtain ⟨b, s, tot, o, c, hp, e⟩ := r
    exact ⟨b, s, tot, o, c, h _ _ hp, e⟩
  | .str _ _, _, r => by simpa only [CD] using r
  | .agg l, _, r => by
    simp only [CD] at r ⊢
    obtain ⟨cs, e, hl, ho⟩ := r
    exact ⟨cs, e, Ix h hl, ho⟩
  | .nil _, _, r => by simpa only [CD] using r
  | .map _, _, r => by
    simp only [CD] at r ⊢
    obtain ⟨b, s, tot, hp, e⟩ := r
    exact ⟨b, s, tot, h _ _ hp, e⟩
  | .fn _ l, _, r => by
    simp only [CD] at r ⊢
    obtain ⟨cs, e, hl⟩ := r
    exact ⟨cs, e, Ix h hl⟩
  | .tup l, _, r => by
    simp only [CD] at r ⊢
    obtain ⟨cs, e, hl⟩ := r
    exact ⟨cs, e, Ix h hl⟩
  | .oth o, _, r => by
    cases o with
    | yl p =>
      simp only [CD] at r ⊢
      obtain ⟨b, s, tot, hp, e⟩ := r
      exact ⟨b, s, tot, h _ _ hp, e⟩
    | _ => simp only [CD] at r ⊢ <;> exact r
theorem Ix {φ φ':Dh} (h:Dh.le φ φ'):∀ {l:List V} {xs:List Value}, E5 ρ φ l xs->E5 ρ φ' l xs
  | [], _, r => by simpa only [E5] using r
  | v::l, _, r => by
    simp only [E5] at r ⊢
    obtain ⟨y, ys, e, hy, hys⟩ := r
    exact ⟨y, ys, e, HE h hy, Ix h hys⟩
end
theorem CM {φ:Dh} {xs:List Value}:E5 ρ φ [] xs ↔ xs=[] := by simp only [E5]
theorem CG {φ:Dh} {v:V} {l:List V} {xs:List Value}:E5 ρ φ (v::l) xs ↔ ∃ y ys, xs=y::ys∧CD ρ φ v y∧E5 ρ φ l ys := by simp only [E5]
theorem Do {φ:Dh} {l:List V}:∀ {xs:List Value}, E5 ρ φ l xs->xs.length=l.length := by
  induction l with
  | nil => intro xs h; rw [CM] at h; rw [h]; rfl
  | cons v l ih => intro xs h; obtain ⟨y, ys, rfl, _, h⟩ := CG.1 h; simp [ih h]
theorem ER {φ:Dh} {l:List V}:∀ {xs:List Value}, E5 ρ φ l xs ↔ xs.length=l.length ∧ ∀ (i:Nat) (v:V), l[i]? = some v->∃ x, xs[i]? = some x∧CD ρ φ v x := by
  induction l with
  | nil =>
    intro xs; rw [CM]; constructor
    · rintro rfl; exact ⟨rfl, fun i v h => by simp at h⟩
    · rintro ⟨h, _⟩; exact List.eq_nil_of_length_eq_zero h
  | cons v l ih =>
    intro xs
    rw [CG]
    constructor
    · rintro ⟨y, ys, rfl, hy, hys⟩
      obtain ⟨h1, h2⟩ := ih.1 hys
      refine ⟨by simp [h1], fun i u hu => ?_⟩
      cases i with
      | zero => simp at hu; subst hu; exact ⟨y, rfl, hy⟩
      | succ i => simpa using h2 i u (by simpa using hu)
    · rintro ⟨h1, h2⟩
      cases xs with
      | nil => simp at h1
      | cons y ys =>
        obtain ⟨x, hx, hr⟩ := h2 0 v rfl
        simp at hx; subst hx
        exact ⟨y, ys, rfl, hr, ih.2 ⟨by simpa using h1, fun i u hu => by simpa using h2 (i+1) u (by simpa using hu)⟩⟩
theorem Il {φ:Dh} {a b:List V} {xs ys:List Value} (h:E5 ρ φ a xs) (k:E5 ρ φ b ys):E5 ρ φ (a++b) (xs++ys) := by
  induction a generalizing xs with
  | nil => rw [CM] at h; subst h; exact k
  | cons v a ih => obtain ⟨y, zs, rfl, hy, h⟩ := CG.1 h; exact CG.2 ⟨y, zs++ys, rfl, hy, ih h⟩
theorem LX {φ:Dh} {a:List V} {xs:List Value} (h:E5 ρ φ a xs) (k:Nat):E5 ρ φ (a.drop k) (xs.drop k) := by
  induction k generalizing a xs with
  | zero => simpa using h
  | succ k ih => cases a with
    | nil => rw [CM] at h; subst h; simpa using CM.2 rfl
    | cons v a => obtain ⟨y, zs, rfl, hy, h⟩ := CG.1 h; simpa using ih h
theorem M1 {φ:Dh} {a:List V} {xs:List Value} (h:E5 ρ φ a xs) (k:Nat):E5 ρ φ (a.take k) (xs.take k) := by
  induction k generalizing a xs with
  | zero => simpa using CM.2 rfl
  | succ k ih => cases a with
    | nil => rw [CM] at h; subst h; simpa using CM.2 rfl
    | cons v a => obtain ⟨y, zs, rfl, hy, h⟩ := CG.1 h; simpa using CG.2 ⟨y, zs.take k, rfl, hy, ih h⟩
/-- Symbols stand for values of one cell. -/
def DK (ρ:Env):Prop := ∀ i, (ρ.v i).oneCell'=true
theorem JZ {φ:Dh} (hρ:DK ρ) {v:V} (hv:v.celled) {x:Value} (h:CD ρ φ v x) :
    E5 ρ φ v.cl x.cells.toList ∧ ∀ y∈x.cells.toList, y.oneCell'=true := by
  cases v with
  | agg l =>
    simp only [CD] at h
    obtain ⟨cs, rfl, hl, ho⟩ := h
    exact ⟨hl, ho⟩
  | tup l => exact hv.elim
  | int k r =>
    have h' := h; simp only [CD] at h'; obtain ⟨_, rfl⟩ := h'
    exact ⟨CG.2 ⟨_, [], rfl, h, CM.2 rfl⟩, by simp [Value.cells, Value.oneCell']⟩
  | bool b =>
    have h' := h; simp only [CD] at h'; subst h'
    exact ⟨CG.2 ⟨_, [], rfl, h, CM.2 rfl⟩, by simp [Value.cells, Value.oneCell']⟩
  | ptr p o =>
    have h' := h; simp only [CD] at h'; obtain ⟨_, _, _, _, rfl⟩ := h'
    exact ⟨CG.2 ⟨_, [], rfl, h, CM.2 rfl⟩, by simp [Value.cells, Value.oneCell']⟩
  | sl p o l c e z =>
    have h' := h; simp only [CD] at h'; obtain ⟨_, _, _, _, _, _, rfl, _⟩ := h'
    exact ⟨CG.2 ⟨_, [], rfl, h, CM.2 rfl⟩, by simp [Value.cells, Value.oneCell']⟩
  | str n c =>
    have h' := h; simp only [CD] at h'; obtain ⟨_, rfl, _⟩ := h'
    exact ⟨CG.2 ⟨_, [], rfl, h, CM.2 rfl⟩, by simp [Value.cells, Value.oneCell']⟩
  | nil w =>
    have h' := h; simp only [CD] at h'; subst h'
    exact ⟨CG.2 ⟨_, [], by cases w <;> rfl, h, CM.2 rfl⟩, by cases w <;> simp [EG, Value.cells, Value.oneCell']⟩
  | map p =>
    have h' := h; simp only [CD] at h'; obtain ⟨_, _, _, _, rfl⟩ := h'
    exact ⟨CG.2 ⟨_, [], rfl, h, CM.2 rfl⟩, by simp [Value.cells, Value.oneCell']⟩
  | fn f l =>
    have h' := h; simp only [CD] at h'; obtain ⟨_, rfl, _⟩ := h'
    exact ⟨CG.2 ⟨_, [], rfl, h, CM.2 rfl⟩, by simp [Value.cells, Value.oneCell']⟩
  | oth o =>
    cases o with
    | any => exact hv.elim
    | yl p => exact hv.elim
    | no => exact hv.elim
    | sym i =>
      have h' := h; simp only [CD] at h'; subst h'
      have hone := hρ i
      have hc:(ρ.v i).cells = #[ρ.v i] := by
        cases hx:ρ.v i <;> first | rfl | (rw [hx] at hone; simp [Value.oneCell'] at hone)
      rw [hc]
      exact ⟨CG.2 ⟨_, [], rfl, h, CM.2 rfl⟩, by simpa using hone⟩
    | iv k lo hi =>
      have h' := h; simp only [CD] at h'; obtain ⟨_, _, _, _, rfl⟩ := h'
      exact ⟨CG.2 ⟨_, [], rfl, h, CM.2 rfl⟩, by simp [Value.cells, Value.oneCell']⟩
    | os lo hi =>
      have h' := h; simp only [CD] at h'; obtain ⟨_, _, _, rfl, _⟩ := h'
      exact ⟨CG.2 ⟨_, [], rfl, h, CM.2 rfl⟩, by simp [Value.cells, Value.oneCell']⟩
    | bl =>
      have h' := h; simp only [CD] at h'; obtain ⟨_, rfl⟩ := h'
      exact ⟨CG.2 ⟨_, [], rfl, h, CM.2 rfl⟩, by simp [Value.cells, Value.oneCell']⟩
    | rs m j =>
      have h' := h; simp only [CD] at h'; obtain ⟨_, rfl, _⟩ := h'
      exact ⟨CG.2 ⟨_, [], rfl, h, CM.2 rfl⟩, by simp [Value.cells, Value.oneCell']⟩
    | ss lo hi n c =>
      have h' := h; simp only [CD] at h'; obtain ⟨_, rfl, _⟩ := h'
      exact ⟨CG.2 ⟨_, [], rfl, h, CM.2 rfl⟩, by simp [Value.cells, Value.oneCell']⟩
    | ro i lo hi z =>
      have h' := h; simp only [CD] at h'; obtain ⟨_, _, _, _, _, _, _, rfl, _⟩ := h'
      exact ⟨CG.2 ⟨_, [], rfl, h, CM.2 rfl⟩, by simp [Value.cells, Value.oneCell']⟩
    | ap i j m =>
      have h' := h; simp only [CD] at h'; obtain ⟨_, _, _, _, _, rfl, _⟩ := h'
      exact ⟨CG.2 ⟨_, [], rfl, h, CM.2 rfl⟩, by simp [Value.cells, Value.oneCell']⟩
    | sy k i =>
      have h' := h; simp only [CD] at h'; obtain ⟨_, _, _, rfl⟩ := h'
      exact ⟨CG.2 ⟨_, [], rfl, h, CM.2 rfl⟩, by simp [Value.cells, Value.oneCell']⟩
    | rb n c =>
      have h' := h; simp only [CD, HX] at h'; obtain ⟨_, _, rfl, _⟩ := h'
      exact ⟨CG.2 ⟨_, [], rfl, h, CM.2 rfl⟩, by simp [Value.cells, Value.oneCell']⟩
    | rx l m z =>
      have h' := h; simp only [CD] at h'; obtain ⟨_, _, rfl, _⟩ := h'
      exact ⟨CG.2 ⟨_, [], rfl, h, CM.2 rfl⟩, by simp [Value.cells, Value.oneCell']⟩
    | rp l =>
      have h' := h; simp only [CD] at h'; obtain ⟨_, _, _, _, _, rfl, _⟩ := h'
      exact ⟨CG.2 ⟨_, [], rfl, h, CM.2 rfl⟩, by simp [Value.cells, Value.oneCell']⟩
theorem Wh {ρ:Env} {v:RV} {x:Value} (h:HX ρ v x):x.oneCell'=true := by
  cases v with
  | i k r => obtain ⟨_, rfl⟩ := h; rfl
  | b b => obtain rfl:x=_ := h; rfl
  | s n c => obtain ⟨_, rfl, _⟩ := h; rfl
  | y n c => obtain ⟨_, _, rfl, _⟩ := h; rfl
  | nl => obtain rfl:x=_ := h; rfl
/-- The values of cells that stay. -/
theorem NB {ρ:Env} {φ:Dh} {l:List RV} {ce:Array Value} {o:Nat} (h:T8 ρ l ce o):∃ vs:List Value, vs.length=l.length∧(∀ j v, vs[j]? = some v->ce[o+j]? = some v)∧(∀ x∈vs, x.oneCell'=true)∧E5 ρ φ (l.map RV.v) vs := by
  induction l generalizing o with
  | nil => exact ⟨[], rfl, (fun j v h => by simp at h), (fun x h => by simp at h), CM.2 rfl⟩
  | cons v l ih =>
    obtain ⟨y, y1, y2⟩ := h 0 v rfl
    obtain ⟨vs, a1, a2, a3, a4⟩ := ih (o := o+1) fun j u hu => by
      obtain ⟨z, z1, z2⟩ := h (j+1) u (by simpa using hu)
      exact ⟨z, by rw [Nat.add_assoc, Nat.add_comm 1]; exact z1, z2⟩
    refine ⟨y::vs, by simp [a1], fun j u hu => ?_, fun x hx => ?_, CG.2 ⟨y, vs, rfl, R3 y2, a4⟩⟩
    · cases j with
      | zero => simp at hu; subst hu; exact y1
      | succ j =>
        have := a2 j u (by simpa using hu)
        rw [Nat.add_assoc, Nat.add_comm 1] at this; exact this
    · rcases List.mem_cons.1 hx with rfl | hx
      · exact Wh y2
      · exact a3 x hx
def EB:Ob->Option K4
  | .c _ _ p => p
  | _ => none
def Mh:Ob->Bool
  | .c _ s _ => s
  | _ => false
/-- The bytes that may not be written lie behind the cells. -/
def Yy (fr:Nat×Nat) (tot:Nat):Prop := fr.1=fr.2∨tot≤fr.1
def Jz (ρ:Env) (φ:Dh):List (V×V)->List MapEntry->Prop
  | [], l => l=[]
  | e::es, l => ∃ y ys, l=y::ys∧CD ρ φ e.1 y.key∧CD ρ φ e.2 y.val∧Jz ρ φ es ys
def Hq (ρ:Env) (φ:Dh) (cs:Cs) (f:Nat->Option Value):Prop :=
  ∀ i v, cs.at i=some v->∃ x, f i=some x∧CD ρ φ v x∧x.oneCell'=true
def J1 (ρ:Env) (φ:Dh) (w:World) (o:Ob) (b s tot:Nat):Prop :=
  match o with
  | .c cs _ _ => ∃ c e fr, w.heap[b]? = some (.cells c e fr)∧c.size=tot∧s+cs.len≤tot∧Yy fr tot∧Hq ρ φ cs fun i => c[s+i]?
  | .m es bs clk => ∃ ents, w.heap[b]? = some (.map ents clk)∧Jz ρ φ es ents.toList∧ents.toList.map (·.born)=bs
  | .it p since seen c => ∃ bm sm tm, φ p=some (bm, sm, tm)∧s=0∧w.heap[b]? = some (.mapIter (some bm) since seen.reverse.toArray c)
  | .it0 => s=0∧w.heap[b]? = some (.mapIter none 0 #[] 0)
  | .lp f box => s=0 ∧ ∃ (A:ApC) (fn:FuncId) (tmps:Array Value) (D:Nat), ρ.ap f=some A∧w.heap[b]? = some (.loop { state := .ready, pending := none, fn, tmps, params := #[A.par], assign := A.asg, body := A.bod, defers := D }) ∧
      tmps.size=A.ntm∧CD ρ φ (.ptr box 0) (tmps.getD A.box undef)
theorem Ok {φ φ':Dh} (h:Dh.le φ φ') {es:List (V×V)}:∀ {l:List MapEntry}, Jz ρ φ es l->Jz ρ φ' es l := by
  induction es with
  | nil => exact fun h => h
  | cons e es ih => rintro l ⟨y, ys, rfl, h1, h2, h3⟩; exact ⟨y, ys, rfl, HE h h1, HE h h2, ih h3⟩
theorem IJ {φ φ':Dh} (h:Dh.le φ φ') {cs:Cs} {f:Nat->Option Value} (k:Hq ρ φ cs f):Hq ρ φ' cs f :=
  fun i v hv => let ⟨x, h1, h2, h3⟩ := k i v hv; ⟨x, h1, HE h h2, h3⟩
theorem GH {φ φ':Dh} (h:Dh.le φ φ') {w:World} {o:Ob} {b s tot:Nat} (k:J1 ρ φ w o b s tot):J1 ρ φ' w o b s tot := by
  cases o with
  | c cs sup prev =>
    obtain ⟨c, e, fr, h1, h2, h3, h4, h5⟩ := k
    exact ⟨c, e, fr, h1, h2, h3, h4, IJ h h5⟩
  | m es bs clk =>
    obtain ⟨ents, h1, h2, h3⟩ := k
    exact ⟨ents, h1, Ok h h2, h3⟩
  | it p since seen c =>
    obtain ⟨bm, sm, tm, h1, h2, h3⟩ := k
    exact ⟨bm, sm, tm, h _ _ h1, h2, h3⟩
  | it0 => exact k
  | lp f box =>
    obtain ⟨h0, A, fn, tmps, D, h1, h2, h3, h4⟩ := k
    exact ⟨h0, A, fn, tmps, D, h1, h2, h3, HE h h4⟩
theorem EP {φ:Dh} {w w':World} {o:Ob} {b s tot:Nat} (h:w'.heap[b]? = w.heap[b]?) (k:J1 ρ φ w o b s tot):J1 ρ φ w' o b s tot := by
  cases o with
  | c cs sup prev => obtain ⟨c, e, fr, h1, h2⟩ := k; exact ⟨c, e, fr, h.trans h1, h2⟩
  | m es bs clk => obtain ⟨ents, h1, h2⟩ := k; exact ⟨ents, h.trans h1, h2⟩
  | it p since seen c => obtain ⟨bm, sm, tm, h1, h2, h3⟩ := k; exact ⟨bm, sm, tm, h1, h2, h.trans h3⟩
  | it0 => exact ⟨k.1, h.trans k.2⟩
  | lp f box => obtain ⟨h0, A, fn, tmps, D, h1, h2, h3⟩ := k; exact ⟨h0, A, fn, tmps, D, h1, h.trans h2, h3⟩
structure Gam (ρ:Env) (B:Nat) (h:Heap) (n:K4) (φ:Dh) (w:World):Prop where
  base:B≤w.heap.size
  dom:∀ p x, φ p=some x->p.toN<n.toN
  blk:∀ p b s tot, φ p=some (b, s, tot)->B≤b∧b<w.heap.size
  obj:∀ p o b s tot, Ag p h=some o->φ p=some (b, s, tot)->J1 ρ φ w o b s tot
  sep:∀ p q o o' b s tot s' tot', p≠q->Ag p h=some o->Ag q h=some o'->φ p=some (b, s, tot)->φ q=some (b, s', tot')->EB o=some q∨EB o'=some p
  sup:∀ p q o o' b s tot s' tot', Ag p h=some o->EB o=some q->Ag q h=some o'->φ p=some (b, s, tot)->φ q=some (b, s', tot')->Mh o'=true
  glob:∀ b c e fr, ρ.gl b=some (c, e, fr)->b<B∧w.heap[b]? = some (.cells c e fr)
/-- What a step leaves as it was. -/
structure Fr (h h':Heap) (φ φ':Dh) (n n':K4) (w w':World):Prop where
  ext:Dh.le φ φ'
  new:∀ p x, φ' p=some x->φ p=some x∨(n.toN≤p.toN∧p.toN<n'.toN)
  nn:n.toN≤n'.toN
  os:w'.os=w.os
  tape:w'.tape=w.tape
  out:w'.output=w.output
  size:w.heap.size≤w'.heap.size
  old:∀ b, b<w.heap.size->(∀ p s tot, φ p=some (b, s, tot)->Ag p h=none)->w'.heap[b]? = w.heap[b]?
  fresh:∀ p b s tot, φ' p=some (b, s, tot)->φ p=some (b, s, tot)∨w.heap.size≤b ∨ ∃ q s' tot', φ q=some (b, s', tot')∧Ag q h≠none
  dm:∀ p, φ p≠none->Ag p h=none->Ag p h'=none
theorem Fr.refl (h:Heap) (φ:Dh) (n:K4) (w:World):Fr h h φ φ n n w w :=
  ⟨Dh.le_refl φ, fun _ _ h => .inl h, Nat.le_refl _, rfl, rfl, rfl, Nat.le_refl _, fun _ _ _ => rfl, fun _ _ _ _ h => .inl h, fun _ _ h => h⟩
theorem Fr.trans {h h1 h2:Heap} {φ φ1 φ2:Dh} {n n1 n2:K4} {w w1 w2:World} (a:Fr h h1 φ φ1 n n1 w w1) (c:Fr h1 h2 φ1 φ2 n1 n2 w1 w2):Fr h h2 φ φ2 n n2 w w2 where
  ext := Dh.le_trans a.ext c.ext
  new := fun p x hx => by
    rcases c.new p x hx with h' | ⟨h1, h2⟩
    · rcases a.new p x h' with h' | ⟨h1, h2⟩
      · exact .inl h'
      · exact .inr ⟨h1, Nat.lt_of_lt_of_le h2 c.nn⟩
    · exact .inr ⟨Nat.le_trans a.nn h1, h2⟩
  nn := Nat.le_trans a.nn c.nn
  os := c.os.trans a.os
  tape := c.tape.trans a.tape
  out := c.out.trans a.out
  size := Nat.le_trans a.size c.size
  old := fun b hb hn => by
    rw [←a.old b hb hn]
    refine c.old b (Nat.lt_of_lt_of_le hb a.size) fun p s tot hp => ?_
    rcases a.fresh p b s tot hp with h' | h' | ⟨q, s', tot', hq, hne⟩
    · exact a.dm p (by rw [h']; simp) (hn p s tot h')
    · omega
    · exact absurd (hn q s' tot' hq) hne
  fresh := fun p b s tot hp => by
    rcases c.fresh p b s tot hp with h' | h' | ⟨q, s', tot', hq, hne⟩
    · exact a.fresh p b s tot h'
    · exact .inr (.inl (Nat.le_trans a.size h'))
    · rcases a.fresh q b s' tot' hq with h' | h' | h'
      · refine .inr (.inr ⟨q, s', tot', h', fun hn => hne (a.dm q (by rw [h']; simp) hn)⟩)
      · exact .inr (.inl h')
      · exact .inr (.inr h')
  dm := fun p hp hn => c.dm p (by
    cases hx:φ p with
    | none => exact absurd hx hp
    | some x => rw [a.ext p x hx]; simp) (a.dm p hp hn)
/-- A draw. -/
theorem Fr.drew {h:Heap} {φ:Dh} {n:K4} {w:World}:Fr h h φ φ n n w w.drew :=
  ⟨Dh.le_refl φ, fun _ _ h => .inl h, Nat.le_refl _, rfl, rfl, rfl, Nat.le_refl _, fun _ _ _ => rfl, fun _ _ _ _ h => .inl h, fun _ _ h => h⟩
theorem Gam.drew {B:Nat} {h:Heap} {φ:Dh} {n:K4} {w:World} (g:Gam ρ B h n φ w):Gam ρ B h n φ w.drew :=
  ⟨g.base, g.dom, g.blk, fun p o b s tot h1 h2 => EP (w := w) rfl (g.obj p o b s tot h1 h2), g.sep, g.sup, g.glob⟩
/-- A greater next place. -/
theorem Gam.nx {B:Nat} {h:Heap} {φ:Dh} {n n':K4} {w:World} (g:Gam ρ B h n φ w) (hn:n.toN≤n'.toN):Gam ρ B h n' φ w :=
  ⟨g.base, fun p x hx => Nat.lt_of_lt_of_le (g.dom p x hx) hn, g.blk, g.obj, g.sep, g.sup, g.glob⟩
def H7 (φ:Dh) (p:K4) (x:Nat×Nat×Nat):Dh := fun q => if p.beq q then some x else φ q
theorem Ez (φ:Dh) (p:K4) (x:Nat×Nat×Nat):H7 φ p x p=some x := if_pos (K4.beq_iff.2 rfl)
theorem K0 {φ:Dh} {p q:K4} {x:Nat×Nat×Nat} (h:p≠q):H7 φ p x q=φ q := if_neg fun e => h (K4.beq_iff.1 e)
theorem Ft {φ:Dh} {p:K4} {x:Nat×Nat×Nat} (h:φ p=none):Dh.le φ (H7 φ p x) := fun q y hy => by
  rw [K0 fun e => by rw [e, hy] at h; cases h]; exact hy
theorem CU {φ:Dh} {p q:K4} {x y:Nat×Nat×Nat} (h:H7 φ p x q=some y):(p=q∧x=y)∨(p≠q∧φ q=some y) := by
  by_cases e:p=q
  · subst e; rw [Ez] at h; exact .inl ⟨rfl, by simpa using h⟩
  · rw [K0 e] at h; exact .inr ⟨e, h⟩
theorem Ef {h:Heap} {p q:K4} {o:Option Ob} {x:Ob} (k:Ag q (B0 p h o)=some x):(p=q∧o=some x)∨(p≠q∧Ag q h=some x) := by
  by_cases e:p=q
  · subst e; rw [A6] at k; exact .inl ⟨rfl, k⟩
  · rw [A7 _ _ e] at k; exact .inr ⟨e, k⟩
/-- A new block. -/
theorem Gam.alloc {B:Nat} {h:Heap} {φ:Dh} {n n' p:K4} {w:World} (g:Gam ρ B h n φ w) (hp:φ p=none) (hpn:p.toN<n'.toN) (hn:n.toN≤n'.toN)
    (o:Ob) (ho:EB o=none) (O:Obj) (tot:Nat)
    (hok:∀ φ':Dh, Dh.le φ φ'->∀ w':World, w'.heap[w.heap.size]? = some O->J1 ρ φ' w' o w.heap.size 0 tot) :
    Gam ρ B (B0 p h (some o)) n' (H7 φ p (w.heap.size, 0, tot)) (w.alloc O) where
  base := by have := g.base; rw [World.size_alloc]; omega
  glob := fun b c e fr hb => ⟨(g.glob b c e fr hb).1, by rw [Go.RowKit.Below.heap_alloc w O b (by have := (g.glob b c e fr hb).1; have := g.base; omega)]; exact (g.glob b c e fr hb).2⟩
  dom := fun q x hx => by
    rcases CU hx with ⟨rfl, _⟩ | ⟨_, hx⟩
    · exact hpn
    · exact Nat.lt_of_lt_of_le (g.dom q x hx) hn
  blk := fun q b s t hx => by
    rw [World.size_alloc]
    rcases CU hx with ⟨rfl, e⟩ | ⟨_, hx⟩
    · simp only [Prod.mk.injEq] at e; have := g.base; omega
    · have := g.blk q b s t hx; omega
  obj := fun q o' b s t hq hx => by
    rcases CU hx with ⟨rfl, e⟩ | ⟨hne, hx⟩
    · rw [A6] at hq
      simp only [Prod.mk.injEq] at e
      obtain ⟨rfl, rfl, rfl⟩ := e
      cases hq
      exact hok _ (Ft hp) _ (by show (w.heap.push O)[w.heap.size]? = some O; simp)
    · rw [A7 _ _ hne] at hq
      have hb := (g.blk q b s t hx).2
      refine EP (w := w) ?_ (GH (Ft hp) (g.obj q o' b s t hq hx))
      exact Go.RowKit.Below.heap_alloc w O b hb
  sep := fun q r o1 o2 b s t s' t' hne hq hr hx hy => by
    rcases CU hx with ⟨rfl, e⟩ | ⟨hpq, hx⟩
    · rcases CU hy with ⟨rfl, _⟩ | ⟨_, hy⟩
      · exact absurd rfl hne
      · simp only [Prod.mk.injEq] at e
        have := (g.blk r b s' t' hy).2; omega
    · rcases CU hy with ⟨rfl, e⟩ | ⟨hpr, hy⟩
      · simp only [Prod.mk.injEq] at e
        have := (g.blk q b s t hx).2; omega
      · rw [A7 _ _ hpq] at hq
        rw [A7 _ _ hpr] at hr
        exact g.sep q r o1 o2 b s t s' t' hne hq hr hx hy
  sup := fun q r o1 o2 b s t s' t' hq hpr hr hx hy => by
    rcases CU hx with ⟨rfl, e⟩ | ⟨hpq, hx⟩
    · rw [A6] at hq; cases hq; rw [ho] at hpr; cases hpr
    · rcases CU hy with ⟨rfl, e⟩ | ⟨hpr', hy⟩
      · simp only [Prod.mk.injEq] at e; have := (g.blk q b s t hx).2; omega
      · rw [A7 _ _ hpq] at hq
        rw [A7 _ _ hpr'] at hr
        exact g.sup q r o1 o2 b s t s' t' hq hpr hr hx hy
theorem Fr.alloc {h:Heap} {φ:Dh} {n n' p:K4} {w:World} (hp:φ p=none) (hn:n.toN≤n'.toN) (h1:n.toN≤p.toN) (h2:p.toN<n'.toN)
    (o:Option Ob) (O:Obj) (tot:Nat):Fr h (B0 p h o) φ (H7 φ p (w.heap.size, 0, tot)) n n' w (w.alloc O) where
  ext := Ft hp
  new := fun q x hx => by
    rcases CU hx with ⟨rfl, _⟩ | ⟨_, hx⟩
    · exact .inr ⟨h1, h2⟩
    · exact .inl hx
  nn := hn
  os := rfl
  tape := rfl
  out := rfl
  size := by rw [World.size_alloc]; omega
  old := fun b hb _ => Go.RowKit.Below.heap_alloc w O b hb
  fresh := fun q b s t hx => by
    rcases CU hx with ⟨rfl, e⟩ | ⟨_, hx⟩
    · simp only [Prod.mk.injEq] at e; exact .inr (.inl (by omega))
    · exact .inl hx
  dm := fun q hq hn => by
    have hne:p≠q := fun e => hq (e ▸ hp)
    rw [A7 _ _ hne]; exact hn
def HD (prev:Option K4) (h:Heap):Heap := match prev with | none => h | some q => B0 q h none
theorem IG (prev:Option K4) (h:Heap) (κ:Heap->R):JO prev h κ=κ (HD prev h) := by
  cases prev with
  | none => rfl
  | some q => exact Dm q h none κ
theorem FJ {prev:Option K4} {h:Heap} {q:K4} {x:Ob} (k:Ag q (HD prev h)=some x):prev≠some q∧Ag q h=some x := by
  cases prev with
  | none => exact ⟨by simp, k⟩
  | some r =>
    rcases Ef k with ⟨_, h⟩ | ⟨hne, h⟩
    · cases h
    · exact ⟨fun e => hne (by simpa using e), h⟩
theorem Sf {prev:Option K4} {h:Heap} {q:K4} (k:Ag q h=none):Ag q (HD prev h)=none := by
  cases hx:Ag q (HD prev h) with
  | none => rfl
  | some x => rw [(FJ hx).2] at k; cases k
/-- The world with another block. -/
def Fw (w:World) (b:Nat) (O:Obj):World := { w with heap := w.heap.setIfInBounds b O }
theorem G8 {w:World} {b:Nat} {O:Obj} (h:b<w.heap.size):(Fw w b O).heap[b]? = some O := by
  simp [Fw, h]
theorem Kc {w:World} {b k:Nat} {O:Obj} (h:b≠k):(Fw w b O).heap[k]? = w.heap[k]? := by
  simp [Fw, Array.getElem?_setIfInBounds_ne h]
theorem GE {w:World} {b:Nat} {O:Obj}:(Fw w b O).heap.size=w.heap.size := by simp [Fw]
/-- An object that may be written is written: what may share its memory is given up. -/
theorem Gam.write {B:Nat} {h:Heap} {φ:Dh} {n p:K4} {w:World} {o o':Ob} {b s tot:Nat} {O:Obj} (g:Gam ρ B h n φ w) (hp:Ag p h=some o) (hφ:φ p=some (b, s, tot))
    (hs:Mh o=false) (ho':EB o'=none) (hok:J1 ρ φ (Fw w b O) o' b s tot) :
    Gam ρ B (B0 p (HD (EB o) h) (some o')) n φ (Fw w b O) where
  base := by rw [GE]; exact g.base
  glob := fun k c e fr hk => ⟨(g.glob k c e fr hk).1, by rw [Kc (by have := (g.glob k c e fr hk).1; have := (g.blk p b s tot hφ).1; omega)]; exact (g.glob k c e fr hk).2⟩
  dom := g.dom
  blk := fun q b s t hx => by rw [GE]; exact g.blk q b s t hx
  obj := fun q o1 b1 s1 t1 hq hx => by
    rcases Ef hq with ⟨rfl, e⟩ | ⟨hne, hq⟩
    · rw [hφ] at hx; simp only [Option.some.injEq, Prod.mk.injEq] at hx e
      obtain ⟨rfl, rfl, rfl⟩ := hx; subst e; exact hok
    · obtain ⟨hk, hq⟩ := FJ hq
      have hb:b≠b1 := fun e => by
        subst e
        rcases g.sep p q o o1 b s tot s1 t1 hne hp hq hφ hx with h' | h'
        · exact hk h'
        · have := g.sup q p o1 o b s1 t1 s tot hq h' hp hx hφ
          rw [this] at hs; cases hs
      exact EP (Kc hb) (g.obj q o1 b1 s1 t1 hq hx)
  sep := fun q r o1 o2 b1 s1 t1 s2 t2 hne hq hr hx hy => by
    rcases Ef hq with ⟨rfl, e⟩ | ⟨hpq, hq⟩
    · rcases Ef hr with ⟨rfl, e'⟩ | ⟨hpr, hr⟩
      · exact absurd rfl hne
      · obtain ⟨hk, hr⟩ := FJ hr
        rcases g.sep p r o o2 b1 s1 t1 s2 t2 hne hp hr hx hy with h' | h'
        · exact absurd h' hk
        · exact .inr h'
    · obtain ⟨hk, hq⟩ := FJ hq
      rcases Ef hr with ⟨rfl, e'⟩ | ⟨hpr, hr⟩
      · rcases g.sep q p o1 o b1 s1 t1 s2 t2 hne hq hp hx hy with h' | h'
        · exact .inl h'
        · exact absurd h' hk
      · obtain ⟨_, hr⟩ := FJ hr
        exact g.sep q r o1 o2 b1 s1 t1 s2 t2 hne hq hr hx hy
  sup := fun q r o1 o2 b1 s1 t1 s2 t2 hq hpr hr hx hy => by
    rcases Ef hq with ⟨rfl, e⟩ | ⟨hpq, hq⟩
    · simp only [Option.some.injEq] at e; subst e; rw [ho'] at hpr; cases hpr
    · obtain ⟨hk, hq⟩ := FJ hq
      rcases Ef hr with ⟨rfl, e⟩ | ⟨_, hr⟩
      · have := g.sup q p o1 o b1 s1 t1 s2 t2 hq hpr hp hx hy
        rw [this] at hs; cases hs
      · exact g.sup q r o1 o2 b1 s1 t1 s2 t2 hq hpr (FJ hr).2 hx hy
theorem Fr.write {h:Heap} {φ:Dh} {n p:K4} {w:World} {o:Ob} {o':Option Ob} {b s tot:Nat} {O:Obj} (hp:Ag p h=some o) (hφ:φ p=some (b, s, tot)) :
    Fr h (B0 p (HD (EB o) h) o') φ φ n n w (Fw w b O) where
  ext := Dh.le_refl φ
  new := fun _ _ h => .inl h
  nn := Nat.le_refl _
  os := rfl
  tape := rfl
  out := rfl
  size := by rw [GE]; exact Nat.le_refl _
  old := fun k hk hn => Kc fun e => by
    subst e
    have := hn p s tot hφ; rw [hp] at this; cases this
  fresh := fun _ _ _ _ h => .inl h
  dm := fun q hq hn => by
    by_cases e:p=q
    · subst e; rw [hp] at hn; cases hn
    · rw [A7 _ _ e]; exact Sf hn
end
end Go.Ev

namespace Go.Ev
set_option linter.unusedVariables false
theorem kb {k j:IntKind} {t:R} {s:String} (h:(br (Ds k j) t (.fail s)).good):k=j∧br (Ds k j) t (.fail s)=t := by
  obtain ⟨h1, h2⟩ := AJ h
  exact ⟨Db.1 h1, h2⟩
theorem DL {a b:Nat} (h:Nat.ble (Nat.succ a) b=true):a<b := Ap.1 h
/-- An operator's outcome, whatever world. -/
def Gq (op:BinOp) (x y:Value) (v:V):Prop :=
  ∃ r:Value, (∀ (P:Program) (t:TypeId) (w:World), (Go.binOp op t x y).run P w = .ok r w) ∧ ∀ (ρ:Env) (φ:Dh), CD ρ φ v r
theorem H9 (k:IntKind) (r:Nat) (hr:r<Mk k) (ρ:Env) (φ:Dh):CD ρ φ (.int k r) (.int k (EE k r)) := by
  simp [CD, hr]
theorem Ek (b:Bool) (ρ:Env) (φ:Dh):CD ρ φ (.bool b) (.bool b) := by simp only [CD]
theorem VV (k:IntKind) (a b:Nat):k.wrap (EE k a+EE k b)=EE k ((a+b) % Mk k) := by
  apply J4
  rw [Int.add_emod, H3, H3, ←Int.natCast_add, ←Int.natCast_emod, Nat.add_mod]; simp
theorem Rh (k:IntKind) (a b:Nat) (hb:b<Mk k):k.wrap (EE k a - EE k b)=EE k ((a+(Mk k - b)) % Mk k) := by
  apply J4
  unfold EE
  cases k <;> simp only [Mk, Hk] at * <;> (repeat' split) <;> omega
theorem VQ (k:IntKind) (a b:Nat):k.wrap (EE k a*EE k b)=EE k (a*b % Mk k) := by
  apply J4
  rw [Int.mul_emod, H3, H3, ←Int.natCast_mul, ←Int.natCast_emod, Nat.mul_mod]; simp
theorem P8 {k j:IntKind} {a b:Nat} {κ:R} (h:(Q9 k a j b κ).good):k=j∧a<Hk k∧b<Hk k∧Q9 k a j b κ=κ := by
  obtain ⟨rfl, e1⟩ := kb h
  have e1:Q9 k a k b κ=_ := e1
  rw [e1] at h
  obtain ⟨h2, e2⟩ := AJ h
  rw [e2] at h
  obtain ⟨h3, e3⟩ := AJ h
  exact ⟨rfl, DL h2, DL h3, e1.trans (e2.trans e3)⟩
theorem bv (k:IntKind) (a:Nat) (ha:a<Mk k):(BitVec.ofInt k.bits (EE k a)).toNat=a := by
  rw [BitVec.toNat_ofInt]
  have h := H3 k a
  have e:((2 ^ k.bits:Nat):Int)=(Mk k:Int) := by rw [Ho]
  rw [e, h, Nat.mod_eq_of_lt ha]; simp
theorem HN (k:IntKind) (r:Nat) (hr:r<Mk k):k.wrap (r:Int)=EE k r :=
  J4 (by rw [←Int.natCast_emod, Nat.mod_eq_of_lt hr])
theorem Wr (a b m:Nat) (h:a<m):Nat.land a b<m := Nat.lt_of_le_of_lt Nat.and_le_left h
theorem Zz (k:IntKind) (a b:Nat) (ha:a<Mk k) (hb:b<Mk k):Nat.lor a b<Mk k := by
  rw [Ho] at *; exact Nat.or_lt_two_pow ha hb
theorem Vq (k:IntKind) (a b:Nat) (ha:a<Mk k) (hb:b<Mk k):Nat.xor a b<Mk k := by
  rw [Ho] at *; exact Nat.xor_lt_two_pow ha hb
theorem IQ (op:BinOp) (k:IntKind) (a:Nat) (j:IntKind) (b:Nat) (κ:V->R) (ha:a<Mk k) (hb:b<Mk j) (h:(NP op k a j b κ).good) :
    ∃ v, NP op k a j b κ=κ v∧Gq op (.int k (EE k a)) (.int j (EE j b)) v := by
  cases op with
  | add =>
    obtain ⟨rfl, e⟩ := kb (show R.good (X6 k a j b κ) from h)
    refine ⟨_, (show X6 k a k b κ=_ from e).trans (A9 _ _), .int k (EE k ((a+b) % Mk k)), fun P t w => ?_, H9 k _ (Nat.mod_lt _ (Gu k))⟩
    simp only [binOp_add, Op.intArith, VV, Sem.run_pure]
  | sub =>
    obtain ⟨rfl, e⟩ := kb (show R.good (Qk k a j b κ) from h)
    refine ⟨_, (show Qk k a k b κ=_ from e).trans (A9 _ _), .int k (EE k ((a+(Mk k - b)) % Mk k)), fun P t w => ?_, H9 k _ (Nat.mod_lt _ (Gu k))⟩
    simp only [binOp_sub, Op.intArith, Rh _ _ _ hb, Sem.run_pure]
  | mul =>
    obtain ⟨rfl, e⟩ := kb (show R.good (WX k a j b κ) from h)
    refine ⟨_, (show WX k a k b κ=_ from e).trans (A9 _ _), .int k (EE k (a*b % Mk k)), fun P t w => ?_, H9 k _ (Nat.mod_lt _ (Gu k))⟩
    simp only [binOp_mul, Op.intArith, VQ, Sem.run_pure]
  | quo =>
    obtain ⟨rfl, h1, h2, e⟩ := P8 (show R.good (TZ k a j b κ) from h)
    have e:TZ k a k b κ=_ := e
    have h:(TZ k a k b κ).good := h
    rw [e] at h
    obtain ⟨h3, e3⟩ := AJ h
    have h3 := Ap.1 h3
    refine ⟨_, e.trans (e3.trans (A9 _ _)), .int k (EE k (a / b)), fun P t w => ?_, H9 k _ (Nat.lt_of_le_of_lt (Nat.div_le_self a b) ha)⟩
    have hd:a / b<Hk k := Nat.lt_of_le_of_lt (Nat.div_le_self a b) h1
    rw [binOp_quo, CC h1, CC h2, CC hd]
    have hw:k.wrap ((a / b:Nat):Int)=((a / b:Nat):Int) := by
      rw [HN k _ (Nat.lt_of_lt_of_le hd (Ji k)), CC hd]
    simp only [Op.intDiv]
    rw [if_neg (by omega)]
    simp only [Sem.run_pure]
    rw [←hw, Int.ofNat_tdiv]
  | rem =>
    have h0:R.good (NT k a j b κ) := h
    by_cases hneg:a<Hk k
    case neg =>
      have e0:NT k a j b κ=OI k a j b κ := by
        unfold NT
        rw [show Nat.ble (Nat.succ a) (Hk k)=false from Bool.eq_false_iff.2 fun h => hneg (DL h)]; rfl
      rw [e0] at h0
      obtain ⟨rfl, e1⟩ := kb h0
      have e1:OI k a k b κ=_ := e1
      rw [e1] at h0
      obtain ⟨h2, e2⟩ := AJ h0
      rw [e2] at h0
      obtain ⟨h3, e3⟩ := AJ h0
      have h2 := DL h2
      have h3 := Ap.1 h3
      have hq:(Mk k - a) % b<b := Nat.mod_lt _ (by omega)
      have hM:Hk k≤Mk k := Ji k
      have hd2:EE k a = -((Mk k - a:Nat):Int) := by rw [EU hneg]; omega
      have hu:Hk k+Hk k=Mk k := by
        cases k <;> simp only [Mk, Hk] at * <;> omega
      refine ⟨_, e0.trans (e1.trans (e2.trans (e3.trans (A9 _ _)))), .int k (EE k (@Bool.rec (fun _ => Nat) (Nat.sub (Mk k) (Nat.mod (Nat.sub (Mk k) a) b)) 0 (Nat.beq (Nat.mod (Nat.sub (Mk k) a) b) 0))), fun P t w => ?_, H9 k _ ?_⟩
      · rw [binOp_rem, hd2, CC h2]
        simp only [Op.intDiv]
        rw [if_neg (by omega)]
        simp only [Sem.run_pure]
        rw [Int.neg_tmod, ←Int.ofNat_tmod]
        by_cases hz:(Mk k - a) % b=0
        · have hb:Nat.beq (Nat.mod (Nat.sub (Mk k) a) b) 0=true := by rw [show Nat.mod (Nat.sub (Mk k) a) b=0 from hz]; rfl
          rw [hb, hz, CC (Nat.lt_of_le_of_lt (Nat.zero_le _) h2)]; rfl
        · have hb:Nat.beq (Nat.mod (Nat.sub (Mk k) a) b) 0=false := Bool.eq_false_iff.2 fun h => hz (Nat.eq_of_beq_eq_true h)
          have hv : -(((Mk k - a) % b:Nat):Int)=EE k (Mk k - (Mk k - a) % b) := by rw [EU (by omega)]; omega
          rw [hb, hv]; rfl
      · cases hb:Nat.beq (Nat.mod (Nat.sub (Mk k) a) b) 0 with
        | true => exact Gu k
        | false => exact Nat.sub_lt (Gu k) (Nat.pos_of_ne_zero fun h => by rw [show Nat.mod (Nat.sub (Mk k) a) b=0 from h] at hb; cases hb)
    have e00:NT k a j b κ=Qz k a j b κ := by
      unfold NT
      rw [show Nat.ble (Nat.succ a) (Hk k)=true from Ap.2 hneg]; rfl
    rw [e00] at h0
    obtain ⟨rfl, h1, h2, e⟩ := P8 (show R.good (Qz k a j b κ) from h0)
    have e:NT k a k b κ=_ := e00.trans e
    have h:(NT k a k b κ).good := h
    rw [e] at h
    obtain ⟨h3, e3⟩ := AJ h
    have h3 := Ap.1 h3
    have hd:a % b<Hk k := Nat.lt_of_le_of_lt (Nat.mod_le a b) h1
    refine ⟨_, e.trans (e3.trans (A9 _ _)), .int k (EE k (a % b)), fun P t w => ?_, H9 k _ (Nat.lt_of_lt_of_le hd (Ji k))⟩
    rw [binOp_rem, CC h1, CC h2, CC hd]
    simp only [Op.intDiv]
    rw [if_neg (by omega)]
    simp only [Sem.run_pure]
    rw [←Int.ofNat_tmod]
  | and =>
    obtain ⟨rfl, e⟩ := kb (show R.good (UZ k a j b κ) from h)
    have hl:Nat.land a b<Mk k := Wr a b _ ha
    refine ⟨_, (show UZ k a k b κ=_ from e).trans (A9 _ _), .int k (EE k (Nat.land a b)), fun P t w => ?_, H9 k _ hl⟩
    simp only [binOp_and, Op.intBits, BitVec.toNat_and, bv _ _ ha, bv _ _ hb, Sem.run_pure]
    rw [HN k (a &&& b) hl]; rfl
  | or =>
    obtain ⟨rfl, e⟩ := kb (show R.good (ZI k a j b κ) from h)
    have hl:Nat.lor a b<Mk k := Zz k a b ha hb
    refine ⟨_, (show ZI k a k b κ=_ from e).trans (A9 _ _), .int k (EE k (Nat.lor a b)), fun P t w => ?_, H9 k _ hl⟩
    simp only [binOp_or, Op.intBits, BitVec.toNat_or, bv _ _ ha, bv _ _ hb, Sem.run_pure]
    rw [HN k (a ||| b) hl]; rfl
  | xor =>
    obtain ⟨rfl, e⟩ := kb (show R.good (UU k a j b κ) from h)
    have hl:Nat.xor a b<Mk k := Vq k a b ha hb
    refine ⟨_, (show UU k a k b κ=_ from e).trans (A9 _ _), .int k (EE k (Nat.xor a b)), fun P t w => ?_, H9 k _ hl⟩
    simp only [binOp_xor, Op.intBits, BitVec.toNat_xor, bv _ _ ha, bv _ _ hb, Sem.run_pure]
    rw [HN k (a ^^^ b) hl]; rfl
  | shl =>
    obtain ⟨h1, e1⟩ := AJ (show R.good (VD k a j b κ) from h)
    have e1:VD k a j b κ=_ := e1
    have h1 := DL h1
    have hr:∀ P t w, (Go.binOp .shl t (.int k (EE k a)) (.int j (EE j b))).run P w = .ok (.int k (k.wrap (EE k a*2 ^ min b k.bits))) w := fun P t w => by
      rw [binOp_shl, Op.shift, CC h1, if_neg (by omega)]; simp
    by_cases hb64:b≤64
    · refine ⟨_, e1.trans ((by rw [Ap.2 hb64, AG]:br (Nat.ble b 64) _ _=_).trans (A9 _ _)), .int k (EE k ((a <<< b) % Mk k)), fun P t w => ?_, H9 k _ (Nat.mod_lt _ (Gu k))⟩
      rw [hr]
      congr 2
      apply J4
      rw [Nat.shiftLeft_eq]
      by_cases hbb:b≤k.bits
      · have e2:((2:Int) ^ b)=((2 ^ b:Nat):Int) := by simp
        rw [Nat.min_eq_left hbb, Int.mul_emod, H3, e2, ←Int.natCast_emod, ←Int.natCast_mul, ←Int.natCast_emod, ←Nat.mul_mod]
      · rw [Nat.min_eq_right (by omega), Int.mul_emod]
        have h0:((2:Int) ^ k.bits) % (Mk k:Int)=0 := by rw [Ho]; simp
        have h0':a*2 ^ b % Mk k=0 := by
          rw [Ho, show b=k.bits+(b - k.bits) by omega, Nat.pow_add, ←Nat.mul_assoc, Nat.mul_right_comm]; exact Nat.mul_mod_left _ _
        rw [h0, h0']; simp
    · refine ⟨_, e1.trans (by rw [Df (by omega), CB]:br (Nat.ble b 64) _ _=_), .int k (EE k 0), fun P t w => ?_, H9 k _ (Gu k)⟩
      rw [hr]
      congr 2
      apply J4
      have hbits:k.bits≤64 := by cases k <;> simp [IntKind.bits]
      rw [Nat.min_eq_right (by omega), Int.mul_emod]
      have h0:((2:Int) ^ k.bits) % (Mk k:Int)=0 := by rw [Ho]; simp
      rw [h0]; simp
  | shr =>
    obtain ⟨h1, e1⟩ := AJ (show R.good (TW k a j b κ) from h)
    have e1:TW k a j b κ=_ := e1
    have h1 := DL h1
    have h:(TW k a j b κ).good := h
    rw [e1] at h
    obtain ⟨h2, e2⟩ := AJ h
    have h2 := DL h2
    have hr:∀ P t w, (Go.binOp .shr t (.int k (EE k a)) (.int j (EE j b))).run P w = .ok (.int k ((a:Int).fdiv (2 ^ min b k.bits))) w := fun P t w => by
      rw [binOp_shr, Op.shift, CC h1, CC h2, if_neg (by omega)]; simp
    have hf:∀ n:Nat, (a:Int).fdiv (2 ^ n)=((a / 2 ^ n:Nat):Int) := fun n => by
      rw [Int.fdiv_eq_ediv_of_nonneg _ (by exact Int.le_of_lt (Int.pow_pos (by omega)))]; simp
    have hlt:∀ n:Nat, a / 2 ^ n<Hk k := fun n => Nat.lt_of_le_of_lt (Nat.div_le_self _ _) h2
    by_cases hb64:b≤64
    · refine ⟨_, e1.trans (e2.trans ((by rw [Ap.2 hb64, AG]:br (Nat.ble b 64) _ _=_).trans (A9 _ _))), .int k (EE k (a >>> b)), fun P t w => ?_, H9 k _ ?_⟩
      · rw [hr, hf, Nat.shiftRight_eq_div_pow, CC (hlt b)]
        congr 3
        by_cases hbb:b≤k.bits
        · rw [Nat.min_eq_left hbb]
        · rw [Nat.min_eq_right (by omega)]
          have ha':a<2 ^ k.bits := by rw [←Ho]; exact ha
          rw [Nat.div_eq_of_lt ha', Nat.div_eq_of_lt (Nat.lt_of_lt_of_le ha' (Nat.pow_le_pow_right (by omega) (by omega)))]
      · show a >>> b<Mk k
        rw [Nat.shiftRight_eq_div_pow]; exact Nat.lt_of_lt_of_le (hlt b) (Ji k)
    · refine ⟨_, e1.trans (e2.trans (by rw [Df (by omega), CB]:br (Nat.ble b 64) _ _=_)), .int k (EE k 0), fun P t w => ?_, H9 k _ (Gu k)⟩
      have hbits:k.bits≤64 := by cases k <;> simp [IntKind.bits]
      have ha':a<2 ^ k.bits := by rw [←Ho]; exact ha
      rw [hr, hf, Nat.min_eq_right (by omega), Nat.div_eq_of_lt ha', CC (by have := Hk k; cases k <;> simp [Hk])]
  | andNot =>
    obtain ⟨rfl, e⟩ := kb (show R.good (Qs k a j b κ) from h)
    have hl:Nat.land a (Mk k - 1 - b)<Mk k := Wr a _ _ ha
    refine ⟨_, (show Qs k a k b κ=_ from e).trans (A9 _ _), .int k (EE k (Nat.land a (Mk k - 1 - b))), fun P t w => ?_, H9 k _ hl⟩
    simp only [binOp_andNot, Op.intBits, BitVec.toNat_and, BitVec.toNat_not, bv _ _ ha, bv _ _ hb, Sem.run_pure, ←Ho]
    rw [HN k (a &&& (Mk k - 1 - b)) hl]; rfl
  | eql =>
    obtain ⟨rfl, e⟩ := kb (show R.good (ieq k a j b κ) from h)
    refine ⟨_, (show ieq k a k b κ=_ from e).trans (Dr _ _), .bool (Nat.beq a b), fun P t w => ?_, Ek _⟩
    rw [binOp_eql, Sem.run_pure]
    congr 2
    rw [Bool.eq_iff_iff, beq_iff_eq]
    exact ⟨fun h => by have := Mv ha hb h; subst this; exact Nat.beq_refl _, fun h => by rw [Nat.eq_of_beq_eq_true h]⟩
  | neq =>
    obtain ⟨rfl, e⟩ := kb (show R.good (ine k a j b κ) from h)
    have e:ine k a k b κ=_ := e
    by_cases hab:a=b
    · subst hab
      refine ⟨_, e.trans (by rw [Nat.beq_refl, AG]:br (Nat.beq a a) _ _=_), .bool false, fun P t w => ?_, Ek _⟩
      rw [binOp_neq, Sem.run_pure]; simp
    · have hf:Nat.beq a b=false := Bool.eq_false_iff.2 fun h => hab (Nat.eq_of_beq_eq_true h)
      refine ⟨_, e.trans (by rw [hf, CB]:br (Nat.beq a b) _ _=_), .bool true, fun P t w => ?_, Ek _⟩
      rw [binOp_neq, Sem.run_pure]
      congr 2
      rw [bne_iff_ne]
      exact fun h => hab (Mv ha hb h)
  | lss =>
    obtain ⟨rfl, e⟩ := kb (show R.good (ilt k a j b κ) from h)
    refine ⟨_, (show ilt k a k b κ=_ from e).trans (Dr _ _), .bool (Gx k a b), fun P t w => ?_, Ek _⟩
    rw [binOp_lss, Sem.run_pure, Hs ha hb]
  | gtr =>
    obtain ⟨rfl, e⟩ := kb (show R.good (igt k a j b κ) from h)
    refine ⟨_, (show igt k a k b κ=_ from e).trans (Dr _ _), .bool (Gx k b a), fun P t w => ?_, Ek _⟩
    rw [binOp_gtr, Sem.run_pure, Hs hb ha]
  | leq =>
    obtain ⟨rfl, e⟩ := kb (show R.good (ile k a j b κ) from h)
    have e:ile k a k b κ=_ := e
    cases hlt:Gx k b a with
    | true =>
      refine ⟨_, e.trans (by rw [hlt, AG]), .bool false, fun P t w => ?_, Ek _⟩
      rw [Hs hb ha] at hlt
      rw [binOp_leq, Sem.run_pure]
      congr 2
      exact decide_eq_false (by have := of_decide_eq_true hlt; omega)
    | false =>
      refine ⟨_, e.trans (by rw [hlt, CB]), .bool true, fun P t w => ?_, Ek _⟩
      rw [Hs hb ha] at hlt
      rw [binOp_leq, Sem.run_pure]
      congr 2
      exact decide_eq_true (by have := of_decide_eq_false hlt; omega)
  | geq =>
    obtain ⟨rfl, e⟩ := kb (show R.good (ige k a j b κ) from h)
    have e:ige k a k b κ=_ := e
    cases hlt:Gx k a b with
    | true =>
      refine ⟨_, e.trans (by rw [hlt, AG]), .bool false, fun P t w => ?_, Ek _⟩
      rw [Hs ha hb] at hlt
      rw [binOp_geq, Sem.run_pure]
      congr 2
      exact decide_eq_false (by have := of_decide_eq_true hlt; omega)
    | false =>
      refine ⟨_, e.trans (by rw [hlt, CB]), .bool true, fun P t w => ?_, Ek _⟩
      rw [Hs ha hb] at hlt
      rw [binOp_geq, Sem.run_pure]
      congr 2
      exact decide_eq_true (by have := of_decide_eq_false hlt; omega)
theorem TB (s:ByteArray) (ρ:Env) (φ:Dh):CD ρ φ (.str s.size (CJ s.data.toList)) (.string s) := by
  simp only [CD]; exact ⟨s, rfl, rfl, rfl⟩
theorem En (s:ByteArray):s.data.toList.length=s.size := by simp
theorem Nb (x y:ByteArray):G2 x.size (CJ x.data.toList) y.size (CJ y.data.toList)=(x.toList == y.toList) := by
  rw [ByteArray.toList_eq, ByteArray.toList_eq, Bool.eq_iff_iff, beq_iff_eq]
  simp only [G2, Bool.and_eq_true]
  constructor
  · rintro ⟨h1, h2⟩
    exact KX (by rw [En, En]; exact Nat.eq_of_beq_eq_true h1) (Nat.eq_of_beq_eq_true h2)
  · intro h
    refine ⟨?_, by rw [h]; exact Nat.beq_refl _⟩
    rw [←En, ←En, h]; exact Nat.beq_refl _
theorem Vz (x y:List UInt8):Sd x.length (CJ x) y.length (CJ y)=Op.bytesLess x y := by
  induction x generalizing y with
  | nil => cases y with
    | nil => rfl
    | cons b y => rfl
  | cons a x ih =>
    cases y with
    | nil => rfl
    | cons b y =>
      show br (Nat.beq (lo (CJ (a::x)) 1) (lo (CJ (b::y)) 1)) (Sd x.length (sh (CJ (a::x)) 1) y.length (sh (CJ (b::y)) 1)) (Nat.ble (Nat.succ (lo (CJ (a::x)) 1)) (lo (CJ (b::y)) 1))=_
      have ha := a.toNat_lt; have hb := b.toNat_lt
      have l1:lo (CJ (a::x)) 1=a.toNat := by rw [FX]; simp only [CJ]; omega
      have l2:lo (CJ (b::y)) 1=b.toNat := by rw [FX]; simp only [CJ]; omega
      have s1:sh (CJ (a::x)) 1=CJ x := by rw [GA]; simp only [CJ]; omega
      have s2:sh (CJ (b::y)) 1=CJ y := by rw [GA]; simp only [CJ]; omega
      rw [l1, l2, s1, s2, ih, Op.bytesLess]
      by_cases hab:a=b
      · subst hab
        rw [Nat.beq_refl, AG]; simp
      · have hne:a.toNat≠b.toNat := fun h => hab (UInt8.toNat_inj.1 h)
        rw [Bool.eq_false_iff.2 fun h => hne (Nat.eq_of_beq_eq_true h), CB, Aa]
        have:(a == b)=false := by simpa using hab
        rw [this]; simp [UInt8.lt_iff_toNat_lt]; rfl
theorem Ug (op:BinOp) (x y:ByteArray) (κ:V->R) (h:(Mo op x.size (CJ x.data.toList) y.size (CJ y.data.toList) κ).good) :
    ∃ v, Mo op x.size (CJ x.data.toList) y.size (CJ y.data.toList) κ=κ v∧Gq op (.string x) (.string y) v := by
  have hlt := fun (x y:ByteArray) => (by
    have := Vz x.data.toList y.data.toList
    rw [En, En, ←ByteArray.toList_eq, ←ByteArray.toList_eq] at this
    rw [←ByteArray.toList_eq, ←ByteArray.toList_eq]; exact this:Sd x.size (CJ x.data.toList) y.size (CJ y.data.toList)=Op.bytesLess x.toList y.toList)
  have hrun:∀ P t w, (Go.binOp op t (.string x) (.string y)).run P w=(Op.stringOp op x y).run P w := fun P t w => by cases op <;> rfl
  cases op with
  | add =>
    have e:Mo .add x.size (CJ x.data.toList) y.size (CJ y.data.toList) κ=_ := A9 (Nat.add x.size y.size) (fun l => br (Nat.ble l 1000000000) (Ah (Nat.add (CJ x.data.toList) (up (CJ y.data.toList) x.size)) fun r => κ (.str l r)) (.fail ""))
    rw [e] at h
    obtain ⟨h1, e1⟩ := AJ h
    have h1:x.size+y.size≤1000000000 := Ap.1 h1
    refine ⟨_, e.trans (e1.trans (A9 _ _)), .string (x++y), fun P t w => ?_, fun ρ φ => ?_⟩
    · rw [hrun, Op.stringOp]
      rw [if_neg (by rw [IntKind.max_i64]; omega), Sem.run_pure]
    · have := TB (x++y) ρ φ
      have e2:(x++y).data.toList=x.data.toList++y.data.toList := by simp
      rw [e2, Jt, En, ByteArray.size_append] at this
      rw [Tk]; exact this
  | eql =>
    refine ⟨_, (Dr (G2 x.size (CJ x.data.toList) y.size (CJ y.data.toList)) (fun r => κ (.bool r)):Mo .eql x.size (CJ x.data.toList) y.size (CJ y.data.toList) κ=_), .bool (x.toList == y.toList), fun P t w => by rw [hrun]; rfl, fun ρ φ => ?_⟩
    rw [Nb]; exact Ek _ ρ φ
  | neq =>
    have e:Mo .neq x.size (CJ x.data.toList) y.size (CJ y.data.toList) κ=br (x.toList == y.toList) (κ (.bool false)) (κ (.bool true)) := by rw [←Nb]; rfl
    refine ⟨.bool !(x.toList == y.toList), ?_, .bool !(x.toList == y.toList), fun P t w => by rw [hrun]; rfl, fun ρ φ => Ek _ ρ φ⟩
    rw [e]; cases (x.toList == y.toList) <;> rfl
  | lss =>
    refine ⟨_, (Dr (Sd x.size (CJ x.data.toList) y.size (CJ y.data.toList)) (fun r => κ (.bool r)):Mo .lss x.size (CJ x.data.toList) y.size (CJ y.data.toList) κ=_), .bool (Op.bytesLess x.toList y.toList), fun P t w => by rw [hrun]; rfl, fun ρ φ => ?_⟩
    rw [hlt]; exact Ek _ ρ φ
  | geq =>
    have e:Mo .geq x.size (CJ x.data.toList) y.size (CJ y.data.toList) κ=br (Op.bytesLess x.toList y.toList) (κ (.bool false)) (κ (.bool true)) := by rw [←hlt]; rfl
    refine ⟨.bool !(Op.bytesLess x.toList y.toList), ?_, .bool !(Op.bytesLess x.toList y.toList), fun P t w => by rw [hrun]; rfl, fun ρ φ => Ek _ ρ φ⟩
    rw [e]; cases (Op.bytesLess x.toList y.toList) <;> rfl
  | leq => exact h.elim
  | gtr => exact h.elim
  | _ => exact h.elim
end Go.Ev

namespace Go.Ev
set_option linter.unusedVariables false
section
variable {P:Program} {ρ:Env} {φ:Dh} {w:World}
theorem EF (b off i:Nat):(⟨b, off, none⟩:Addr).add i=⟨b, off+i, none⟩ := by
  unfold Addr.add; split
  · simp_all
  · rfl
theorem IZ {b i:Nat} {c:Array Value} {e:TypeId} {fr:Nat×Nat} {x:Value} (h:w.heap[b]? = some (.cells c e fr)) (hx:c[i]? = some x):w.cell? ⟨b, i, none⟩=some x := by
  simp [World.cell?, h, hx]
theorem UB {b i:Nat} {c:Array Value} {e:TypeId} {fr:Nat×Nat} (h:w.heap[b]? = some (.cells c e fr)) (hf:Yy fr c.size) (hi:i<c.size):w.frozen? ⟨b, i, none⟩=false := by
  obtain ⟨lo, hi'⟩ := fr
  simp only [World.frozen?, h, Bool.and_eq_false_iff, decide_eq_false_iff_not]
  rcases hf with hf | hf <;> simp at hf <;> omega
theorem Tm {b:Nat} {O:Obj} (h:w.heap[b]? = some O):Fw w b O=w := by
  obtain ⟨hb, e⟩ := Array.getElem?_eq_some_iff.1 h
  unfold Fw
  cases w with
  | mk heap tape drawn os output =>
    simp only [World.mk.injEq, and_true]
    apply Array.ext_getElem?
    intro k
    rw [Array.getElem?_setIfInBounds]
    by_cases hk:b=k
    · subst hk; rw [if_pos rfl, if_pos hb]; exact h.symm
    · rw [if_neg hk]
theorem Uf {b:Nat} {O O':Obj}:Fw (Fw w b O) b O'=Fw w b O' := by
  simp [Fw]
theorem PH {b i:Nat} {c:Array Value} {e:TypeId} {fr:Nat×Nat} {v:Value} (h:w.heap[b]? = some (.cells c e fr)) :
    w.setCell ⟨b, i, none⟩ v=Fw w b (.cells (c.setIfInBounds i v) e fr) := by
  obtain ⟨hb, e'⟩ := Array.getElem?_eq_some_iff.1 h
  unfold World.setCell Fw
  cases w with
  | mk heap tape drawn os output =>
    congr 1
    apply Array.ext_getElem?
    intro k
    rw [Array.getElem?_modify, Array.getElem?_setIfInBounds]
    by_cases hk:b=k
    · subst hk; simp [hb, e']
    · simp [hk]
theorem Jq {b off:Nat} {c:Array Value} {e:TypeId} {fr:Nat×Nat} (h:w.heap[b]? = some (.cells c e fr)) :
    w.freeze { block := b, off := off } 1=Fw w b (.cells c e (if fr.1 == fr.2 then (off, off+1) else (min fr.1 off, max fr.2 (off+1)))) := by
  obtain ⟨hb, e'⟩ := Array.getElem?_eq_some_iff.1 h
  unfold World.freeze Fw
  cases w with
  | mk heap tape drawn os output =>
    simp only [Nat.one_ne_zero, if_false]
    congr 1
    apply Array.ext_getElem?
    intro k
    rw [Array.getElem?_modify, Array.getElem?_setIfInBounds]
    by_cases hk:b=k
    · subst hk; simp only at e'; simp [hb, e']
    · simp [hk]
theorem MS {O O':Obj}:Fw (w.alloc O) w.heap.size O'=w.alloc O' := by
  unfold Fw World.alloc
  congr 1
  apply Array.ext_getElem?
  intro k
  rw [Array.getElem?_setIfInBounds]
  by_cases hk:w.heap.size=k
  · subst hk; simp
  · simp [hk, Array.getElem?_push, Ne.symm hk]
theorem L1 {O:Obj}:(w.alloc O).heap[w.heap.size]? = some O := by show (w.heap.push O)[w.heap.size]? = _; simp
theorem Jx (vs:List Value):∀ (w:World) (b off i:Nat) (c:Array Value) (e:TypeId) (fr:Nat×Nat), w.heap[b]? = some (.cells c e fr)->off+i+vs.length≤c.size->Yy fr c.size →
    (∀ v∈vs, v.oneCell'=true)->∃ c':Array Value, c'.size=c.size∧(∀ j, (j<off+i∨off+i+vs.length≤j)->c'[j]? = c[j]?)∧(∀ (j:Nat) (v:Value), vs[j]? = some v->c'[off+i+j]? = some v) ∧
      (storeCells ⟨b, off, none⟩ vs i).run P w = .ok () (Fw w b (.cells c' e fr)) := by
  induction vs with
  | nil => intro w b off i c e fr h _ _ _; exact ⟨c, rfl, fun _ _ => rfl, fun j v hv => by simp at hv, by rw [Tm h]; rfl⟩
  | cons v vs ih =>
    intro w b off i c e fr h hl hf h1
    simp only [List.length_cons] at hl
    have hi:off+i<c.size := by omega
    have hst:(store ((⟨b, off, none⟩:Addr).add i) v).run P w = .ok () (Fw w b (.cells (c.setIfInBounds (off+i) v) e fr)) := by
      rw [EF, run_store P w _ v _ (h1 v (by simp)), IZ h (Array.getElem?_eq_getElem hi)]
      simp only [UB h hf hi, Bool.false_eq_true, if_false]
      rw [PH h]
    have hb:b<w.heap.size := (Array.getElem?_eq_some_iff.1 h).1
    obtain ⟨c', g1, g2, g3, g4⟩ := ih (Fw w b (.cells (c.setIfInBounds (off+i) v) e fr)) b off (i+1) (c.setIfInBounds (off+i) v) e fr (G8 hb)
      (by simp; omega) (by simpa using hf) (fun x hx => h1 x (by simp [hx]))
    refine ⟨c', by simpa using g1, fun j hj => ?_, fun j u hu => ?_, ?_⟩
    · rw [g2 j (by simp only [List.length_cons] at hj; omega)]
      rw [Array.getElem?_setIfInBounds, if_neg (by simp only [List.length_cons] at hj; omega)]
    · cases j with
      | zero =>
        simp at hu; subst hu
        rw [g2 (off+i+0) (by omega), Array.getElem?_setIfInBounds]; simp [hi]
      | succ j =>
        have := g3 j u (by simpa using hu)
        rw [←this]; congr 1; omega
    · rw [storeCells]
      simp only [Sem.run_bind, hst, Result.andThen_ok, g4, Uf]
/-- A row of cells, read. -/
theorem G0 {b off:Nat} {c:Array Value} {e:TypeId} {fr:Nat×Nat} (vs:List Value) (h:w.heap[b]? = some (.cells c e fr)) (hv:∀ (j:Nat) (v:Value), vs[j]? = some v->c[off+j]? = some v) :
    (loadCells ⟨b, off, none⟩ vs.length).run P w = .ok vs.toArray w :=
  run_loadCells_list w _ vs fun j v hj => by rw [EF]; exact IZ h (hv j v hj)
/-- Cells that an object tells of, as a list of values. -/
theorem Li {cs:Cs} {f:Nat->Option Value} (h:Hq ρ φ cs f):∃ vs:List Value, vs.length=cs.len∧(∀ (j:Nat) (v:Value), vs[j]? = some v->f j=some v)∧(∀ v∈vs, v.oneCell'=true) ∧
    (∀ l:List V, l.length=cs.len->(∀ i:Nat, l[i]? = cs.at i)->E5 ρ φ l vs) := by
  have key:∀ m, m≤cs.len->∃ vs:List Value, vs.length=m ∧ ∀ (j:Nat) (v:Value), vs[j]? = some v->f j=some v∧v.oneCell'=true ∧ ∀ u, cs.at j=some u->CD ρ φ u v := by
    intro m
    induction m with
    | zero => exact fun _ => ⟨[], rfl, fun j v hv => by simp at hv⟩
    | succ m ih =>
      intro hm
      obtain ⟨vs, h1, h2⟩ := ih (by omega)
      obtain ⟨u, hu⟩ := Cs.at_lt (cs := cs) (i := m) (by omega)
      obtain ⟨x, hx, hr, ho⟩ := h m u hu
      refine ⟨vs++[x], by simp [h1], fun j v hv => ?_⟩
      by_cases hj:j<m
      · rw [List.getElem?_append_left (by omega)] at hv; exact h2 j v hv
      · rw [List.getElem?_append_right (by omega), h1] at hv
        have hjm:j=m := by
          rcases Nat.eq_or_lt_of_le (Nat.le_of_not_lt hj) with e | e
          · exact e.symm
          · rw [List.getElem?_eq_none (by simp; omega)] at hv; cases hv
        subst hjm
        simp at hv; subst hv
        exact ⟨hx, ho, fun u' hu' => by rw [hu] at hu'; cases hu'; exact hr⟩
  obtain ⟨vs, h1, h2⟩ := key cs.len (Nat.le_refl _)
  refine ⟨vs, h1, fun j v hv => (h2 j v hv).1, fun v hv => ?_, fun l hl hla => ?_⟩
  · obtain ⟨j, hj, rfl⟩ := List.getElem_of_mem hv
    exact (h2 j _ (List.getElem?_eq_getElem hj)).2.1
  · refine ER.2 ⟨by omega, fun i u hu => ?_⟩
    have hi:i<vs.length := by
      rcases Nat.lt_or_ge i vs.length with h' | h'
      · exact h'
      · rw [List.getElem?_eq_none (by omega)] at hu; cases hu
    exact ⟨vs[i], List.getElem?_eq_getElem hi, (h2 i _ (List.getElem?_eq_getElem hi)).2.2 u (by rw [←hla i]; exact hu)⟩
theorem JD {cs y:Cs} {off m:Nat} {f:Nat->Option Value} (h:Hq ρ φ cs f) (hl:y.len=m) (ha:∀ i, i<m->y.at i=cs.at (off+i)):Hq ρ φ y fun i => f (off+i) := fun i v hv => by
  have hi := Cs.lt_of_at hv
  rw [ha i (by omega)] at hv
  exact h (off+i) v hv
end
structure TR (ρ:Env) (N:Nat) (φ:Dh) (t:Regs) (a:Act):Prop where
  size:a.tmps.size=N
  defers:a.defers=[]
  at_:∀ s p, s<N->K2.ofN s=some p->CD ρ φ (Dx p t) (a.tmps.getD s undef)
theorem TR.mono {ρ:Env} {N:Nat} {φ φ':Dh} {t:Regs} {a:Act} (h:TR ρ N φ t a) (hle:Dh.le φ φ'):TR ρ N φ' t a :=
  ⟨h.size, h.defers, fun s p h1 h2 => HE hle (h.at_ s p h1 h2)⟩
section
variable (P:Program) (ρ:Env) (B N:Nat)
/-- One operation's step: whatever world the abstract state tells of, it comes to one that the new abstract state tells of. -/
def JA (o:Oper) (t:Regs) (h:Heap) (n:K4) (v:V) (h1:Heap) (n1:K4):Prop :=
  ∀ (φ:Dh) (a:Act) (w:World), TR ρ N φ t a->Gam ρ B h n φ w->∀ (K:Act->World->Prop) (Q:Exit->Act->World->Prop),
    (∀ φ' x w', Fr h h1 φ φ' n n1 w w'->Gam ρ B h1 n1 φ' w'->CD ρ φ' v x->K (a.put o.dst x) w')->o.wp P a w K Q
/-- All ways that begin well end well. -/
def Fj (o:Oper) (f:KV->R) (t:Regs) (h:Heap) (n:K4):Prop :=
  ∀ κ:KV, (f κ).good->∃ v h1 n1, f κ=κ v h1 n1∧JA P ρ B N o t h n v h1 n1
/-- An operation that leaves the world as it is. -/
def Vy (o:Oper) (t:Regs) (h:Heap) (n:K4) (v:V):Prop :=
  ∀ φ a w, TR ρ N φ t a->Gam ρ B h n φ w->∃ x, (execOp a.eval o).run P w = .ok (.value x) w∧CD ρ φ v x
def Dw (o:Oper) (f:KV->R) (t:Regs) (h:Heap) (n:K4):Prop :=
  ∀ κ:KV, (f κ).good->∃ v, f κ=κ v h n∧Vy P ρ B N o t h n v
end
section
variable {P:Program} {ρ:Env} {B N:Nat}
theorem JA.value {o:Oper} {t:Regs} {h h1:Heap} {n n1:K4} {v:V}
    (H:∀ φ a w, TR ρ N φ t a->Gam ρ B h n φ w->∃ φ' x w', (execOp a.eval o).run P w = .ok (.value x) w'∧Fr h h1 φ φ' n n1 w w'∧Gam ρ B h1 n1 φ' w'∧CD ρ φ' v x):JA P ρ B N o t h n v h1 n1 := by
  intro φ a w ht hg K Q hK
  obtain ⟨φ', x, w', e, h1, h2, h3⟩ := H φ a w ht hg
  unfold Oper.wp
  rw [e]
  exact hK φ' x w' h1 h2 h3
theorem JA.skip {o:Oper} {t:Regs} {h h1:Heap} {n n1:K4}
    (H:∀ φ a w, TR ρ N φ t a->Gam ρ B h n φ w->∃ φ' w', (execOp a.eval o).run P w = .ok .skip w'∧Fr h h1 φ φ' n n1 w w'∧Gam ρ B h1 n1 φ' w'):JA P ρ B N o t h n Ec h1 n1 := by
  intro φ a w ht hg K Q hK
  obtain ⟨φ', w', e, h1, h2⟩ := H φ a w ht hg
  unfold Oper.wp
  rw [e]
  exact hK φ' undef w' h1 h2 (by simp only [Ec, CD, undef]; exact ⟨#[], rfl, by simp only [E5]⟩)
/-- Nothing of the world turns. -/
theorem JA.pure {o:Oper} {t:Regs} {h:Heap} {n:K4} {v:V}
    (H:∀ φ a w, TR ρ N φ t a->Gam ρ B h n φ w->∃ x, (execOp a.eval o).run P w = .ok (.value x) w∧CD ρ φ v x):JA P ρ B N o t h n v h n :=
  .value fun φ a w ht hg => let ⟨x, e, hr⟩ := H φ a w ht hg; ⟨φ, x, w, e, .refl h φ n w, hg, hr⟩
theorem Dw.sound {o:Oper} {f:KV->R} {t:Regs} {h:Heap} {n:K4} (H:Dw P ρ B N o f t h n):Fj P ρ B N o f t h n := fun κ hg =>
  let ⟨v, e, hp⟩ := H κ hg
  ⟨v, h, n, e, .pure hp⟩
theorem Md {v:Value} {c:V} (h:MC v=some c) (φ:Dh):CD ρ φ c v∧v.oneCell'=true := by
  unfold MC at h
  split at h
  · cases h; exact ⟨by simp only [CD], rfl⟩
  · rename_i k n
    split at h
    · split at h
      · rename_i m hm
        cases h
        have := DL hm
        refine ⟨?_, rfl⟩
        simp only [CD]
        exact ⟨Nat.lt_of_lt_of_le this (Ji k), by rw [CC this]; rfl⟩
      · cases h
    · split at h
      · rename_i m hm
        cases h
        have := Ap.1 hm
        simp only [Nat.add_eq] at this
        refine ⟨?_, rfl⟩
        simp only [CD]
        have hH := Gu k
        refine ⟨by show Mk k - (m+1)<Mk k; omega, ?_⟩
        rw [show Nat.sub (Mk k) (Nat.succ m)=Mk k - (m+1) from rfl, EU (by omega)]
        congr 1
        omega
      · cases h
  all_goals first
    | (cases h; exact ⟨TB _ ρ φ, rfl⟩)
    | (cases h; exact ⟨by simp only [CD, EG], rfl⟩)
    | (simp at h)
theorem Hz:∀ {vs:List Value} {l:List V}, Kt vs=some l->∀ φ:Dh, E5 ρ φ l vs ∧ ∀ v∈vs, v.oneCell'=true
  | [], l, h, φ => by simp only [Kt, Option.some.injEq] at h; subst h; exact ⟨CM.2 rfl, by simp⟩
  | v::vs, l, h, φ => by
    simp only [Kt] at h
    split at h
    · rename_i x xs hx hxs
      cases h
      obtain ⟨h1, h2⟩ := Hz hxs φ
      obtain ⟨h3, h4⟩ := Md (ρ := ρ) hx φ
      exact ⟨CG.2 ⟨v, vs, rfl, h3, h1⟩, by simpa using ⟨h4, h2⟩⟩
    · cases h
theorem Nc {v:Value} {c:V} (h:LE v=some c) (φ:Dh):CD ρ φ c v := by
  unfold LE at h
  split at h
  · rename_i cs
    cases hl:Kt cs.toList with
    | none => rw [hl] at h; cases h
    | some l =>
      rw [hl] at h; cases h
      simp only [CD]
      exact ⟨cs, rfl, (Hz hl φ).1, (Hz (ρ := ρ) hl φ).2⟩
  · rename_i cs
    split at h
    · cases h
      rename_i he
      simp only [CD]
      exact ⟨cs, rfl, CM.2 (by simpa using he)⟩
    · cases h
  · rename_i f first caps
    split at h
    · cases h
      rename_i he
      simp at he
      simp only [CD]
      exact ⟨#[], by rw [he.1, he.2], by simp only [E5]⟩
    · cases h
  · exact (Md h φ).1
theorem AI {o:Operand} {x:Opd} (h:Da N o=some x) {φ:Dh} {t:Regs} {a:Act} (ht:TR ρ N φ t a):CD ρ φ (ev x t) (a.eval o) := by
  unfold Da at h
  split at h
  · rename_i s
    unfold Jf at h
    split at h
    · rename_i hs
      cases hk:K2.ofN s with
      | none => rw [hk] at h; cases h
      | some p => rw [hk] at h; cases h; exact ht.at_ s p hs hk
    · cases h
  · rename_i v
    cases hc:LE v with
    | none => rw [hc] at h; cases h
    | some c => rw [hc] at h; cases h; exact Nc hc φ
  · cases h
    simp only [ev, Act.eval, CD]
    exact ⟨#[], rfl, by simp only [E5]⟩
  · cases h
theorem Hv:∀ {os:List Operand} {xs:List Opd}, E6 N os=some xs->∀ {φ:Dh} {t:Regs} {a:Act}, TR ρ N φ t a->E5 ρ φ (xs.map (ev · t)) (os.map a.eval)
  | [], xs, h, φ, t, a, ht => by simp only [E6, Option.some.injEq] at h; subst h; exact CM.2 rfl
  | o::os, xs, h, φ, t, a, ht => by
    simp only [E6] at h
    split at h
    · rename_i x ys hx hys
      cases h
      exact CG.2 ⟨_, _, rfl, AI hx ht, Hv hys ht⟩
    · cases h
theorem De {t:TypeId} {s:Nat} (h:DJ P t=some s) (w:World):(sizeOf t).run P w = .ok s w := by
  unfold DJ at h
  cases hi:P.info? t with
  | none => rw [hi] at h; cases h
  | some i => rw [hi] at h; cases h; simp [sizeOf, typeInfo, hi]
theorem EO {t:TypeId} {b:Bool} (h:ND P t=some b) (w:World):(isAgg t).run P w = .ok b w := by
  unfold ND at h
  cases hi:P.underlying t with
  | none => rw [hi] at h; cases h
  | some d =>
    rw [hi] at h; cases h
    unfold isAgg
    cases d <;> simp [run_underlying hi]
theorem FS {t:TypeId} {z:Value} (h:(P.info? t).bind (·.zero)=some z) (w:World):(zeroValue t).run P w = .ok z w := by
  cases hi:P.info? t with
  | none => rw [hi] at h; cases h
  | some i =>
    rw [hi] at h
    simp only [Option.bind_some] at h
    simp [zeroValue, typeInfo, hi, h]
end
end Go.Ev
