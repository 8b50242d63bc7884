/- AN EVALUATOR OF THE MODEL OF Go, PROVED SOUND, PART 1: what it says of a call holds in every world, on every tape. Conditions: none of its own; each theorem bears its premises. -/
import Derived.Below
import Derived.Laws.Append
import Derived.Laws.Bits
import Derived.Laws.Cells
import Derived.Laws.Entries
import Derived.Laws.Sem
import Derived.Laws.Strings
import Derived.Laws.StructEq
import Derived.Laws.Tables
import Derived.Laws.World
import Derived.Orders
noncomputable section
set_option linter.unusedSimpArgs false
set_option linter.unusedVariables false
namespace Go.Ev
set_option linter.unusedVariables false
inductive D where
  | d0 | d1 | d2 | d3 | d4 | d5 | d6 | d7 | d8 | d9 | d10 | d11 | d12 | d13 | d14 | d15
def D.toN (d:D):Nat := @D.rec (fun _ => Nat) 0 1 2 3 4 5 6 7 8 9 10 11 12 13 14 15 d
theorem D.toN_lt (d:D):d.toN<16 := by cases d <;> decide
theorem D.toN_inj {a b:D} (h:a.toN=b.toN):a=b := by
  cases a <;> cases b <;> first | rfl | exact absurd h (by decide)
/-- The next digit, or the other way. -/
def D.nx {β:Type} (d:D):(D->β)->β->β :=
  @D.rec (fun _ => (D->β)->β->β) (fun k _ => k .d1) (fun k _ => k .d2) (fun k _ => k .d3) (fun k _ => k .d4) (fun k _ => k .d5) (fun k _ => k .d6) (fun k _ => k .d7) (fun k _ => k .d8) (fun k _ => k .d9) (fun k _ => k .d10) (fun k _ => k .d11) (fun k _ => k .d12) (fun k _ => k .d13) (fun k _ => k .d14) (fun k _ => k .d15) (fun _ c => c) d
theorem D.nx_eq {β:Type} (d:D) (k:D->β) (c:β):(d.nx k c=c∧d.toN=15)∨(∃ e:D, e.toN=d.toN+1∧d.nx k c=k e) := by
  cases d
  case d0 => exact .inr ⟨.d1, rfl, rfl⟩
  case d1 => exact .inr ⟨.d2, rfl, rfl⟩
  case d2 => exact .inr ⟨.d3, rfl, rfl⟩
  case d3 => exact .inr ⟨.d4, rfl, rfl⟩
  case d4 => exact .inr ⟨.d5, rfl, rfl⟩
  case d5 => exact .inr ⟨.d6, rfl, rfl⟩
  case d6 => exact .inr ⟨.d7, rfl, rfl⟩
  case d7 => exact .inr ⟨.d8, rfl, rfl⟩
  case d8 => exact .inr ⟨.d9, rfl, rfl⟩
  case d9 => exact .inr ⟨.d10, rfl, rfl⟩
  case d10 => exact .inr ⟨.d11, rfl, rfl⟩
  case d11 => exact .inr ⟨.d12, rfl, rfl⟩
  case d12 => exact .inr ⟨.d13, rfl, rfl⟩
  case d13 => exact .inr ⟨.d14, rfl, rfl⟩
  case d14 => exact .inr ⟨.d15, rfl, rfl⟩
  case d15 => exact .inl ⟨rfl, rfl⟩
def D.ofN:Nat->D
  | 0 => .d0 | 1 => .d1 | 2 => .d2 | 3 => .d3 | 4 => .d4 | 5 => .d5 | 6 => .d6 | 7 => .d7 | 8 => .d8 | 9 => .d9 | 10 => .d10 | 11 => .d11 | 12 => .d12 | 13 => .d13 | 14 => .d14 | _ => .d15
theorem D.toN_ofN:∀ n, n<16->(D.ofN n).toN=n
  | 0, _ => rfl | 1, _ => rfl | 2, _ => rfl | 3, _ => rfl | 4, _ => rfl | 5, _ => rfl | 6, _ => rfl | 7, _ => rfl | 8, _ => rfl | 9, _ => rfl | 10, _ => rfl | 11, _ => rfl | 12, _ => rfl | 13, _ => rfl | 14, _ => rfl | 15, _ => rfl
  | n+16, h => by omega
def D.beq (a b:D):Bool := Nat.beq a.toN b.toN
theorem D.beq_iff {a b:D}:a.beq b=true ↔ a=b := by
  unfold D.beq
  exact ⟨fun h => D.toN_inj (Nat.eq_of_beq_eq_true h), fun h => by subst h; exact Nat.beq_refl _⟩
/-- A place of the heap: four digits, the first leads. -/
structure K4 where
  a:D
  b:D
  c:D
  d:D
/-- The nil values. -/
inductive Nl where
  | ptr
  | sl
  | map
  | fn
  | iface
/-- What lies in memory that stays: an integer, a bool, a text, bytes, a slice that is nil. -/
inductive RV where
  | i (k:IntKind) (r:Nat)
  | b (b:Bool)
  | s (n c:Nat)
  | y (n c:Nat)
  | nl
/-- What is DI of other values; rb, rx, rp: bytes, a slice, a pointer to cells of memory that stays, told. -/
inductive Ot where
  | any
  | sym (i:Nat)
  | yl (p:K4)
  | no
  | iv (k:IntKind) (lo hi:Nat)
  | os (lo hi:Nat)
  | bl
  | rs (m j:Nat)
  | ss (lo hi n c:Nat)
  | ro (i lo hi z:Nat)
  | ap (i j m:Nat)
  | sy (k:IntKind) (i:Nat)
  | rb (n c:Nat)
  | rx (l:List RV) (m z:Nat)
  | rp (l:List RV)
/-- Abstract values. An integer is told by its residue. A string is told by its length and its bytes as one number, the first byte lowest. -/
inductive V where
  | int (k:IntKind) (r:Nat)
  | bool (b:Bool)
  | ptr (p:K4) (off:Nat)
  | sl (p:K4) (off len cap:Nat) (ex:Bool) (esz:Nat)
  | str (n c:Nat)
  | agg (l:List V)
  | nil (w:Nl)
  | map (p:K4)
  | fn (f:Nat) (caps:List V)
  | tup (l:List V)
  | oth (o:Ot)
/-- Cells: a list, or bytes packed in one number. -/
inductive Cs where
  | l (xs:List V)
  | b (n c:Nat)
/-- An object: cells (may they be written? which older object may share their memory?), or a map (its entries, their stamps, its clock), or an iterator over a map (the map's place, the clock at its beginning, the stamps it has shown, the latest first, the clock at the last step), or one over nil; or the record of a range over a function (whose; the place of its box). -/
inductive Ob where
  | c (cs:Cs) (sup:Bool) (prev:Option K4)
  | m (es:List (V×V)) (bs:List Nat) (clk:Nat)
  | it (p:K4) (since:Nat) (seen:List Nat) (c:Nat)
  | it0
  | lp (f:Nat) (box:K4)
abbrev BX := Option Ob
/-- Sixteen values. -/
inductive VP where
  | mk (A B C E F G I J L M N O P Q T U:V)
def VP.all (x:V):VP := .mk x x x x x x x x x x x x x x x x
def VP.sel (d:D) (p:VP):V :=
  @VP.rec (fun _ => V) (fun A B C E F G I J L M N O P Q T U => @D.rec (fun _ => V) A B C E F G I J L M N O P Q T U d) p
def vs0 {β:Type} (p:VP) (v:V) (k:VP->β):β := @VP.rec (fun _ => β) (fun A B C E F G I J L M N O P Q T U => k (.mk v B C E F G I J L M N O P Q T U)) p
def vs1 {β:Type} (p:VP) (v:V) (k:VP->β):β := @VP.rec (fun _ => β) (fun A B C E F G I J L M N O P Q T U => k (.mk A v C E F G I J L M N O P Q T U)) p
def vs2 {β:Type} (p:VP) (v:V) (k:VP->β):β := @VP.rec (fun _ => β) (fun A B C E F G I J L M N O P Q T U => k (.mk A B v E F G I J L M N O P Q T U)) p
def vs3 {β:Type} (p:VP) (v:V) (k:VP->β):β := @VP.rec (fun _ => β) (fun A B C E F G I J L M N O P Q T U => k (.mk A B C v F G I J L M N O P Q T U)) p
def vs4 {β:Type} (p:VP) (v:V) (k:VP->β):β := @VP.rec (fun _ => β) (fun A B C E F G I J L M N O P Q T U => k (.mk A B C E v G I J L M N O P Q T U)) p
def vs5 {β:Type} (p:VP) (v:V) (k:VP->β):β := @VP.rec (fun _ => β) (fun A B C E F G I J L M N O P Q T U => k (.mk A B C E F v I J L M N O P Q T U)) p
def vs6 {β:Type} (p:VP) (v:V) (k:VP->β):β := @VP.rec (fun _ => β) (fun A B C E F G I J L M N O P Q T U => k (.mk A B C E F G v J L M N O P Q T U)) p
def vs7 {β:Type} (p:VP) (v:V) (k:VP->β):β := @VP.rec (fun _ => β) (fun A B C E F G I J L M N O P Q T U => k (.mk A B C E F G I v L M N O P Q T U)) p
def vs8 {β:Type} (p:VP) (v:V) (k:VP->β):β := @VP.rec (fun _ => β) (fun A B C E F G I J L M N O P Q T U => k (.mk A B C E F G I J v M N O P Q T U)) p
def vs9 {β:Type} (p:VP) (v:V) (k:VP->β):β := @VP.rec (fun _ => β) (fun A B C E F G I J L M N O P Q T U => k (.mk A B C E F G I J L v N O P Q T U)) p
def Ahi {β:Type} (p:VP) (v:V) (k:VP->β):β := @VP.rec (fun _ => β) (fun A B C E F G I J L M N O P Q T U => k (.mk A B C E F G I J L M v O P Q T U)) p
def Ags {β:Type} (p:VP) (v:V) (k:VP->β):β := @VP.rec (fun _ => β) (fun A B C E F G I J L M N O P Q T U => k (.mk A B C E F G I J L M N v P Q T U)) p
def Af5 {β:Type} (p:VP) (v:V) (k:VP->β):β := @VP.rec (fun _ => β) (fun A B C E F G I J L M N O P Q T U => k (.mk A B C E F G I J L M N O v Q T U)) p
def Ahc {β:Type} (p:VP) (v:V) (k:VP->β):β := @VP.rec (fun _ => β) (fun A B C E F G I J L M N O P Q T U => k (.mk A B C E F G I J L M N O P v T U)) p
def Aex {β:Type} (p:VP) (v:V) (k:VP->β):β := @VP.rec (fun _ => β) (fun A B C E F G I J L M N O P Q T U => k (.mk A B C E F G I J L M N O P Q v U)) p
def Afx {β:Type} (p:VP) (v:V) (k:VP->β):β := @VP.rec (fun _ => β) (fun A B C E F G I J L M N O P Q T U => k (.mk A B C E F G I J L M N O P Q T v)) p
def vg0 {β:Type} (p:VP) (k:V->β):β := @VP.rec (fun _ => β) (fun A B C E F G I J L M N O P Q T U => k A) p
def vg1 {β:Type} (p:VP) (k:V->β):β := @VP.rec (fun _ => β) (fun A B C E F G I J L M N O P Q T U => k B) p
def vg2 {β:Type} (p:VP) (k:V->β):β := @VP.rec (fun _ => β) (fun A B C E F G I J L M N O P Q T U => k C) p
def vg3 {β:Type} (p:VP) (k:V->β):β := @VP.rec (fun _ => β) (fun A B C E F G I J L M N O P Q T U => k E) p
def vg4 {β:Type} (p:VP) (k:V->β):β := @VP.rec (fun _ => β) (fun A B C E F G I J L M N O P Q T U => k F) p
def vg5 {β:Type} (p:VP) (k:V->β):β := @VP.rec (fun _ => β) (fun A B C E F G I J L M N O P Q T U => k G) p
def vg6 {β:Type} (p:VP) (k:V->β):β := @VP.rec (fun _ => β) (fun A B C E F G I J L M N O P Q T U => k I) p
def vg7 {β:Type} (p:VP) (k:V->β):β := @VP.rec (fun _ => β) (fun A B C E F G I J L M N O P Q T U => k J) p
def vg8 {β:Type} (p:VP) (k:V->β):β := @VP.rec (fun _ => β) (fun A B C E F G I J L M N O P Q T U => k L) p
def vg9 {β:Type} (p:VP) (k:V->β):β := @VP.rec (fun _ => β) (fun A B C E F G I J L M N O P Q T U => k M) p
def Agq {β:Type} (p:VP) (k:V->β):β := @VP.rec (fun _ => β) (fun A B C E F G I J L M N O P Q T U => k N) p
def Aej {β:Type} (p:VP) (k:V->β):β := @VP.rec (fun _ => β) (fun A B C E F G I J L M N O P Q T U => k O) p
def Agd {β:Type} (p:VP) (k:V->β):β := @VP.rec (fun _ => β) (fun A B C E F G I J L M N O P Q T U => k P) p
def Air {β:Type} (p:VP) (k:V->β):β := @VP.rec (fun _ => β) (fun A B C E F G I J L M N O P Q T U => k Q) p
def Agu {β:Type} (p:VP) (k:V->β):β := @VP.rec (fun _ => β) (fun A B C E F G I J L M N O P Q T U => k T) p
def Ahq {β:Type} (p:VP) (k:V->β):β := @VP.rec (fun _ => β) (fun A B C E F G I J L M N O P Q T U => k U) p
def VP.selK {β:Type} (d:D):VP->(V->β)->β :=
  @D.rec (fun _ => VP->(V->β)->β) vg0 vg1 vg2 vg3 vg4 vg5 vg6 vg7 vg8 vg9 Agq Aej Agd Air Agu Ahq d
theorem VP.selK_eq {β:Type} (d:D) (p:VP) (k:V->β):VP.selK d p k=k (VP.sel d p) := by
  cases d <;> cases p <;> rfl
def VP.setK {β:Type} (d:D):VP->V->(VP->β)->β :=
  @D.rec (fun _ => VP->V->(VP->β)->β) vs0 vs1 vs2 vs3 vs4 vs5 vs6 vs7 vs8 vs9 Ahi Ags Af5 Ahc Aex Afx d
def VP.setS (d:D) (p:VP) (v:V):VP := VP.setK d p v id
theorem VP.setK_eq {β:Type} (d:D) (p:VP) (v:V) (k:VP->β):VP.setK d p v k=k (VP.setS d p v) := by
  cases d <;> cases p <;> rfl
theorem VP.sel_setS_same (d:D) (p:VP) (v:V):VP.sel d (VP.setS d p v)=v := by
  cases d <;> cases p <;> rfl
theorem VP.sel_setS_ne {d e:D} (p:VP) (v:V) (h:d≠e):VP.sel e (VP.setS d p v)=VP.sel e p := by
  cases p; cases d <;> cases e <;> first | rfl | exact absurd rfl h
theorem VP.sel_all (d:D) (x:V):VP.sel d (VP.all x)=x := by cases d <;> rfl
/-- The registers. -/
inductive Regs where
  | mk (A B C E F G I J L M N O P Q T U:VP)
def Regs.all (x:VP):Regs := .mk x x x x x x x x x x x x x x x x
def Regs.sel (d:D) (p:Regs):VP :=
  @Regs.rec (fun _ => VP) (fun A B C E F G I J L M N O P Q T U => @D.rec (fun _ => VP) A B C E F G I J L M N O P Q T U d) p
def qs0 {β:Type} (p:Regs) (v:VP) (k:Regs->β):β := @Regs.rec (fun _ => β) (fun A B C E F G I J L M N O P Q T U => k (.mk v B C E F G I J L M N O P Q T U)) p
def qs1 {β:Type} (p:Regs) (v:VP) (k:Regs->β):β := @Regs.rec (fun _ => β) (fun A B C E F G I J L M N O P Q T U => k (.mk A v C E F G I J L M N O P Q T U)) p
def qs2 {β:Type} (p:Regs) (v:VP) (k:Regs->β):β := @Regs.rec (fun _ => β) (fun A B C E F G I J L M N O P Q T U => k (.mk A B v E F G I J L M N O P Q T U)) p
def qs3 {β:Type} (p:Regs) (v:VP) (k:Regs->β):β := @Regs.rec (fun _ => β) (fun A B C E F G I J L M N O P Q T U => k (.mk A B C v F G I J L M N O P Q T U)) p
def qs4 {β:Type} (p:Regs) (v:VP) (k:Regs->β):β := @Regs.rec (fun _ => β) (fun A B C E F G I J L M N O P Q T U => k (.mk A B C E v G I J L M N O P Q T U)) p
def qs5 {β:Type} (p:Regs) (v:VP) (k:Regs->β):β := @Regs.rec (fun _ => β) (fun A B C E F G I J L M N O P Q T U => k (.mk A B C E F v I J L M N O P Q T U)) p
def qs6 {β:Type} (p:Regs) (v:VP) (k:Regs->β):β := @Regs.rec (fun _ => β) (fun A B C E F G I J L M N O P Q T U => k (.mk A B C E F G v J L M N O P Q T U)) p
def qs7 {β:Type} (p:Regs) (v:VP) (k:Regs->β):β := @Regs.rec (fun _ => β) (fun A B C E F G I J L M N O P Q T U => k (.mk A B C E F G I v L M N O P Q T U)) p
def qs8 {β:Type} (p:Regs) (v:VP) (k:Regs->β):β := @Regs.rec (fun _ => β) (fun A B C E F G I J L M N O P Q T U => k (.mk A B C E F G I J v M N O P Q T U)) p
def qs9 {β:Type} (p:Regs) (v:VP) (k:Regs->β):β := @Regs.rec (fun _ => β) (fun A B C E F G I J L M N O P Q T U => k (.mk A B C E F G I J L v N O P Q T U)) p
def Aef {β:Type} (p:Regs) (v:VP) (k:Regs->β):β := @Regs.rec (fun _ => β) (fun A B C E F G I J L M N O P Q T U => k (.mk A B C E F G I J L M v O P Q T U)) p
def Afi {β:Type} (p:Regs) (v:VP) (k:Regs->β):β := @Regs.rec (fun _ => β) (fun A B C E F G I J L M N O P Q T U => k (.mk A B C E F G I J L M N v P Q T U)) p
def Ai1 {β:Type} (p:Regs) (v:VP) (k:Regs->β):β := @Regs.rec (fun _ => β) (fun A B C E F G I J L M N O P Q T U => k (.mk A B C E F G I J L M N O v Q T U)) p
def Af8 {β:Type} (p:Regs) (v:VP) (k:Regs->β):β := @Regs.rec (fun _ => β) (fun A B C E F G I J L M N O P Q T U => k (.mk A B C E F G I J L M N O P v T U)) p
def Ahr {β:Type} (p:Regs) (v:VP) (k:Regs->β):β := @Regs.rec (fun _ => β) (fun A B C E F G I J L M N O P Q T U => k (.mk A B C E F G I J L M N O P Q v U)) p
def Ag9 {β:Type} (p:Regs) (v:VP) (k:Regs->β):β := @Regs.rec (fun _ => β) (fun A B C E F G I J L M N O P Q T U => k (.mk A B C E F G I J L M N O P Q T v)) p
def qg0 {β:Type} (p:Regs) (k:VP->β):β := @Regs.rec (fun _ => β) (fun A B C E F G I J L M N O P Q T U => k A) p
def qg1 {β:Type} (p:Regs) (k:VP->β):β := @Regs.rec (fun _ => β) (fun A B C E F G I J L M N O P Q T U => k B) p
def qg2 {β:Type} (p:Regs) (k:VP->β):β := @Regs.rec (fun _ => β) (fun A B C E F G I J L M N O P Q T U => k C) p
def qg3 {β:Type} (p:Regs) (k:VP->β):β := @Regs.rec (fun _ => β) (fun A B C E F G I J L M N O P Q T U => k E) p
def qg4 {β:Type} (p:Regs) (k:VP->β):β := @Regs.rec (fun _ => β) (fun A B C E F G I J L M N O P Q T U => k F) p
def qg5 {β:Type} (p:Regs) (k:VP->β):β := @Regs.rec (fun _ => β) (fun A B C E F G I J L M N O P Q T U => k G) p
def qg6 {β:Type} (p:Regs) (k:VP->β):β := @Regs.rec (fun _ => β) (fun A B C E F G I J L M N O P Q T U => k I) p
def qg7 {β:Type} (p:Regs) (k:VP->β):β := @Regs.rec (fun _ => β) (fun A B C E F G I J L M N O P Q T U => k J) p
def qg8 {β:Type} (p:Regs) (k:VP->β):β := @Regs.rec (fun _ => β) (fun A B C E F G I J L M N O P Q T U => k L) p
def qg9 {β:Type} (p:Regs) (k:VP->β):β := @Regs.rec (fun _ => β) (fun A B C E F G I J L M N O P Q T U => k M) p
def Aga {β:Type} (p:Regs) (k:VP->β):β := @Regs.rec (fun _ => β) (fun A B C E F G I J L M N O P Q T U => k N) p
def Ah2 {β:Type} (p:Regs) (k:VP->β):β := @Regs.rec (fun _ => β) (fun A B C E F G I J L M N O P Q T U => k O) p
def Agl {β:Type} (p:Regs) (k:VP->β):β := @Regs.rec (fun _ => β) (fun A B C E F G I J L M N O P Q T U => k P) p
def Agc {β:Type} (p:Regs) (k:VP->β):β := @Regs.rec (fun _ => β) (fun A B C E F G I J L M N O P Q T U => k Q) p
def Aeo {β:Type} (p:Regs) (k:VP->β):β := @Regs.rec (fun _ => β) (fun A B C E F G I J L M N O P Q T U => k T) p
def Af3 {β:Type} (p:Regs) (k:VP->β):β := @Regs.rec (fun _ => β) (fun A B C E F G I J L M N O P Q T U => k U) p
def Regs.selK {β:Type} (d:D):Regs->(VP->β)->β :=
  @D.rec (fun _ => Regs->(VP->β)->β) qg0 qg1 qg2 qg3 qg4 qg5 qg6 qg7 qg8 qg9 Aga Ah2 Agl Agc Aeo Af3 d
theorem Regs.selK_eq {β:Type} (d:D) (p:Regs) (k:VP->β):Regs.selK d p k=k (Regs.sel d p) := by
  cases d <;> cases p <;> rfl
def Regs.setK {β:Type} (d:D):Regs->VP->(Regs->β)->β :=
  @D.rec (fun _ => Regs->VP->(Regs->β)->β) qs0 qs1 qs2 qs3 qs4 qs5 qs6 qs7 qs8 qs9 Aef Afi Ai1 Af8 Ahr Ag9 d
def Regs.setS (d:D) (p:Regs) (v:VP):Regs := Regs.setK d p v id
theorem Regs.setK_eq {β:Type} (d:D) (p:Regs) (v:VP) (k:Regs->β):Regs.setK d p v k=k (Regs.setS d p v) := by
  cases d <;> cases p <;> rfl
theorem Regs.sel_setS_same (d:D) (p:Regs) (v:VP):Regs.sel d (Regs.setS d p v)=v := by
  cases d <;> cases p <;> rfl
theorem Regs.sel_setS_ne {d e:D} (p:Regs) (v:VP) (h:d≠e):Regs.sel e (Regs.setS d p v)=Regs.sel e p := by
  cases p; cases d <;> cases e <;> first | rfl | exact absurd rfl h
theorem Regs.sel_all (d:D) (x:VP):Regs.sel d (Regs.all x)=x := by cases d <;> rfl
/-- Sixteen places. -/
inductive HA where
  | mk (A B C E F G I J L M N O P Q T U:BX)
def HA.all (x:BX):HA := .mk x x x x x x x x x x x x x x x x
def HA.sel (d:D) (p:HA):BX :=
  @HA.rec (fun _ => BX) (fun A B C E F G I J L M N O P Q T U => @D.rec (fun _ => BX) A B C E F G I J L M N O P Q T U d) p
def Ahx {β:Type} (p:HA) (v:BX) (k:HA->β):β := @HA.rec (fun _ => β) (fun A B C E F G I J L M N O P Q T U => k (.mk v B C E F G I J L M N O P Q T U)) p
def Aj0 {β:Type} (p:HA) (v:BX) (k:HA->β):β := @HA.rec (fun _ => β) (fun A B C E F G I J L M N O P Q T U => k (.mk A v C E F G I J L M N O P Q T U)) p
def Ail {β:Type} (p:HA) (v:BX) (k:HA->β):β := @HA.rec (fun _ => β) (fun A B C E F G I J L M N O P Q T U => k (.mk A B v E F G I J L M N O P Q T U)) p
def Ahz {β:Type} (p:HA) (v:BX) (k:HA->β):β := @HA.rec (fun _ => β) (fun A B C E F G I J L M N O P Q T U => k (.mk A B C v F G I J L M N O P Q T U)) p
def Agj {β:Type} (p:HA) (v:BX) (k:HA->β):β := @HA.rec (fun _ => β) (fun A B C E F G I J L M N O P Q T U => k (.mk A B C E v G I J L M N O P Q T U)) p
def Aek {β:Type} (p:HA) (v:BX) (k:HA->β):β := @HA.rec (fun _ => β) (fun A B C E F G I J L M N O P Q T U => k (.mk A B C E F v I J L M N O P Q T U)) p
def Aew {β:Type} (p:HA) (v:BX) (k:HA->β):β := @HA.rec (fun _ => β) (fun A B C E F G I J L M N O P Q T U => k (.mk A B C E F G v J L M N O P Q T U)) p
def Ai3 {β:Type} (p:HA) (v:BX) (k:HA->β):β := @HA.rec (fun _ => β) (fun A B C E F G I J L M N O P Q T U => k (.mk A B C E F G I v L M N O P Q T U)) p
def Aia {β:Type} (p:HA) (v:BX) (k:HA->β):β := @HA.rec (fun _ => β) (fun A B C E F G I J L M N O P Q T U => k (.mk A B C E F G I J v M N O P Q T U)) p
def Aip {β:Type} (p:HA) (v:BX) (k:HA->β):β := @HA.rec (fun _ => β) (fun A B C E F G I J L M N O P Q T U => k (.mk A B C E F G I J L v N O P Q T U)) p
def Aay {β:Type} (p:HA) (v:BX) (k:HA->β):β := @HA.rec (fun _ => β) (fun A B C E F G I J L M N O P Q T U => k (.mk A B C E F G I J L M v O P Q T U)) p
def Ad8 {β:Type} (p:HA) (v:BX) (k:HA->β):β := @HA.rec (fun _ => β) (fun A B C E F G I J L M N O P Q T U => k (.mk A B C E F G I J L M N v P Q T U)) p
def Aav {β:Type} (p:HA) (v:BX) (k:HA->β):β := @HA.rec (fun _ => β) (fun A B C E F G I J L M N O P Q T U => k (.mk A B C E F G I J L M N O v Q T U)) p
def Aea {β:Type} (p:HA) (v:BX) (k:HA->β):β := @HA.rec (fun _ => β) (fun A B C E F G I J L M N O P Q T U => k (.mk A B C E F G I J L M N O P v T U)) p
def Adp {β:Type} (p:HA) (v:BX) (k:HA->β):β := @HA.rec (fun _ => β) (fun A B C E F G I J L M N O P Q T U => k (.mk A B C E F G I J L M N O P Q v U)) p
def Ae7 {β:Type} (p:HA) (v:BX) (k:HA->β):β := @HA.rec (fun _ => β) (fun A B C E F G I J L M N O P Q T U => k (.mk A B C E F G I J L M N O P Q T v)) p
def Afr {β:Type} (p:HA) (k:BX->β):β := @HA.rec (fun _ => β) (fun A B C E F G I J L M N O P Q T U => k A) p
def Ahb {β:Type} (p:HA) (k:BX->β):β := @HA.rec (fun _ => β) (fun A B C E F G I J L M N O P Q T U => k B) p
def Af2 {β:Type} (p:HA) (k:BX->β):β := @HA.rec (fun _ => β) (fun A B C E F G I J L M N O P Q T U => k C) p
def Ahv {β:Type} (p:HA) (k:BX->β):β := @HA.rec (fun _ => β) (fun A B C E F G I J L M N O P Q T U => k E) p
def Aht {β:Type} (p:HA) (k:BX->β):β := @HA.rec (fun _ => β) (fun A B C E F G I J L M N O P Q T U => k F) p
def Afm {β:Type} (p:HA) (k:BX->β):β := @HA.rec (fun _ => β) (fun A B C E F G I J L M N O P Q T U => k G) p
def Ah9 {β:Type} (p:HA) (k:BX->β):β := @HA.rec (fun _ => β) (fun A B C E F G I J L M N O P Q T U => k I) p
def Aee {β:Type} (p:HA) (k:BX->β):β := @HA.rec (fun _ => β) (fun A B C E F G I J L M N O P Q T U => k J) p
def Agw {β:Type} (p:HA) (k:BX->β):β := @HA.rec (fun _ => β) (fun A B C E F G I J L M N O P Q T U => k L) p
def Aid {β:Type} (p:HA) (k:BX->β):β := @HA.rec (fun _ => β) (fun A B C E F G I J L M N O P Q T U => k M) p
def Ae1 {β:Type} (p:HA) (k:BX->β):β := @HA.rec (fun _ => β) (fun A B C E F G I J L M N O P Q T U => k N) p
def Abr {β:Type} (p:HA) (k:BX->β):β := @HA.rec (fun _ => β) (fun A B C E F G I J L M N O P Q T U => k O) p
def Ad5 {β:Type} (p:HA) (k:BX->β):β := @HA.rec (fun _ => β) (fun A B C E F G I J L M N O P Q T U => k P) p
def Abm {β:Type} (p:HA) (k:BX->β):β := @HA.rec (fun _ => β) (fun A B C E F G I J L M N O P Q T U => k Q) p
def Abd {β:Type} (p:HA) (k:BX->β):β := @HA.rec (fun _ => β) (fun A B C E F G I J L M N O P Q T U => k T) p
def Ab0 {β:Type} (p:HA) (k:BX->β):β := @HA.rec (fun _ => β) (fun A B C E F G I J L M N O P Q T U => k U) p
def HA.selK {β:Type} (d:D):HA->(BX->β)->β :=
  @D.rec (fun _ => HA->(BX->β)->β) Afr Ahb Af2 Ahv Aht Afm Ah9 Aee Agw Aid Ae1 Abr Ad5 Abm Abd Ab0 d
theorem HA.selK_eq {β:Type} (d:D) (p:HA) (k:BX->β):HA.selK d p k=k (HA.sel d p) := by
  cases d <;> cases p <;> rfl
def HA.setK {β:Type} (d:D):HA->BX->(HA->β)->β :=
  @D.rec (fun _ => HA->BX->(HA->β)->β) Ahx Aj0 Ail Ahz Agj Aek Aew Ai3 Aia Aip Aay Ad8 Aav Aea Adp Ae7 d
def HA.setS (d:D) (p:HA) (v:BX):HA := HA.setK d p v id
theorem HA.setK_eq {β:Type} (d:D) (p:HA) (v:BX) (k:HA->β):HA.setK d p v k=k (HA.setS d p v) := by
  cases d <;> cases p <;> rfl
theorem HA.sel_setS_same (d:D) (p:HA) (v:BX):HA.sel d (HA.setS d p v)=v := by
  cases d <;> cases p <;> rfl
theorem HA.sel_setS_ne {d e:D} (p:HA) (v:BX) (h:d≠e):HA.sel e (HA.setS d p v)=HA.sel e p := by
  cases p; cases d <;> cases e <;> first | rfl | exact absurd rfl h
theorem HA.sel_all (d:D) (x:BX):HA.sel d (HA.all x)=x := by cases d <;> rfl
/-- Of those sixteen. -/
inductive HB where
  | mk (A B C E F G I J L M N O P Q T U:HA)
def HB.all (x:HA):HB := .mk x x x x x x x x x x x x x x x x
def HB.sel (d:D) (p:HB):HA :=
  @HB.rec (fun _ => HA) (fun A B C E F G I J L M N O P Q T U => @D.rec (fun _ => HA) A B C E F G I J L M N O P Q T U d) p
def Afo {β:Type} (p:HB) (v:HA) (k:HB->β):β := @HB.rec (fun _ => β) (fun A B C E F G I J L M N O P Q T U => k (.mk v B C E F G I J L M N O P Q T U)) p
def Aev {β:Type} (p:HB) (v:HA) (k:HB->β):β := @HB.rec (fun _ => β) (fun A B C E F G I J L M N O P Q T U => k (.mk A v C E F G I J L M N O P Q T U)) p
def Ahp {β:Type} (p:HB) (v:HA) (k:HB->β):β := @HB.rec (fun _ => β) (fun A B C E F G I J L M N O P Q T U => k (.mk A B v E F G I J L M N O P Q T U)) p
def Afs {β:Type} (p:HB) (v:HA) (k:HB->β):β := @HB.rec (fun _ => β) (fun A B C E F G I J L M N O P Q T U => k (.mk A B C v F G I J L M N O P Q T U)) p
def Aif {β:Type} (p:HB) (v:HA) (k:HB->β):β := @HB.rec (fun _ => β) (fun A B C E F G I J L M N O P Q T U => k (.mk A B C E v G I J L M N O P Q T U)) p
def Ag4 {β:Type} (p:HB) (v:HA) (k:HB->β):β := @HB.rec (fun _ => β) (fun A B C E F G I J L M N O P Q T U => k (.mk A B C E F v I J L M N O P Q T U)) p
def Agf {β:Type} (p:HB) (v:HA) (k:HB->β):β := @HB.rec (fun _ => β) (fun A B C E F G I J L M N O P Q T U => k (.mk A B C E F G v J L M N O P Q T U)) p
def Ahy {β:Type} (p:HB) (v:HA) (k:HB->β):β := @HB.rec (fun _ => β) (fun A B C E F G I J L M N O P Q T U => k (.mk A B C E F G I v L M N O P Q T U)) p
def Ahn {β:Type} (p:HB) (v:HA) (k:HB->β):β := @HB.rec (fun _ => β) (fun A B C E F G I J L M N O P Q T U => k (.mk A B C E F G I J v M N O P Q T U)) p
def Ah7 {β:Type} (p:HB) (v:HA) (k:HB->β):β := @HB.rec (fun _ => β) (fun A B C E F G I J L M N O P Q T U => k (.mk A B C E F G I J L v N O P Q T U)) p
def Ac7 {β:Type} (p:HB) (v:HA) (k:HB->β):β := @HB.rec (fun _ => β) (fun A B C E F G I J L M N O P Q T U => k (.mk A B C E F G I J L M v O P Q T U)) p
def Adl {β:Type} (p:HB) (v:HA) (k:HB->β):β := @HB.rec (fun _ => β) (fun A B C E F G I J L M N O P Q T U => k (.mk A B C E F G I J L M N v P Q T U)) p
def Ac6 {β:Type} (p:HB) (v:HA) (k:HB->β):β := @HB.rec (fun _ => β) (fun A B C E F G I J L M N O P Q T U => k (.mk A B C E F G I J L M N O v Q T U)) p
def Ab2 {β:Type} (p:HB) (v:HA) (k:HB->β):β := @HB.rec (fun _ => β) (fun A B C E F G I J L M N O P Q T U => k (.mk A B C E F G I J L M N O P v T U)) p
def Adf {β:Type} (p:HB) (v:HA) (k:HB->β):β := @HB.rec (fun _ => β) (fun A B C E F G I J L M N O P Q T U => k (.mk A B C E F G I J L M N O P Q v U)) p
def Abi {β:Type} (p:HB) (v:HA) (k:HB->β):β := @HB.rec (fun _ => β) (fun A B C E F G I J L M N O P Q T U => k (.mk A B C E F G I J L M N O P Q T v)) p
def Aff {β:Type} (p:HB) (k:HA->β):β := @HB.rec (fun _ => β) (fun A B C E F G I J L M N O P Q T U => k A) p
def Ag0 {β:Type} (p:HB) (k:HA->β):β := @HB.rec (fun _ => β) (fun A B C E F G I J L M N O P Q T U => k B) p
def Ahe {β:Type} (p:HB) (k:HA->β):β := @HB.rec (fun _ => β) (fun A B C E F G I J L M N O P Q T U => k C) p
def Afn {β:Type} (p:HB) (k:HA->β):β := @HB.rec (fun _ => β) (fun A B C E F G I J L M N O P Q T U => k E) p
def Ahs {β:Type} (p:HB) (k:HA->β):β := @HB.rec (fun _ => β) (fun A B C E F G I J L M N O P Q T U => k F) p
def Afd {β:Type} (p:HB) (k:HA->β):β := @HB.rec (fun _ => β) (fun A B C E F G I J L M N O P Q T U => k G) p
def Ahd {β:Type} (p:HB) (k:HA->β):β := @HB.rec (fun _ => β) (fun A B C E F G I J L M N O P Q T U => k I) p
def Ahg {β:Type} (p:HB) (k:HA->β):β := @HB.rec (fun _ => β) (fun A B C E F G I J L M N O P Q T U => k J) p
def Ait {β:Type} (p:HB) (k:HA->β):β := @HB.rec (fun _ => β) (fun A B C E F G I J L M N O P Q T U => k L) p
def Agn {β:Type} (p:HB) (k:HA->β):β := @HB.rec (fun _ => β) (fun A B C E F G I J L M N O P Q T U => k M) p
def Ad7 {β:Type} (p:HB) (k:HA->β):β := @HB.rec (fun _ => β) (fun A B C E F G I J L M N O P Q T U => k N) p
def Ae8 {β:Type} (p:HB) (k:HA->β):β := @HB.rec (fun _ => β) (fun A B C E F G I J L M N O P Q T U => k O) p
def Abh {β:Type} (p:HB) (k:HA->β):β := @HB.rec (fun _ => β) (fun A B C E F G I J L M N O P Q T U => k P) p
def Ach {β:Type} (p:HB) (k:HA->β):β := @HB.rec (fun _ => β) (fun A B C E F G I J L M N O P Q T U => k Q) p
def Adu {β:Type} (p:HB) (k:HA->β):β := @HB.rec (fun _ => β) (fun A B C E F G I J L M N O P Q T U => k T) p
def Abb {β:Type} (p:HB) (k:HA->β):β := @HB.rec (fun _ => β) (fun A B C E F G I J L M N O P Q T U => k U) p
def HB.selK {β:Type} (d:D):HB->(HA->β)->β :=
  @D.rec (fun _ => HB->(HA->β)->β) Aff Ag0 Ahe Afn Ahs Afd Ahd Ahg Ait Agn Ad7 Ae8 Abh Ach Adu Abb d
theorem HB.selK_eq {β:Type} (d:D) (p:HB) (k:HA->β):HB.selK d p k=k (HB.sel d p) := by
  cases d <;> cases p <;> rfl
def HB.setK {β:Type} (d:D):HB->HA->(HB->β)->β :=
  @D.rec (fun _ => HB->HA->(HB->β)->β) Afo Aev Ahp Afs Aif Ag4 Agf Ahy Ahn Ah7 Ac7 Adl Ac6 Ab2 Adf Abi d
def HB.setS (d:D) (p:HB) (v:HA):HB := HB.setK d p v id
theorem HB.setK_eq {β:Type} (d:D) (p:HB) (v:HA) (k:HB->β):HB.setK d p v k=k (HB.setS d p v) := by
  cases d <;> cases p <;> rfl
theorem HB.sel_setS_same (d:D) (p:HB) (v:HA):HB.sel d (HB.setS d p v)=v := by
  cases d <;> cases p <;> rfl
theorem HB.sel_setS_ne {d e:D} (p:HB) (v:HA) (h:d≠e):HB.sel e (HB.setS d p v)=HB.sel e p := by
  cases p; cases d <;> cases e <;> first | rfl | exact absurd rfl h
theorem HB.sel_all (d:D) (x:HA):HB.sel d (HB.all x)=x := by cases d <;> rfl
/-- Of those sixteen. -/
inductive HC where
  | mk (A B C E F G I J L M N O P Q T U:HB)
def HC.all (x:HB):HC := .mk x x x x x x x x x x x x x x x x
def HC.sel (d:D) (p:HC):HB :=
  @HC.rec (fun _ => HB) (fun A B C E F G I J L M N O P Q T U => @D.rec (fun _ => HB) A B C E F G I J L M N O P Q T U d) p
def Aiw {β:Type} (p:HC) (v:HB) (k:HC->β):β := @HC.rec (fun _ => β) (fun A B C E F G I J L M N O P Q T U => k (.mk v B C E F G I J L M N O P Q T U)) p
def Aeh {β:Type} (p:HC) (v:HB) (k:HC->β):β := @HC.rec (fun _ => β) (fun A B C E F G I J L M N O P Q T U => k (.mk A v C E F G I J L M N O P Q T U)) p
def Af0 {β:Type} (p:HC) (v:HB) (k:HC->β):β := @HC.rec (fun _ => β) (fun A B C E F G I J L M N O P Q T U => k (.mk A B v E F G I J L M N O P Q T U)) p
def Aey {β:Type} (p:HC) (v:HB) (k:HC->β):β := @HC.rec (fun _ => β) (fun A B C E F G I J L M N O P Q T U => k (.mk A B C v F G I J L M N O P Q T U)) p
def Aic {β:Type} (p:HC) (v:HB) (k:HC->β):β := @HC.rec (fun _ => β) (fun A B C E F G I J L M N O P Q T U => k (.mk A B C E v G I J L M N O P Q T U)) p
def Aeq {β:Type} (p:HC) (v:HB) (k:HC->β):β := @HC.rec (fun _ => β) (fun A B C E F G I J L M N O P Q T U => k (.mk A B C E F v I J L M N O P Q T U)) p
def Ah4 {β:Type} (p:HC) (v:HB) (k:HC->β):β := @HC.rec (fun _ => β) (fun A B C E F G I J L M N O P Q T U => k (.mk A B C E F G v J L M N O P Q T U)) p
def Ahm {β:Type} (p:HC) (v:HB) (k:HC->β):β := @HC.rec (fun _ => β) (fun A B C E F G I J L M N O P Q T U => k (.mk A B C E F G I v L M N O P Q T U)) p
def Agb {β:Type} (p:HC) (v:HB) (k:HC->β):β := @HC.rec (fun _ => β) (fun A B C E F G I J L M N O P Q T U => k (.mk A B C E F G I J v M N O P Q T U)) p
def Aes {β:Type} (p:HC) (v:HB) (k:HC->β):β := @HC.rec (fun _ => β) (fun A B C E F G I J L M N O P Q T U => k (.mk A B C E F G I J L v N O P Q T U)) p
def Ac1 {β:Type} (p:HC) (v:HB) (k:HC->β):β := @HC.rec (fun _ => β) (fun A B C E F G I J L M N O P Q T U => k (.mk A B C E F G I J L M v O P Q T U)) p
def Adr {β:Type} (p:HC) (v:HB) (k:HC->β):β := @HC.rec (fun _ => β) (fun A B C E F G I J L M N O P Q T U => k (.mk A B C E F G I J L M N v P Q T U)) p
def Acv {β:Type} (p:HC) (v:HB) (k:HC->β):β := @HC.rec (fun _ => β) (fun A B C E F G I J L M N O P Q T U => k (.mk A B C E F G I J L M N O v Q T U)) p
def Ab1 {β:Type} (p:HC) (v:HB) (k:HC->β):β := @HC.rec (fun _ => β) (fun A B C E F G I J L M N O P Q T U => k (.mk A B C E F G I J L M N O P v T U)) p
def Acu {β:Type} (p:HC) (v:HB) (k:HC->β):β := @HC.rec (fun _ => β) (fun A B C E F G I J L M N O P Q T U => k (.mk A B C E F G I J L M N O P Q v U)) p
def Acl {β:Type} (p:HC) (v:HB) (k:HC->β):β := @HC.rec (fun _ => β) (fun A B C E F G I J L M N O P Q T U => k (.mk A B C E F G I J L M N O P Q T v)) p
def Afh {β:Type} (p:HC) (k:HB->β):β := @HC.rec (fun _ => β) (fun A B C E F G I J L M N O P Q T U => k A) p
def Aft {β:Type} (p:HC) (k:HB->β):β := @HC.rec (fun _ => β) (fun A B C E F G I J L M N O P Q T U => k B) p
def Ai4 {β:Type} (p:HC) (k:HB->β):β := @HC.rec (fun _ => β) (fun A B C E F G I J L M N O P Q T U => k C) p
def Afq {β:Type} (p:HC) (k:HB->β):β := @HC.rec (fun _ => β) (fun A B C E F G I J L M N O P Q T U => k E) p
def Aiq {β:Type} (p:HC) (k:HB->β):β := @HC.rec (fun _ => β) (fun A B C E F G I J L M N O P Q T U => k F) p
def Ah3 {β:Type} (p:HC) (k:HB->β):β := @HC.rec (fun _ => β) (fun A B C E F G I J L M N O P Q T U => k G) p
def Agp {β:Type} (p:HC) (k:HB->β):β := @HC.rec (fun _ => β) (fun A B C E F G I J L M N O P Q T U => k I) p
def Ahj {β:Type} (p:HC) (k:HB->β):β := @HC.rec (fun _ => β) (fun A B C E F G I J L M N O P Q T U => k J) p
def Agr {β:Type} (p:HC) (k:HB->β):β := @HC.rec (fun _ => β) (fun A B C E F G I J L M N O P Q T U => k L) p
def Ai6 {β:Type} (p:HC) (k:HB->β):β := @HC.rec (fun _ => β) (fun A B C E F G I J L M N O P Q T U => k M) p
def Abx {β:Type} (p:HC) (k:HB->β):β := @HC.rec (fun _ => β) (fun A B C E F G I J L M N O P Q T U => k N) p
def Ae3 {β:Type} (p:HC) (k:HB->β):β := @HC.rec (fun _ => β) (fun A B C E F G I J L M N O P Q T U => k O) p
def Acw {β:Type} (p:HC) (k:HB->β):β := @HC.rec (fun _ => β) (fun A B C E F G I J L M N O P Q T U => k P) p
def Abk {β:Type} (p:HC) (k:HB->β):β := @HC.rec (fun _ => β) (fun A B C E F G I J L M N O P Q T U => k Q) p
def Abl {β:Type} (p:HC) (k:HB->β):β := @HC.rec (fun _ => β) (fun A B C E F G I J L M N O P Q T U => k T) p
def Abu {β:Type} (p:HC) (k:HB->β):β := @HC.rec (fun _ => β) (fun A B C E F G I J L M N O P Q T U => k U) p
def HC.selK {β:Type} (d:D):HC->(HB->β)->β :=
  @D.rec (fun _ => HC->(HB->β)->β) Afh Aft Ai4 Afq Aiq Ah3 Agp Ahj Agr Ai6 Abx Ae3 Acw Abk Abl Abu d
theorem HC.selK_eq {β:Type} (d:D) (p:HC) (k:HB->β):HC.selK d p k=k (HC.sel d p) := by
  cases d <;> cases p <;> rfl
def HC.setK {β:Type} (d:D):HC->HB->(HC->β)->β :=
  @D.rec (fun _ => HC->HB->(HC->β)->β) Aiw Aeh Af0 Aey Aic Aeq Ah4 Ahm Agb Aes Ac1 Adr Acv Ab1 Acu Acl d
def HC.setS (d:D) (p:HC) (v:HB):HC := HC.setK d p v id
theorem HC.setK_eq {β:Type} (d:D) (p:HC) (v:HB) (k:HC->β):HC.setK d p v k=k (HC.setS d p v) := by
  cases d <;> cases p <;> rfl
theorem HC.sel_setS_same (d:D) (p:HC) (v:HB):HC.sel d (HC.setS d p v)=v := by
  cases d <;> cases p <;> rfl
theorem HC.sel_setS_ne {d e:D} (p:HC) (v:HB) (h:d≠e):HC.sel e (HC.setS d p v)=HC.sel e p := by
  cases p; cases d <;> cases e <;> first | rfl | exact absurd rfl h
theorem HC.sel_all (d:D) (x:HB):HC.sel d (HC.all x)=x := by cases d <;> rfl
/-- The heap. -/
inductive Heap where
  | mk (A B C E F G I J L M N O P Q T U:HC)
def Heap.all (x:HC):Heap := .mk x x x x x x x x x x x x x x x x
def Heap.sel (d:D) (p:Heap):HC :=
  @Heap.rec (fun _ => HC) (fun A B C E F G I J L M N O P Q T U => @D.rec (fun _ => HC) A B C E F G I J L M N O P Q T U d) p
def Ahl {β:Type} (p:Heap) (v:HC) (k:Heap->β):β := @Heap.rec (fun _ => β) (fun A B C E F G I J L M N O P Q T U => k (.mk v B C E F G I J L M N O P Q T U)) p
def Agx {β:Type} (p:Heap) (v:HC) (k:Heap->β):β := @Heap.rec (fun _ => β) (fun A B C E F G I J L M N O P Q T U => k (.mk A v C E F G I J L M N O P Q T U)) p
def Agg {β:Type} (p:Heap) (v:HC) (k:Heap->β):β := @Heap.rec (fun _ => β) (fun A B C E F G I J L M N O P Q T U => k (.mk A B v E F G I J L M N O P Q T U)) p
def Ah1 {β:Type} (p:Heap) (v:HC) (k:Heap->β):β := @Heap.rec (fun _ => β) (fun A B C E F G I J L M N O P Q T U => k (.mk A B C v F G I J L M N O P Q T U)) p
def Aii {β:Type} (p:Heap) (v:HC) (k:Heap->β):β := @Heap.rec (fun _ => β) (fun A B C E F G I J L M N O P Q T U => k (.mk A B C E v G I J L M N O P Q T U)) p
def Ais {β:Type} (p:Heap) (v:HC) (k:Heap->β):β := @Heap.rec (fun _ => β) (fun A B C E F G I J L M N O P Q T U => k (.mk A B C E F v I J L M N O P Q T U)) p
def Af9 {β:Type} (p:Heap) (v:HC) (k:Heap->β):β := @Heap.rec (fun _ => β) (fun A B C E F G I J L M N O P Q T U => k (.mk A B C E F G v J L M N O P Q T U)) p
def Ai0 {β:Type} (p:Heap) (v:HC) (k:Heap->β):β := @Heap.rec (fun _ => β) (fun A B C E F G I J L M N O P Q T U => k (.mk A B C E F G I v L M N O P Q T U)) p
def Ag1 {β:Type} (p:Heap) (v:HC) (k:Heap->β):β := @Heap.rec (fun _ => β) (fun A B C E F G I J L M N O P Q T U => k (.mk A B C E F G I J v M N O P Q T U)) p
def Aha {β:Type} (p:Heap) (v:HC) (k:Heap->β):β := @Heap.rec (fun _ => β) (fun A B C E F G I J L M N O P Q T U => k (.mk A B C E F G I J L v N O P Q T U)) p
def Adz {β:Type} (p:Heap) (v:HC) (k:Heap->β):β := @Heap.rec (fun _ => β) (fun A B C E F G I J L M N O P Q T U => k (.mk A B C E F G I J L M v O P Q T U)) p
def Ad2 {β:Type} (p:Heap) (v:HC) (k:Heap->β):β := @Heap.rec (fun _ => β) (fun A B C E F G I J L M N O P Q T U => k (.mk A B C E F G I J L M N v P Q T U)) p
def Ada {β:Type} (p:Heap) (v:HC) (k:Heap->β):β := @Heap.rec (fun _ => β) (fun A B C E F G I J L M N O P Q T U => k (.mk A B C E F G I J L M N O v Q T U)) p
def Acf {β:Type} (p:Heap) (v:HC) (k:Heap->β):β := @Heap.rec (fun _ => β) (fun A B C E F G I J L M N O P Q T U => k (.mk A B C E F G I J L M N O P v T U)) p
def Aca {β:Type} (p:Heap) (v:HC) (k:Heap->β):β := @Heap.rec (fun _ => β) (fun A B C E F G I J L M N O P Q T U => k (.mk A B C E F G I J L M N O P Q v U)) p
def Abq {β:Type} (p:Heap) (v:HC) (k:Heap->β):β := @Heap.rec (fun _ => β) (fun A B C E F G I J L M N O P Q T U => k (.mk A B C E F G I J L M N O P Q T v)) p
def Agk {β:Type} (p:Heap) (k:HC->β):β := @Heap.rec (fun _ => β) (fun A B C E F G I J L M N O P Q T U => k A) p
def Aer {β:Type} (p:Heap) (k:HC->β):β := @Heap.rec (fun _ => β) (fun A B C E F G I J L M N O P Q T U => k B) p
def Aei {β:Type} (p:Heap) (k:HC->β):β := @Heap.rec (fun _ => β) (fun A B C E F G I J L M N O P Q T U => k C) p
def Ah5 {β:Type} (p:Heap) (k:HC->β):β := @Heap.rec (fun _ => β) (fun A B C E F G I J L M N O P Q T U => k E) p
def Ai8 {β:Type} (p:Heap) (k:HC->β):β := @Heap.rec (fun _ => β) (fun A B C E F G I J L M N O P Q T U => k F) p
def Afa {β:Type} (p:Heap) (k:HC->β):β := @Heap.rec (fun _ => β) (fun A B C E F G I J L M N O P Q T U => k G) p
def Ag3 {β:Type} (p:Heap) (k:HC->β):β := @Heap.rec (fun _ => β) (fun A B C E F G I J L M N O P Q T U => k I) p
def Agt {β:Type} (p:Heap) (k:HC->β):β := @Heap.rec (fun _ => β) (fun A B C E F G I J L M N O P Q T U => k J) p
def Aez {β:Type} (p:Heap) (k:HC->β):β := @Heap.rec (fun _ => β) (fun A B C E F G I J L M N O P Q T U => k L) p
def Afe {β:Type} (p:Heap) (k:HC->β):β := @Heap.rec (fun _ => β) (fun A B C E F G I J L M N O P Q T U => k M) p
def Ad4 {β:Type} (p:Heap) (k:HC->β):β := @Heap.rec (fun _ => β) (fun A B C E F G I J L M N O P Q T U => k N) p
def Ab4 {β:Type} (p:Heap) (k:HC->β):β := @Heap.rec (fun _ => β) (fun A B C E F G I J L M N O P Q T U => k O) p
def Abc {β:Type} (p:Heap) (k:HC->β):β := @Heap.rec (fun _ => β) (fun A B C E F G I J L M N O P Q T U => k P) p
def Acy {β:Type} (p:Heap) (k:HC->β):β := @Heap.rec (fun _ => β) (fun A B C E F G I J L M N O P Q T U => k Q) p
def Aci {β:Type} (p:Heap) (k:HC->β):β := @Heap.rec (fun _ => β) (fun A B C E F G I J L M N O P Q T U => k T) p
def Ae5 {β:Type} (p:Heap) (k:HC->β):β := @Heap.rec (fun _ => β) (fun A B C E F G I J L M N O P Q T U => k U) p
def Heap.selK {β:Type} (d:D):Heap->(HC->β)->β :=
  @D.rec (fun _ => Heap->(HC->β)->β) Agk Aer Aei Ah5 Ai8 Afa Ag3 Agt Aez Afe Ad4 Ab4 Abc Acy Aci Ae5 d
theorem Heap.selK_eq {β:Type} (d:D) (p:Heap) (k:HC->β):Heap.selK d p k=k (Heap.sel d p) := by
  cases d <;> cases p <;> rfl
def Heap.setK {β:Type} (d:D):Heap->HC->(Heap->β)->β :=
  @D.rec (fun _ => Heap->HC->(Heap->β)->β) Ahl Agx Agg Ah1 Aii Ais Af9 Ai0 Ag1 Aha Adz Ad2 Ada Acf Aca Abq d
def Heap.setS (d:D) (p:Heap) (v:HC):Heap := Heap.setK d p v id
theorem Heap.setK_eq {β:Type} (d:D) (p:Heap) (v:HC) (k:Heap->β):Heap.setK d p v k=k (Heap.setS d p v) := by
  cases d <;> cases p <;> rfl
theorem Heap.sel_setS_same (d:D) (p:Heap) (v:HC):Heap.sel d (Heap.setS d p v)=v := by
  cases d <;> cases p <;> rfl
theorem Heap.sel_setS_ne {d e:D} (p:Heap) (v:HC) (h:d≠e):Heap.sel e (Heap.setS d p v)=Heap.sel e p := by
  cases p; cases d <;> cases e <;> first | rfl | exact absurd rfl h
theorem Heap.sel_all (d:D) (x:HC):Heap.sel d (Heap.all x)=x := by cases d <;> rfl
inductive O8 where
  | d0 | d1 | d2 | d3 | d4 | d5 | d6 | d7
inductive O4 where
  | d0 | d1 | d2 | d3
/-- Four values. -/
inductive SQ where
  | mk (c0 c1 c2 c3:V)
def SQ.all (x:V):SQ := .mk x x x x
def SQ.sel (d:O4) (p:SQ):V :=
  @SQ.rec (fun _ => V) (fun c0 c1 c2 c3 => @O4.rec (fun _ => V) c0 c1 c2 c3 d) p
def Aig {β:Type} (p:SQ) (v:V) (k:SQ->β):β := @SQ.rec (fun _ => β) (fun c0 c1 c2 c3 => k (.mk v c1 c2 c3)) p
def Aet {β:Type} (p:SQ) (v:V) (k:SQ->β):β := @SQ.rec (fun _ => β) (fun c0 c1 c2 c3 => k (.mk c0 v c2 c3)) p
def Aiy {β:Type} (p:SQ) (v:V) (k:SQ->β):β := @SQ.rec (fun _ => β) (fun c0 c1 c2 c3 => k (.mk c0 c1 v c3)) p
def Aeg {β:Type} (p:SQ) (v:V) (k:SQ->β):β := @SQ.rec (fun _ => β) (fun c0 c1 c2 c3 => k (.mk c0 c1 c2 v)) p
def Aem {β:Type} (p:SQ) (k:V->β):β := @SQ.rec (fun _ => β) (fun c0 c1 c2 c3 => k c0) p
def Ahk {β:Type} (p:SQ) (k:V->β):β := @SQ.rec (fun _ => β) (fun c0 c1 c2 c3 => k c1) p
def Aen {β:Type} (p:SQ) (k:V->β):β := @SQ.rec (fun _ => β) (fun c0 c1 c2 c3 => k c2) p
def Afj {β:Type} (p:SQ) (k:V->β):β := @SQ.rec (fun _ => β) (fun c0 c1 c2 c3 => k c3) p
def SQ.selK {β:Type} (d:O4):SQ->(V->β)->β :=
  @O4.rec (fun _ => SQ->(V->β)->β) Aem Ahk Aen Afj d
theorem SQ.selK_eq {β:Type} (d:O4) (p:SQ) (k:V->β):SQ.selK d p k=k (SQ.sel d p) := by
  cases d <;> cases p <;> rfl
def SQ.setK {β:Type} (d:O4):SQ->V->(SQ->β)->β :=
  @O4.rec (fun _ => SQ->V->(SQ->β)->β) Aig Aet Aiy Aeg d
def SQ.setS (d:O4) (p:SQ) (v:V):SQ := SQ.setK d p v id
theorem SQ.setK_eq {β:Type} (d:O4) (p:SQ) (v:V) (k:SQ->β):SQ.setK d p v k=k (SQ.setS d p v) := by
  cases d <;> cases p <;> rfl
theorem SQ.sel_setS_same (d:O4) (p:SQ) (v:V):SQ.sel d (SQ.setS d p v)=v := by
  cases d <;> cases p <;> rfl
theorem SQ.sel_setS_ne {d e:O4} (p:SQ) (v:V) (h:d≠e):SQ.sel e (SQ.setS d p v)=SQ.sel e p := by
  cases p; cases d <;> cases e <;> first | rfl | exact absurd rfl h
theorem SQ.sel_all (d:O4) (x:V):SQ.sel d (SQ.all x)=x := by cases d <;> rfl
/-- The registers that are kept when code is run. -/
inductive S where
  | mk (c0 c1 c2 c3 c4 c5 c6 c7:SQ)
def S.all (x:SQ):S := .mk x x x x x x x x
def S.sel (d:O8) (p:S):SQ :=
  @S.rec (fun _ => SQ) (fun c0 c1 c2 c3 c4 c5 c6 c7 => @O8.rec (fun _ => SQ) c0 c1 c2 c3 c4 c5 c6 c7 d) p
def Afk {β:Type} (p:S) (v:SQ) (k:S->β):β := @S.rec (fun _ => β) (fun c0 c1 c2 c3 c4 c5 c6 c7 => k (.mk v c1 c2 c3 c4 c5 c6 c7)) p
def Afu {β:Type} (p:S) (v:SQ) (k:S->β):β := @S.rec (fun _ => β) (fun c0 c1 c2 c3 c4 c5 c6 c7 => k (.mk c0 v c2 c3 c4 c5 c6 c7)) p
def Ain {β:Type} (p:S) (v:SQ) (k:S->β):β := @S.rec (fun _ => β) (fun c0 c1 c2 c3 c4 c5 c6 c7 => k (.mk c0 c1 v c3 c4 c5 c6 c7)) p
def Agm {β:Type} (p:S) (v:SQ) (k:S->β):β := @S.rec (fun _ => β) (fun c0 c1 c2 c3 c4 c5 c6 c7 => k (.mk c0 c1 c2 v c4 c5 c6 c7)) p
def Agi {β:Type} (p:S) (v:SQ) (k:S->β):β := @S.rec (fun _ => β) (fun c0 c1 c2 c3 c4 c5 c6 c7 => k (.mk c0 c1 c2 c3 v c5 c6 c7)) p
def Aed {β:Type} (p:S) (v:SQ) (k:S->β):β := @S.rec (fun _ => β) (fun c0 c1 c2 c3 c4 c5 c6 c7 => k (.mk c0 c1 c2 c3 c4 v c6 c7)) p
def Ag7 {β:Type} (p:S) (v:SQ) (k:S->β):β := @S.rec (fun _ => β) (fun c0 c1 c2 c3 c4 c5 c6 c7 => k (.mk c0 c1 c2 c3 c4 c5 v c7)) p
def Afl {β:Type} (p:S) (v:SQ) (k:S->β):β := @S.rec (fun _ => β) (fun c0 c1 c2 c3 c4 c5 c6 c7 => k (.mk c0 c1 c2 c3 c4 c5 c6 v)) p
def Ai5 {β:Type} (p:S) (k:SQ->β):β := @S.rec (fun _ => β) (fun c0 c1 c2 c3 c4 c5 c6 c7 => k c0) p
def Aix {β:Type} (p:S) (k:SQ->β):β := @S.rec (fun _ => β) (fun c0 c1 c2 c3 c4 c5 c6 c7 => k c1) p
def Ahu {β:Type} (p:S) (k:SQ->β):β := @S.rec (fun _ => β) (fun c0 c1 c2 c3 c4 c5 c6 c7 => k c2) p
def Afp {β:Type} (p:S) (k:SQ->β):β := @S.rec (fun _ => β) (fun c0 c1 c2 c3 c4 c5 c6 c7 => k c3) p
def Aho {β:Type} (p:S) (k:SQ->β):β := @S.rec (fun _ => β) (fun c0 c1 c2 c3 c4 c5 c6 c7 => k c4) p
def Ahh {β:Type} (p:S) (k:SQ->β):β := @S.rec (fun _ => β) (fun c0 c1 c2 c3 c4 c5 c6 c7 => k c5) p
def Af7 {β:Type} (p:S) (k:SQ->β):β := @S.rec (fun _ => β) (fun c0 c1 c2 c3 c4 c5 c6 c7 => k c6) p
def Afb {β:Type} (p:S) (k:SQ->β):β := @S.rec (fun _ => β) (fun c0 c1 c2 c3 c4 c5 c6 c7 => k c7) p
def S.selK {β:Type} (d:O8):S->(SQ->β)->β :=
  @O8.rec (fun _ => S->(SQ->β)->β) Ai5 Aix Ahu Afp Aho Ahh Af7 Afb d
theorem S.selK_eq {β:Type} (d:O8) (p:S) (k:SQ->β):S.selK d p k=k (S.sel d p) := by
  cases d <;> cases p <;> rfl
def S.setK {β:Type} (d:O8):S->SQ->(S->β)->β :=
  @O8.rec (fun _ => S->SQ->(S->β)->β) Afk Afu Ain Agm Agi Aed Ag7 Afl d
def S.setS (d:O8) (p:S) (v:SQ):S := S.setK d p v id
theorem S.setK_eq {β:Type} (d:O8) (p:S) (v:SQ) (k:S->β):S.setK d p v k=k (S.setS d p v) := by
  cases d <;> cases p <;> rfl
theorem S.sel_setS_same (d:O8) (p:S) (v:SQ):S.sel d (S.setS d p v)=v := by
  cases d <;> cases p <;> rfl
theorem S.sel_setS_ne {d e:O8} (p:S) (v:SQ) (h:d≠e):S.sel e (S.setS d p v)=S.sel e p := by
  cases p; cases d <;> cases e <;> first | rfl | exact absurd rfl h
theorem S.sel_all (d:O8) (x:SQ):S.sel d (S.all x)=x := by cases d <;> rfl
end Go.Ev

namespace Go.Ev
set_option linter.unusedVariables false
def K4.toN (p:K4):Nat := p.a.toN*4096+p.b.toN*256+p.c.toN*16+p.d.toN
theorem K4.toN_inj {p q:K4} (h:p.toN=q.toN):p=q := by
  obtain ⟨a, b, c, d⟩ := p
  obtain ⟨a', b', c', d'⟩ := q
  simp only [K4.toN] at h
  have := a.toN_lt; have := b.toN_lt; have := c.toN_lt; have := d.toN_lt
  have := a'.toN_lt; have := b'.toN_lt; have := c'.toN_lt; have := d'.toN_lt
  have ha:a=a' := D.toN_inj (by omega)
  have hb:b=b' := D.toN_inj (by omega)
  have hc:c=c' := D.toN_inj (by omega)
  have hd:d=d' := D.toN_inj (by omega)
  subst ha hb hc hd; rfl
def K4.beq (p q:K4):Bool := and (p.d.beq q.d) (and (p.c.beq q.c) (and (p.b.beq q.b) (p.a.beq q.a)))
theorem K4.beq_iff {p q:K4}:p.beq q=true ↔ p=q := by
  obtain ⟨a, b, c, d⟩ := p
  obtain ⟨a', b', c', d'⟩ := q
  simp only [K4.beq, Bool.and_eq_true, D.beq_iff, K4.mk.injEq]
  constructor
  · rintro ⟨rfl, rfl, rfl, rfl⟩; exact ⟨rfl, rfl, rfl, rfl⟩
  · rintro ⟨rfl, rfl, rfl, rfl⟩; exact ⟨rfl, rfl, rfl, rfl⟩
inductive Ex where
  | nrm
  | exit (id:Nat)
  | ret
/-- What a piece of the run comes to: an exit with its registers, heap and next place; a value of a call; or nothing that is DI. -/
inductive R where
  | ok (e:Ex) (t:S) (h:Heap) (n:K4)
  | rv (v:V) (h:Heap) (n:K4)
  | fail (why:String)
  | both (a b:R)
abbrev KV := V->Heap->K4->R
def A8 (p:K4) (h:Heap):Option Ob := HA.sel p.d (HB.sel p.c (HC.sel p.b (Heap.sel p.a h)))
def TN {β:Type} (p:K4) (h:Heap) (κ:Option Ob->β):β :=
  @K4.rec (fun _ => β) (fun a b c d => Heap.selK a h fun x => HC.selK b x fun y => HB.selK c y fun z => HA.selK d z κ) p
theorem Cz {β:Type} (p:K4) (h:Heap) (κ:Option Ob->β):TN p h κ=κ (A8 p h) := by
  cases p; simp only [TN, Heap.selK_eq, HC.selK_eq, HB.selK_eq, HA.selK_eq, A8]
def DQ {β:Type} (p:K4) (h:Heap) (o:Option Ob) (k:Heap->β):β :=
  @K4.rec (fun _ => β) (fun a b c d => Heap.selK a h fun x => HC.selK b x fun y => HB.selK c y fun z =>
    HA.setK d z o fun z => HB.setK c y z fun y => HC.setK b x y fun x => Heap.setK a h x k) p
def Af (p:K4) (h:Heap) (o:Option Ob):Heap := DQ p h o id
theorem AA {β:Type} (p:K4) (h:Heap) (o:Option Ob) (k:Heap->β):DQ p h o k=k (Af p h o) := by
  cases p; simp only [DQ, Af, Heap.setK_eq, HC.setK_eq, HB.setK_eq, HA.setK_eq, Heap.selK_eq, HC.selK_eq, HB.selK_eq]; rfl
theorem A7 (p:K4) (h:Heap) (o:Option Ob):A8 p (Af p h o)=o := by
  cases p; simp only [A8, Af, DQ, Heap.setK_eq, HC.setK_eq, HB.setK_eq, HA.setK_eq, Heap.selK_eq, HC.selK_eq, HB.selK_eq, HA.selK_eq, id, Heap.sel_setS_same, HC.sel_setS_same, HB.sel_setS_same, HA.sel_setS_same]
theorem A6 {p q:K4} (h:Heap) (o:Option Ob) (hne:p≠q):A8 q (Af p h o)=A8 q h := by
  obtain ⟨a, b, c, d⟩ := p
  obtain ⟨a', b', c', d'⟩ := q
  simp only [A8, Af, DQ, Heap.setK_eq, HC.setK_eq, HB.setK_eq, HA.setK_eq, Heap.selK_eq, HC.selK_eq, HB.selK_eq, HA.selK_eq, id]
  by_cases ha:a=a'
  · subst ha
    rw [Heap.sel_setS_same]
    by_cases hb:b=b'
    · subst hb
      rw [HC.sel_setS_same]
      by_cases hc:c=c'
      · subst hc
        rw [HB.sel_setS_same]
        by_cases hd:d=d'
        · subst hd; exact absurd rfl hne
        · rw [HA.sel_setS_ne _ _ hd]
      · rw [HB.sel_setS_ne _ _ hc]
    · rw [HC.sel_setS_ne _ _ hb]
  · rw [Heap.sel_setS_ne _ _ ha]
def Aq:Heap := Heap.all (HC.all (HB.all (HA.all none)))
theorem BQ (p:K4):A8 p Aq=none := by simp only [A8, Aq, Heap.sel_all, HC.sel_all, HB.sel_all, HA.sel_all]
/-- The next place. -/
def K4.nx (p:K4) (k:K4->R):R :=
  @K4.rec (fun _ => R) (fun a b c d => d.nx (fun d => k ⟨a, b, c, d⟩)
    (c.nx (fun c => k ⟨a, b, c, .d0⟩)
      (b.nx (fun b => k ⟨a, b, .d0, .d0⟩)
        (a.nx (fun a => k ⟨a, .d0, .d0, .d0⟩) (.fail ""))))) p
theorem K4.nx_eq (p:K4) (k:K4->R):(∃ w, p.nx k = .fail w) ∨ ∃ q:K4, q.toN=p.toN+1∧p.nx k=k q := by
  obtain ⟨a, b, c, d⟩ := p
  simp only [K4.nx, K4.toN]
  have hd0:D.d0.toN=0 := rfl
  rcases d.nx_eq (fun d => k ⟨a, b, c, d⟩) (c.nx (fun c => k ⟨a, b, c, .d0⟩) (b.nx (fun b => k ⟨a, b, .d0, .d0⟩) (a.nx (fun a => k ⟨a, .d0, .d0, .d0⟩) (.fail "")))) with ⟨h, hd⟩ | ⟨e, he, h⟩
  · rw [h]
    rcases c.nx_eq (fun c => k ⟨a, b, c, .d0⟩) (b.nx (fun b => k ⟨a, b, .d0, .d0⟩) (a.nx (fun a => k ⟨a, .d0, .d0, .d0⟩) (.fail ""))) with ⟨h, hc⟩ | ⟨e, he, h⟩
    · rw [h]
      rcases b.nx_eq (fun b => k ⟨a, b, .d0, .d0⟩) (a.nx (fun a => k ⟨a, .d0, .d0, .d0⟩) (.fail "")) with ⟨h, hb⟩ | ⟨e, he, h⟩
      · rw [h]
        rcases a.nx_eq (fun a => k ⟨a, .d0, .d0, .d0⟩) (.fail "") with ⟨h, ha⟩ | ⟨e, he, h⟩
        · exact .inl ⟨_, h⟩
        · exact .inr ⟨⟨e, .d0, .d0, .d0⟩, by simp only [he]; omega, h⟩
      · exact .inr ⟨⟨a, e, .d0, .d0⟩, by simp only [he]; omega, h⟩
    · exact .inr ⟨⟨a, b, e, .d0⟩, by simp only [he]; omega, h⟩
  · exact .inr ⟨⟨a, b, c, e⟩, by simp only [he]; omega, h⟩
/-- Sixteen places are passed by: the place behind them begins a sixteen. -/
def K4.nx16 (p:K4) (k:K4->R):R :=
  @K4.rec (fun _ => R) (fun a b c d => c.nx (fun c => k ⟨a, b, c, .d0⟩)
    (b.nx (fun b => k ⟨a, b, .d0, .d0⟩)
      (a.nx (fun a => k ⟨a, .d0, .d0, .d0⟩) (.fail "")))) p
/-- The place in its sixteen. -/
def K4.at (p:K4) (j:D) (k:K4->R):R := @K4.rec (fun _ => R) (fun a b c _ => k ⟨a, b, c, j⟩) p
theorem K4.at_eq (p:K4) (j:D) (k:K4->R):p.at j k=k ⟨p.a, p.b, p.c, j⟩ := by cases p; rfl
theorem K4.nx16_eq (p:K4) (k:K4->R):(∃ w, p.nx16 k = .fail w) ∨ ∃ q:K4, q.toN=(p.a.toN*256+p.b.toN*16+p.c.toN+1)*16∧q.d = .d0∧p.nx16 k=k q := by
  obtain ⟨a, b, c, d⟩ := p
  simp only [K4.nx16, K4.toN]
  have hd0:D.d0.toN=0 := rfl
  rcases c.nx_eq (fun c => k ⟨a, b, c, .d0⟩) (b.nx (fun b => k ⟨a, b, .d0, .d0⟩) (a.nx (fun a => k ⟨a, .d0, .d0, .d0⟩) (.fail ""))) with ⟨h, hc⟩ | ⟨e, he, h⟩
  · rw [h]
    rcases b.nx_eq (fun b => k ⟨a, b, .d0, .d0⟩) (a.nx (fun a => k ⟨a, .d0, .d0, .d0⟩) (.fail "")) with ⟨h, hb⟩ | ⟨e, he, h⟩
    · rw [h]
      rcases a.nx_eq (fun a => k ⟨a, .d0, .d0, .d0⟩) (.fail "") with ⟨h, ha⟩ | ⟨e, he, h⟩
      · exact .inl ⟨_, h⟩
      · exact .inr ⟨⟨e, .d0, .d0, .d0⟩, by simp only [he]; omega, rfl, h⟩
    · exact .inr ⟨⟨a, e, .d0, .d0⟩, by simp only [he]; omega, rfl, h⟩
  · exact .inr ⟨⟨a, b, e, .d0⟩, by simp only [he]; omega, rfl, h⟩
structure K2 where
  a:D
  b:D
def B8:V := .tup []
def Fi:S := S.all (SQ.all B8)
def B3 (p:K2) (t:Regs):V := VP.sel p.b (Regs.sel p.a t)
def Iw {β:Type} (p:K2) (t:Regs) (κ:V->β):β :=
  @K2.rec (fun _ => β) (fun a b => Regs.selK a t fun x => VP.selK b x κ) p
theorem Cw {β:Type} (p:K2) (t:Regs) (κ:V->β):Iw p t κ=κ (B3 p t) := by
  cases p; simp only [Iw, Regs.selK_eq, VP.selK_eq, B3]
def OX {β:Type} (p:K2) (t:Regs) (v:V) (k:Regs->β):β :=
  @K2.rec (fun _ => β) (fun a b => Regs.selK a t fun x => VP.setK b x v fun x => Regs.setK a t x k) p
def EG (p:K2) (t:Regs) (v:V):Regs := OX p t v id
theorem P4 {β:Type} (p:K2) (t:Regs) (v:V) (k:Regs->β):OX p t v k=k (EG p t v) := by
  cases p; simp only [OX, EG, Regs.setK_eq, VP.setK_eq, Regs.selK_eq, VP.selK_eq]; rfl
theorem AX (p:K2) (t:Regs) (v:V):B3 p (EG p t v)=v := by
  cases p; simp only [B3, EG, OX, Regs.setK_eq, VP.setK_eq, Regs.selK_eq, VP.selK_eq, id, Regs.sel_setS_same, VP.sel_setS_same]
theorem Bh {p q:K2} (t:Regs) (v:V) (hne:p≠q):B3 q (EG p t v)=B3 q t := by
  obtain ⟨a, b⟩ := p
  obtain ⟨a', b'⟩ := q
  simp only [B3, EG, OX, Regs.setK_eq, VP.setK_eq, Regs.selK_eq, VP.selK_eq, id]
  by_cases ha:a=a'
  · subst ha
    rw [Regs.sel_setS_same]
    by_cases hb:b=b'
    · subst hb; exact absurd rfl hne
    · rw [VP.sel_setS_ne _ _ hb]
  · rw [Regs.sel_setS_ne _ _ ha]
def LL:Regs := Regs.all (VP.all B8)
theorem Qu (p:K2):B3 p LL=B8 := by simp only [B3, LL, Regs.sel_all, VP.sel_all]
/-- The place of a register's number. -/
def K2.ofN (n:Nat):Option K2 := if n<256 then some ⟨D.ofN (n / 16), D.ofN (n % 16)⟩ else none
theorem K2.ofN_inj {m n:Nat} {p:K2} (h:K2.ofN m=some p) (h':K2.ofN n=some p):m=n := by
  unfold K2.ofN at h h'
  split at h
  · split at h'
    · simp only [Option.some.injEq] at h h'
      rw [←h] at h'
      simp only [K2.mk.injEq] at h'
      have h1 := congrArg D.toN h'.1
      have h2 := congrArg D.toN h'.2
      rw [D.toN_ofN _ (by omega), D.toN_ofN _ (by omega)] at h1
      rw [D.toN_ofN _ (by omega), D.toN_ofN _ (by omega)] at h2
      omega
    · simp at h'
  · simp at h
theorem K2.ofN_lt {n:Nat} {p:K2} (h:K2.ofN n=some p):n<256 := by
  unfold K2.ofN at h; split at h
  · assumption
  · simp at h
end Go.Ev

namespace Go.Ev
set_option linter.unusedVariables false
def br {β:Type} (c:Bool) (t f:β):β := @Bool.rec (fun _ => β) f t c
theorem Ab {β:Type} (t f:β):br true t f=t := rfl
theorem Ag {β:Type} (t f:β):br false t f=f := rfl
def Ac {β:Type} (n:Nat) (k:Nat->β):β := @Nat.rec (fun _ => β) (k 0) (fun m _ => k (Nat.succ m)) n
theorem Aa {β:Type} (n:Nat) (k:Nat->β):Ac n k=k n := by cases n <;> rfl
def Bv {β:Type} (b:Bool) (k:Bool->β):β := @Bool.rec (fun _ => β) (k false) (k true) b
theorem B2 {β:Type} (b:Bool) (k:Bool->β):Bv b k=k b := by cases b <;> rfl
/-- A result that is DI. -/
def R.good:R->Prop
  | .fail _ => False
  | _ => True
theorem Ad {c:Bool} {t:R} {s:String} (h:(br c t (.fail s)).good):c=true∧br c t (.fail s)=t := by
  cases c
  · exact h.elim
  · exact ⟨rfl, rfl⟩
theorem Gw {c:Bool} {t:R} {s:String} (h:(br c (.fail s) t).good):c=false∧br c (.fail s) t=t := by
  cases c
  · exact ⟨rfl, rfl⟩
  · exact h.elim
def Mk (k:IntKind):Nat := @IntKind.rec (fun _ => Nat) 256 65536 4294967296 18446744073709551616 256 65536 4294967296 18446744073709551616 k
def Hk (k:IntKind):Nat := @IntKind.rec (fun _ => Nat) 128 32768 2147483648 9223372036854775808 256 65536 4294967296 18446744073709551616 k
def kix (k:IntKind):Nat := @IntKind.rec (fun _ => Nat) 0 1 2 3 4 5 6 7 k
def dec (k:IntKind) (r:Nat):Int := if r<Hk k then (r:Int) else (r:Int) - (Mk k:Int)
def AQ (k j:IntKind):Bool := Nat.beq (kix k) (kix j)
theorem Am {k j:IntKind}:AQ k j=true ↔ k=j := by
  cases k <;> cases j <;> simp [AQ, kix]
theorem DM (k:IntKind):0<Mk k := by cases k <;> simp [Mk]
theorem Hb (k:IntKind):Hk k≤Mk k := by cases k <;> simp [Mk, Hk]
theorem EW (k:IntKind):Mk k=2 ^ k.bits := by cases k <;> rfl
theorem GL {k:IntKind} {z:Int} {r:Nat} (h:z % (Mk k:Int)=r):k.wrap z=dec k r := by
  cases k <;> simp [Mk, dec, Hk, IntKind.wrap, IntKind.bits, IntKind.signed] at h ⊢ <;> (repeat' split) <;> omega
theorem En (k:IntKind) (a:Nat):dec k a % (Mk k:Int)=((a % Mk k:Nat):Int) := by
  unfold dec
  split
  · exact (Int.natCast_emod a (Mk k)).symm
  · rw [Int.sub_emod_right]; exact (Int.natCast_emod a (Mk k)).symm
theorem Ai {k:IntKind} {a:Nat} (h:a<Hk k):dec k a=a := by unfold dec; rw [if_pos h]
theorem Cr {k:IntKind} {a:Nat} (h:¬ a<Hk k):dec k a=a - Mk k := by unfold dec; rw [if_neg h]
theorem Lb {k:IntKind} {a b:Nat} (ha:a<Mk k) (hb:b<Mk k) (h:dec k a=dec k b):a=b := by
  have h1 := En k a
  have h2 := En k b
  rw [h, h2, Nat.mod_eq_of_lt ha, Nat.mod_eq_of_lt hb] at h1
  omega
def DY (k:IntKind) (a b:Nat):Bool :=
  br (Nat.ble (Hk k) a) (br (Nat.ble (Hk k) b) (Nat.ble (Nat.succ a) b) true) (br (Nat.ble (Hk k) b) false (Nat.ble (Nat.succ a) b))
theorem A9 {a b:Nat}:Nat.ble a b=true ↔ a≤b := ⟨Nat.le_of_ble_eq_true, Nat.ble_eq_true_of_le⟩
theorem Au {a b:Nat} (h:b<a):Nat.ble a b=false := Bool.eq_false_iff.2 (fun e => by have := A9.1 e; omega)
theorem BV (a b:Nat):Nat.ble a b=decide (a≤b) := by rw [Bool.eq_iff_iff, A9]; simp
theorem EU {k:IntKind} {a b:Nat} (ha:a<Mk k) (hb:b<Mk k):DY k a b=decide (dec k a<dec k b) := by
  have hH := Hb k
  unfold DY
  by_cases h1:Hk k≤a
  · rw [A9.2 h1, Ab, Cr (by omega)]
    by_cases h2:Hk k≤b
    · rw [A9.2 h2, Ab, Cr (by omega), BV]; apply decide_eq_decide.2; omega
    · rw [Au (by omega), Ag, Ai (by omega)]; symm; apply decide_eq_true; omega
  · rw [Au (by omega), Ag, Ai (by omega)]
    by_cases h2:Hk k≤b
    · rw [A9.2 h2, Ab, Cr (by omega)]; symm; apply decide_eq_false; omega
    · rw [Au (by omega), Ag, Ai (by omega), BV]; apply decide_eq_decide.2; omega
def Al:List UInt8->Nat
  | [] => 0
  | b::l => b.toNat+256*Al l
theorem Sj (l:List UInt8):Al l<256 ^ l.length := by
  induction l with
  | nil => simp [Al]
  | cons b l ih =>
    have := b.toNat_lt
    simp only [Al, List.length_cons, Nat.pow_succ]
    omega
theorem HN (a b:List UInt8):Al (a++b)=Al a+256 ^ a.length*Al b := by
  induction a with
  | nil => simp [Al]
  | cons x a ih => simp only [List.cons_append, Al, ih, List.length_cons, Nat.pow_succ, Nat.mul_add, Nat.mul_assoc, Nat.add_assoc]; rw [Nat.mul_left_comm]
theorem Jl {a b:List UInt8} (hl:a.length=b.length) (h:Al a=Al b):a=b := by
  induction a generalizing b with
  | nil => cases b with
    | nil => rfl
    | cons => simp at hl
  | cons x a ih =>
    cases b with
    | nil => simp at hl
    | cons y b =>
      simp only [Al] at h
      have hx := x.toNat_lt; have hy := y.toNat_lt
      have h1:x.toNat=y.toNat := by omega
      have h2:Al a=Al b := by omega
      rw [ih (by simpa using hl) h2, UInt8.toNat_inj.1 h1]
theorem Lj (l:List UInt8):∀ n, Al l / 256 ^ n=Al (l.drop n) := by
  intro n
  induction n generalizing l with
  | zero => simp
  | succ n ih =>
    cases l with
    | nil => simp [Al]
    | cons b l =>
      have := b.toNat_lt
      rw [Nat.pow_succ, Nat.mul_comm, ←Nat.div_div_eq_div_mul]
      have:Al (b::l) / 256=Al l := by simp only [Al]; omega
      rw [this, ih, List.drop_succ_cons]
theorem Mb (l:List UInt8):∀ n, Al l % 256 ^ n=Al (l.take n) := by
  intro n
  have h := HN (l.take n) (l.drop n)
  rw [List.take_append_drop] at h
  have hlt := Sj (l.take n)
  by_cases hn:n≤l.length
  · have hlen:(l.take n).length=n := by simp [hn]
    rw [hlen] at h hlt
    rw [h, Nat.add_mul_mod_self_left, Nat.mod_eq_of_lt hlt]
  · rw [List.take_of_length_le (by omega)] at hlt ⊢
    exact Nat.mod_eq_of_lt (Nat.lt_of_lt_of_le hlt (Nat.pow_le_pow_right (by omega) (by omega)))
theorem Jk (l:List UInt8) (i:Nat) (h:i<l.length):(Al l / 256 ^ i) % 256=l[i].toNat := by
  rw [Lj, List.drop_eq_getElem_cons h]
  have := l[i].toNat_lt
  simp only [Al]; omega
/-- c without its first i bytes. -/
def sh (c i:Nat):Nat := Nat.shiftRight c (Nat.mul 8 i)
theorem HF (c i:Nat):sh c i=c / 256 ^ i := by
  show c >>> (8*i)=_
  rw [Nat.shiftRight_eq_div_pow, Nat.pow_mul]
/-- Its first i bytes. -/
def lo (c i:Nat):Nat := Nat.mod c (Nat.pow 256 i)
theorem FH (c i:Nat):lo c i=c % 256 ^ i := rfl
/-- i bytes further on. -/
def up (c i:Nat):Nat := Nat.shiftLeft c (Nat.mul 8 i)
theorem Tm (c i:Nat):up c i=256 ^ i*c := by
  show c <<< (8*i)=_
  rw [Nat.shiftLeft_eq, Nat.pow_mul, Nat.mul_comm]
/-- The code of a function that ranges over a function and appends what comes: the round's parameter, the box of its slice, how many registers. -/
structure ApC where
  asg:Code
  bod:Code
  par:Nat
  box:Nat
  ntm:Nat
/-- What the symbols stand for; the functions that range over a function; blocks that stay as they are. -/
structure Env where
  v:Nat->Value
  ap:Nat->Option ApC
  gl:Nat->Option (Array Value×TypeId×(Nat×Nat)) := fun _ => none
abbrev AF := K4->Option (Nat×Nat×Nat)
def BB:Nl->Value
  | .ptr => .pointer none
  | .sl => .slice none 0 0
  | .map => .map none
  | .fn => .nilFunc
  | .iface => .nilIface
/-- A bool that is told: the bit j of i's lowest 32. -/
def Sw (i j:Nat):Bool := Nat.beq (Nat.mod (Nat.div (Nat.mod i 4294967296) (Nat.pow 2 j)) 2) 1
def tdM (i:Nat):Nat := Nat.div (Nat.sub i 73786976294838206464) 281474976710656
def tdN (i:Nat):Nat := Nat.mod (Nat.div (Nat.sub i 73786976294838206464) 1099511627776) 256
def tdD (i j:Nat):Nat := Nat.mod (Nat.div (Nat.mod (Nat.sub i 73786976294838206464) 1099511627776) (Nat.pow (tdM i) j)) (tdM i)
def Jz (i:Nat):Nat := Nat.mod (Nat.div (Nat.sub i 36893488147419103233) 65536) 65536
def tcQ (i:Nat):Nat := Nat.div (Nat.sub i 36893488147419103233) 4294967296
def Sk (i:Nat):Nat := Nat.mod (Nat.sub i 36893488147419103233) 65536
/-- A cell that stays: some bool (i=0), a symbol, a bool of which the first ones are told (2^64+their number*2^32+their bits), some integer (from 2^65), an integer told by its remainder (from 2^66). -/
def MK (ρ:Env) (i j:Nat) (y:Value):Prop := (i=0 ∧ ∃ b, y = .bool b)∨(1≤i∧i<18446744073709551616∧y=ρ.v (i+j) ∧ ∃ r, r<Mk .i64∧y = .int .i64 (dec .i64 r)) ∨
  (18446744073709551616≤i∧i<36893488147419103232 ∧ ∃ b, y = .bool b∧(j<(i - 18446744073709551616) / 4294967296->b=Sw i j))∨(36893488147419103232≤i∧i<73786976294838206464 ∧ ∃ r, r<Mk .i64∧y = .int .i64 (dec .i64 r)∧(36893488147419103232<i->j=tcQ i->(dec .i64 r).tmod (Jz i:Nat)+(Jz i:Nat)=(Sk i:Nat))) ∨
  (73786976294838206464≤i ∧ ∃ z:Int, y = .int .i64 z ∧ -9223372036854775808≤z∧z<9223372036854775808∧(j<tdN i->z.natAbs % tdM i=tdD i j))
/-- What is told of memory that stays. -/
def Hj (ρ:Env):RV->Value->Prop
  | .i k r, x => r<Mk k∧x = .int k (dec k r)
  | .b b, x => x = .bool b
  | .s n c, x => ∃ s:ByteArray, x = .string s∧s.size=n∧Al s.data.toList=c
  | .y n c, x => ∃ a cap, x = .slice (some a) n cap∧n≤cap∧c<256 ^ n∧(0<n->∃ b o ce e fr, a=⟨b, o, none⟩∧ρ.gl b=some (ce, e, fr) ∧ ∀ j, j<n->ce[o+j]? = some (.int .u8 ((c / 256 ^ j % 256:Nat):Int)))
  | .nl, x => x = .slice none 0 0
def Sz (ρ:Env) (l:List RV) (ce:Array Value) (o:Nat):Prop := ∀ j v, l[j]? = some v->∃ y, ce[o+j]? = some y∧Hj ρ v y
def RV.v:RV->V
  | .i k r => .int k r
  | .b q => .bool q
  | .s n c => .str n c
  | .y n c => .oth (.rb n c)
  | .nl => .nil .sl
section
variable (ρ:Env) (φ:AF)
mutual
def Aj:V->Value->Prop
  | .int k r, x => r<Mk k∧x = .int k (dec k r)
  | .bool b, x => x = .bool b
  | .ptr p off, x => ∃ b s tot, φ p=some (b, s, tot)∧x = .pointer (some ⟨b, s+off, none⟩)
  | .sl p off len cap ex esz, x => ∃ b s tot o cap', φ p=some (b, s, tot)∧x = .slice (some ⟨b, o, none⟩) len cap'∧len≤cap∧cap≤cap' ∧
      (ex=true->cap'=cap)∧(0<cap'->o=s+off∧o+cap'*esz≤tot)
  | .str n c, x => ∃ s:ByteArray, x = .string s∧s.size=n∧Al s.data.toList=c
  | .agg l, x => ∃ cs:Array Value, x = .agg cs∧Bi l cs.toList ∧ ∀ y∈cs.toList, y.oneCell'=true
  | .nil w, x => x=BB w
  | .map p, x => ∃ b s tot, φ p=some (b, s, tot)∧x = .map (some b)
  | .fn f caps, x => ∃ cs:Array Value, x = .func (.func f) #[] cs∧Bi caps cs.toList
  | .tup l, x => ∃ cs:Array Value, x = .tuple cs∧Bi l cs.toList
  | .oth o, x => match o with | .any => True | .sym i => x=ρ.v i | .yl p => (∃ b s tot, φ p=some (b, s, tot)∧x = .func (.yield b) #[] #[]) | .no => False | .iv k lo hi => ∃ r, lo≤r∧r≤hi∧r<Mk k∧x = .int k (dec k r) | .os lo hi => ∃ p len cap, x = .slice p len cap∧lo≤len∧len≤hi∧len≤cap | .bl => ∃ b, x = .bool b | .rs m j => ∃ z:Int, x = .int .i64 z ∧ -9223372036854775808≤z∧z<9223372036854775808∧(m<36893488147419103232∧z.natAbs % (m % 18446744073709551616)=j∨(36893488147419103232≤m∧j % 18446744073709551616≤z.natAbs % (m % 18446744073709551616)∧z.natAbs % (m % 18446744073709551616)≤j / 18446744073709551616))∧(18446744073709551616≤m->m<36893488147419103232->0≤z)∧(73786976294838206464≤m->z<0) | .ss lo hi n c => ∃ s:ByteArray, x = .string s∧lo≤s.size∧s.size≤hi ∧ ¬ (s.size=n∧Al s.data.toList=c) | .ro i lo hi z => ∃ b o len cap c e fr, x = .slice (some ⟨b, o, none⟩) len cap∧lo≤len∧len≤hi∧len≤cap∧ρ.gl b=some (c, e, fr) ∧ ∀ j, j<len*z->∃ y, c[o+j]? = some y∧MK ρ i j y | .ap i j m => ∃ b o c e fr, x = .pointer (some ⟨b, o, none⟩)∧ρ.gl b=some (c, e, fr) ∧ ∀ q, q<m->∃ y, c[o+q]? = some y∧MK ρ i (j+q) y | .sy k i => x=ρ.v i ∧ ∃ r, r<Mk k∧x = .int k (dec k r) | .rb n c => Hj ρ (.y n c) x | .rx l m z => ∃ a cap, x = .slice (some a) m cap∧m≤cap∧l.length=m*z∧(0<m->∃ b o ce e fr, a=⟨b, o, none⟩∧ρ.gl b=some (ce, e, fr)∧Sz ρ l ce o) | .rp l => ∃ b o ce e fr, x = .pointer (some ⟨b, o, none⟩)∧ρ.gl b=some (ce, e, fr)∧Sz ρ l ce o
def Bi:List V->List Value->Prop
  | [], l => l=[]
  | v::vs, l => ∃ y ys, l=y::ys∧Aj v y∧Bi vs ys
end
end
theorem Q1 {ρ:Env} {φ:AF} {v:RV} {x:Value} (h:Hj ρ v x):Aj ρ φ v.v x := by
  cases v with
  | i k r => simpa only [Aj, Hj, RV.v] using h
  | b b => simpa only [Aj, Hj, RV.v] using h
  | s n c => simpa only [Aj, Hj, RV.v] using h
  | y n c => simpa only [Aj, RV.v] using h
  | nl => simpa only [Aj, Hj, RV.v, BB] using h
end Go.Ev

namespace Go.Ev
abbrev AH {A0:Sort _} (s:String):A0->R := fun _ => .fail s
abbrev As {A0 A1:Sort _} (s:String):A0->A1->R := fun _ _ => .fail s
abbrev By {A0 A1 A2:Sort _} (s:String):A0->A1->A2->R := fun _ _ _ => .fail s
abbrev Fl {A0 A1 A2 A3:Sort _} (s:String):A0->A1->A2->A3->R := fun _ _ _ _ => .fail s
abbrev fF5 {A0 A1 A2 A3 A4:Sort _} (s:String):A0->A1->A2->A3->A4->R := fun _ _ _ _ _ => .fail s
abbrev DB {A0 A1 A2 A3 A4 A5:Sort _} (s:String):A0->A1->A2->A3->A4->A5->R := fun _ _ _ _ _ _ => .fail s
set_option linter.unusedVariables false
def BZ (m:Nat):List V->(List V->R)->R :=
  @Nat.rec (fun _ => List V->(List V->R)->R) (fun _ k => k [])
    (fun _ ih xs k => @List.rec V (fun _ => R) (.fail "") (fun x ys _ => ih ys fun zs => k (x::zs)) xs) m
def CN (m:Nat):List V->(List V->R)->R :=
  @Nat.rec (fun _ => List V->(List V->R)->R) (fun xs k => k xs)
    (fun _ ih xs k => @List.rec V (fun _ => R) (.fail "") (fun _ ys _ => ih ys k) xs) m
def BK (m:Nat):List V->(V->R)->R :=
  @Nat.rec (fun _ => List V->(V->R)->R) (fun xs k => @List.rec V (fun _ => R) (.fail "") (fun x _ _ => k x) xs)
    (fun _ ih xs k => @List.rec V (fun _ => R) (.fail "") (fun _ ys _ => ih ys k) xs) m
def DS (xs ys:List V):(List V->R)->R :=
  @List.rec V (fun _ => (List V->R)->R) (fun k => k ys) (fun x _ ih k => ih fun zs => k (x::zs)) xs
def FM (xs:List V):(Nat->R)->R :=
  @List.rec V (fun _ => (Nat->R)->R) (fun k => k 0) (fun _ _ ih k => ih fun n => Ac (Nat.succ n) k) xs
theorem Fq {m:Nat} {xs:List V} {k:List V->R} (h:(BZ m xs k).good):m≤xs.length∧BZ m xs k=k (xs.take m) := by
  induction m generalizing xs k with
  | zero => exact ⟨Nat.zero_le _, rfl⟩
  | succ m ih =>
    cases xs with
    | nil => exact h.elim
    | cons x xs =>
      have := ih (xs := xs) (k := fun zs => k (x::zs)) h
      exact ⟨by simpa using this.1, this.2⟩
theorem Fm {m:Nat} {xs:List V} {k:List V->R} (h:(CN m xs k).good):m≤xs.length∧CN m xs k=k (xs.drop m) := by
  induction m generalizing xs with
  | zero => exact ⟨Nat.zero_le _, rfl⟩
  | succ m ih =>
    cases xs with
    | nil => exact h.elim
    | cons x xs =>
      have := ih (xs := xs) h
      exact ⟨by simpa using this.1, this.2⟩
theorem Dy {m:Nat} {xs:List V} {k:V->R} (h:(BK m xs k).good):∃ v, xs[m]? = some v∧BK m xs k=k v := by
  induction m generalizing xs with
  | zero =>
    cases xs with
    | nil => exact h.elim
    | cons x xs => exact ⟨x, rfl, rfl⟩
  | succ m ih =>
    cases xs with
    | nil => exact h.elim
    | cons x xs =>
      obtain ⟨v, h1, h2⟩ := ih (xs := xs) h
      exact ⟨v, by simpa using h1, h2⟩
theorem Cp (xs ys:List V) (k:List V->R):DS xs ys k=k (xs++ys) := by
  induction xs generalizing k with
  | nil => rfl
  | cons x xs ih => exact ih fun zs => k (x::zs)
theorem C1 (xs:List V) (k:Nat->R):FM xs k=k xs.length := by
  induction xs generalizing k with
  | nil => rfl
  | cons x xs ih => exact (ih fun n => Ac (Nat.succ n) k).trans (Aa _ _)
def Ey (v:V) (κ:IntKind->Nat->R):R :=
  @V.rec (fun _ => R) (fun _ => Unit) (fun k r => κ k r) (AH "") (As "") (DB "") (As "") (As "") (AH "") (AH "") (By "") (As "") (AH "") () (fun _ _ _ _ => ()) v
def Ls (v:V) (κ:Bool->R):R :=
  @V.rec (fun _ => R) (fun _ => Unit) (As "") (fun b => κ b) (As "") (DB "") (As "") (As "") (AH "") (AH "") (By "") (As "") (AH "") () (fun _ _ _ _ => ()) v
def J7 (v:V) (κ:K4->Nat->R):R :=
  @V.rec (fun _ => R) (fun _ => Unit) (As "") (AH "") (fun p off => κ p off) (DB "") (As "") (As "") (AH "") (AH "") (By "") (As "") (AH "") () (fun _ _ _ _ => ()) v
def D0 (v:V) (κn:R) (κ:K4->Nat->Nat->Nat->Bool->Nat->R):R :=
  @V.rec (fun _ => R) (fun _ => Unit) (As "") (AH "") (As "") (fun p off len cap ex esz => κ p off len cap ex esz) (As "") (As "") (fun w => @Nl.rec (fun _ => R) (.fail "") κn (.fail "") (.fail "") (.fail "") w) (AH "") (By "") (As "") (AH "") () (fun _ _ _ _ => ()) v
def AR (v:V) (κ:Nat->Nat->R):R :=
  @V.rec (fun _ => R) (fun _ => Unit) (As "") (AH "") (As "") (DB "") (fun n c => κ n c) (As "") (AH "") (AH "") (By "") (As "") (AH "") () (fun _ _ _ _ => ()) v
def asAgg (v:V) (κ:List V->R):R :=
  @V.rec (fun _ => R) (fun _ => Unit) (As "") (AH "") (As "") (DB "") (As "") (fun l _i => κ l) (AH "") (AH "") (By "") (As "") (AH "") () (fun _ _ _ _ => ()) v
def LK (v:V) (κ:List V->R):R :=
  @V.rec (fun _ => R) (fun _ => Unit) (As "") (AH "") (As "") (DB "") (As "") (As "") (AH "") (AH "") (By "") (fun l _i => κ l) (AH "") () (fun _ _ _ _ => ()) v
def CX (v:V) (κn:R) (κ:K4->R):R :=
  @V.rec (fun _ => R) (fun _ => Unit) (As "") (AH "") (As "") (DB "") (As "") (As "") (fun w => @Nl.rec (fun _ => R) (.fail "") (.fail "") κn (.fail "") (.fail "") w) (fun p => κ p) (By "") (As "") (AH "") () (fun _ _ _ _ => ()) v
def Lz (v:V) (κ:Nat->List V->R):R :=
  @V.rec (fun _ => R) (fun _ => Unit) (As "") (AH "") (As "") (DB "") (As "") (As "") (AH "") (AH "") (fun f caps _i => κ f caps) (As "") (AH "") () (fun _ _ _ _ => ()) v
def E4 (v:V) (κ:List V->R):R :=
  @V.rec (fun _ => R) (fun _ => Unit) (fun _ _ => κ [v]) (fun _ => κ [v]) (fun _ _ => κ [v]) (fun _ _ _ _ _ _ => κ [v]) (fun _ _ => κ [v]) (fun l _i => κ l) (fun _ => κ [v]) (fun _ => κ [v]) (fun _ _ _ => κ [v]) (fun l _i => .fail "") (fun o => @Ot.rec (fun _ => R) (.fail "") (fun _ => κ [v]) (AH "") (.fail "") (fun _ _ _ => κ [v]) (fun _ _ => κ [v]) (κ [v]) (fun _ _ => κ [v]) (fun _ _ _ _ => κ [v]) (fun _ _ _ _ => κ [v]) (fun _ _ _ => κ [v]) (fun _ _ => κ [v]) (fun _ _ => κ [v]) (fun _ _ _ => κ [v]) (fun _ => κ [v]) o) () (fun _ _ _ _ => ()) v
/-- Is it a slice that is not looked into? -/
def osK (v:V) (κ:Nat->Nat->R) (e:R):R :=
  @V.rec (fun _ => R) (fun _ => Unit) (fun _ _ => e) (fun _ => e) (fun _ _ => e) (fun _ _ _ _ _ _ => e) (fun _ _ => e) (fun _ _ => e) (fun _ => e) (fun _ => e) (fun _ _ _ => e) (fun _ _ => e) (fun o => @Ot.rec (fun _ => R) e (fun _ => e) (fun _ => e) e (fun _ _ _ => e) (fun lo hi => κ lo hi) e (fun _ _ => e) (fun _ _ _ _ => e) (fun _ _ _ _ => e) (fun _ _ _ => e) (fun _ _ => e) (fun _ _ => e) (fun _ _ _ => e) (fun _ => e) o) () (fun _ _ _ _ => ()) v
theorem TW (v:V) (κ:Nat->Nat->R) (e:R):(∃ lo hi, v = .oth (.os lo hi)∧osK v κ e=κ lo hi)∨osK v κ e=e := by
  cases v with
  | oth o => cases o with
    | os lo hi => exact .inl ⟨lo, hi, rfl, rfl⟩
    | _ => exact .inr rfl
  | _ => exact .inr rfl
/-- Is it an integer DI by a remainder? -/
def rsK (v:V) (κ:Nat->Nat->R) (e:R):R :=
  @V.rec (fun _ => R) (fun _ => Unit) (fun _ _ => e) (fun _ => e) (fun _ _ => e) (fun _ _ _ _ _ _ => e) (fun _ _ => e) (fun _ _ => e) (fun _ => e) (fun _ => e) (fun _ _ _ => e) (fun _ _ => e) (fun o => @Ot.rec (fun _ => R) e (fun _ => e) (fun _ => e) e (fun _ _ _ => e) (fun _ _ => e) e (fun m j => κ m j) (fun _ _ _ _ => e) (fun _ _ _ _ => e) (fun _ _ _ => e) (fun _ _ => e) (fun _ _ => e) (fun _ _ _ => e) (fun _ => e) o) () (fun _ _ _ _ => ()) v
theorem Un (v:V) (κ:Nat->Nat->R) (e:R):(∃ m j, v = .oth (.rs m j)∧rsK v κ e=κ m j)∨rsK v κ e=e := by
  cases v with
  | oth o => cases o with
    | rs m j => exact .inl ⟨m, j, rfl, rfl⟩
    | _ => exact .inr rfl
  | _ => exact .inr rfl
/-- Is it a text that is not looked into? -/
def XF (v:V) (κ:Nat->Nat->Nat->Nat->R) (e:R):R :=
  @V.rec (fun _ => R) (fun _ => Unit) (fun _ _ => e) (fun _ => e) (fun _ _ => e) (fun _ _ _ _ _ _ => e) (fun _ _ => e) (fun _ _ => e) (fun _ => e) (fun _ => e) (fun _ _ _ => e) (fun _ _ => e) (fun o => @Ot.rec (fun _ => R) e (fun _ => e) (fun _ => e) e (fun _ _ _ => e) (fun _ _ => e) e (fun _ _ => e) (fun lo hi n c => κ lo hi n c) (fun _ _ _ _ => e) (fun _ _ _ => e) (fun _ _ => e) (fun _ _ => e) (fun _ _ _ => e) (fun _ => e) o) () (fun _ _ _ _ => ()) v
theorem Ky (v:V) (κ:Nat->Nat->Nat->Nat->R) (e:R):(∃ lo hi n c, v = .oth (.ss lo hi n c)∧XF v κ e=κ lo hi n c)∨XF v κ e=e := by
  cases v with
  | oth o => cases o with
    | ss lo hi n c => exact .inl ⟨lo, hi, n, c, rfl, rfl⟩
    | _ => exact .inr rfl
  | _ => exact .inr rfl
/-- A pointer, or what is not looked into. -/
def MT (v:V) (κ:K4->Nat->R) (κo:Ot->R):R :=
  @V.rec (fun _ => R) (fun _ => Unit) (As "") (AH "") (fun p off => κ p off) (DB "") (As "") (As "") (AH "") (AH "") (By "") (As "") (fun o => κo o) () (fun _ _ _ _ => ()) v
/-- A slice, or what is not looked into. -/
def DZ (v:V) (κn:R) (κ:K4->Nat->Nat->Nat->Bool->Nat->R) (κo:Ot->R):R :=
  @V.rec (fun _ => R) (fun _ => Unit) (As "") (AH "") (As "") (fun p off len cap ex esz => κ p off len cap ex esz) (As "") (As "") (fun w => @Nl.rec (fun _ => R) (.fail "") κn (.fail "") (.fail "") (.fail "") w) (AH "") (By "") (As "") (fun o => κo o) () (fun _ _ _ _ => ()) v
theorem IP {v:V} {κ:K4->Nat->R} {κo:Ot->R} (h:(MT v κ κo).good):(∃ p off, v = .ptr p off∧MT v κ κo=κ p off)∨(∃ o, v = .oth o∧MT v κ κo=κo o) := by
  cases v with
  | ptr p off => exact .inl ⟨p, off, rfl, rfl⟩
  | oth o => exact .inr ⟨o, rfl, rfl⟩
  | _ => exact h.elim
theorem FZ {v:V} {κn:R} {κ:K4->Nat->Nat->Nat->Bool->Nat->R} {κo:Ot->R} (h:(DZ v κn κ κo).good) :
    (v = .nil .sl∧DZ v κn κ κo=κn)∨(∃ p off len cap ex esz, v = .sl p off len cap ex esz∧DZ v κn κ κo=κ p off len cap ex esz)∨(∃ o, v = .oth o∧DZ v κn κ κo=κo o) := by
  cases v with
  | sl p off len cap ex esz => exact .inr (.inl ⟨p, off, len, cap, ex, esz, rfl, rfl⟩)
  | nil w => cases w with
    | sl => exact .inl ⟨rfl, rfl⟩
    | _ => exact h.elim
  | oth o => exact .inr (.inr ⟨o, rfl, rfl⟩)
  | _ => exact h.elim
def Aa4 (o:Ot) (κ:Nat->Nat->R) (e:R):R :=
  @Ot.rec (fun _ => R) e (fun _ => e) (fun _ => e) e (fun _ _ _ => e) (fun lo hi => κ lo hi) e (fun _ _ => e) (fun _ _ _ _ => e) (fun _ _ _ _ => e) (fun _ _ _ => e) (fun _ _ => e) (fun _ _ => e) (fun _ _ _ => e) (fun _ => e) o
def QY (o:Ot) (κ:Nat->Nat->Nat->Nat->R) (e:R):R :=
  @Ot.rec (fun _ => R) e (fun _ => e) (fun _ => e) e (fun _ _ _ => e) (fun _ _ => e) e (fun _ _ => e) (fun _ _ _ _ => e) (fun i lo hi z => κ i lo hi z) (fun _ _ _ => e) (fun _ _ => e) (fun _ _ => e) (fun _ _ _ => e) (fun _ => e) o
def Up (o:Ot) (κ:Nat->Nat->Nat->R) (e:R):R :=
  @Ot.rec (fun _ => R) e (fun _ => e) (fun _ => e) e (fun _ _ _ => e) (fun _ _ => e) e (fun _ _ => e) (fun _ _ _ _ => e) (fun _ _ _ _ => e) (fun i j m => κ i j m) (fun _ _ => e) (fun _ _ => e) (fun _ _ _ => e) (fun _ => e) o
def Aa1 (o:Ot) (κ:IntKind->Nat->R) (e:R):R :=
  @Ot.rec (fun _ => R) e (fun _ => e) (fun _ => e) e (fun _ _ _ => e) (fun _ _ => e) e (fun _ _ => e) (fun _ _ _ _ => e) (fun _ _ _ _ => e) (fun _ _ _ => e) (fun k i => κ k i) (fun _ _ => e) (fun _ _ _ => e) (fun _ => e) o
theorem RB (o:Ot) (κ:IntKind->Nat->R) (e:R):(∃ k i, o = .sy k i∧Aa1 o κ e=κ k i)∨Aa1 o κ e=e := by
  cases o with
  | sy k i => exact .inl ⟨k, i, rfl, rfl⟩
  | _ => exact .inr rfl
def Il (o:Ot) (κ:Nat->Nat->R) (e:R):R :=
  @Ot.rec (fun _ => R) e (fun _ => e) (fun _ => e) e (fun _ _ _ => e) (fun _ _ => e) e (fun _ _ => e) (fun _ _ _ _ => e) (fun _ _ _ _ => e) (fun _ _ _ => e) (fun _ _ => e) (fun n c => κ n c) (fun _ _ _ => e) (fun _ => e) o
def KX (o:Ot) (κ:List RV->Nat->Nat->R) (e:R):R :=
  @Ot.rec (fun _ => R) e (fun _ => e) (fun _ => e) e (fun _ _ _ => e) (fun _ _ => e) e (fun _ _ => e) (fun _ _ _ _ => e) (fun _ _ _ _ => e) (fun _ _ _ => e) (fun _ _ => e) (fun _ _ => e) (fun l m z => κ l m z) (fun _ => e) o
def LZ (o:Ot) (κ:List RV->R) (e:R):R :=
  @Ot.rec (fun _ => R) e (fun _ => e) (fun _ => e) e (fun _ _ _ => e) (fun _ _ => e) e (fun _ _ => e) (fun _ _ _ _ => e) (fun _ _ _ _ => e) (fun _ _ _ => e) (fun _ _ => e) (fun _ _ => e) (fun _ _ _ => e) (fun l => κ l) o
def WL (l:List RV) (κ:V->R):R := @List.rec RV (fun _ => R) (.fail "") (fun v _ _ => κ v.v) l
def Ee {α:Type} (o:Option α):Bool := @Option.rec α (fun _ => Bool) false (fun _ => true) o
theorem Cc {v:V} {κ:IntKind->Nat->R} (h:(Ey v κ).good):∃ k r, v = .int k r∧Ey v κ=κ k r := by
  cases v with
  | int k r => exact ⟨k, r, rfl, rfl⟩
  | _ => exact h.elim
theorem FE {v:V} {κ:Bool->R} (h:(Ls v κ).good):∃ b, v = .bool b∧Ls v κ=κ b := by
  cases v with
  | bool b => exact ⟨b, rfl, rfl⟩
  | _ => exact h.elim
theorem Ct {v:V} {κ:K4->Nat->R} (h:(J7 v κ).good):∃ p off, v = .ptr p off∧J7 v κ=κ p off := by
  cases v with
  | ptr p off => exact ⟨p, off, rfl, rfl⟩
  | _ => exact h.elim
theorem C7 {v:V} {κn:R} {κ:K4->Nat->Nat->Nat->Bool->Nat->R} (h:(D0 v κn κ).good) :
    (v = .nil .sl∧D0 v κn κ=κn) ∨ ∃ p off len cap ex esz, v = .sl p off len cap ex esz∧D0 v κn κ=κ p off len cap ex esz := by
  cases v with
  | sl p off len cap ex esz => exact .inr ⟨p, off, len, cap, ex, esz, rfl, rfl⟩
  | nil w => cases w with
    | sl => exact .inl ⟨rfl, rfl⟩
    | _ => exact h.elim
  | _ => exact h.elim
theorem Bk {v:V} {κ:Nat->Nat->R} (h:(AR v κ).good):∃ n c, v = .str n c∧AR v κ=κ n c := by
  cases v with
  | str n c => exact ⟨n, c, rfl, rfl⟩
  | _ => exact h.elim
theorem Cl {v:V} {κ:List V->R} (h:(asAgg v κ).good):∃ l, v = .agg l∧asAgg v κ=κ l := by
  cases v with
  | agg l => exact ⟨l, rfl, rfl⟩
  | _ => exact h.elim
theorem Mu {v:V} {κ:List V->R} (h:(LK v κ).good):∃ l, v = .tup l∧LK v κ=κ l := by
  cases v with
  | tup l => exact ⟨l, rfl, rfl⟩
  | _ => exact h.elim
theorem Dv {v:V} {κn:R} {κ:K4->R} (h:(CX v κn κ).good) :
    (v = .nil .map∧CX v κn κ=κn) ∨ ∃ p, v = .map p∧CX v κn κ=κ p := by
  cases v with
  | map p => exact .inr ⟨p, rfl, rfl⟩
  | nil w => cases w with
    | map => exact .inl ⟨rfl, rfl⟩
    | _ => exact h.elim
  | _ => exact h.elim
theorem Ig {v:V} {κ:Nat->List V->R} (h:(Lz v κ).good):∃ f caps, v = .fn f caps∧Lz v κ=κ f caps := by
  cases v with
  | fn f caps => exact ⟨f, caps, rfl, rfl⟩
  | _ => exact h.elim
/-- The cells of an abstract value. -/
def V.cl:V->List V
  | .agg l => l
  | v => [v]
/-- A value of one cell, or an aggregate. -/
def V.celled:V->Prop
  | .tup _ => False
  | .oth .any => False
  | .oth (.yl _) => False
  | .oth .no => False
  | _ => True
theorem FQ {v:V} {κ:List V->R} (h:(E4 v κ).good):v.celled∧E4 v κ=κ v.cl := by
  cases v with
  | tup l => exact h.elim
  | oth o => cases o with
    | any => exact h.elim
    | yl p => exact h.elim
    | no => exact h.elim
    | _ => exact ⟨trivial, rfl⟩
  | _ => exact ⟨trivial, rfl⟩
def Cs.at (cs:Cs) (i:Nat):Option V :=
  match cs with
  | .l xs => xs[i]?
  | .b n c => if i<n then some (.int .u8 (c / 256 ^ i % 256)) else none
def Cs.len:Cs->Nat
  | .l xs => xs.length
  | .b n _ => n
theorem Cs.at_lt {cs:Cs} {i:Nat} (h:i<cs.len):∃ v, cs.at i=some v := by
  cases cs with
  | l xs => exact ⟨xs[i], by simp [Cs.at, List.getElem?_eq_getElem h]⟩
  | b n c => exact ⟨_, if_pos h⟩
theorem Cs.at_none {cs:Cs} {i:Nat} (h:cs.len≤i):cs.at i=none := by
  cases cs with
  | l xs => simp only [Cs.at]; exact List.getElem?_eq_none h
  | b n c => exact if_neg (Nat.not_lt.2 h)
theorem Cs.lt_of_at {cs:Cs} {i:Nat} {v:V} (h:cs.at i=some v):i<cs.len := by
  rcases Nat.lt_or_ge i cs.len with h' | h'
  · exact h'
  · rw [Cs.at_none h'] at h; exact absurd h (by simp)
def Gt (cs:Cs) (i:Nat) (κ:V->R):R :=
  @Cs.rec (fun _ => R) (fun xs => BK i xs κ) (fun n c => br (Nat.ble (Nat.succ i) n) (Ac (lo (sh c i) 1) fun r => κ (.int .u8 r)) (.fail "")) cs
theorem Ww (c i:Nat):lo (sh c i) 1=c / 256 ^ i % 256 := by rw [FH, HF]
theorem Ih {cs:Cs} {i:Nat} {κ:V->R} (h:(Gt cs i κ).good):∃ v, cs.at i=some v∧Gt cs i κ=κ v := by
  cases cs with
  | l xs => exact Dy h
  | b n c =>
    obtain ⟨h1, h2⟩ := Ad (show R.good (br (Nat.ble (Nat.succ i) n) _ (.fail _)) from h)
    refine ⟨.int .u8 (c / 256 ^ i % 256), ?_, ?_⟩
    · exact if_pos (show i<n from A9.1 h1)
    · show br (Nat.ble (Nat.succ i) n) _ _=_
      rw [h2, Aa, Ww]
theorem FU (d i m:Nat) (hi:i<m):d % 256 ^ m / 256 ^ i % 256=d / 256 ^ i % 256 := by
  have hm:256 ^ m=256 ^ i*(256*256 ^ (m - i - 1)) := by
    rw [←Nat.pow_succ', ←Nat.pow_add]; congr 1; omega
  rw [hm, Nat.mod_mul_right_div_self, Nat.mod_mul_right_mod]
def AJ (cs:Cs) (off m:Nat) (κ:Cs->R):R :=
  @Cs.rec (fun _ => R) (fun xs => CN off xs fun ys => BZ m ys fun zs => κ (.l zs))
    (fun n c => br (Nat.ble (Nat.add off m) n) (Ac (lo (sh c off) m) fun r => κ (.b m r)) (.fail "")) cs
theorem BT {cs:Cs} {off m:Nat} {κ:Cs->R} (h:(AJ cs off m κ).good) :
    off+m≤cs.len ∧ ∃ y:Cs, y.len=m∧(∀ i, i<m->y.at i=cs.at (off+i))∧AJ cs off m κ=κ y := by
  cases cs with
  | l xs =>
    obtain ⟨h1, e1⟩ := Fm (h:(CN off xs _).good)
    have h':(BZ m (xs.drop off) fun zs => κ (.l zs)).good := by rw [←e1]; exact h
    obtain ⟨h2, e2⟩ := Fq h'
    simp only [List.length_drop] at h2
    refine ⟨by simp only [Cs.len]; omega, .l ((xs.drop off).take m), by simp [Cs.len]; omega, fun i hi => ?_, e1.trans e2⟩
    simp [Cs.at, hi]
  | b n c =>
    obtain ⟨h1, h2⟩ := Ad (show R.good (br (Nat.ble (Nat.add off m) n) _ (.fail _)) from h)
    have h1:off+m≤n := A9.1 h1
    refine ⟨h1, .b m (c / 256 ^ off % 256 ^ m), rfl, fun i hi => ?_, ?_⟩
    · simp only [Cs.at]
      rw [if_pos hi, if_pos (by omega)]
      congr 2
      rw [Nat.pow_add, ←Nat.div_div_eq_div_mul]
      generalize c / 256 ^ off=d
      exact (FU d i m hi)
    · show br (Nat.ble (Nat.add off m) n) _ _=_
      rw [h2, Aa, FH, HF]
end Go.Ev

namespace Go.Ev
set_option linter.unusedVariables false
theorem Cs.b_pos {n c i:Nat} (h:i<n):(Cs.b n c).at i=some (.int .u8 (c / 256 ^ i % 256)) := if_pos h
theorem Cs.b_neg {n c i:Nat} (h:¬ i<n):(Cs.b n c).at i=none := if_neg h
def OJ (v:V) (κ:Nat->R) (e:R):R :=
  @V.rec (fun _ => R) (fun _ => Unit) (fun k r => br (AQ k .u8) (br (Nat.ble r 255) (κ r) e) e) (fun _ => e) (fun _ _ => e) (fun _ _ _ _ _ _ => e) (fun _ _ => e) (fun _ _ => e) (fun _ => e) (fun _ => e) (fun _ _ _ => e) (fun _ _ => e) (fun _ => e) () (fun _ _ _ _ => ()) v
theorem Xf (v:V) (κ:Nat->R) (e:R):OJ v κ e=e ∨ ∃ r, v = .int .u8 r∧r<256∧OJ v κ e=κ r := by
  cases v with
  | int k r =>
    by_cases hk:AQ k .u8=true
    · have := Am.1 hk
      subst this
      by_cases hr:Nat.ble r 255=true
      · refine .inr ⟨r, rfl, by have := A9.1 hr; omega, ?_⟩
        show br (AQ .u8 .u8) (br (Nat.ble r 255) (κ r) e) e=_
        rw [hk, hr]; rfl
      · refine .inl ?_
        show br (AQ .u8 .u8) (br (Nat.ble r 255) (κ r) e) e=_
        rw [hk, Bool.eq_false_iff.2 hr]; rfl
    · refine .inl ?_
      show br (AQ k .u8) (br (Nat.ble r 255) (κ r) e) e=_
      rw [Bool.eq_false_iff.2 hk]; rfl
  | _ => exact .inl rfl
def CO (xs:List V):(Nat->Nat->R)->R->R :=
  @List.rec V (fun _ => (Nat->Nat->R)->R->R) (fun κ _ => κ 0 0)
    (fun x _ ih κ e => OJ x (fun r => ih (fun n c => Ac (Nat.succ n) fun n => Ac (Nat.add r (Nat.mul 256 c)) fun c => κ n c) e) e) xs
theorem LB (xs:List V):∀ (κ:Nat->Nat->R) (e:R), CO xs κ e=e ∨ ∃ n c, CO xs κ e=κ n c∧(Cs.b n c).len=xs.length∧(∀ i, (Cs.b n c).at i=xs[i]?)∧c<256 ^ n := by
  induction xs with
  | nil => exact fun κ e => .inr ⟨0, 0, rfl, rfl, fun i => by simp [Cs.at], by simp⟩
  | cons x xs ih =>
    intro κ e
    rcases Xf x (fun r => CO xs (fun n c => Ac (Nat.succ n) fun n => Ac (Nat.add r (Nat.mul 256 c)) fun c => κ n c) e) e with h | ⟨r, rfl, hr, h⟩
    · exact .inl h
    · rcases ih (fun n c => Ac (Nat.succ n) fun n => Ac (Nat.add r (Nat.mul 256 c)) fun c => κ n c) e with h' | ⟨n, c, h', hl, hc, hlt⟩
      · exact .inl (h.trans h')
      · refine .inr ⟨n+1, r+256*c, ?_, ?_, fun i => ?_, by rw [Nat.pow_succ]; omega⟩
        · refine (h.trans h').trans ?_
          rw [Aa, Aa]; rfl
        · simp only [Cs.len] at hl ⊢; simp [hl]
        · cases i with
          | zero =>
            simp only [Cs.at, List.getElem?_cons_zero]
            rw [if_pos (by omega)]
            congr 2
            simp; omega
          | succ i =>
            rw [List.getElem?_cons_succ, ←hc i]
            simp only [Cs.at]
            by_cases hi:i<n
            · rw [if_pos (by omega), if_pos hi]
              congr 2
              rw [Nat.pow_succ, Nat.mul_comm (256 ^ i) 256, ←Nat.div_div_eq_div_mul]
              congr 2
              omega
            · rw [if_neg (by omega), if_neg hi]
def F1 (n:Nat):Nat->(List V->R)->R :=
  @Nat.rec (fun _ => Nat->(List V->R)->R) (fun _ κ => κ [])
    (fun _ ih c κ => Ac (lo c 1) fun r => Ac (sh c 1) fun d => ih d fun zs => κ (.int .u8 r::zs)) n
theorem Lu (n:Nat):∀ (c:Nat) (κ:List V->R), ∃ zs, F1 n c κ=κ zs∧zs.length=n ∧ ∀ i, zs[i]? = (Cs.b n c).at i := by
  induction n with
  | zero => exact fun c κ => ⟨[], rfl, rfl, fun i => by simp [Cs.at]⟩
  | succ n ih =>
    intro c κ
    obtain ⟨zs, h1, h2, h3⟩ := ih (sh c 1) (fun zs => κ (.int .u8 (lo c 1)::zs))
    refine ⟨.int .u8 (lo c 1)::zs, ?_, by simp [h2], fun i => ?_⟩
    · refine Eq.trans ?_ h1
      exact (Aa (lo c 1) (fun r => Ac (sh c 1) fun d => F1 n d fun zs => κ (.int .u8 r::zs))).trans (Aa (sh c 1) _)
    · cases i with
      | zero => simp [Cs.at, FH]
      | succ i =>
        rw [List.getElem?_cons_succ, h3]
        simp only [Cs.at, HF]
        by_cases hi:i<n
        · rw [if_pos hi, if_pos (show i+1<n+1 by omega), Nat.div_div_eq_div_mul, ←Nat.pow_add, Nat.add_comm 1 i]
        · rw [if_neg hi, if_neg (show ¬ i+1<n+1 by omega)]
def DJ (cs:Cs) (κ:List V->R):R := @Cs.rec (fun _ => R) (fun xs => κ xs) (fun n c => F1 n c κ) cs
theorem GB (cs:Cs) (κ:List V->R):∃ zs, DJ cs κ=κ zs∧zs.length=cs.len ∧ ∀ i, zs[i]? = cs.at i := by
  cases cs with
  | l xs => exact ⟨xs, rfl, rfl, fun _ => rfl⟩
  | b n c => exact Lu n c κ
def Aan (cs:Cs) (κ:Nat->R):R := @Cs.rec (fun _ => R) (fun xs => FM xs κ) (fun n _ => κ n) cs
theorem Yu (cs:Cs) (κ:Nat->R):Aan cs κ=κ cs.len := by
  cases cs with
  | l xs => exact C1 xs κ
  | b n c => rfl
def Po (n c off m d:Nat) (κ:Cs->R):R :=
  br (Nat.ble (Nat.add off m) n) (Ac (Nat.add (lo c off) (up (Nat.add (lo d m) (up (sh c (Nat.add off m)) m)) off)) fun r => κ (.b n r)) (.fail "")
def MD (cs:Cs) (off:Nat) (y:Cs) (κ:Cs->R):R :=
  @Cs.rec (fun _ => R)
    (fun xs => DJ y fun ys => BZ off xs fun a => FM ys fun m => Ac (Nat.add off m) fun j => CN j xs fun b => DS ys b fun t => DS a t fun zs => κ (.l zs))
    (fun n c => @Cs.rec (fun _ => R) (fun ys => CO ys (fun m d => Po n c off m d κ) (.fail "")) (fun m d => Po n c off m d κ) y) cs
def QC (cs:Cs) (off:Nat) (y z:Cs):Prop :=
  off+y.len≤cs.len∧z.len=cs.len∧(∀ i, i<off->z.at i=cs.at i)∧(∀ i, i<y.len->z.at (off+i)=y.at i)∧(∀ i, off+y.len≤i->z.at i=cs.at i)
theorem Mi (a b j i:Nat) (hi:i<j):(a % 256 ^ j+256 ^ j*b) / 256 ^ i % 256=a / 256 ^ i % 256 := by
  have h:(a % 256 ^ j+256 ^ j*b) % 256 ^ j=a % 256 ^ j := by rw [Nat.add_mul_mod_self_left, Nat.mod_mod]
  rw [←FU _ i j hi, h, FU _ i j hi]
theorem I3 (a b j i:Nat):(a % 256 ^ j+256 ^ j*b) / 256 ^ (j+i) % 256=b / 256 ^ i % 256 := by
  have hp:0<256 ^ j := Nat.pow_pos (by omega)
  rw [Nat.pow_add, ←Nat.div_div_eq_div_mul, Nat.add_mul_div_left _ _ hp, Nat.div_eq_of_lt (Nat.mod_lt _ hp), Nat.zero_add]
theorem NN {n c off m d:Nat} {κ:Cs->R} (h:(Po n c off m d κ).good):∃ z, QC (.b n c) off (.b m d) z∧Po n c off m d κ=κ z := by
  obtain ⟨h1, h2⟩ := Ad (show R.good (br (Nat.ble (Nat.add off m) n) _ (.fail _)) from h)
  have h1:off+m≤n := A9.1 h1
  refine ⟨.b n (c % 256 ^ off+256 ^ off*(d % 256 ^ m+256 ^ m*(c / 256 ^ (off+m)))), ⟨h1, rfl, fun i hi => ?_, fun i hi => ?_, fun i hi => ?_⟩, ?_⟩
  · simp only [Cs.at]
    rw [Mi _ _ _ _ hi]
  · simp only [Cs.len] at hi
    simp only [Cs.at]
    rw [if_pos (by omega), if_pos hi, I3, Mi _ _ _ _ hi]
  · simp only [Cs.len] at hi
    simp only [Cs.at]
    obtain ⟨e, rfl⟩:∃ e, i=off+(m+e) := ⟨i - off - m, by omega⟩
    rw [I3, I3, Nat.div_div_eq_div_mul, ←Nat.pow_add, Nat.add_assoc]
  · show br (Nat.ble (Nat.add off m) n) _ _=_
    rw [h2, Aa]
    simp only [FH, Tm, HF]
    rfl
theorem Ue {cs:Cs} {off:Nat} {y:Cs} {κ:Cs->R} (h:(MD cs off y κ).good):∃ z, QC cs off y z∧MD cs off y κ=κ z := by
  cases cs with
  | l xs =>
    obtain ⟨ys, e0, hyl, hya⟩ := GB y (fun ys => BZ off xs fun a => FM ys fun m => Ac (Nat.add off m) fun j => CN j xs fun b => DS ys b fun t => DS a t fun zs => κ (.l zs))
    have e0:MD (.l xs) off y κ=_ := e0
    rw [e0] at h
    obtain ⟨h1, e1⟩ := Fq h
    rw [e1, C1, Aa] at h
    obtain ⟨h2, e2⟩ := Fm h
    simp only [Nat.add_eq] at h2
    have hlen:ys.length=y.len := hyl
    refine ⟨.l (xs.take off++(ys++xs.drop (off+ys.length))), ⟨?_, ?_, fun i hi => ?_, fun i hi => ?_, fun i hi => ?_⟩, ?_⟩
    · show off+y.len≤xs.length
      omega
    · show (xs.take off++(ys++xs.drop (off+ys.length))).length=xs.length
      simp only [List.length_append, List.length_take, List.length_drop]; omega
    · simp only [Cs.at]
      rw [List.getElem?_append_left (by rw [List.length_take]; omega), List.getElem?_take, if_pos hi]
    · simp only [Cs.at]
      rw [List.getElem?_append_right (by rw [List.length_take]; omega), List.length_take, Nat.min_eq_left h1, Nat.add_sub_cancel_left,
        List.getElem?_append_left (by omega)]
      exact hya i
    · simp only [Cs.at]
      rw [List.getElem?_append_right (by rw [List.length_take]; omega), List.length_take, Nat.min_eq_left h1,
        List.getElem?_append_right (by omega), List.getElem?_drop]
      congr 1; omega
    · rw [e0, e1, C1, Aa, e2, Cp, Cp]; rfl
  | b n c =>
    cases y with
    | l ys =>
      rcases LB ys (fun m d => Po n c off m d κ) (.fail "") with e | ⟨m, d, e, hl, ha, _⟩
      · have e:MD (.b n c) off (.l ys) κ=_ := e
        rw [e] at h; exact h.elim
      · have e:MD (.b n c) off (.l ys) κ=_ := e
        rw [e] at h
        obtain ⟨z, ⟨g1, g2, g3, g4, g5⟩, e'⟩ := NN h
        refine ⟨z, ⟨?_, g2, g3, fun i hi => ?_, fun i hi => g5 i ?_⟩, e.trans e'⟩
        · rw [hl] at g1; exact g1
        · rw [g4 i (by rw [hl]; exact hi)]; exact ha i
        · rw [hl]; exact hi
    | b m d => exact NN h
def Vo (n c m d:Nat) (κ:Cs->R):R :=
  Ac (Nat.add n m) fun l => Ac (Nat.add (lo c n) (up d n)) fun r => κ (.b l r)
def QT (x y:Cs) (κ:Cs->R):R :=
  @Cs.rec (fun _ => R) (fun xs => DJ y fun ys => DS xs ys fun zs => κ (.l zs))
    (fun n c => @Cs.rec (fun _ => R) (fun ys => CO ys (fun m d => Vo n c m d κ) (F1 n c fun xs => DS xs ys fun zs => κ (.l zs))) (fun m d => Vo n c m d κ) y) x
def TH (x y z:Cs):Prop := z.len=x.len+y.len∧(∀ i, i<x.len->z.at i=x.at i)∧(∀ i, z.at (x.len+i)=y.at i)
theorem Ads (xs ys:List V) (x y:Cs) (hx:xs.length=x.len) (hxa:∀ i, xs[i]? = x.at i) (hy:ys.length=y.len) (hya:∀ i, ys[i]? = y.at i):TH x y (.l (xs++ys)) := by
  refine ⟨by simp [Cs.len, hx, hy], fun i hi => ?_, fun i => ?_⟩
  · simp only [Cs.at]; rw [List.getElem?_append_left (by omega)]; exact hxa i
  · simp only [Cs.at]; rw [List.getElem?_append_right (by omega), hx, Nat.add_sub_cancel_left]; exact hya i
theorem Sy (n c m d:Nat) (κ:Cs->R):∃ z, TH (.b n c) (.b m d) z∧Vo n c m d κ=κ z := by
  refine ⟨.b (n+m) (c % 256 ^ n+256 ^ n*d), ⟨rfl, fun i hi => ?_, fun i => ?_⟩, ?_⟩
  · simp only [Cs.len] at hi
    simp only [Cs.at]
    rw [if_pos (by omega), if_pos hi, Mi _ _ _ _ hi]
  · show (Cs.b (n+m) _).at (n+i)=(Cs.b m d).at i
    by_cases hi:i<m
    · rw [Cs.b_pos (by omega), Cs.b_pos hi, I3]
    · rw [Cs.b_neg (by omega), Cs.b_neg hi]
  · simp only [Vo, Aa, FH, Tm]; rfl
theorem Xz (x y:Cs) (κ:Cs->R):∃ z, TH x y z∧QT x y κ=κ z := by
  cases x with
  | l xs =>
    obtain ⟨ys, e0, hyl, hya⟩ := GB y (fun ys => DS xs ys fun zs => κ (.l zs))
    exact ⟨_, Ads xs ys (.l xs) y rfl (fun _ => rfl) hyl hya, e0.trans (Cp _ _ _)⟩
  | b n c =>
    cases y with
    | l ys =>
      rcases LB ys (fun m d => Vo n c m d κ) (F1 n c fun xs => DS xs ys fun zs => κ (.l zs)) with e | ⟨m, d, e, hl, ha, _⟩
      · obtain ⟨xs, e1, h2, h3⟩ := Lu n c (fun xs => DS xs ys fun zs => κ (.l zs))
        exact ⟨_, Ads xs ys (.b n c) (.l ys) h2 h3 rfl (fun _ => rfl), (e.trans e1).trans (Cp _ _ _)⟩
      · obtain ⟨z, ⟨g1, g2, g3⟩, e'⟩ := Sy n c m d κ
        refine ⟨z, ⟨by rw [g1, hl]; rfl, g2, fun i => (g3 i).trans (ha i)⟩, e.trans e'⟩
    | b m d => exact Sy n c m d κ
def Adc (m:Nat):List V->(List V->R)->R :=
  @Nat.rec (fun _ => List V->(List V->R)->R) (fun _ κ => κ []) (fun _ ih z κ => ih z fun zs => DS z zs κ) m
theorem XN (m:Nat) (z:List V) (κ:List V->R):∃ zs, Adc m z κ=κ zs∧zs.length=m*z.length ∧ ∀ i, i<m*z.length->zs[i]? = z[i % z.length]? := by
  induction m generalizing κ with
  | zero => exact ⟨[], rfl, by simp, fun i hi => by simp at hi⟩
  | succ m ih =>
    obtain ⟨zs, h1, h2, h3⟩ := ih (fun zs => DS z zs κ)
    refine ⟨z++zs, h1.trans (Cp _ _ _), by rw [List.length_append, h2, Nat.succ_mul]; omega, fun i hi => ?_⟩
    by_cases hz:i<z.length
    · rw [List.getElem?_append_left hz, Nat.mod_eq_of_lt hz]
    · rw [List.getElem?_append_right (by omega), h3 _ (by rw [Nat.succ_mul] at hi; omega)]
      congr 1
      rw [←Nat.mod_eq_sub_mod (by omega)]
def Fy (u8:Bool) (z:List V) (m:Nat) (κ:Cs->R):R :=
  br u8 (κ (.b m 0)) (Adc m z fun zs => κ (.l zs))
theorem I1 (u8:Bool) (z:List V) (m:Nat) (κ:Cs->R) (hu:u8=true->z=[.int .u8 0]) :
    ∃ y:Cs, Fy u8 z m κ=κ y∧y.len=m*z.length ∧ ∀ i, i<m*z.length->y.at i=z[i % z.length]? := by
  cases u8 with
  | true =>
    rw [hu rfl]
    refine ⟨.b m 0, rfl, by simp [Cs.len], fun i hi => ?_⟩
    simp only [Cs.at]
    rw [if_pos (by simpa using hi)]
    simp [Nat.mod_one]
  | false =>
    obtain ⟨zs, h1, h2, h3⟩ := XN m z (fun zs => κ (.l zs))
    exact ⟨.l zs, h1, h2, h3⟩
end Go.Ev

namespace Go.Ev
set_option linter.unusedVariables false
inductive Opd where
  | t (p:K2)
  | c (v:V)
/-- Scalars: integers, strings, bools. -/
inductive Sc where
  | i
  | s
  | b
/-- How two values are held against each other: scalars; structs of scalars at these offsets; references. -/
inductive Plan where
  | sc (k:Sc)
  | st (fs:List (Nat×Sc))
  | ks (l:List Sc)
  | rf (w:Nl)
structure Part where
  off:Nat
  size:Nat
  x:Opd
def CR (o:Opd) (t:Regs) (κ:V->R):R := @Opd.rec (fun _ => R) (fun p => Iw p t κ) (fun v => κ v) o
def ev (o:Opd) (t:Regs):V := match o with | .t p => B3 p t | .c v => v
theorem Ap (o:Opd) (t:Regs) (κ:V->R):CR o t κ=κ (ev o t) := by
  cases o with
  | t p => exact Cw p t κ
  | c v => rfl
def QN (l:List Opd) (t:Regs):(List V->R)->R :=
  @List.rec Opd (fun _ => (List V->R)->R) (fun κ => κ []) (fun o _ ih κ => CR o t fun v => ih fun vs => κ (v::vs)) l
theorem G8 (l:List Opd) (t:Regs) (κ:List V->R):QN l t κ=κ (l.map (ev · t)) := by
  induction l generalizing κ with
  | nil => rfl
  | cons o l ih =>
    show CR o t _=_
    rw [Ap]
    exact ih _
inductive AK where
  | mv (x:Opd)
  | pick (c a b:Opd)
  | alc (cs:Cs)
  | box (x:Opd)
  | build (zero:List V) (parts:List Part)
  | bslice (u8:Bool) (len esz:Nat) (zero:List V) (parts:List Part)
  | ld (x:Opd)
  | ldn (m:Nat) (x:Opd)
  | st (m:Nat) (a x:Opd)
  | nilck (x:Opd)
  | bin (op:BinOp) (x y:Opd)
  | eq (neg:Bool) (pl:Plan) (x y:Opd)
  | not (x:Opd)
  | neg (x:Opd)
  | com (x:Opd)
  | cvi (k:IntKind) (x:Opd)
  | b2s (x:Opd)
  | s2b (x:Opd)
  | idn (x:Opd)
  | bsl (x:Opd)
  | mkfn (f:Nat) (caps:List Opd)
  | mkmap 
  | mksl (eb:Nat) (u8:Bool) (zero:List V) (l c:Opd)
  | slS (x:Opd) (lo hi:Option Opd)
  | slL (esz:Nat) (x:Opd) (lo hi:Option Opd)
  | slA (m esz:Nat) (x:Opd) (lo hi:Option Opd)
  | fad (off:Nat) (x:Opd)
  | fld (off size:Nat) (ag:Bool) (x:Opd)
  | ixS (esz:Nat) (x i:Opd)
  | ixA (m esz:Nat) (x i:Opd)
  | idS (x i:Opd)
  | idA (m esz:Nat) (ag:Bool) (x i:Opd)
  | lk (pl:Plan) (zero:V) (ok:Bool) (m k:Opd)
  | mu (pl:Plan) (m k v:Opd)
  | del (pl:Plan) (m k:Opd)
  | ext (i:Nat) (x:Opd)
  | call (f:Nat) (args:List Opd)
  | calld (x:Opd) (args:List Opd)
  | lnS (x:Opd)
  | lnL (x:Opd)
  | lnM (x:Opd)
  | min (x y:Opd)
  | max (x y:Opd)
  | app (esz eb:Nat) (x y:Opd)
  | appz (esz eb:Nat) (u8:Bool) (zero:List V) (x c:Opd)
  | cpy (esz:Nat) (x y:Opd)
  | max3 (x y z:Opd)
  | cpL (x:Opd)
  | clr (u8:Bool) (zero:List V) (x:Opd)
  | bad (why:String)
def Y0 (k:IntKind) (a:Nat) (j:IntKind) (b:Nat) (κ:V->R):R := br (AQ k j) (Ac (Nat.mod (Nat.add a b) (Mk k)) fun r => κ (.int k r)) (.fail "")
def P2 (k:IntKind) (a:Nat) (j:IntKind) (b:Nat) (κ:V->R):R := br (AQ k j) (Ac (Nat.mod (Nat.add a (Nat.sub (Mk k) b)) (Mk k)) fun r => κ (.int k r)) (.fail "")
def XX (k:IntKind) (a:Nat) (j:IntKind) (b:Nat) (κ:V->R):R := br (AQ k j) (Ac (Nat.mod (Nat.mul a b) (Mk k)) fun r => κ (.int k r)) (.fail "")
/-- Both are not negative. -/
def OY (k:IntKind) (a:Nat) (j:IntKind) (b:Nat) (κ:R):R :=
  br (AQ k j) (br (Nat.ble (Nat.succ a) (Hk k)) (br (Nat.ble (Nat.succ b) (Hk k)) κ (.fail "")) (.fail "")) (.fail "")
def Ud (k:IntKind) (a:Nat) (j:IntKind) (b:Nat) (κ:V->R):R := OY k a j b (br (Nat.ble 1 b) (Ac (Nat.div a b) fun r => κ (.int k r)) (.fail ""))
def Te (k:IntKind) (a:Nat) (j:IntKind) (b:Nat) (κ:V->R):R := OY k a j b (br (Nat.ble 1 b) (Ac (Nat.mod a b) fun r => κ (.int k r)) (.fail ""))
def Om (k:IntKind) (a:Nat) (j:IntKind) (b:Nat) (κ:V->R):R :=
  br (AQ k j) (br (Nat.ble (Nat.succ b) (Hk k)) (br (Nat.ble 1 b) (Ac (@Bool.rec (fun _ => Nat) (Nat.sub (Mk k) (Nat.mod (Nat.sub (Mk k) a) b)) 0 (Nat.beq (Nat.mod (Nat.sub (Mk k) a) b) 0)) fun r => κ (.int k r)) (.fail "")) (.fail "")) (.fail "")
def MA (k:IntKind) (a:Nat) (j:IntKind) (b:Nat) (κ:V->R):R := br (Nat.ble (Nat.succ a) (Hk k)) (Te k a j b κ) (Om k a j b κ)
def WD (k:IntKind) (a:Nat) (j:IntKind) (b:Nat) (κ:V->R):R := br (AQ k j) (Ac (Nat.land a b) fun r => κ (.int k r)) (.fail "")
def ior (k:IntKind) (a:Nat) (j:IntKind) (b:Nat) (κ:V->R):R := br (AQ k j) (Ac (Nat.lor a b) fun r => κ (.int k r)) (.fail "")
def W2 (k:IntKind) (a:Nat) (j:IntKind) (b:Nat) (κ:V->R):R := br (AQ k j) (Ac (Nat.xor a b) fun r => κ (.int k r)) (.fail "")
def QP (k:IntKind) (a:Nat) (j:IntKind) (b:Nat) (κ:V->R):R := br (AQ k j) (Ac (Nat.land a (Nat.sub (Nat.sub (Mk k) 1) b)) fun r => κ (.int k r)) (.fail "")
def W9 (k:IntKind) (a:Nat) (j:IntKind) (b:Nat) (κ:V->R):R :=
  br (Nat.ble (Nat.succ b) (Hk j)) (br (Nat.ble b 64) (Ac (Nat.mod (Nat.shiftLeft a b) (Mk k)) fun r => κ (.int k r)) (κ (.int k 0))) (.fail "")
def UO (k:IntKind) (a:Nat) (j:IntKind) (b:Nat) (κ:V->R):R :=
  br (Nat.ble (Nat.succ b) (Hk j)) (br (Nat.ble (Nat.succ a) (Hk k)) (br (Nat.ble b 64) (Ac (Nat.shiftRight a b) fun r => κ (.int k r)) (κ (.int k 0))) (.fail "")) (.fail "")
def ieq (k:IntKind) (a:Nat) (j:IntKind) (b:Nat) (κ:V->R):R := br (AQ k j) (Bv (Nat.beq a b) fun r => κ (.bool r)) (.fail "")
def ine (k:IntKind) (a:Nat) (j:IntKind) (b:Nat) (κ:V->R):R := br (AQ k j) (br (Nat.beq a b) (κ (.bool false)) (κ (.bool true))) (.fail "")
def ilt (k:IntKind) (a:Nat) (j:IntKind) (b:Nat) (κ:V->R):R := br (AQ k j) (Bv (DY k a b) fun r => κ (.bool r)) (.fail "")
def igt (k:IntKind) (a:Nat) (j:IntKind) (b:Nat) (κ:V->R):R := br (AQ k j) (Bv (DY k b a) fun r => κ (.bool r)) (.fail "")
def ile (k:IntKind) (a:Nat) (j:IntKind) (b:Nat) (κ:V->R):R := br (AQ k j) (br (DY k b a) (κ (.bool false)) (κ (.bool true))) (.fail "")
def ige (k:IntKind) (a:Nat) (j:IntKind) (b:Nat) (κ:V->R):R := br (AQ k j) (br (DY k a b) (κ (.bool false)) (κ (.bool true))) (.fail "")
def My (op:BinOp):IntKind->Nat->IntKind->Nat->(V->R)->R :=
  @BinOp.rec (fun _ => IntKind->Nat->IntKind->Nat->(V->R)->R) Y0 P2 XX Ud MA WD ior W2 W9 UO QP ieq ine ilt ile igt ige op
def Aae (n c m d:Nat) (κ:V->R):R :=
  Ac (Nat.add n m) fun l => br (Nat.ble l 1000000000) (Ac (Nat.add c (up d n)) fun r => κ (.str l r)) (.fail "")
def Dl (n c m d:Nat):Bool := and (Nat.beq n m) (Nat.beq c d)
/-- Is the first of two texts the lesser, by its bytes? -/
def RK (n:Nat):Nat->Nat->Nat->Bool :=
  @Nat.rec (fun _ => Nat->Nat->Nat->Bool) (fun _ m _ => Nat.ble 1 m)
    (fun _ ih c m d => @Nat.rec (fun _ => Bool) false (fun m _ => br (Nat.beq (lo c 1) (lo d 1)) (ih (sh c 1) m (sh d 1)) (Nat.ble (Nat.succ (lo c 1)) (lo d 1))) m) n
def MN (n c m d:Nat) (κ:V->R):R := .fail ""
def Aag (n c m d:Nat) (κ:V->R):R := Bv (Dl n c m d) fun r => κ (.bool r)
def sne (n c m d:Nat) (κ:V->R):R := br (Dl n c m d) (κ (.bool false)) (κ (.bool true))
def slt (n c m d:Nat) (κ:V->R):R := Bv (RK n c m d) fun r => κ (.bool r)
def sgt (n c m d:Nat) (κ:V->R):R := .fail ""
def sle (n c m d:Nat) (κ:V->R):R := .fail ""
def sge (n c m d:Nat) (κ:V->R):R := br (RK n c m d) (κ (.bool false)) (κ (.bool true))
def KZ (op:BinOp):Nat->Nat->Nat->Nat->(V->R)->R :=
  @BinOp.rec (fun _ => Nat->Nat->Nat->Nat->(V->R)->R) Aae MN MN MN MN MN MN MN MN MN MN Aag sne slt sle sgt sge op
def K8 (v:V) (κ:IntKind->Nat->Nat->R):R :=
  @V.rec (fun _ => R) (fun _ => Unit) (fun k r => κ k r r) (AH "") (As "") (DB "") (As "") (As "") (AH "") (AH "") (By "") (As "") (fun o => @Ot.rec (fun _ => R) (.fail "") (fun _ => (.fail "")) (fun _ => (.fail "")) (.fail "") (fun k lo hi => κ k lo hi) (fun _ _ => (.fail "")) (.fail "") (fun m _ => br (Nat.ble 18446744073709551616 m) (br (Nat.ble (Nat.succ m) 36893488147419103232) (κ .i64 0 9223372036854775807) (.fail "")) (.fail "")) (fun _ _ _ _ => (.fail "")) (fun _ _ _ _ => (.fail "")) (fun _ _ _ => (.fail "")) (fun k _ => κ k 0 (Nat.sub (Mk k) 1)) (fun _ _ => (.fail "")) (fun _ _ _ => (.fail "")) (fun _ => (.fail "")) o) () (fun _ _ _ _ => ()) v
def AS (H M r:Nat):Nat := br (Nat.ble H r) (Nat.sub r H) (Nat.add r (Nat.sub M H))
def Cq (H lo hi:Nat):Bool := br (Nat.ble (Nat.succ hi) H) true (Nat.ble H lo)
def XS (a b c d:Nat) (κ:V->R):R := br (Nat.ble (Nat.succ b) c) (κ (.bool true)) (br (Nat.ble d a) (κ (.bool false)) (κ (.oth .bl)))
def Y7 (a b c d:Nat) (κ:V->R):R := br (Nat.ble (Nat.succ b) c) (κ (.bool false)) (br (Nat.ble d a) (κ (.bool true)) (κ (.oth .bl)))
def Oa (a b c d:Nat):Bool := br (Nat.beq a b) (br (Nat.beq b c) (Nat.beq c d) false) false
def ZN (a b c d:Nat) (κ:V->R):R := br (Nat.ble (Nat.succ b) c) (κ (.bool false)) (br (Nat.ble (Nat.succ d) a) (κ (.bool false)) (br (Oa a b c d) (κ (.bool true)) (κ (.oth .bl))))
def ZU (a b c d:Nat) (κ:V->R):R := br (Nat.ble (Nat.succ b) c) (κ (.bool true)) (br (Nat.ble (Nat.succ d) a) (κ (.bool true)) (br (Oa a b c d) (κ (.bool false)) (κ (.oth .bl))))
def HU (a b c d:Nat) (κ:V->R):R := .fail ""
def Adh (op:BinOp):Nat->Nat->Nat->Nat->(V->R)->R :=
  @BinOp.rec (fun _ => Nat->Nat->Nat->Nat->(V->R)->R) HU HU HU HU HU HU HU HU HU HU HU ZN ZU XS (fun a b c d κ => Y7 c d a b κ) (fun a b c d κ => XS c d a b κ) Y7 op
def Iu (op:BinOp) (κ:V->R):R :=
  @BinOp.rec (fun _ => R) (.fail "") (.fail "") (.fail "") (.fail "") (.fail "") (.fail "") (.fail "") (.fail "") (.fail "") (.fail "") (.fail "") (κ (.oth .bl)) (κ (.oth .bl)) (κ (.oth .bl)) (κ (.oth .bl)) (κ (.oth .bl)) (κ (.oth .bl)) op
/-- Alike or not, where the bounds are apart. -/
def Yb (op:BinOp) (κ:V->R) (e:R):R := @BinOp.rec (fun _ => R) e e e e e e e e e e e (κ (.bool false)) (κ (.bool true)) e e e e op
def Wk (op:BinOp) (a b c d:Nat) (κ:V->R):R := br (br (Nat.ble (Nat.succ b) c) true (Nat.ble (Nat.succ d) a)) (Yb op κ (Iu op κ)) (Iu op κ)
def Hf (op:BinOp) (x y:V) (κ:V->R):R :=
  K8 x fun k a b => K8 y fun j c d => br (AQ k j) (br (Cq (Hk k) a b) (br (Cq (Hk k) c d) (Adh op (AS (Hk k) (Mk k) a) (AS (Hk k) (Mk k) b) (AS (Hk k) (Mk k) c) (AS (Hk k) (Mk k) d) κ) (Wk op a b c d κ)) (Wk op a b c d κ)) (.fail "")
def Sr (x y:V) (κ:V->R):R :=
  K8 x fun k a b => K8 y fun j c d => br (AQ k j) (Ac (Nat.add a c) fun lo => Ac (Nat.add b d) fun hi => br (Nat.ble (Nat.succ hi) (Hk k)) (κ (.oth (.iv k lo hi))) (Ac (Nat.sub (Mk k) 1) fun m => κ (.oth (.iv k 0 m)))) (.fail "")
def Sg (x y:V) (κ:V->R):R :=
  K8 x fun k a b => K8 y fun j c d => br (AQ k j) (br (Nat.ble d a) (br (Nat.ble (Nat.succ b) (Hk k)) (Ac (Nat.sub a d) fun lo => Ac (Nat.sub b c) fun hi => κ (.oth (.iv k lo hi))) (.fail "")) (.fail "")) (.fail "")
/-- The remainder of an integer DI by bounds: below the divisor, or any. -/
def T5 (x y:V) (κ:V->R):R :=
  K8 x fun k a b => Ey y fun j d => br (AQ k .i64) (br (AQ j .i64) (br (Nat.ble 1 d) (br (Nat.ble (Nat.succ d) 9223372036854775808)
    (br (Nat.ble (Nat.succ b) 9223372036854775808) (Ac (Nat.sub d 1) fun e => κ (.oth (.iv .i64 0 e))) (κ (.oth (.iv .i64 0 18446744073709551615)))) (.fail "")) (.fail "")) (.fail "")) (.fail "")
def Gs (op:BinOp) (x y:V) (κ:V->R):R :=
  @BinOp.rec (fun _ => R) (Sr x y κ) (Sg x y κ) (Hf op x y κ) (Hf op x y κ) (T5 x y κ) (Hf op x y κ) (Hf op x y κ) (Hf op x y κ) (Hf op x y κ) (Hf op x y κ) (Hf op x y κ) (Hf op x y κ) (Hf op x y κ) (Hf op x y κ) (Hf op x y κ) (Hf op x y κ) (Hf op x y κ) op
def Xu (a b c d:Nat) (yes no:R):R := br (Nat.ble (Nat.succ b) c) yes (br (Nat.ble d a) no (.fail ""))
def mxV (u v:V) (κ:V->R):R :=
  K8 u fun k a b => K8 v fun j c d => br (AQ k j) (br (Cq (Hk k) a b) (br (Cq (Hk k) c d) (Xu (AS (Hk k) (Mk k) a) (AS (Hk k) (Mk k) b) (AS (Hk k) (Mk k) c) (AS (Hk k) (Mk k) d) (κ v) (κ u)) (.fail "")) (.fail "")) (.fail "")
def mnV (u v:V) (κ:V->R):R :=
  K8 u fun k a b => K8 v fun j c d => br (AQ k j) (br (Cq (Hk k) a b) (br (Cq (Hk k) c d) (Xu (AS (Hk k) (Mk k) c) (AS (Hk k) (Mk k) d) (AS (Hk k) (Mk k) a) (AS (Hk k) (Mk k) b) (κ v) (κ u)) (.fail "")) (.fail "")) (.fail "")
/-- .. of a negative one. -/
def YC (m j b:Nat) (κ:V->R):R := br (Nat.beq m (Nat.add 73786976294838206464 b)) (Ac (Nat.mod j 18446744073709551616) fun d => br (Nat.beq d (Nat.div j 18446744073709551616)) (br (Nat.ble 1 d) (Ac (Nat.sub 18446744073709551616 d) fun r => κ (.int .i64 r)) (.fail "")) (.fail "")) (.fail "")
/-- The remainder of an integer that is DI by it. -/
def SU (op:BinOp) (x y:V) (κ:V->R) (e:R):R :=
  @BinOp.rec (fun _ => R) e e e e (rsK x (fun m j => Ey y fun k b => br (AQ k .i64) (br (Nat.ble 1 b) (br (Nat.ble (Nat.succ b) 9223372036854775808) (br (Nat.beq m (Nat.add 18446744073709551616 b)) (κ (.int .i64 j)) (br (Nat.beq m b) (br (Nat.beq j 0) (κ (.int .i64 0)) (κ (.oth (.iv .i64 1 18446744073709551615)))) (YC m j b κ))) (.fail "")) (.fail "")) (.fail "")) e) e e e e e e e e e e e e op
def syK (v:V) (κ:IntKind->Nat->R) (e:R):R :=
  @V.rec (fun _ => R) (fun _ => Unit) (fun _ _ => e) (fun _ => e) (fun _ _ => e) (fun _ _ _ _ _ _ => e) (fun _ _ => e) (fun _ _ => e) (fun _ => e) (fun _ => e) (fun _ _ _ => e) (fun _ _ => e) (fun o => Aa1 o κ e) () (fun _ _ _ _ => ()) v
/-- Two symbols that are one. -/
def Lo (x y:V) (a e:R):R := syK x (fun k i => syK y (fun j i' => br (AQ k j) (br (Nat.beq i i') a e) e) e) e
def syX (op:BinOp) (x y:V) (κ:V->R) (e:R):R := @BinOp.rec (fun _ => R) e e e e e e e e e e e (Lo x y (κ (.bool true)) e) (Lo x y (κ (.bool false)) e) e e e e op
def L8 (op:BinOp) (x y:V) (κ:V->R):R := syX op x y κ (SU op x y κ (Gs op x y κ))
/-- A text that is not looked into held against one that is. -/
def SW (op:BinOp) (l0 l1 n c m d:Nat) (κ:V->R):R :=
  br (br (Nat.ble l0 m) (br (Nat.ble m l1) (br (Nat.beq m n) (Nat.beq d c) false) true) true)
    (@BinOp.rec (fun _ => R) (.fail "") (.fail "") (.fail "") (.fail "") (.fail "") (.fail "") (.fail "") (.fail "") (.fail "") (.fail "") (.fail "") (κ (.bool false)) (κ (.bool true)) (.fail "") (.fail "") (.fail "") (.fail "") op) (.fail "")
def Ca (op:BinOp) (x y:V) (κ:V->R):R := XF x (fun l0 l1 n c => AR y fun m d => SW op l0 l1 n c m d κ) (L8 op x y κ)
def Pc (op:BinOp) (x y:V) (κ:V->R):R :=
  @V.rec (fun _ => R) (fun _ => Unit) (fun k r => @V.rec (fun _ => R) (fun _ => Unit) (fun j b => My op k r j b κ) (AH "") (As "") (DB "") (As "") (As "") (AH "") (AH "") (By "") (As "") (fun _ => L8 op x y κ) () (fun _ _ _ _ => ()) y) (AH "") (As "") (DB "") (fun n c => AR y fun m d => KZ op n c m d κ) (As "") (AH "") (AH "") (By "") (As "") (fun _ => Ca op x y κ) () (fun _ _ _ _ => ()) x
def eqI (x y:V) (κ:Bool->R):R := Ey x fun k a => Ey y fun j b => br (AQ k j) (Bv (Nat.beq a b) κ) (.fail "")
def eqS (x y:V) (κ:Bool->R):R := AR x fun n c => AR y fun m d => Bv (Dl n c m d) κ
def eqB (x y:V) (κ:Bool->R):R := Ls x fun b => Ls y fun c => br b (br c (κ true) (κ false)) (br c (κ false) (κ true))
def MB (k:Sc):V->V->(Bool->R)->R := @Sc.rec (fun _ => V->V->(Bool->R)->R) eqI eqS eqB k
def Nl.ix (w:Nl):Nat := @Nl.rec (fun _ => Nat) 0 1 2 3 4 w
/-- A reference of that sort: nil, or another one. -/
def Hc (w:Nl) (v:V) (κn κo:R):R :=
  @V.rec (fun _ => R) (fun _ => Unit) (As "") (AH "") (fun p off => br (Nat.beq w.ix 0) κo (.fail "")) (fun p off len cap ex esz => br (Nat.beq w.ix 1) κo (.fail "")) (As "") (As "") (fun w' => br (Nat.beq w'.ix w.ix) κn (.fail "")) (fun p => br (Nat.beq w.ix 2) κo (.fail "")) (fun f caps _i => br (Nat.beq w.ix 3) κo (.fail "")) (As "") (fun o => br (Nat.beq w.ix 1) (Il o (fun _ _ => κo) (KX o (fun _ _ _ => κo) (.fail ""))) (.fail "")) () (fun _ _ _ _ => ()) v
def KY (w:Nl) (x y:V) (κ:Bool->R):R :=
  Hc w x (Hc w y (κ true) (κ false)) (Hc w y (κ false) (J7 x fun p o => J7 y fun q o' => br (K4.beq p q) (Bv (Nat.beq o o') κ) (.fail "")))
def Km (fs:List (Nat×Sc)) (x y:List V) (κ:Bool->R):R :=
  @List.rec (Nat×Sc) (fun _ => R) (κ true) (fun f _ ih => @Prod.rec Nat Sc (fun _ => R) (fun o k => BK o x fun u => BK o y fun v => MB k u v fun r => br r ih (κ false)) f) fs
/-- Structs that are scalars throughout, cell by cell. -/
def PZ (ks:List Sc):List V->List V->(Bool->R)->R :=
  @List.rec Sc (fun _ => List V->List V->(Bool->R)->R)
    (fun a b κ => @List.rec V (fun _ => R) (@List.rec V (fun _ => R) (κ true) (By "") b) (By "") a)
    (fun k _ ih a b κ => @List.rec V (fun _ => R) (.fail "") (fun u a _ => @List.rec V (fun _ => R) (.fail "") (fun v b _ => MB k u v fun r => br r (ih a b κ) (κ false)) b) a) ks
def K0 (pl:Plan) (x y:V) (κ:Bool->R):R :=
  @Plan.rec (fun _ => R) (fun k => MB k x y κ) (fun fs => asAgg x fun a => asAgg y fun b => Km fs a b κ) (fun l => asAgg x fun a => asAgg y fun b => PZ l a b κ) (fun w => KY w x y κ) pl
def QG (ks:List Sc):List V->R->R :=
  @List.rec Sc (fun _ => List V->R->R) (fun a κ => @List.rec V (fun _ => R) κ (By "") a) (fun _ _ ih a κ => @List.rec V (fun _ => R) (.fail "") (fun _ l _ => ih l κ) a) ks
/-- Is it such a key? -/
def Ln (pl:Plan) (v:V) (κ:R):R :=
  @Plan.rec (fun _ => R) (fun k => @Sc.rec (fun _ => R) (Ey v fun _ _ => κ) (AR v fun _ _ => κ) (Ls v fun _ => κ) k) (AH "") (fun l => asAgg v fun a => QG l a κ) (AH "") pl
def BR (pl:Plan) (k:V) (es:List (V×V)) (κf:V->R) (κn:R):R :=
  @List.rec (V×V) (fun _ => R) κn (fun e _ ih => @Prod.rec V V (fun _ => R) (fun a b => K0 pl k a fun r => br r (κf b) ih) e) es
def GF (pl:Plan) (k v:V) (es:List (V×V)):(List (V×V)->R)->R :=
  @List.rec (V×V) (fun _ => (List (V×V)->R)->R) (fun κ => κ [(k, v)])
    (fun e tl ih κ => @Prod.rec V V (fun _ => R) (fun a _ => K0 pl k a fun r => br r (κ ((k, v)::tl)) (ih fun l => κ (e::l))) e) es
def GV (pl:Plan) (k:V) (es:List (V×V)):(List (V×V)->R)->R :=
  @List.rec (V×V) (fun _ => (List (V×V)->R)->R) (fun κ => κ [])
    (fun e tl ih κ => @Prod.rec V V (fun _ => R) (fun a _ => K0 pl k a fun r => br r (κ tl) (ih fun l => κ (e::l))) e) es
/-- The stamps behind an update: of an entry that is new the clock, else as they were. -/
def Ge (es:List (V×V)):List Nat->Bool :=
  @List.rec (V×V) (fun _ => List Nat->Bool) (fun bs => @List.rec Nat (fun _ => Bool) true (fun _ _ _ => false) bs) (fun _ _ ih bs => @List.rec Nat (fun _ => Bool) false (fun _ bs _ => ih bs) bs) es
def T4 (bs:List Nat) (c:Nat):(List Nat->R)->R :=
  @List.rec Nat (fun _ => (List Nat->R)->R) (fun κ => κ [c]) (fun b _ ih κ => ih fun l => κ (b::l)) bs
def Xv (es:List (V×V)) (bs:List Nat) (c:Nat) (κ:List Nat->Nat->R):R :=
  br (Ge es bs) (κ bs c) (T4 bs c fun bs => Ac (Nat.succ c) fun c => κ bs c)
/-- .. and behind a removal. -/
def GN (pl:Plan) (k:V) (es:List (V×V)):List Nat->(List Nat->R)->R :=
  @List.rec (V×V) (fun _ => List Nat->(List Nat->R)->R) (fun bs κ => κ bs)
    (fun e _ ih bs κ => @List.rec Nat (fun _ => R) (.fail "") (fun b tl _ => @Prod.rec V V (fun _ => R) (fun a _ => K0 pl k a fun r => br r (κ tl) (ih tl fun l => κ (b::l))) e) bs) es
def PL (es:List (V×V)):(Nat->R)->R :=
  @List.rec (V×V) (fun _ => (Nat->R)->R) (fun κ => κ 0) (fun _ _ ih κ => ih fun n => Ac (Nat.succ n) κ) es
def GW (p:K4) (h:Heap) (κ:Cs->Bool->Option K4->R):R :=
  TN p h fun o => @Option.rec Ob (fun _ => R) (.fail "") (fun o => @Ob.rec (fun _ => R) κ (By "") (Fl "") (.fail "") (As "") o) o
def Qy (p:K4) (h:Heap) (κ:List (V×V)->List Nat->Nat->R):R :=
  TN p h fun o => @Option.rec Ob (fun _ => R) (.fail "") (fun o => @Ob.rec (fun _ => R) (By "") κ (Fl "") (.fail "") (As "") o) o
def CY (h:Heap) (n:K4) (o:Ob) (κ:Heap->K4->R):R := DQ n h (some o) fun h' => n.nx fun n' => κ h' n'
def JF (prev:Option K4) (h:Heap) (κ:Heap->R):R := @Option.rec K4 (fun _ => R) (κ h) (fun q => DQ q h none κ) prev
def CZ (h:Heap) (p:K4) (off:Nat) (y:Cs) (κ:Heap->R):R :=
  GW p h fun cs sup prev => br sup (.fail "") (MD cs off y fun cs' => JF prev h fun h => DQ p h (some (.c cs' false none)) κ)
/-- An index: not negative. -/
def JZ (v:V) (κ:Nat->R):R := Ey v fun k r => br (Nat.ble (Nat.succ r) (Hk k)) (κ r) (.fail "")
def Bm (o:Option Opd) (t:Regs) (d:Nat) (κ:Nat->R):R := @Option.rec Opd (fun _ => R) (κ d) (fun x => CR x t fun v => JZ v κ) o
def DK (n:Nat) (κ:V->R):R := br (Nat.ble (Nat.succ n) 9223372036854775808) (κ (.int .i64 n)) (.fail "")
def MC (xs:List V) (off:Nat) (ys:List V) (κ:List V->R):R :=
  BZ off xs fun a => FM ys fun m => Ac (Nat.add off m) fun j => CN j xs fun b => DS ys b fun t => DS a t κ
def Dd (parts:List Part) (t:Regs):List V->(List V->R)->R :=
  @List.rec Part (fun _ => List V->(List V->R)->R) (fun z κ => κ z)
    (fun p _ ih z κ => @Part.rec (fun _ => R) (fun off size x => CR x t fun v => E4 v fun l => FM l fun m => br (Nat.beq m size) (MC z off l fun z => ih z κ) (.fail "")) p) parts
def apD (i j:Nat) (κ:V->R):R := br (Nat.ble (Nat.succ j) (tdN i)) (Ac (tdM i) fun m => br (Nat.ble (Nat.succ m) 18446744073709551616) (Ac (tdD i j) fun d => κ (.oth (.rs m d))) (.fail "")) (κ (.oth (.iv .i64 0 18446744073709551615)))
def apC (i j:Nat) (κ:V->R):R := br (Nat.ble i 36893488147419103232) (κ (.oth (.iv .i64 0 18446744073709551615))) (br (Nat.beq j (tcQ i))
  (Ac (Jz i) fun m => Ac (Sk i) fun t => br (Nat.ble (Nat.succ m) t) (Ac (Nat.sub t m) fun d => κ (.oth (.rs (Nat.add 18446744073709551616 m) d)))
    (br (Nat.beq t m) (br (Nat.ble 1 m) (κ (.oth (.rs m 0))) (.fail "")) (Ac (Nat.sub m t) fun d => κ (.oth (.rs (Nat.add 73786976294838206464 m) (Nat.add (Nat.mul d 18446744073709551616) d))))))
  (κ (.oth (.iv .i64 0 18446744073709551615))))
/-- A cell of memory that stays. -/
def YV (i j:Nat) (κ:V->R):R := br (Nat.beq i 0) (κ (.oth .bl)) (br (Nat.ble i 18446744073709551615) (Ac (Nat.add i j) fun q => κ (.oth (.sy .i64 q)))
  (br (Nat.ble i 36893488147419103231) (br (Nat.ble (Nat.succ j) (Nat.div (Nat.sub i 18446744073709551616) 4294967296)) (br (Sw i j) (κ (.bool true)) (κ (.bool false))) (κ (.oth .bl))) (br (Nat.ble i 73786976294838206463) (apC i j κ) (apD i j κ))))
def KK (m:Nat):Nat->List V := @Nat.rec (fun _ => Nat->List V) (fun _ => []) (fun _ ih i => .oth (.sy .i64 i)::ih (Nat.succ i)) m
/-- The cells of a slice or string, and how many elements they are. -/
def L5 (esz:Nat) (v:V) (h:Heap) (κ:Nat->Cs->R):R :=
  @V.rec (fun _ => R) (fun _ => Unit) (As "") (AH "") (As "") (fun p off len cap ex esz' => br (Nat.beq esz' esz) (GW p h fun cs _ _ => Ac (Nat.mul len esz) fun m => AJ cs off m fun y => κ len y) (.fail "")) (fun n c => br (Nat.beq esz 1) (κ n (.b n c)) (.fail "")) (As "") (fun w => @Nl.rec (fun _ => R) (.fail "") (κ 0 (.l [])) (.fail "") (.fail "") (.fail "") w) (AH "") (By "") (As "") (fun o => QY o (fun i l0 l1 z => br (Nat.beq z esz) (br (Nat.beq l0 l1) (br (and (Nat.ble 1 i) (Nat.ble i 18446744073709551615)) (Ac (Nat.mul l0 esz) fun m => κ l0 (.l (KK m i))) (.fail "")) (.fail "")) (.fail "")) (KX o (fun l m z => br (Nat.beq z esz) (br (Nat.beq l.length (Nat.mul m z)) (κ m (.l (l.map RV.v))) (.fail "")) (.fail "")) (Il o (fun m c => br (Nat.beq esz 1) (κ m (.b m c)) (.fail "")) (.fail "")))) () (fun _ _ _ _ => ()) v
/-- What an append gives that was given the cells. -/
def Ef (esz eb:Nat) (x:V) (m:Nat) (y:Cs) (h:Heap) (n:K4) (κ:KV):R :=
  D0 x
    (br (Nat.beq m 0) (κ (.nil .sl) h n) (br (Nat.ble (Nat.mul (Nat.add (Nat.mul 4 m) 4096) eb) 281474976710656) (CY h n (.c y false none) fun h' n' => κ (.sl n 0 m m false esz) h' n') (.fail "")))
    (fun p off len cap ex esz' => br (Nat.beq esz' esz) (br (Nat.beq m 0) (κ x h n) (Ac (Nat.add len m) fun need =>
      br (Nat.ble need cap)
        (Ac (Nat.add off (Nat.mul len esz)) fun j => CZ h p j y fun h' => κ (.sl p off need cap ex esz) h' n)
        (br (Nat.ble (Nat.mul (Nat.add (Nat.mul 4 need) 4096) eb) 281474976710656)
          (GW p h fun cs sup prev => Ac (Nat.mul len esz) fun l => AJ cs off l fun a => QT a y fun z =>
            br ex
              (CY h n (.c z false none) fun h' n' => κ (.sl n 0 need need false esz) h' n')
              (br sup (.fail "")
                (Ac (Nat.add off l) fun j => AJ cs 0 j fun old => JF prev h fun h => DQ p h (some (.c old true none)) fun h =>
                  CY h n (.c z false (some p)) fun h' n' => κ (.sl n 0 need need false esz) h' n')))
          (.fail "")))) (.fail ""))
abbrev CF := Nat->List V->Heap->K4->R
def Y3 (x:Opd) (cf:CF) (t:Regs) (h:Heap) (n:K4) (κ:KV):R :=
  CR x t fun v => κ v h n
def J1 (c a b:Opd) (cf:CF) (t:Regs) (h:Heap) (n:K4) (κ:KV):R :=
  CR c t fun v => Ls v fun q => br q (CR a t fun v => κ v h n) (CR b t fun v => κ v h n)
def QE (cs:Cs) (cf:CF) (t:Regs) (h:Heap) (n:K4) (κ:KV):R :=
  CY h n (.c cs false none) fun h' n' => κ (.ptr n 0) h' n'
def JC (x:Opd) (cf:CF) (t:Regs) (h:Heap) (n:K4) (κ:KV):R :=
  CR x t fun v => E4 v fun l => CY h n (.c (.l l) false none) fun h' n' => κ (.ptr n 0) h' n'
def Ti (zero:List V) (parts:List Part) (cf:CF) (t:Regs) (h:Heap) (n:K4) (κ:KV):R :=
  Dd parts t zero fun l => κ (.agg l) h n
def Hu (u8:Bool) (len esz:Nat) (zero:List V) (parts:List Part) (cf:CF) (t:Regs) (h:Heap) (n:K4) (κ:KV):R :=
  Dd parts t zero fun l => br u8 (CO l (fun m c => CY h n (.c (.b m c) false none) fun h' n' => κ (.sl n 0 len len true esz) h' n') (.fail "")) (CY h n (.c (.l l) false none) fun h' n' => κ (.sl n 0 len len true esz) h' n')
def U2 (x:Opd) (cf:CF) (t:Regs) (h:Heap) (n:K4) (κ:KV):R :=
  CR x t fun v => MT v (fun p off => GW p h fun cs _ _ => Gt cs off fun v => κ v h n) (fun o => Up o (fun i j m => br (Nat.ble 1 m) (YV i j fun v => κ v h n) (.fail "")) (LZ o (fun l => WL l fun v => κ v h n) (.fail "")))
def O7 (m:Nat) (x:Opd) (cf:CF) (t:Regs) (h:Heap) (n:K4) (κ:KV):R :=
  CR x t fun v => MT v (fun p off => GW p h fun cs _ _ => AJ cs off m fun y => DJ y fun l => κ (.agg l) h n) (fun o => LZ o (fun l => br (Nat.ble m l.length) (κ (.agg ((l.take m).map RV.v)) h n) (.fail "")) (.fail ""))
def TV (m:Nat) (a x:Opd) (cf:CF) (t:Regs) (h:Heap) (n:K4) (κ:KV):R :=
  CR a t fun u => J7 u fun p off => CR x t fun v => E4 v fun l => FM l fun k => br (Nat.beq k m) (CZ h p off (.l l) fun h' => κ B8 h' n) (.fail "")
def CM (x:Opd) (cf:CF) (t:Regs) (h:Heap) (n:K4) (κ:KV):R :=
  CR x t fun v => @V.rec (fun _ => R) (fun _ => Unit) (As "") (AH "") (fun p off => κ v h n) (DB "") (As "") (As "") (AH "") (AH "") (fun f caps _i => κ v h n) (As "") (fun o => LZ o (fun _ => κ v h n) (.fail "")) () (fun _ _ _ _ => ()) v
def LD (op:BinOp) (x y:Opd) (cf:CF) (t:Regs) (h:Heap) (n:K4) (κ:KV):R :=
  CR x t fun u => CR y t fun v => Pc op u v fun r => κ r h n
def Us (neg:Bool) (pl:Plan) (x y:Opd) (cf:CF) (t:Regs) (h:Heap) (n:K4) (κ:KV):R :=
  CR x t fun u => CR y t fun v => K0 pl u v fun r => br neg (br r (κ (.bool false) h n) (κ (.bool true) h n)) (κ (.bool r) h n)
def N4 (x:Opd) (cf:CF) (t:Regs) (h:Heap) (n:K4) (κ:KV):R :=
  CR x t fun v => Ls v fun q => br q (κ (.bool false) h n) (κ (.bool true) h n)
def OE (x:Opd) (cf:CF) (t:Regs) (h:Heap) (n:K4) (κ:KV):R :=
  CR x t fun v => Ey v fun k r => P2 k 0 k r fun v => κ v h n
def Ow (x:Opd) (cf:CF) (t:Regs) (h:Heap) (n:K4) (κ:KV):R :=
  CR x t fun v => Ey v fun k r => Ac (Nat.xor (Nat.sub (Mk k) 1) r) fun r => κ (.int k r) h n
def Ng (k:IntKind) (x:Opd) (cf:CF) (t:Regs) (h:Heap) (n:K4) (κ:KV):R :=
  CR x t fun v => Ey v fun j r => br (Nat.ble (Nat.succ r) (Hk j)) (Ac (Nat.mod r (Mk k)) fun r => κ (.int k r) h n) (br (Nat.ble (Mk k) (Mk j)) (Ac (Nat.mod r (Mk k)) fun r => κ (.int k r) h n) (Ac (Nat.sub (Mk k) (Nat.sub (Mk j) r)) fun r => κ (.int k r) h n))
def KU (x:Opd) (cf:CF) (t:Regs) (h:Heap) (n:K4) (κ:KV):R :=
  CR x t fun v => DZ v (κ (.str 0 0) h n) (fun p off len cap ex esz => br (Nat.beq esz 1) (GW p h fun cs _ _ => AJ cs off len fun y => DJ y fun l => CO l (fun m c => κ (.str m c) h n) (.fail "")) (.fail "")) (fun o => Il o (fun m c => κ (.str m c) h n) (.fail ""))
def JD (x:Opd) (cf:CF) (t:Regs) (h:Heap) (n:K4) (κ:KV):R :=
  CR x t fun v => AR v fun m c => CY h n (.c (.b m c) false none) fun h' n' => κ (.sl n 0 m m false 1) h' n'
def NA (x:Opd) (cf:CF) (t:Regs) (h:Heap) (n:K4) (κ:KV):R :=
  CR x t fun v => AR v fun _ _ => κ v h n
def Nj (x:Opd) (cf:CF) (t:Regs) (h:Heap) (n:K4) (κ:KV):R :=
  CR x t fun v => D0 v (.fail "") (fun p _ _ _ _ _ => GW p h fun _ _ _ => κ v h n)
def Rv (f:Nat) (caps:List Opd) (cf:CF) (t:Regs) (h:Heap) (n:K4) (κ:KV):R :=
  QN caps t fun l => κ (.fn f l) h n
def Jv  (cf:CF) (t:Regs) (h:Heap) (n:K4) (κ:KV):R :=
  CY h n (.m [] [] 0) fun h' n' => κ (.map n) h' n'
def GY (eb:Nat) (u8:Bool) (zero:List V) (l c:Opd) (cf:CF) (t:Regs) (h:Heap) (n:K4) (κ:KV):R :=
  CR l t fun u => JZ u fun a => CR c t fun v => JZ v fun b => br (Nat.ble a b) (br (Nat.ble (Nat.mul eb b) 281474976710656) (Fy u8 zero b fun y => CY h n (.c y false none) fun h' n' => FM zero fun esz => κ (.sl n 0 a b true esz) h' n') (.fail "")) (.fail "")
def Je (x:Opd) (lo hi:Option Opd) (cf:CF) (t:Regs) (h:Heap) (n:K4) (κ:KV):R :=
  CR x t fun v => XF v (fun l0 l1 _ _ => br (br (Ee hi) true (Nat.beq l0 l1)) (Bm hi t l0 fun b => Bm lo t 0 fun a => br (Nat.ble a b) (br (Nat.ble b l0) (Ac (Nat.sub b a) fun l => κ (.oth (.ss l l (Nat.succ l) 0)) h n) (.fail "")) (.fail "")) (.fail "")) <| AR v fun m c => Bm hi t m fun b => Bm lo t 0 fun a => br (Nat.ble a b) (br (Nat.ble b m) (Ac (Nat.sub b a) fun l => Ac (Ev.lo (sh c a) l) fun r => κ (.str l r) h n) (.fail "")) (.fail "")
def SR (esz:Nat) (x:Opd) (mx hi:Option Opd) (cf:CF) (t:Regs) (h:Heap) (n:K4) (κ:KV):R :=
  CR x t fun v => D0 v (.fail "") (fun p off len cap ex esz' => Bm hi t len fun b => Bm mx t cap fun c => br (Nat.beq esz' esz) (br (Nat.ble b c) (br (Nat.ble c cap) (κ (.sl p off b c true esz) h n) (.fail "")) (.fail "")) (.fail ""))
def He (esz:Nat) (x:Opd) (lo hi:Option Opd) (cf:CF) (t:Regs) (h:Heap) (n:K4) (κ:KV):R :=
  br (Nat.ble 4294967296 esz) (SR (Nat.sub esz 4294967296) x lo hi cf t h n κ) <|
  CR x t fun v => osK v (fun l0 l1 => br (br (Ee hi) true (Nat.beq l0 l1)) (Bm hi t l0 fun b => Bm lo t 0 fun a => br (Nat.ble a b) (br (Nat.ble b l0) (Ac (Nat.sub b a) fun l => κ (.oth (.os l l)) h n) (.fail "")) (.fail "")) (.fail "")) <| DZ v (Bm hi t 0 fun b => Bm lo t 0 fun a => br (Nat.beq b 0) (br (Nat.beq a 0) (κ (.nil .sl) h n) (.fail "")) (.fail "")) (fun p off len cap ex esz' => Bm hi t len fun b => Bm lo t 0 fun a => br (Nat.beq esz' esz) (br (Nat.ble a b) (br (Nat.ble b cap) (Ac (Nat.sub b a) fun l => Ac (Nat.sub cap a) fun c => Ac (Nat.add off (Nat.mul a esz)) fun o => κ (.sl p o l c ex esz) h n) (.fail "")) (.fail "")) (.fail "")) (fun o => KX o (fun l m z => Bm hi t m fun b => Bm lo t 0 fun a => br (Nat.beq z esz) (br (Nat.ble a b) (br (Nat.ble b m) (Ac (Nat.sub b a) fun k => Ac (Nat.mul a esz) fun j => Ac (Nat.mul k esz) fun q => κ (.oth (.rx ((l.drop j).take q) k esz)) h n) (.fail "")) (.fail "")) (.fail "")) (Il o (fun m c => Bm hi t m fun b => Bm lo t 0 fun a => br (Nat.beq esz 1) (br (Nat.ble a b) (br (Nat.ble b m) (Ac (Nat.sub b a) fun k => Ac (Ev.lo (sh c a) k) fun r => κ (.oth (.rb k r)) h n) (.fail "")) (.fail "")) (.fail "")) (.fail "")))
def JY (m esz:Nat) (x:Opd) (lo hi:Option Opd) (cf:CF) (t:Regs) (h:Heap) (n:K4) (κ:KV):R :=
  CR x t fun v => J7 v fun p off => GW p h fun cs _ _ => Aan cs fun z => br (Nat.ble (Nat.add off (Nat.mul m esz)) z) (Bm hi t m fun b => Bm lo t 0 fun a => br (Nat.ble a b) (br (Nat.ble b m) (Ac (Nat.sub b a) fun l => Ac (Nat.sub m a) fun c => Ac (Nat.add off (Nat.mul a esz)) fun o => κ (.sl p o l c true esz) h n) (.fail "")) (.fail "")) (.fail "")
def Na (off:Nat) (x:Opd) (cf:CF) (t:Regs) (h:Heap) (n:K4) (κ:KV):R :=
  CR x t fun v => MT v (fun p o => Ac (Nat.add o off) fun o => κ (.ptr p o) h n) (fun o => Up o (fun i j m => br (Nat.ble (Nat.succ off) m) (Ac (Nat.add j off) fun j => Ac (Nat.sub m off) fun m => κ (.oth (.ap i j m)) h n) (.fail "")) (LZ o (fun l => br (Nat.ble (Nat.succ off) l.length) (κ (.oth (.rp (l.drop off))) h n) (.fail "")) (.fail "")))
def N7 (off size:Nat) (ag:Bool) (x:Opd) (cf:CF) (t:Regs) (h:Heap) (n:K4) (κ:KV):R :=
  CR x t fun v => asAgg v fun l => br ag (CN off l fun r => BZ size r fun r => κ (.agg r) h n) (BK off l fun v => κ v h n)
def OA (esz:Nat) (x i:Opd) (cf:CF) (t:Regs) (h:Heap) (n:K4) (κ:KV):R :=
  CR x t fun v => CR i t fun u => JZ u fun a => DZ v (.fail "") (fun p off len cap ex esz' => br (Nat.beq esz' esz) (br (Nat.ble (Nat.succ a) len) (Ac (Nat.add off (Nat.mul a esz)) fun o => κ (.ptr p o) h n) (.fail "")) (.fail "")) (fun o => QY o (fun i lo hi z => br (Nat.beq z esz) (br (Nat.ble (Nat.succ a) lo) (Ac (Nat.mul a esz) fun j => κ (.oth (.ap i j esz)) h n) (.fail "")) (.fail "")) (KX o (fun l m z => br (Nat.beq z esz) (br (Nat.ble (Nat.succ a) m) (Ac (Nat.mul a esz) fun j => κ (.oth (.rp (l.drop j))) h n) (.fail "")) (.fail "")) (Il o (fun m c => br (Nat.beq esz 1) (br (Nat.ble (Nat.succ a) m) (Ac (Ev.lo (sh c a) 1) fun r => κ (.oth (.rp [.i .u8 r])) h n) (.fail "")) (.fail "")) (.fail ""))))
def OB (m esz:Nat) (x i:Opd) (cf:CF) (t:Regs) (h:Heap) (n:K4) (κ:KV):R :=
  CR x t fun v => CR i t fun u => JZ u fun a => J7 v fun p off => br (Nat.ble (Nat.succ a) m) (Ac (Nat.add off (Nat.mul a esz)) fun o => κ (.ptr p o) h n) (.fail "")
def N6 (x i:Opd) (cf:CF) (t:Regs) (h:Heap) (n:K4) (κ:KV):R :=
  CR x t fun v => CR i t fun u => JZ u fun a => AR v fun m c => br (Nat.ble (Nat.succ a) m) (Ac (Ev.lo (sh c a) 1) fun r => κ (.int .u8 r) h n) (.fail "")
def NY (m esz:Nat) (ag:Bool) (x i:Opd) (cf:CF) (t:Regs) (h:Heap) (n:K4) (κ:KV):R :=
  CR x t fun v => CR i t fun u => JZ u fun a => asAgg v fun l => br (Nat.ble (Nat.succ a) m) (Ac (Nat.mul a esz) fun j => br ag (CN j l fun r => BZ esz r fun r => κ (.agg r) h n) (BK j l fun v => κ v h n)) (.fail "")
def Uo (pl:Plan) (zero:V) (ok:Bool) (m k:Opd) (cf:CF) (t:Regs) (h:Heap) (n:K4) (κ:KV):R :=
  CR m t fun u => CR k t fun v => Ln pl v <| CX u (br ok (κ (.tup [zero, .bool false]) h n) (κ zero h n)) (fun p => Qy p h fun es _ _ => BR pl v es (fun r => br ok (κ (.tup [r, .bool true]) h n) (κ r h n)) (br ok (κ (.tup [zero, .bool false]) h n) (κ zero h n)))
def UJ (pl:Plan) (m k v:Opd) (cf:CF) (t:Regs) (h:Heap) (n:K4) (κ:KV):R :=
  CR m t fun u => CR k t fun a => CR v t fun b => Ln pl a <| CX u (.fail "") (fun p => Qy p h fun es bs c => GF pl a b es fun es => Xv es bs c fun bs c => DQ p h (some (.m es bs c)) fun h' => κ B8 h' n)
def NX (pl:Plan) (m k:Opd) (cf:CF) (t:Regs) (h:Heap) (n:K4) (κ:KV):R :=
  CR m t fun u => CR k t fun a => Ln pl a <| CX u (κ (.tup []) h n) (fun p => Qy p h fun es bs c => GV pl a es fun es' => GN pl a es bs fun bs => DQ p h (some (.m es' bs c)) fun h' => κ (.tup []) h' n)
def NE (i:Nat) (x:Opd) (cf:CF) (t:Regs) (h:Heap) (n:K4) (κ:KV):R :=
  CR x t fun v => LK v fun l => BK i l fun v => κ v h n
def OS (f:Nat) (args:List Opd) (cf:CF) (t:Regs) (h:Heap) (n:K4) (κ:KV):R :=
  QN args t fun l => @R.rec (fun _ => R) (Fl "") (fun v h n => κ v h n) (fun w => .fail w) (Fl "") (cf f l h n)
def ET (x:Opd) (args:List Opd) (cf:CF) (t:Regs) (h:Heap) (n:K4) (κ:KV):R :=
  CR x t fun v => Lz v fun f caps => QN args t fun l => DS l caps fun l => @R.rec (fun _ => R) (Fl "") (fun v h n => κ v h n) (fun w => .fail w) (Fl "") (cf f l h n)
def Oc (x:Opd) (cf:CF) (t:Regs) (h:Heap) (n:K4) (κ:KV):R :=
  CR x t fun v => XF v (fun l0 l1 _ _ => br (Nat.ble (Nat.succ l1) 9223372036854775808) (κ (.oth (.iv .i64 l0 l1)) h n) (.fail "")) <| AR v fun m _ => DK m fun v => κ v h n
def MU (x:Opd) (cf:CF) (t:Regs) (h:Heap) (n:K4) (κ:KV):R :=
  CR x t fun v => DZ v (κ (.int .i64 0) h n) (fun p off len cap ex esz => DK len fun v => κ v h n) (fun o => Aa4 o (fun l0 l1 => br (Nat.ble (Nat.succ l1) 9223372036854775808) (κ (.oth (.iv .i64 l0 l1)) h n) (.fail "")) (QY o (fun i l0 l1 z => br (Nat.ble (Nat.succ l1) 9223372036854775808) (br (Nat.beq l0 l1) (κ (.int .i64 l0) h n) (κ (.oth (.iv .i64 l0 l1)) h n)) (.fail "")) (KX o (fun l m z => DK m fun v => κ v h n) (Il o (fun m c => DK m fun v => κ v h n) (.fail "")))))
def NS (x:Opd) (cf:CF) (t:Regs) (h:Heap) (n:K4) (κ:KV):R :=
  CR x t fun v => CX v (κ (.int .i64 0) h n) (fun p => Qy p h fun es _ _ => PL es fun m => DK m fun v => κ v h n)
def Oi (x y:Opd) (cf:CF) (t:Regs) (h:Heap) (n:K4) (κ:KV):R :=
  CR x t fun u => CR y t fun v => mnV u v fun v => κ v h n
def Nr (x y:Opd) (cf:CF) (t:Regs) (h:Heap) (n:K4) (κ:KV):R :=
  CR x t fun u => CR y t fun v => mxV u v fun v => κ v h n
def Nz (esz eb:Nat) (x y:Opd) (cf:CF) (t:Regs) (h:Heap) (n:K4) (κ:KV):R :=
  CR x t fun u => CR y t fun v => L5 esz v h fun m y => Ef esz eb u m y h n κ
def Kt (esz eb:Nat) (u8:Bool) (zero:List V) (x c:Opd) (cf:CF) (t:Regs) (h:Heap) (n:K4) (κ:KV):R :=
  CR x t fun u => CR c t fun v => JZ v fun m => br (Nat.ble (Nat.mul eb m) 281474976710656) (Fy u8 zero m fun y => Ef esz eb u m y h n κ) (.fail "")
def N0 (esz:Nat) (x y:Opd) (cf:CF) (t:Regs) (h:Heap) (n:K4) (κ:KV):R :=
  CR x t fun u => CR y t fun v => L5 esz v h fun m y => D0 u (κ (.int .i64 0) h n) (fun p off len cap ex esz' => br (Nat.beq esz' esz) (Ac (@Bool.rec (fun _ => Nat) len m (Nat.ble m len)) fun k => br (Nat.beq k 0) (κ (.int .i64 0) h n) (Ac (Nat.mul k esz) fun j => AJ y 0 j fun y => CZ h p off y fun h => DK k fun v => κ v h n)) (.fail ""))
def Kw (x y z:Opd) (cf:CF) (t:Regs) (h:Heap) (n:K4) (κ:KV):R :=
  CR x t fun u => CR y t fun v => CR z t fun w => Ey u fun k a => Ey v fun j b => Ey w fun i c => br (AQ k j) (br (AQ k i) (br (DY k a b) (br (DY k b c) (κ w h n) (κ v h n)) (br (DY k a c) (κ w h n) (κ u h n))) (.fail "")) (.fail "")
def Nm (x:Opd) (cf:CF) (t:Regs) (h:Heap) (n:K4) (κ:KV):R :=
  CR x t fun v => D0 v (κ (.int .i64 0) h n) (fun p off len cap ex esz => br ex (DK cap fun v => κ v h n) (.fail ""))
def OH (u8:Bool) (zero:List V) (x:Opd) (cf:CF) (t:Regs) (h:Heap) (n:K4) (κ:KV):R :=
  CR x t fun v => D0 v (κ (.tup []) h n) (fun p off len cap ex esz => FM zero fun m => br (Nat.beq m esz) (br (Nat.beq len 0) (κ (.tup []) h n) (Fy u8 zero len fun y => CZ h p off y fun h => κ (.tup []) h n)) (.fail ""))
def SH (why:String) (cf:CF) (t:Regs) (h:Heap) (n:K4) (κ:KV):R :=
  .fail ""
def Ik (o:AK):CF->Regs->Heap->K4->KV->R :=
  @AK.rec (fun _ => CF->Regs->Heap->K4->KV->R) Y3 J1 QE JC Ti Hu U2 O7 TV CM LD Us N4 OE Ow Ng KU JD NA Nj Rv Jv GY Je He JY Na N7 OA OB N6 NY Uo UJ NX NE OS ET Oc MU NS Oi Nr Nz Kt N0 Kw Nm OH SH o
end Go.Ev

namespace Go.Ev
set_option linter.unusedVariables false
structure AOp where
  dst:Option K2
  g:Option (K2×Bool)
  k:AK
/-- One step of a region that draws its order, in one order: a reading (or what hangs on registers alone); an effect; what makes memory, at a place kept for it; a reading MG again, which must tell the same; a place kept that must be free; a reading of what was MG at a place kept. -/
inductive Item where
  | rd (i:Nat) (o:AOp)
  | ef (i:Nat) (o:AOp)
  | al (i:Nat) (j:D) (o:AOp)
  | ck (i:Nat) (o:AOp)
  | no (j:D)
  | rn (i:Nat) (j:D) (o:AOp)
/-- What begins a range over a map, goes on with it, tells its entry; a call that may come to many ways; a call of what is told. -/
inductive Sp where
  | rng (x:Opd)
  | nxt (x:Opd)
  | ent (x:Opd)
  | tcl (f:Nat) (l:List Opd)
  | dcl (x:Opd) (l:List Opd)
inductive AC where
  | skip
  | seq (a b:AC)
  | ops (l:List AOp)
  | drawn (al:Bool) (l:List Item)
  | cond (c:Opd) (a b:AC)
  | block (id:Nat) (b:AC)
  | loop (b:AC)
  | exit (id:Nat)
  | ret
  | bad (why:String)
  | spl (pre:List AOp) (sp:Sp) (d:Option K2) (post:List AOp)
inductive ARes where
  | tmp (p:K2)
  | cel (p:K2) (m:Option Nat)
structure AFn where
  ps:List K2
  code:AC
  rs:List ARes
abbrev Ma := List V->Heap->K4->R
/-- Is the operation wanted? Its guard is what another one of the region has told. -/
def CG (g:Option (K2×Bool)) (t:Regs) (yes no:R):R :=
  @Option.rec (K2×Bool) (fun _ => R) yes (fun p => @Prod.rec K2 Bool (fun _ => R) (fun r want => Iw r t fun v =>
    @V.rec (fun _ => R) (fun _ => Unit) (fun _ _ => no) (fun b => br (Bool.rec (Bool.rec true false b) b want) yes no) (fun _ _ => no) (fun _ _ _ _ _ _ => no) (fun _ _ => no) (fun _ _ => no) (fun _ => no) (fun _ => no) (fun _ _ _ => no) (fun _ _ => no) (fun o => .fail "") () (fun _ _ _ _ => ()) v) p) g
/-- Two open values are one: both any, both some bool, or integers between the same bounds. -/
def asO (v:V) (κ:Ot->R):R :=
  @V.rec (fun _ => R) (fun _ => Unit) (fun _ _ => (.fail "")) (fun _ => (.fail "")) (fun _ _ => (.fail "")) (fun _ _ _ _ _ _ => (.fail "")) (fun _ _ => (.fail "")) (fun _ _ => (.fail "")) (fun _ => (.fail "")) (fun _ => (.fail "")) (fun _ _ _ => (.fail "")) (fun _ _ => (.fail "")) (fun o => κ o) () (fun _ _ _ _ => ()) v
def Ad1 (u:Ot) (κ:R):R := @Ot.rec (fun _ => R) κ (fun _ => (.fail "")) (fun _ => (.fail "")) (.fail "") (fun _ _ _ => (.fail "")) (fun _ _ => (.fail "")) (.fail "") (fun _ _ => (.fail "")) (fun _ _ _ _ => (.fail "")) (fun _ _ _ _ => (.fail "")) (fun _ _ _ => (.fail "")) (fun _ _ => (.fail "")) (fun _ _ => (.fail "")) (fun _ _ _ => (.fail "")) (fun _ => (.fail "")) u
def Aim (u:Ot) (κ:R):R := @Ot.rec (fun _ => R) (.fail "") (fun _ => (.fail "")) (fun _ => (.fail "")) (.fail "") (fun _ _ _ => (.fail "")) (fun _ _ => (.fail "")) κ (fun _ _ => (.fail "")) (fun _ _ _ _ => (.fail "")) (fun _ _ _ _ => (.fail "")) (fun _ _ _ => (.fail "")) (fun _ _ => (.fail "")) (fun _ _ => (.fail "")) (fun _ _ _ => (.fail "")) (fun _ => (.fail "")) u
def Afg (u:Ot) (κ:IntKind->Nat->Nat->R):R := @Ot.rec (fun _ => R) (.fail "") (fun _ => (.fail "")) (fun _ => (.fail "")) (.fail "") (fun k lo hi => κ k lo hi) (fun _ _ => (.fail "")) (.fail "") (fun _ _ => (.fail "")) (fun _ _ _ _ => (.fail "")) (fun _ _ _ _ => (.fail "")) (fun _ _ _ => (.fail "")) (fun _ _ => (.fail "")) (fun _ _ => (.fail "")) (fun _ _ _ => (.fail "")) (fun _ => (.fail "")) u
def ZT (o u:Ot) (κ:R):R :=
  @Ot.rec (fun _ => R) (Ad1 u κ) (fun _ => (.fail "")) (fun _ => (.fail "")) (.fail "") (fun k lo hi => Afg u fun k' lo' hi' => br (AQ k k') (br (Nat.beq lo lo') (br (Nat.beq hi hi') κ (.fail "")) (.fail "")) (.fail "")) (fun _ _ => (.fail "")) (Aim u κ) (fun _ _ => (.fail "")) (fun _ _ _ _ => (.fail "")) (fun _ _ _ _ => (.fail "")) (fun _ _ _ => (.fail "")) (fun _ _ => (.fail "")) (fun _ _ => (.fail "")) (fun _ _ _ => (.fail "")) (fun _ => (.fail "")) o
/-- Two abstract values are one. -/
def AN (x:V):V->R->R :=
  @V.rec (fun _ => V->R->R) (fun _ => List V->R->R)
    (fun k r y κ => Ey y fun j b => br (AQ k j) (br (Nat.beq r b) κ (.fail "")) (.fail ""))
    (fun b y κ => Ls y fun c => br (Bool.rec (Bool.rec true false b) b c) κ (.fail ""))
    (fun p off y κ => J7 y fun q o => br (K4.beq p q) (br (Nat.beq off o) κ (.fail "")) (.fail ""))
    (fun p off len cap ex esz y κ => D0 y (.fail "") fun q o l c e z => br (K4.beq p q) (br (and (Nat.beq off o) (and (Nat.beq len l) (and (Nat.beq cap c) (and (Bool.rec (Bool.rec true false ex) ex e) (Nat.beq esz z))))) κ (.fail "")) (.fail ""))
    (fun n c y κ => AR y fun m d => br (Dl n c m d) κ (.fail ""))
    (fun _ ih y κ => asAgg y fun l => ih l κ)
    (fun w y κ => @V.rec (fun _ => R) (fun _ => Unit) (As "") (AH "") (As "") (DB "") (As "") (As "")
      (fun u => br (Nat.beq (@Nl.rec (fun _ => Nat) 0 1 2 3 4 w) (@Nl.rec (fun _ => Nat) 0 1 2 3 4 u)) κ (.fail "")) (AH "") (By "") (As "") (AH "") () (fun _ _ _ _ => ()) y)
    (fun p y κ => CX y (.fail "") fun q => br (K4.beq p q) κ (.fail ""))
    (fun f _ ih y κ => Lz y fun g l => br (Nat.beq f g) (ih l κ) (.fail ""))
    (fun _ ih y κ => LK y fun l => ih l κ)
    (fun o y κ => asO y fun u => ZT o u κ)
    (fun l κ => @List.rec V (fun _ => R) κ (By "") l)
    (fun _ _ ihx ihl l κ => @List.rec V (fun _ => R) (.fail "") (fun y ys _ => ihx y (ihl ys κ)) l) x
/-- The value alone. -/
def Le:KV := fun v _ _ => .rv v Aq ⟨.d0, .d0, .d0, .d0⟩
/-- An operation's value and what it leaves. -/
def Ij (r:R) (κ:V->Heap->K4->R):R := @R.rec (fun _ => R) (Fl "") (fun v h n => κ v h n) (fun w => .fail w) (Fl "") r
def Gp (o:Option Ob) (κ:R):R := @Option.rec Ob (fun _ => R) κ (AH "") o
def obS (o:Option Ob) (κ:Ob->R):R := @Option.rec Ob (fun _ => R) (.fail "") κ o
def UY (d:Option K2) (κ:K2->R):R := @Option.rec K2 (fun _ => R) (.fail "") κ d
/-- Rounds of a loop. -/
def J6 (body:S->Heap->K4->R) (m:Nat):S->Heap->K4->R :=
  @Nat.rec (fun _ => S->Heap->K4->R) (By "")
    (fun _ rec t h n => @R.rec (fun _ => R) (fun e t h n => @Ex.rec (fun _ => R) (rec t h n) (fun id => .ok (.exit id) t h n) (.ok .ret t h n) e) (By "") (fun w => .fail w) (fun _ _ a b => .both a b) (body t h n)) m
def Uq (args:List V):List K2->Regs->(Regs->R)->R :=
  @List.rec V (fun _ => List K2->Regs->(Regs->R)->R) (fun ps t κ => @List.rec K2 (fun _ => R) (κ t) (By "") ps)
    (fun v _ ih ps t κ => @List.rec K2 (fun _ => R) (.fail "") (fun p qs _ => OX p t v fun t => ih qs t κ) ps) args
def LO (r:ARes) (t:Regs) (h:Heap) (κ:V->R):R :=
  @ARes.rec (fun _ => R) (fun p => Iw p t κ) (fun p m => Iw p t fun v => J7 v fun q off => GW q h fun cs _ _ =>
    @Option.rec Nat (fun _ => R) (Gt cs off κ) (fun m => AJ cs off m fun y => DJ y fun l => κ (.agg l)) m) r
def KW (rs:List ARes) (t:Regs) (h:Heap):(List V->R)->R :=
  @List.rec ARes (fun _ => (List V->R)->R) (fun κ => κ []) (fun r _ ih κ => LO r t h fun v => ih fun vs => κ (v::vs)) rs
def RH (rs:List ARes) (t:Regs) (h:Heap) (n:K4):R :=
  KW rs t h fun l => @List.rec V (fun _ => R) (.rv (.tup []) h n) (fun v vs _ => @List.rec V (fun _ => R) (.rv v h n) (fun _ _ _ => .rv (.tup l) h n) vs) l
end Go.Ev

namespace Go.Ev
set_option linter.unusedVariables false
def L7 (v:Value):Option V :=
  match v with
  | .bool b => some (.bool b)
  | .int k n => match n with
    | .ofNat m => if Nat.ble (Nat.succ m) (Hk k) then some (.int k m) else none
    | .negSucc m => if Nat.ble (Nat.add (Hk k) (Nat.succ m)) (Mk k) then some (.int k (Nat.sub (Mk k) (Nat.succ m))) else none
  | .string s => some (.str s.size (Al s.data.toList))
  | .pointer none => some (.nil .ptr)
  | .slice none 0 0 => some (.nil .sl)
  | .map none => some (.nil .map)
  | .nilFunc => some (.nil .fn)
  | .nilIface => some (.nil .iface)
  | _ => none
def IB:List Value->Option (List V)
  | [] => some []
  | v::l => match L7 v, IB l with
    | some x, some xs => some (x::xs)
    | _, _ => none
def K7 (v:Value):Option V :=
  match v with
  | .agg cs => (IB cs.toList).map .agg
  | .tuple cs => if cs.toList.isEmpty then some (.tup []) else none
  | .func (.func f) first caps => if first.toList.isEmpty&&caps.toList.isEmpty then some (.fn f []) else none
  | v => L7 v
section
variable (P:Program) (N:Nat)
def Ha (t:Nat):Option K2 := if t<N then K2.ofN t else none
def At:Operand->Option Opd
  | .tmp t => (Ha N t).map .t
  | .const v => (K7 v).map .c
  | .func f => some (.c (.fn f []))
  | .global _ => none
def Bg:List Operand->Option (List Opd)
  | [] => some []
  | o::l => match At N o, Bg l with
    | some x, some xs => some (x::xs)
    | _, _ => none
def Ek:Option Operand->Option (Option Opd)
  | none => some none
  | some o => (At N o).map some
def Di (t:TypeId):Option (List V) := ((P.info? t).bind (·.zero)).bind fun z => IB z.cells.toList
def B6 (t:TypeId):Option Nat := (P.info? t).map (·.size)
def FI (t:TypeId):Option Nat := (P.info? t).map (·.bytes)
def Ly (t:TypeId):Option Bool := (P.underlying t).map fun d => match d with | .struct _ | .array _ _ => true | _ => false
def cU8 (t:TypeId):Bool := match P.underlying t with | some (.int .u8) => true | _ => false
def QW (t:TypeId):Option Sc :=
  match P.underlying t with
  | some (.int _) => some .i
  | some .string => some .s
  | some .bool => some .b
  | _ => none
/-- The offsets of a struct's fields, all of them scalars. -/
def Hv:List Field->Option (List (Nat×Sc))
  | [] => some []
  | f::l => if f.name ≠ "_" then
      match QW P f.type, Hv l with
      | some k, some r => some ((f.offset, k)::r)
      | _, _ => none
    else none
def LI (t:TypeId):Option Plan :=
  match P.underlying t with
  | some .bool => some (.sc .b)
  | some (.struct fs) => if P.stoodInHeld t then none else (Hv P fs.toList).map .st
  | some (.pointer e) => match B6 P e with
    | some (_+1) => some (.rf .ptr)
    | _ => none
  | some (.slice _) => some (.rf .sl)
  | some (.map _ _) => some (.rf .map)
  | some (.func _ _ _) => some (.rf .fn)
  | _ => none
def GT (t:TypeId):Option Plan :=
  match P.underlying t with
  | some (.struct fs) =>
    if P.stoodInHeld t then none else
    match Hv P fs.toList with
    | some offs => if offs.map (·.1)=List.range offs.length then some (.ks (offs.map (·.2))) else none
    | none => none
  | _ => (QW P t).map .sc
def Gc (place:Nat->Option (Nat×Nat)):List (Nat×Operand)->Option (List Part)
  | [] => some []
  | (i, o)::l => match place i, At N o, Gc place l with
    | some (off, size), some x, some xs => some (⟨off, size, x⟩::xs)
    | _, _, _ => none
/-- So many elements' zero cells. -/
def Ea (z:List V):Nat->List V
  | 0 => []
  | n+1 => z++Ea z n
/-- The zero of a byte. -/
def MI:List V->Bool
  | [.int .u8 0] => true
  | _ => false
def Fs (b:Builtin) (argTypes:Array TypeId) (args:List Opd):Option AK :=
  match b, argTypes.toList, args with
  | .len, t::_, x::_ =>
    match P.underlying t with
    | some .string => some (.lnS x)
    | some (.slice _) => some (.lnL x)
    | some (.map _ _) => some (.lnM x)
    | _ => none
  | .min, _, [x, y] => some (.min x y)
  | .max, _, [x, y] => some (.max x y)
  | .max, _, [x, y, z] => some (.max3 x y z)
  | .append, [t, u], [x, y] =>
    match P.underlying t, P.underlying u with
    | some (.slice e), some (.int _) =>
      match B6 P e, FI P e, Di P e with
      | some s, some b, some z => if s == z.length&&0<s&&0<b then some (.appz s b (MI z) z x y) else none
      | _, _, _ => none
    | some (.slice e), some _ =>
      match B6 P e, FI P e, Di P e with
      | some s, some b, some z => if s == z.length&&0<s&&0<b then some (.app s b x y) else none
      | _, _, _ => none
    | _, _ => none
  | .copy, t::_, [x, y] =>
    match P.underlying t with
    | some (.slice e) => match B6 P e with
      | some s => if 0<s then some (.cpy s x y) else none
      | none => none
    | _ => none
  | .delete, t::_, [m, k] =>
    match P.underlying t with
    | some (.map kt _) => (GT P kt).map fun pl => .del pl m k
    | _ => none
  | .cap, t::_, x::_ =>
    match P.underlying t with
    | some (.slice _) => some (.cpL x)
    | _ => none
  | .clear, t::_, x::_ =>
    match P.underlying t with
    | some (.slice e) => match B6 P e, Di P e with
      | some s, some z => if s == z.length&&0<s then some (.clr (MI z) z x) else none
      | _, _ => none
    | _ => none
  | _, _, _ => none
def G9 (o:Oper):Option AK :=
  match o.op with
  | .move x | .assign x => (At N x).map .mv
  | .pick c a b => match At N c, At N a, At N b with
    | some c, some a, some b => some (.pick c a b)
    | _, _, _ => none
  | .alloc e => (Di P e).map fun z => .alc (.l z)
  | .box _ x => (At N x).map .box
  | .build t parts =>
    match P.underlying t, Di P t with
    | some (.struct fs), some z => (fs.toList.mapM fun f => (P.info? f.type).map fun i => (f.offset, i.size)).bind fun places => (Gc N (places.toArray[·]?) parts.toList).map fun ps => .build z ps
    | some (.array _ e), some z => (B6 P e).bind fun s => (Gc N (fun i => some (i*s, s)) parts.toList).map fun ps => .build z ps
    | _, _ => none
  | .buildSlice t len parts =>
    match P.underlying t with
    | some (.slice e) =>
      match B6 P e, Di P e with
      | some s, some z => if s == z.length&&0<s&&len*s≤2 ^ 24 then
          (Gc N (fun i => some (i*s, s)) parts.toList).map fun ps => .bslice (cU8 P e&&s == 1) len s (Ea z len) ps else none
      | _, _ => none
    | _ => none
  | .load t a => match Ly P t, B6 P t, At N a with
    | some true, some s, some a => some (.ldn s a)
    | some false, _, some a => some (.ld a)
    | _, _, _ => none
  | .store t a x => match B6 P t, At N a, At N x with
    | some s, some a, some x => some (.st s a x)
    | _, _, _ => none
  | .nilCheck x => (At N x).map .nilck
  | .binOp op t x y _ =>
    match At N x, At N y with
    | some a, some b =>
      match op, P.underlying t with
      | .eql, some (.int _) | .eql, some .string => some (.bin .eql a b)
      | .neq, some (.int _) | .neq, some .string => some (.bin .neq a b)
      | .eql, _ => if P.eqGuardType P.depth t then none else (LI P t).map fun pl => .eq false pl a b
      | .neq, _ => if P.eqGuardType P.depth t then none else (LI P t).map fun pl => .eq true pl a b
      | op, _ => some (.bin op a b)
    | _, _ => none
  | .unOp op _ x =>
    match op, At N x with
    | .not, some x => some (.not x)
    | .neg, some x => some (.neg x)
    | .xor, some x => some (.com x)
    | _, _ => none
  | .convert src dst x =>
    match P.underlying src, P.underlying dst, At N x with
    | some (.int _), some (.int k), some x => some (.cvi k x)
    | some .string, some .string, some x => some (.idn x)
    | some .string, some (.slice e), some x => if cU8 P e then some (.s2b x) else none
    | some (.slice e), some .string, some x => if cU8 P e then some (.b2s x) else none
    | some (.slice _), some (.slice e), some x => if src == dst&&cU8 P e then some (.bsl x) else none
    | _, _, _ => none
  | .makeFunc fn first caps =>
    match fn, first.toList, Bg N caps.toList with
    | .func f, [], some l => some (.mkfn f l)
    | _, _, _ => none
  | .makeMap _ none => some .mkmap
  | .makeSlice t l c =>
    match P.underlying t, At N l, At N c with
    | some (.slice e), some l, some c =>
      match B6 P e, FI P e, Di P e with
      | some s, some b, some z => if s == z.length&&0<s&&0<b then some (.mksl b (MI z) z l c) else none
      | _, _, _ => none
    | _, _, _ => none
  | .slice t x none (some hi) (some mx) =>
    match P.underlying t, At N x, At N hi, At N mx with
    | some (.slice e), some x, some hi, some mx => (B6 P e).map fun s => .slL (s+4294967296) x (some mx) (some hi)
    | _, _, _, _ => none
  | .slice t x lo hi none =>
    match P.underlying t, At N x, Ek N lo, Ek N hi with
    | some .string, some x, some lo, some hi => some (.slS x lo hi)
    | some (.slice e), some x, some lo, some hi => (B6 P e).bind fun s => if s<4294967296 then some (.slL s x lo hi) else none
    | some (.array m e), some x, some lo, some hi => (B6 P e).map fun s => .slA m s x lo hi
    | _, _, _, _ => none
  | .fieldAddr s x f =>
    match P.underlying s, At N x with
    | some (.struct fs), some x => (fs[f]?).bind fun f => match B6 P f.type with
      | some (_+1) => some (.fad f.offset x)
      | _ => none
    | _, _ => none
  | .field s x f =>
    match P.underlying s, At N x with
    | some (.struct fs), some x => (fs[f]?).bind fun f => match Ly P f.type, B6 P f.type with
      | some ag, some sz => some (.fld f.offset sz ag x)
      | _, _ => none
    | _, _ => none
  | .indexAddr t x i =>
    match P.underlying t, At N x, At N i with
    | some (.slice e), some x, some i => (B6 P e).map fun s => .ixS s x i
    | some (.array m e), some x, some i => (B6 P e).map fun s => .ixA m s x i
    | _, _, _ => none
  | .index t x i =>
    match P.underlying t, At N x, At N i with
    | some .string, some x, some i => some (.idS x i)
    | some (.array m e), some x, some i => match Ly P e, B6 P e with
      | some ag, some s => some (.idA m s ag x i)
      | _, _ => none
    | _, _, _ => none
  | .lookup t m k ok =>
    match P.underlying t, At N m, At N k with
    | some (.map kt e), some m, some k =>
      match GT P kt, (P.info? e).bind (·.zero) with
      | some pl, some z => (K7 z).map fun z => .lk pl z ok m k
      | _, _ => none
    | _, _, _ => none
  | .mapUpdate t m k v | .insert t m k v =>
    match P.underlying t, At N m, At N k, At N v with
    | some (.map kt _), some m, some k, some v => (GT P kt).map fun pl => .mu pl m k v
    | _, _, _, _ => none
  | .extract x i => (At N x).map fun x => .ext i x
  | .call c =>
    match c.callee, Bg N c.args.toList with
    | .builtin b, some args => Fs P b c.argTypes args
    | .value (.func f), some args => some (.call f args)
    | .value x, some args => (At N x).map fun x => .calld x args
    | _, _ => none
  | _ => none
/-- An operation, its guard read off the region's other operations. -/
def KT (ops:Array Oper) (o:Oper):Option AOp :=
  match (match o.dst with | none => some none | some d => (Ha N d).map some:Option (Option K2)),
    (match o.guard with | none => some none | some (j, w) => ((ops[j]?).bind (·.dst)).bind fun d => (Ha N d).map fun s => some (s, w):Option (Option (K2×Bool))) with
  | some d, some g => some ⟨d, g, (G9 P N o).getD (.bad o.pos)⟩
  | _, _ => none
def Ip (ops:Array Oper):List Oper->Option (List AOp)
  | [] => some []
  | o::l => match KT P N ops o, Ip ops l with
    | some x, some xs => some (x::xs)
    | _, _ => none
/-- 0: it hangs on registers alone; 1: it reads; 2: it makes memory; 3: it does more. -/
def AK.sort:AK->Nat
  | .ld _ | .ldn _ _ | .b2s _ | .slA _ _ _ _ _ | .lk _ _ _ _ _ | .lnM _ => 1
  | .alc _ | .box _ | .bslice _ _ _ _ _ | .s2b _ | .mkmap | .mksl _ _ _ _ _ => 2
  | .st _ _ _ | .mu _ _ _ _ | .del _ _ _ | .call _ _ | .calld _ _ | .app _ _ _ _ | .appz _ _ _ _ _ _ | .cpy _ _ _ | .clr _ _ _ | .bsl _ | .bad _ => 3
  | _ => 0
def CV (o:Oper):List Nat := o.after.toList.filterMap fun e => if Region.binds .any e then some e.on else none
/-- Of each operation all that stand ahead of it, as bits. -/
def Ag6 (deps:List (List Nat)):List Nat :=
  deps.foldl (fun acc ds => acc++[ds.foldl (fun s d => s ||| 2 ^ d ||| acc.getD d 0) 0]) []
def AK.opds:AK->List Opd
  | .mv x | .box x | .ld x | .ldn _ x | .nilck x | .not x | .neg x | .com x | .cvi _ x | .b2s x | .s2b x | .idn x | .bsl x | .fad _ x | .fld _ _ _ x | .ext _ x | .lnS x | .lnL x | .lnM x | .cpL x | .clr _ _ x => [x]
  | .pick c a b | .max3 c a b => [c, a, b]
  | .alc _ | .mkmap | .bad _ => []
  | .build _ ps | .bslice _ _ _ _ ps => ps.map (·.x)
  | .st _ a x | .bin _ a x | .eq _ _ a x | .ixS _ a x | .ixA _ _ a x | .idS a x | .idA _ _ _ a x | .lk _ _ _ a x | .del _ a x | .min a x | .max a x | .app _ _ a x | .appz _ _ _ _ a x | .cpy _ a x
  | .mksl _ _ _ a x => [a, x]
  | .mu _ m k v => [m, k, v]
  | .mkfn _ l | .call _ l => l
  | .calld x l => x::l
  | .slS x lo hi | .slL _ x lo hi | .slA _ _ x lo hi => x::(lo.toList++hi.toList)
def K2.beq (p q:K2):Bool := and (p.b.beq q.b) (p.a.beq q.a)
def Ym (p:K2) (l:List K2):Bool := l.any (K2.beq p)
/-- The registers that an operation reads. -/
def AOp.slots (o:AOp):List K2 :=
  (o.k.opds.filterMap fun x => match x with | .t p => some p | .c _ => none)++(match o.g with | some (p, _) => [p] | none => [])
/-- The items of a drawn region, told by numbers. -/
inductive SI where
  | rd (i:Nat)
  | ef (i:Nat)
  | al (i:Nat) (j:D)
  | ck (i:Nat)
  | no (j:D)
  | rn (i a:Nat) (j:D)
def SI.ix:SI->Option Nat
  | .rd i => some i
  | .ef i => some i
  | .al i _ => some i
  | .rn i _ _ => some i
  | _ => none
def SI.isEf:SI->Bool
  | .ef _ => true
  | _ => false
def SI.isAl:SI->Bool
  | .al _ _ => true
  | _ => false
/-- What is read here, first or again. -/
def SI.reads:SI->Option Nat
  | .rd i => some i
  | .ck i => some i
  | _ => none
def SI.isCk (i:Nat):SI->Bool
  | .ck j => Nat.beq i j
  | _ => false
def BG:AOp := ⟨none, none, .bad "no such operation"⟩
def Mj (os:List AOp):SI->Item
  | .rd i => .rd i (os.getD i BG)
  | .ef i => .ef i (os.getD i BG)
  | .al i j => .al i j (os.getD i BG)
  | .ck i => .ck i (os.getD i BG)
  | .no j => .no j
  | .rn i _ j => .rn i j (os.getD i BG)
/-- What is DI of a drawn region: sorts, registers written and read, what each hangs on, ancestors, the items. -/
structure Plot where
  so:List Nat
  ds:List (Option K2)
  sl:List (List K2)
  de:List (List Nat)
  an:List Nat
  sk:List SI
namespace Plot
variable (p:Plot)
def m:Nat := p.so.length
def sort (i:Nat):Nat := p.so.getD i 9
def dst (i:Nat):Option K2 := p.ds.getD i none
def slots (i:Nat):List K2 := p.sl.getD i []
def deps (i:Nat):List Nat := p.de.getD i []
def anc (i d:Nat):Bool := (p.an.getD i 0).testBit d
def pos (i:Nat):Nat := p.sk.findIdx fun x => match x.ix with | some j => Nat.beq i j | none => false
/-- How many effects stand ahead of a place. -/
def bat (l:Nat):Nat := ((p.sk.take l).filter SI.isEf).length
def effs:List Nat := p.sk.filterMap fun x => match x with | .ef i => some i | _ => none
def all (f:Nat->Bool):Bool := (List.range p.m).all f
/-- What depends on nothing but its number, kept. -/
structure Tab where
  po:List Nat
  ba:List Nat
  ef:List Nat
def tab:Tab := ⟨(List.range p.m).map p.pos, (List.range (p.sk.length+1)).map p.bat, p.effs⟩
def writes (w:Nat) (l:List K2):Bool := match p.dst w with | some d => Ym d l | none => false
def okDst:Bool := p.all fun i => p.all fun j => Nat.beq i j || match p.dst i with | some d => !(match p.dst j with | some e => d.beq e | none => false) | none => true
def okDeps:Bool := p.all fun i => (p.deps i).all fun d => Nat.blt d i
def okAnc:Bool := p.all fun i => p.all fun d => !p.anc i d || (p.deps i).any fun c => Nat.beq c d || p.anc c d
def okPos (t:Tab):Bool := p.all fun i => match p.sk[t.po.getD i 0]? with
  | some (.ef j) => Nat.beq i j&&Nat.beq (p.sort i) 3
  | some (.al j _) => Nat.beq i j&&Nat.beq (p.sort i) 2
  | some (.rd j) => Nat.beq i j&&Nat.ble (p.sort i) 1
  | some (.rn j a d) => Nat.beq i j&&(Nat.ble (p.sort i) 1&&(Nat.blt a p.m&&(p.anc i a&&(Nat.blt (t.po.getD a 0) (t.po.getD i 0)&&(Nat.beq (t.ba.getD (t.po.getD a 0) 0) (t.ba.getD (t.po.getD i 0) 0) &&
      match p.sk[t.po.getD a 0]? with | some (.al a' d') => Nat.beq a a'&&d.beq d' | _ => false)))))
  | _ => false
def okUniq (t:Tab):Bool := (List.range p.sk.length).all fun l => match p.sk[l]? with
  | some x => match x.ix with
    | some i => Nat.blt i p.m&&Nat.beq (t.po.getD i 0) l
    | none => match x with
      | .ck i => Nat.blt i p.m&&Nat.blt (t.po.getD i 0) l&&Nat.ble (p.sort i) 1
      | _ => true
  | none => false
def okSlots (t:Tab):Bool := p.all fun i => p.all fun w => !p.writes w (p.slots i) || (!Nat.beq i w&&((p.anc i w&&Nat.blt (t.po.getD w 0) (t.po.getD i 0)) ||
  (p.anc w i&&Nat.blt (t.po.getD i 0) (t.po.getD w 0)&&(List.range p.sk.length).all fun l => match p.sk[l]? with | some x => !x.isCk i || Nat.blt l (t.po.getD w 0) | none => true)))
def okEff (t:Tab):Bool := t.ef.all fun i => t.ef.all fun j => !Nat.blt (t.po.getD i 0) (t.po.getD j 0) || p.anc j i
/-- With j effects done the operation cannot be next. -/
def never (t:Tab) (i j:Nat):Bool := t.ef.any fun e => (p.anc i e&&Nat.ble j (t.ba.getD (t.po.getD e 0) 0)) || (p.anc e i&&Nat.blt (t.ba.getD (t.po.getD e 0) 0) j)
/-- What was MG in a later batch, or in this one, is read. -/
def fresh (t:Tab) (i j:Nat):Bool := match p.sk[t.po.getD i 0]? with | some (.rn _ a _) => Nat.ble j (t.ba.getD (t.po.getD a 0) 0) | _ => false
def okRead (t:Tab):Bool := p.all fun i => !Nat.beq (p.sort i) 1 || (List.range (t.ef.length+1)).all fun j => p.never t i j || p.fresh t i j ||
  (List.range p.sk.length).any fun l => Nat.beq (t.ba.getD l 0) j&&match p.sk[l]? with | some x => (match x.reads with | some i' => Nat.beq i i' | none => false) | none => false
def okAl (t:Tab):Bool := p.all fun i => !Nat.beq (p.sort i) 2 || match p.sk[t.po.getD i 0]? with
  | some (.al _ d) => ((List.range (t.ef.length+1)).all fun j => if Nat.ble j (t.ba.getD (t.po.getD i 0) 0) then
        (List.range p.sk.length).any fun l => Nat.beq (t.ba.getD l 0) j&&match p.sk[l]? with | some (.no d') => d.beq d' | _ => false
      else t.ef.any fun e => p.anc e i&&Nat.blt (t.ba.getD (t.po.getD e 0) 0) j) &&
    p.all fun i' => Nat.beq i i' || match p.sk[t.po.getD i' 0]? with | some (.al _ d') => !d.beq d' | _ => true
  | _ => false
def ok:Bool :=
  let t := p.tab
  p.okDst&&(p.okDeps&&(p.okAnc&&(p.okPos t&&(p.okUniq t&&(p.okSlots t&&(p.okEff t&&(p.okRead t&&p.okAl t)))))))
end Plot
/-- How many of the effects stand ahead. -/
def Aax (effs:List Nat) (anc:Nat):Nat := (effs.filter (anc.testBit ·)).length
/-- How many effects there are ahead of the first one that it stands ahead of. -/
def Ab5 (effs:List (Nat×Nat)) (i:Nat):Nat := (effs.takeWhile fun e => !e.2.testBit i).length
/-- The P9: effects as their number (from 1), readings as early as they may, what makes memory as late, the rest behind what it hangs on. -/
def P9 (effs:List (Nat×Nat)):List (Nat×List Nat×Nat×Nat)->List Nat->List Nat
  | [], acc => acc
  | (i, deps, anc, sort)::l, acc =>
    let b := deps.foldl (fun m d => max m (acc.getD d 0)) 0
    let b := match sort with
      | 1 => max b (Aax (effs.map (·.1)) anc)
      | 2 => max b (Ab5 effs i)
      | 3 => Aax (effs.map (·.1)) anc+1
      | _ => b
    P9 effs l (acc++[b])
/-- The plot of a region. -/
def Aah (so:List Nat) (de:List (List Nat)) (an:List Nat) (ro:List (Option Nat)):List SI :=
  let idx := List.range so.length
  let ef := (idx.filter fun i => so.getD i 0 == 3).map fun i => (i, an.getD i 0)
  let ba := P9 ef (idx.map fun i => (i, de.getD i [], an.getD i 0, so.getD i 0)) []
  let al := idx.filter fun i => so.getD i 0 == 2
  let dig := fun i => D.ofN (al.takeWhile (· != i)).length
  let item := fun i => if so.getD i 0 == 2 then SI.al i (dig i) else match ro.getD i none with
    | some a => if so.getD i 0 == 1&&ba.getD i 0 == ba.getD a 0 then SI.rn i a (dig a) else SI.rd i
    | none => SI.rd i
  (List.range (ef.length+1)).flatMap fun j =>
    ((idx.filter fun i => so.getD i 0 == 3&&ba.getD i 0 == j).map SI.ef) ++
    ((al.filter fun i => Nat.ble j (ba.getD i 0)).map fun i => SI.no (dig i)) ++
    ((idx.filter fun i => so.getD i 0 != 3&&ba.getD i 0 == j).map item) ++
    ((idx.filter fun i => so.getD i 0 == 1&&Nat.blt (ba.getD i 0) j&&Nat.ble j (Ab5 ef i)).map SI.ck)
/-- What an operation reads, or leads to. -/
def AK.base:AK->Option K2
  | .ld (.t p) | .ldn _ (.t p) | .b2s (.t p) | .slA _ _ (.t p) _ _ | .lk _ _ _ (.t p) _ | .lnM (.t p) | .ixS _ (.t p) _ | .ixA _ _ (.t p) _ | .fad _ (.t p) | .slL _ (.t p) _ _ | .nilck (.t p) | .idn (.t p) => some p
  | _ => none
/-- The operation that MG what is read. -/
def Ve (os:List AOp):Nat->Nat->Option Nat
  | 0, _ => none
  | fuel+1, i => match os[i]? with
    | some o => match o.k.base with
      | some q =>
        let j := os.findIdx fun x => match x.dst with | some d => d.beq q | none => false
        match os[j]? with
        | some x => if x.k.sort == 2 then some j else if Nat.blt j i then Ve os fuel j else none
        | none => none
      | none => none
    | none => none
def BL (deps:List (List Nat)) (os:List AOp):Plot :=
  let so := os.map (·.k.sort)
  let an := Ag6 deps
  ⟨so, os.map (·.dst), os.map AOp.slots, deps, an, Aah so deps an ((List.range so.length).map fun i => if so.getD i 0 == 1 then Ve os 6 i else none)⟩
def C4 (ops:Array Oper) (draw:Bool):AC :=
  match Ip P N ops ops.toList with
  | none => .bad "a region of it registers"
  | some os =>
    if draw then
      let p := BL (ops.toList.map CV) os
      if p.ok then .drawn (p.sk.any SI.isAl) (p.sk.map (Mj os)) else .bad "a region of it order"
    else .ops os
/-- Functions whose result hangs on the order in which a map tells its keys. -/
def Aaj (f:FuncId):Bool := match P.funcs[f]? with
  | some fn => fn.origin == "slices.Collect" || fn.origin == "slices.AppendSeq" || fn.name == "stillroom/stillroomtop.small"
  | none => false
def cSp (o:Oper):Option Sp := match o.op with
  | .range ty x => match P.underlying ty with | some (.map _ _) => (At N x).map .rng | _ => none
  | .next x s => if s then none else (At N x).map .nxt
  | .entry x => (At N x).map .ent
  | .call ct => match ct.callee with
    | .value (.func f) => if Aaj P f then (Bg N ct.args.toList).map (.tcl f) else none
    | .value (.tmp s) => match At N (.tmp s), Bg N ct.args.toList with
      | some x, some l => some (.dcl x l)
      | _, _ => none
    | _ => none
  | _ => none
def ZS (o:Oper):Option (Option K2) := match o.dst with | none => some none | some d => (Ha N d).map some
def Pu (ops:Array Oper):List Oper->Option (List AOp×Sp×Option K2×List AOp)
  | [] => none
  | o::l => match cSp P N o with
    | some sp => match o.guard, ZS N o, Ip P N ops l with
      | none, some d, some post => some ([], sp, d, post)
      | _, _, _ => none
    | none => match Pu ops l with
      | none => none
      | some r => match KT P N ops o with
        | some x => some (x::r.1, r.2)
        | none => none
def Ye (ops:Array Oper) (draw:Bool):AC :=
  if draw then C4 P N ops true else match Pu P N ops ops.toList with
  | some r => .spl r.1 r.2.1 r.2.2.1 r.2.2.2
  | none => C4 P N ops false
def AY:Code->AC
  | .skip => .skip
  | .region _ ops draw => Ye P N ops draw
  | .seq a b => .seq (AY a) (AY b)
  | .cond c a b => match At N c with
    | some c => .cond c (AY a) (AY b)
    | none => .bad "a test"
  | .block id b => .block id (AY b)
  | .loop b => .loop (AY b)
  | .exit id => .exit id
  | .label _ => .skip
  | .ret => .ret
  | .rangeFunc _ _ _ _ => .bad "a range over a function"
  | .scope _ => .bad "a scope"
  | .goto _ => .bad "a goto"
  | .refuse why => .bad why
def Gd:List Nat->Option (List K2)
  | [] => some []
  | t::l => match Ha N t, Gd l with
    | some x, some xs => some (x::xs)
    | _, _ => none
def Ce:List ResultVar->Option (List ARes)
  | [] => some []
  | .tmp t::l => match Ha N t, Ce l with
    | some x, some xs => some (.tmp x::xs)
    | _, _ => none
  | .cell t ty::l => match Ha N t, Ly P ty, B6 P ty, Ce l with
    | some x, some ag, some m, some xs => some (.cel x (if ag then some m else none)::xs)
    | _, _, _, _ => none
end
/-- A function. -/
def Ml (P:Program) (f:FuncId):Option AFn :=
  match P.funcs[f]? with
  | some fn =>
    match fn.body, Gd fn.ntmps (List.range (fn.params.size+fn.nfree)), Ce P fn.ntmps fn.results.toList with
    | some c, some ps, some rs => if fn.name == "runtime.NumGoroutine" then none else some ⟨ps, AY P fn.ntmps c, rs⟩
    | _, _, _ => none
  | none => none
end Go.Ev

namespace Go.Ev
set_option linter.unusedVariables false
section
variable {ρ:Env}
def AF.le (φ φ':AF):Prop := ∀ p x, φ p=some x->φ' p=some x
theorem AF.le_refl (φ:AF):AF.le φ φ := fun _ _ h => h
theorem AF.le_trans {a b c:AF} (h:AF.le a b) (k:AF.le b c):AF.le a c := fun p x hx => k p x (h p x hx)
mutual
theorem Fj {φ φ':AF} (h:AF.le φ φ'):∀ {v:V} {x:Value}, Aj ρ φ v x->Aj ρ φ' v x
  | .int _ _, _, r => by simpa only [Aj] using r
  | .bool _, _, r => by simpa only [Aj] using r
  | .ptr _ _, _, r => by
    simp only [Aj] at r ⊢
    obtain ⟨b, s, tot, hp, e⟩ := r
    exact ⟨b, s, tot, h _ _ hp, e⟩
  | .sl _ _ _ _ _ _, _, r => by
    simp only [Aj] at r ⊢
    obtain ⟨b, s, tot, o, c, hp, e⟩ := r
    exact ⟨b, s, tot, o, c, h _ _ hp, e⟩
  | .str _ _, _, r => by simpa only [Aj] using r
  | .agg l, _, r => by
    simp only [Aj] at r ⊢
    obtain ⟨cs, e, hl, ho⟩ := r
    exact ⟨cs, e, Gx h hl, ho⟩
  | .nil _, _, r => by simpa only [Aj] using r
  | .map _, _, r => by
    simp only [Aj] at r ⊢
    obtain ⟨b, s, tot, hp, e⟩ := r
    exact ⟨b, s, tot, h _ _ hp, e⟩
  | .fn _ l, _, r => by
    simp only [Aj] at r ⊢
    obtain ⟨cs, e, hl⟩ := r
    exact ⟨cs, e, Gx h hl⟩
  | .tup l, _, r => by
    simp only [Aj] at r ⊢
    obtain ⟨cs, e, hl⟩ := r
    exact ⟨cs, e, Gx h hl⟩
  | .oth o, _, r => by
    cases o with
    | yl p =>
      simp only [Aj] at r ⊢
      obtain ⟨b, s, tot, hp, e⟩ := r
      exact ⟨b, s, tot, h _ _ hp, e⟩
    | _ => simp only [Aj] at r ⊢ <;> exact r
theorem Gx {φ φ':AF} (h:AF.le φ φ'):∀ {l:List V} {xs:List Value}, Bi ρ φ l xs->Bi ρ φ' l xs
  | [], _, r => by simpa only [Bi] using r
  | v::l, _, r => by
    simp only [Bi] at r ⊢
    obtain ⟨y, ys, e, hy, hys⟩ := r
    exact ⟨y, ys, e, Fj h hy, Gx h hys⟩
end
theorem Ao {φ:AF} {xs:List Value}:Bi ρ φ [] xs ↔ xs=[] := by simp only [Bi]
theorem Ak {φ:AF} {v:V} {l:List V} {xs:List Value}:Bi ρ φ (v::l) xs ↔ ∃ y ys, xs=y::ys∧Aj ρ φ v y∧Bi ρ φ l ys := by simp only [Bi]
theorem AW {φ:AF} {l:List V}:∀ {xs:List Value}, Bi ρ φ l xs->xs.length=l.length := by
  induction l with
  | nil => intro xs h; rw [Ao] at h; rw [h]; rfl
  | cons v l ih => intro xs h; obtain ⟨y, ys, rfl, _, h⟩ := Ak.1 h; simp [ih h]
theorem BO {φ:AF} {l:List V}:∀ {xs:List Value}, Bi ρ φ l xs ↔ xs.length=l.length ∧ ∀ (i:Nat) (v:V), l[i]? = some v->∃ x, xs[i]? = some x∧Aj ρ φ v x := by
  induction l with
  | nil =>
    intro xs; rw [Ao]; constructor
    · rintro rfl; exact ⟨rfl, fun i v h => by simp at h⟩
    · rintro ⟨h, _⟩; exact List.eq_nil_of_length_eq_zero h
  | cons v l ih =>
    intro xs
    rw [Ak]
    constructor
    · rintro ⟨y, ys, rfl, hy, hys⟩
      obtain ⟨h1, h2⟩ := ih.1 hys
      refine ⟨by simp [h1], fun i u hu => ?_⟩
      cases i with
      | zero => simp at hu; subst hu; exact ⟨y, rfl, hy⟩
      | succ i => simpa using h2 i u (by simpa using hu)
    · rintro ⟨h1, h2⟩
      cases xs with
      | nil => simp at h1
      | cons y ys =>
        obtain ⟨x, hx, hr⟩ := h2 0 v rfl
        simp at hx; subst hx
        exact ⟨y, ys, rfl, hr, ih.2 ⟨by simpa using h1, fun i u hu => by simpa using h2 (i+1) u (by simpa using hu)⟩⟩
theorem G3 {φ:AF} {a b:List V} {xs ys:List Value} (h:Bi ρ φ a xs) (k:Bi ρ φ b ys):Bi ρ φ (a++b) (xs++ys) := by
  induction a generalizing xs with
  | nil => rw [Ao] at h; subst h; exact k
  | cons v a ih => obtain ⟨y, zs, rfl, hy, h⟩ := Ak.1 h; exact Ak.2 ⟨y, zs++ys, rfl, hy, ih h⟩
theorem Kg {φ:AF} {a:List V} {xs:List Value} (h:Bi ρ φ a xs) (k:Nat):Bi ρ φ (a.drop k) (xs.drop k) := by
  induction k generalizing a xs with
  | zero => simpa using h
  | succ k ih => cases a with
    | nil => rw [Ao] at h; subst h; simpa using Ao.2 rfl
    | cons v a => obtain ⟨y, zs, rfl, hy, h⟩ := Ak.1 h; simpa using ih h
theorem Kq {φ:AF} {a:List V} {xs:List Value} (h:Bi ρ φ a xs) (k:Nat):Bi ρ φ (a.take k) (xs.take k) := by
  induction k generalizing a xs with
  | zero => simpa using Ao.2 rfl
  | succ k ih => cases a with
    | nil => rw [Ao] at h; subst h; simpa using Ao.2 rfl
    | cons v a => obtain ⟨y, zs, rfl, hy, h⟩ := Ak.1 h; simpa using Ak.2 ⟨y, zs.take k, rfl, hy, ih h⟩
/-- Symbols stand for values of one cell. -/
def B4 (ρ:Env):Prop := ∀ i, (ρ.v i).oneCell'=true
theorem HX {φ:AF} (hρ:B4 ρ) {v:V} (hv:v.celled) {x:Value} (h:Aj ρ φ v x) :
    Bi ρ φ v.cl x.cells.toList ∧ ∀ y∈x.cells.toList, y.oneCell'=true := by
  cases v with
  | agg l =>
    simp only [Aj] at h
    obtain ⟨cs, rfl, hl, ho⟩ := h
    exact ⟨hl, ho⟩
  | tup l => exact hv.elim
  | int k r =>
    have h' := h; simp only [Aj] at h'; obtain ⟨_, rfl⟩ := h'
    exact ⟨Ak.2 ⟨_, [], rfl, h, Ao.2 rfl⟩, by simp [Value.cells, Value.oneCell']⟩
  | bool b =>
    have h' := h; simp only [Aj] at h'; subst h'
    exact ⟨Ak.2 ⟨_, [], rfl, h, Ao.2 rfl⟩, by simp [Value.cells, Value.oneCell']⟩
  | ptr p o =>
    have h' := h; simp only [Aj] at h'; obtain ⟨_, _, _, _, rfl⟩ := h'
    exact ⟨Ak.2 ⟨_, [], rfl, h, Ao.2 rfl⟩, by simp [Value.cells, Value.oneCell']⟩
  | sl p o l c e z =>
    have h' := h; simp only [Aj] at h'; obtain ⟨_, _, _, _, _, _, rfl, _⟩ := h'
    exact ⟨Ak.2 ⟨_, [], rfl, h, Ao.2 rfl⟩, by simp [Value.cells, Value.oneCell']⟩
  | str n c =>
    have h' := h; simp only [Aj] at h'; obtain ⟨_, rfl, _⟩ := h'
    exact ⟨Ak.2 ⟨_, [], rfl, h, Ao.2 rfl⟩, by simp [Value.cells, Value.oneCell']⟩
  | nil w =>
    have h' := h; simp only [Aj] at h'; subst h'
    exact ⟨Ak.2 ⟨_, [], by cases w <;> rfl, h, Ao.2 rfl⟩, by cases w <;> simp [BB, Value.cells, Value.oneCell']⟩
  | map p =>
    have h' := h; simp only [Aj] at h'; obtain ⟨_, _, _, _, rfl⟩ := h'
    exact ⟨Ak.2 ⟨_, [], rfl, h, Ao.2 rfl⟩, by simp [Value.cells, Value.oneCell']⟩
  | fn f l =>
    have h' := h; simp only [Aj] at h'; obtain ⟨_, rfl, _⟩ := h'
    exact ⟨Ak.2 ⟨_, [], rfl, h, Ao.2 rfl⟩, by simp [Value.cells, Value.oneCell']⟩
  | oth o =>
    cases o with
    | any => exact hv.elim
    | yl p => exact hv.elim
    | no => exact hv.elim
    | sym i =>
      have h' := h; simp only [Aj] at h'; subst h'
      have hone := hρ i
      have hc:(ρ.v i).cells = #[ρ.v i] := by
        cases hx:ρ.v i <;> first | rfl | (rw [hx] at hone; simp [Value.oneCell'] at hone)
      rw [hc]
      exact ⟨Ak.2 ⟨_, [], rfl, h, Ao.2 rfl⟩, by simpa using hone⟩
    | iv k lo hi =>
      have h' := h; simp only [Aj] at h'; obtain ⟨_, _, _, _, rfl⟩ := h'
      exact ⟨Ak.2 ⟨_, [], rfl, h, Ao.2 rfl⟩, by simp [Value.cells, Value.oneCell']⟩
    | os lo hi =>
      have h' := h; simp only [Aj] at h'; obtain ⟨_, _, _, rfl, _⟩ := h'
      exact ⟨Ak.2 ⟨_, [], rfl, h, Ao.2 rfl⟩, by simp [Value.cells, Value.oneCell']⟩
    | bl =>
      have h' := h; simp only [Aj] at h'; obtain ⟨_, rfl⟩ := h'
      exact ⟨Ak.2 ⟨_, [], rfl, h, Ao.2 rfl⟩, by simp [Value.cells, Value.oneCell']⟩
    | rs m j =>
      have h' := h; simp only [Aj] at h'; obtain ⟨_, rfl, _⟩ := h'
      exact ⟨Ak.2 ⟨_, [], rfl, h, Ao.2 rfl⟩, by simp [Value.cells, Value.oneCell']⟩
    | ss lo hi n c =>
      have h' := h; simp only [Aj] at h'; obtain ⟨_, rfl, _⟩ := h'
      exact ⟨Ak.2 ⟨_, [], rfl, h, Ao.2 rfl⟩, by simp [Value.cells, Value.oneCell']⟩
    | ro i lo hi z =>
      have h' := h; simp only [Aj] at h'; obtain ⟨_, _, _, _, _, _, _, rfl, _⟩ := h'
      exact ⟨Ak.2 ⟨_, [], rfl, h, Ao.2 rfl⟩, by simp [Value.cells, Value.oneCell']⟩
    | ap i j m =>
      have h' := h; simp only [Aj] at h'; obtain ⟨_, _, _, _, _, rfl, _⟩ := h'
      exact ⟨Ak.2 ⟨_, [], rfl, h, Ao.2 rfl⟩, by simp [Value.cells, Value.oneCell']⟩
    | sy k i =>
      have h' := h; simp only [Aj] at h'; obtain ⟨_, _, _, rfl⟩ := h'
      exact ⟨Ak.2 ⟨_, [], rfl, h, Ao.2 rfl⟩, by simp [Value.cells, Value.oneCell']⟩
    | rb n c =>
      have h' := h; simp only [Aj, Hj] at h'; obtain ⟨_, _, rfl, _⟩ := h'
      exact ⟨Ak.2 ⟨_, [], rfl, h, Ao.2 rfl⟩, by simp [Value.cells, Value.oneCell']⟩
    | rx l m z =>
      have h' := h; simp only [Aj] at h'; obtain ⟨_, _, rfl, _⟩ := h'
      exact ⟨Ak.2 ⟨_, [], rfl, h, Ao.2 rfl⟩, by simp [Value.cells, Value.oneCell']⟩
    | rp l =>
      have h' := h; simp only [Aj] at h'; obtain ⟨_, _, _, _, _, rfl, _⟩ := h'
      exact ⟨Ak.2 ⟨_, [], rfl, h, Ao.2 rfl⟩, by simp [Value.cells, Value.oneCell']⟩
theorem Wo {ρ:Env} {v:RV} {x:Value} (h:Hj ρ v x):x.oneCell'=true := by
  cases v with
  | i k r => obtain ⟨_, rfl⟩ := h; rfl
  | b b => obtain rfl:x=_ := h; rfl
  | s n c => obtain ⟨_, rfl, _⟩ := h; rfl
  | y n c => obtain ⟨_, _, rfl, _⟩ := h; rfl
  | nl => obtain rfl:x=_ := h; rfl
/-- The values of cells that stay. -/
theorem Mm {ρ:Env} {φ:AF} {l:List RV} {ce:Array Value} {o:Nat} (h:Sz ρ l ce o):∃ vs:List Value, vs.length=l.length∧(∀ j v, vs[j]? = some v->ce[o+j]? = some v)∧(∀ x∈vs, x.oneCell'=true)∧Bi ρ φ (l.map RV.v) vs := by
  induction l generalizing o with
  | nil => exact ⟨[], rfl, (fun j v h => by simp at h), (fun x h => by simp at h), Ao.2 rfl⟩
  | cons v l ih =>
    obtain ⟨y, y1, y2⟩ := h 0 v rfl
    obtain ⟨vs, a1, a2, a3, a4⟩ := ih (o := o+1) fun j u hu => by
      obtain ⟨z, z1, z2⟩ := h (j+1) u (by simpa using hu)
      exact ⟨z, by rw [Nat.add_assoc, Nat.add_comm 1]; exact z1, z2⟩
    refine ⟨y::vs, by simp [a1], fun j u hu => ?_, fun x hx => ?_, Ak.2 ⟨y, vs, rfl, Q1 y2, a4⟩⟩
    · cases j with
      | zero => simp at hu; subst hu; exact y1
      | succ j =>
        have := a2 j u (by simpa using hu)
        rw [Nat.add_assoc, Nat.add_comm 1] at this; exact this
    · rcases List.mem_cons.1 hx with rfl | hx
      · exact Wo y2
      · exact a3 x hx
def Bu:Ob->Option K4
  | .c _ _ p => p
  | _ => none
def Js:Ob->Bool
  | .c _ s _ => s
  | _ => false
/-- The bytes that may not be written lie behind the cells. -/
def Frz (fr:Nat×Nat) (tot:Nat):Prop := fr.1=fr.2∨tot≤fr.1
def Hh (ρ:Env) (φ:AF):List (V×V)->List MapEntry->Prop
  | [], l => l=[]
  | e::es, l => ∃ y ys, l=y::ys∧Aj ρ φ e.1 y.key∧Aj ρ φ e.2 y.val∧Hh ρ φ es ys
def EY (ρ:Env) (φ:AF) (cs:Cs) (f:Nat->Option Value):Prop :=
  ∀ i v, cs.at i=some v->∃ x, f i=some x∧Aj ρ φ v x∧x.oneCell'=true
def GX (ρ:Env) (φ:AF) (w:World) (o:Ob) (b s tot:Nat):Prop :=
  match o with
  | .c cs _ _ => ∃ c e fr, w.heap[b]? = some (.cells c e fr)∧c.size=tot∧s+cs.len≤tot∧Frz fr tot∧EY ρ φ cs fun i => c[s+i]?
  | .m es bs clk => ∃ ents, w.heap[b]? = some (.map ents clk)∧Hh ρ φ es ents.toList∧ents.toList.map (·.born)=bs
  | .it p since seen c => ∃ bm sm tm, φ p=some (bm, sm, tm)∧s=0∧w.heap[b]? = some (.mapIter (some bm) since seen.reverse.toArray c)
  | .it0 => s=0∧w.heap[b]? = some (.mapIter none 0 #[] 0)
  | .lp f box => s=0 ∧ ∃ (A:ApC) (fn:FuncId) (tmps:Array Value) (D:Nat), ρ.ap f=some A∧w.heap[b]? = some (.loop { state := .ready, pending := none, fn, tmps, params := #[A.par], assign := A.asg, body := A.bod, defers := D }) ∧
      tmps.size=A.ntm∧Aj ρ φ (.ptr box 0) (tmps.getD A.box undef)
theorem UF {φ φ':AF} (h:AF.le φ φ') {es:List (V×V)}:∀ {l:List MapEntry}, Hh ρ φ es l->Hh ρ φ' es l := by
  induction es with
  | nil => exact fun h => h
  | cons e es ih => rintro l ⟨y, ys, rfl, h1, h2, h3⟩; exact ⟨y, ys, rfl, Fj h h1, Fj h h2, ih h3⟩
theorem Gm {φ φ':AF} (h:AF.le φ φ') {cs:Cs} {f:Nat->Option Value} (k:EY ρ φ cs f):EY ρ φ' cs f :=
  fun i v hv => let ⟨x, h1, h2, h3⟩ := k i v hv; ⟨x, h1, Fj h h2, h3⟩
theorem E7 {φ φ':AF} (h:AF.le φ φ') {w:World} {o:Ob} {b s tot:Nat} (k:GX ρ φ w o b s tot):GX ρ φ' w o b s tot := by
  cases o with
  | c cs sup prev =>
    obtain ⟨c, e, fr, h1, h2, h3, h4, h5⟩ := k
    exact ⟨c, e, fr, h1, h2, h3, h4, Gm h h5⟩
  | m es bs clk =>
    obtain ⟨ents, h1, h2, h3⟩ := k
    exact ⟨ents, h1, UF h h2, h3⟩
  | it p since seen c =>
    obtain ⟨bm, sm, tm, h1, h2, h3⟩ := k
    exact ⟨bm, sm, tm, h _ _ h1, h2, h3⟩
  | it0 => exact k
  | lp f box =>
    obtain ⟨h0, A, fn, tmps, D, h1, h2, h3, h4⟩ := k
    exact ⟨h0, A, fn, tmps, D, h1, h2, h3, Fj h h4⟩
theorem BN {φ:AF} {w w':World} {o:Ob} {b s tot:Nat} (h:w'.heap[b]? = w.heap[b]?) (k:GX ρ φ w o b s tot):GX ρ φ w' o b s tot := by
  cases o with
  | c cs sup prev => obtain ⟨c, e, fr, h1, h2⟩ := k; exact ⟨c, e, fr, h.trans h1, h2⟩
  | m es bs clk => obtain ⟨ents, h1, h2⟩ := k; exact ⟨ents, h.trans h1, h2⟩
  | it p since seen c => obtain ⟨bm, sm, tm, h1, h2, h3⟩ := k; exact ⟨bm, sm, tm, h1, h2, h.trans h3⟩
  | it0 => exact ⟨k.1, h.trans k.2⟩
  | lp f box => obtain ⟨h0, A, fn, tmps, D, h1, h2, h3⟩ := k; exact ⟨h0, A, fn, tmps, D, h1, h.trans h2, h3⟩
structure Gam (ρ:Env) (B:Nat) (h:Heap) (n:K4) (φ:AF) (w:World):Prop where
  base:B≤w.heap.size
  dom:∀ p x, φ p=some x->p.toN<n.toN
  blk:∀ p b s tot, φ p=some (b, s, tot)->B≤b∧b<w.heap.size
  obj:∀ p o b s tot, A8 p h=some o->φ p=some (b, s, tot)->GX ρ φ w o b s tot
  sep:∀ p q o o' b s tot s' tot', p≠q->A8 p h=some o->A8 q h=some o'->φ p=some (b, s, tot)->φ q=some (b, s', tot')->Bu o=some q∨Bu o'=some p
  sup:∀ p q o o' b s tot s' tot', A8 p h=some o->Bu o=some q->A8 q h=some o'->φ p=some (b, s, tot)->φ q=some (b, s', tot')->Js o'=true
  glob:∀ b c e fr, ρ.gl b=some (c, e, fr)->b<B∧w.heap[b]? = some (.cells c e fr)
/-- What a step leaves as it was. -/
structure Fr (h h':Heap) (φ φ':AF) (n n':K4) (w w':World):Prop where
  ext:AF.le φ φ'
  new:∀ p x, φ' p=some x->φ p=some x∨(n.toN≤p.toN∧p.toN<n'.toN)
  nn:n.toN≤n'.toN
  os:w'.os=w.os
  tape:w'.tape=w.tape
  out:w'.output=w.output
  size:w.heap.size≤w'.heap.size
  old:∀ b, b<w.heap.size->(∀ p s tot, φ p=some (b, s, tot)->A8 p h=none)->w'.heap[b]? = w.heap[b]?
  fresh:∀ p b s tot, φ' p=some (b, s, tot)->φ p=some (b, s, tot)∨w.heap.size≤b ∨ ∃ q s' tot', φ q=some (b, s', tot')∧A8 q h≠none
  dm:∀ p, φ p≠none->A8 p h=none->A8 p h'=none
theorem Fr.refl (h:Heap) (φ:AF) (n:K4) (w:World):Fr h h φ φ n n w w :=
  ⟨AF.le_refl φ, fun _ _ h => .inl h, Nat.le_refl _, rfl, rfl, rfl, Nat.le_refl _, fun _ _ _ => rfl, fun _ _ _ _ h => .inl h, fun _ _ h => h⟩
theorem Fr.trans {h h1 h2:Heap} {φ φ1 φ2:AF} {n n1 n2:K4} {w w1 w2:World} (a:Fr h h1 φ φ1 n n1 w w1) (c:Fr h1 h2 φ1 φ2 n1 n2 w1 w2):Fr h h2 φ φ2 n n2 w w2 where
  ext := AF.le_trans a.ext c.ext
  new := fun p x hx => by
    rcases c.new p x hx with h' | ⟨h1, h2⟩
    · rcases a.new p x h' with h' | ⟨h1, h2⟩
      · exact .inl h'
      · exact .inr ⟨h1, Nat.lt_of_lt_of_le h2 c.nn⟩
    · exact .inr ⟨Nat.le_trans a.nn h1, h2⟩
  nn := Nat.le_trans a.nn c.nn
  os := c.os.trans a.os
  tape := c.tape.trans a.tape
  out := c.out.trans a.out
  size := Nat.le_trans a.size c.size
  old := fun b hb hn => by
    rw [←a.old b hb hn]
    refine c.old b (Nat.lt_of_lt_of_le hb a.size) fun p s tot hp => ?_
    rcases a.fresh p b s tot hp with h' | h' | ⟨q, s', tot', hq, hne⟩
    · exact a.dm p (by rw [h']; simp) (hn p s tot h')
    · omega
    · exact absurd (hn q s' tot' hq) hne
  fresh := fun p b s tot hp => by
    rcases c.fresh p b s tot hp with h' | h' | ⟨q, s', tot', hq, hne⟩
    · exact a.fresh p b s tot h'
    · exact .inr (.inl (Nat.le_trans a.size h'))
    · rcases a.fresh q b s' tot' hq with h' | h' | h'
      · refine .inr (.inr ⟨q, s', tot', h', fun hn => hne (a.dm q (by rw [h']; simp) hn)⟩)
      · exact .inr (.inl h')
      · exact .inr (.inr h')
  dm := fun p hp hn => c.dm p (by
    cases hx:φ p with
    | none => exact absurd hx hp
    | some x => rw [a.ext p x hx]; simp) (a.dm p hp hn)
/-- A draw. -/
theorem Fr.drew {h:Heap} {φ:AF} {n:K4} {w:World}:Fr h h φ φ n n w w.drew :=
  ⟨AF.le_refl φ, fun _ _ h => .inl h, Nat.le_refl _, rfl, rfl, rfl, Nat.le_refl _, fun _ _ _ => rfl, fun _ _ _ _ h => .inl h, fun _ _ h => h⟩
theorem Gam.drew {B:Nat} {h:Heap} {φ:AF} {n:K4} {w:World} (g:Gam ρ B h n φ w):Gam ρ B h n φ w.drew :=
  ⟨g.base, g.dom, g.blk, fun p o b s tot h1 h2 => BN (w := w) rfl (g.obj p o b s tot h1 h2), g.sep, g.sup, g.glob⟩
/-- A greater next place. -/
theorem Gam.nx {B:Nat} {h:Heap} {φ:AF} {n n':K4} {w:World} (g:Gam ρ B h n φ w) (hn:n.toN≤n'.toN):Gam ρ B h n' φ w :=
  ⟨g.base, fun p x hx => Nat.lt_of_lt_of_le (g.dom p x hx) hn, g.blk, g.obj, g.sep, g.sup, g.glob⟩
def EA (φ:AF) (p:K4) (x:Nat×Nat×Nat):AF := fun q => if p.beq q then some x else φ q
theorem BE (φ:AF) (p:K4) (x:Nat×Nat×Nat):EA φ p x p=some x := if_pos (K4.beq_iff.2 rfl)
theorem HW {φ:AF} {p q:K4} {x:Nat×Nat×Nat} (h:p≠q):EA φ p x q=φ q := if_neg fun e => h (K4.beq_iff.1 e)
theorem CP {φ:AF} {p:K4} {x:Nat×Nat×Nat} (h:φ p=none):AF.le φ (EA φ p x) := fun q y hy => by
  rw [HW fun e => by rw [e, hy] at h; cases h]; exact hy
theorem Av {φ:AF} {p q:K4} {x y:Nat×Nat×Nat} (h:EA φ p x q=some y):(p=q∧x=y)∨(p≠q∧φ q=some y) := by
  by_cases e:p=q
  · subst e; rw [BE] at h; exact .inl ⟨rfl, by simpa using h⟩
  · rw [HW e] at h; exact .inr ⟨e, h⟩
theorem Bl {h:Heap} {p q:K4} {o:Option Ob} {x:Ob} (k:A8 q (Af p h o)=some x):(p=q∧o=some x)∨(p≠q∧A8 q h=some x) := by
  by_cases e:p=q
  · subst e; rw [A7] at k; exact .inl ⟨rfl, k⟩
  · rw [A6 _ _ e] at k; exact .inr ⟨e, k⟩
/-- A new block. -/
theorem Gam.alloc {B:Nat} {h:Heap} {φ:AF} {n n' p:K4} {w:World} (g:Gam ρ B h n φ w) (hp:φ p=none) (hpn:p.toN<n'.toN) (hn:n.toN≤n'.toN)
    (o:Ob) (ho:Bu o=none) (O:Obj) (tot:Nat)
    (hok:∀ φ':AF, AF.le φ φ'->∀ w':World, w'.heap[w.heap.size]? = some O->GX ρ φ' w' o w.heap.size 0 tot) :
    Gam ρ B (Af p h (some o)) n' (EA φ p (w.heap.size, 0, tot)) (w.alloc O) where
  base := by have := g.base; rw [World.size_alloc]; omega
  glob := fun b c e fr hb => ⟨(g.glob b c e fr hb).1, by rw [Go.RowKit.Below.heap_alloc w O b (by have := (g.glob b c e fr hb).1; have := g.base; omega)]; exact (g.glob b c e fr hb).2⟩
  dom := fun q x hx => by
    rcases Av hx with ⟨rfl, _⟩ | ⟨_, hx⟩
    · exact hpn
    · exact Nat.lt_of_lt_of_le (g.dom q x hx) hn
  blk := fun q b s t hx => by
    rw [World.size_alloc]
    rcases Av hx with ⟨rfl, e⟩ | ⟨_, hx⟩
    · simp only [Prod.mk.injEq] at e; have := g.base; omega
    · have := g.blk q b s t hx; omega
  obj := fun q o' b s t hq hx => by
    rcases Av hx with ⟨rfl, e⟩ | ⟨hne, hx⟩
    · rw [A7] at hq
      simp only [Prod.mk.injEq] at e
      obtain ⟨rfl, rfl, rfl⟩ := e
      cases hq
      exact hok _ (CP hp) _ (by show (w.heap.push O)[w.heap.size]? = some O; simp)
    · rw [A6 _ _ hne] at hq
      have hb := (g.blk q b s t hx).2
      refine BN (w := w) ?_ (E7 (CP hp) (g.obj q o' b s t hq hx))
      exact Go.RowKit.Below.heap_alloc w O b hb
  sep := fun q r o1 o2 b s t s' t' hne hq hr hx hy => by
    rcases Av hx with ⟨rfl, e⟩ | ⟨hpq, hx⟩
    · rcases Av hy with ⟨rfl, _⟩ | ⟨_, hy⟩
      · exact absurd rfl hne
      · simp only [Prod.mk.injEq] at e
        have := (g.blk r b s' t' hy).2; omega
    · rcases Av hy with ⟨rfl, e⟩ | ⟨hpr, hy⟩
      · simp only [Prod.mk.injEq] at e
        have := (g.blk q b s t hx).2; omega
      · rw [A6 _ _ hpq] at hq
        rw [A6 _ _ hpr] at hr
        exact g.sep q r o1 o2 b s t s' t' hne hq hr hx hy
  sup := fun q r o1 o2 b s t s' t' hq hpr hr hx hy => by
    rcases Av hx with ⟨rfl, e⟩ | ⟨hpq, hx⟩
    · rw [A7] at hq; cases hq; rw [ho] at hpr; cases hpr
    · rcases Av hy with ⟨rfl, e⟩ | ⟨hpr', hy⟩
      · simp only [Prod.mk.injEq] at e; have := (g.blk q b s t hx).2; omega
      · rw [A6 _ _ hpq] at hq
        rw [A6 _ _ hpr'] at hr
        exact g.sup q r o1 o2 b s t s' t' hq hpr hr hx hy
theorem Fr.alloc {h:Heap} {φ:AF} {n n' p:K4} {w:World} (hp:φ p=none) (hn:n.toN≤n'.toN) (h1:n.toN≤p.toN) (h2:p.toN<n'.toN)
    (o:Option Ob) (O:Obj) (tot:Nat):Fr h (Af p h o) φ (EA φ p (w.heap.size, 0, tot)) n n' w (w.alloc O) where
  ext := CP hp
  new := fun q x hx => by
    rcases Av hx with ⟨rfl, _⟩ | ⟨_, hx⟩
    · exact .inr ⟨h1, h2⟩
    · exact .inl hx
  nn := hn
  os := rfl
  tape := rfl
  out := rfl
  size := by rw [World.size_alloc]; omega
  old := fun b hb _ => Go.RowKit.Below.heap_alloc w O b hb
  fresh := fun q b s t hx => by
    rcases Av hx with ⟨rfl, e⟩ | ⟨_, hx⟩
    · simp only [Prod.mk.injEq] at e; exact .inr (.inl (by omega))
    · exact .inl hx
  dm := fun q hq hn => by
    have hne:p≠q := fun e => hq (e ▸ hp)
    rw [A6 _ _ hne]; exact hn
def BS (prev:Option K4) (h:Heap):Heap := match prev with | none => h | some q => Af q h none
theorem CW (prev:Option K4) (h:Heap) (κ:Heap->R):JF prev h κ=κ (BS prev h) := by
  cases prev with
  | none => rfl
  | some q => exact AA q h none κ
theorem Db {prev:Option K4} {h:Heap} {q:K4} {x:Ob} (k:A8 q (BS prev h)=some x):prev≠some q∧A8 q h=some x := by
  cases prev with
  | none => exact ⟨by simp, k⟩
  | some r =>
    rcases Bl k with ⟨_, h⟩ | ⟨hne, h⟩
    · cases h
    · exact ⟨fun e => hne (by simpa using e), h⟩
theorem S0 {prev:Option K4} {h:Heap} {q:K4} (k:A8 q h=none):A8 q (BS prev h)=none := by
  cases hx:A8 q (BS prev h) with
  | none => rfl
  | some x => rw [(Db hx).2] at k; cases k
/-- The world with another block. -/
def Cf (w:World) (b:Nat) (O:Obj):World := { w with heap := w.heap.setIfInBounds b O }
theorem CA {w:World} {b:Nat} {O:Obj} (h:b<w.heap.size):(Cf w b O).heap[b]? = some O := by
  simp [Cf, h]
theorem H8 {w:World} {b k:Nat} {O:Obj} (h:b≠k):(Cf w b O).heap[k]? = w.heap[k]? := by
  simp [Cf, Array.getElem?_setIfInBounds_ne h]
theorem Da {w:World} {b:Nat} {O:Obj}:(Cf w b O).heap.size=w.heap.size := by simp [Cf]
/-- An object that may be written is written: what may share its memory is given up. -/
theorem Gam.write {B:Nat} {h:Heap} {φ:AF} {n p:K4} {w:World} {o o':Ob} {b s tot:Nat} {O:Obj} (g:Gam ρ B h n φ w) (hp:A8 p h=some o) (hφ:φ p=some (b, s, tot))
    (hs:Js o=false) (ho':Bu o'=none) (hok:GX ρ φ (Cf w b O) o' b s tot) :
    Gam ρ B (Af p (BS (Bu o) h) (some o')) n φ (Cf w b O) where
  base := by rw [Da]; exact g.base
  glob := fun k c e fr hk => ⟨(g.glob k c e fr hk).1, by rw [H8 (by have := (g.glob k c e fr hk).1; have := (g.blk p b s tot hφ).1; omega)]; exact (g.glob k c e fr hk).2⟩
  dom := g.dom
  blk := fun q b s t hx => by rw [Da]; exact g.blk q b s t hx
  obj := fun q o1 b1 s1 t1 hq hx => by
    rcases Bl hq with ⟨rfl, e⟩ | ⟨hne, hq⟩
    · rw [hφ] at hx; simp only [Option.some.injEq, Prod.mk.injEq] at hx e
      obtain ⟨rfl, rfl, rfl⟩ := hx; subst e; exact hok
    · obtain ⟨hk, hq⟩ := Db hq
      have hb:b≠b1 := fun e => by
        subst e
        rcases g.sep p q o o1 b s tot s1 t1 hne hp hq hφ hx with h' | h'
        · exact hk h'
        · have := g.sup q p o1 o b s1 t1 s tot hq h' hp hx hφ
          rw [this] at hs; cases hs
      exact BN (H8 hb) (g.obj q o1 b1 s1 t1 hq hx)
  sep := fun q r o1 o2 b1 s1 t1 s2 t2 hne hq hr hx hy => by
    rcases Bl hq with ⟨rfl, e⟩ | ⟨hpq, hq⟩
    · rcases Bl hr with ⟨rfl, e'⟩ | ⟨hpr, hr⟩
      · exact absurd rfl hne
      · obtain ⟨hk, hr⟩ := Db hr
        rcases g.sep p r o o2 b1 s1 t1 s2 t2 hne hp hr hx hy with h' | h'
        · exact absurd h' hk
        · exact .inr h'
    · obtain ⟨hk, hq⟩ := Db hq
      rcases Bl hr with ⟨rfl, e'⟩ | ⟨hpr, hr⟩
      · rcases g.sep q p o1 o b1 s1 t1 s2 t2 hne hq hp hx hy with h' | h'
        · exact .inl h'
        · exact absurd h' hk
      · obtain ⟨_, hr⟩ := Db hr
        exact g.sep q r o1 o2 b1 s1 t1 s2 t2 hne hq hr hx hy
  sup := fun q r o1 o2 b1 s1 t1 s2 t2 hq hpr hr hx hy => by
    rcases Bl hq with ⟨rfl, e⟩ | ⟨hpq, hq⟩
    · simp only [Option.some.injEq] at e; subst e; rw [ho'] at hpr; cases hpr
    · obtain ⟨hk, hq⟩ := Db hq
      rcases Bl hr with ⟨rfl, e⟩ | ⟨_, hr⟩
      · have := g.sup q p o1 o b1 s1 t1 s2 t2 hq hpr hp hx hy
        rw [this] at hs; cases hs
      · exact g.sup q r o1 o2 b1 s1 t1 s2 t2 hq hpr (Db hr).2 hx hy
theorem Fr.write {h:Heap} {φ:AF} {n p:K4} {w:World} {o:Ob} {o':Option Ob} {b s tot:Nat} {O:Obj} (hp:A8 p h=some o) (hφ:φ p=some (b, s, tot)) :
    Fr h (Af p (BS (Bu o) h) o') φ φ n n w (Cf w b O) where
  ext := AF.le_refl φ
  new := fun _ _ h => .inl h
  nn := Nat.le_refl _
  os := rfl
  tape := rfl
  out := rfl
  size := by rw [Da]; exact Nat.le_refl _
  old := fun k hk hn => H8 fun e => by
    subst e
    have := hn p s tot hφ; rw [hp] at this; cases this
  fresh := fun _ _ _ _ h => .inl h
  dm := fun q hq hn => by
    by_cases e:p=q
    · subst e; rw [hp] at hn; cases hn
    · rw [A6 _ _ e]; exact S0 hn
end
end Go.Ev

namespace Go.Ev
set_option linter.unusedVariables false
theorem kb {k j:IntKind} {t:R} {s:String} (h:(br (AQ k j) t (.fail s)).good):k=j∧br (AQ k j) t (.fail s)=t := by
  obtain ⟨h1, h2⟩ := Ad h
  exact ⟨Am.1 h1, h2⟩
theorem B9 {a b:Nat} (h:Nat.ble (Nat.succ a) b=true):a<b := A9.1 h
/-- An operator's outcome, whatever world. -/
def DE (op:BinOp) (x y:Value) (v:V):Prop :=
  ∃ r:Value, (∀ (P:Program) (t:TypeId) (w:World), (Go.binOp op t x y).run P w = .ok r w) ∧ ∀ (ρ:Env) (φ:AF), Aj ρ φ v r
theorem Ei (k:IntKind) (r:Nat) (hr:r<Mk k) (ρ:Env) (φ:AF):Aj ρ φ (.int k r) (.int k (dec k r)) := by
  simp [Aj, hr]
theorem Bo (b:Bool) (ρ:Env) (φ:AF):Aj ρ φ (.bool b) (.bool b) := by simp only [Aj]
theorem VK (k:IntKind) (a b:Nat):k.wrap (dec k a+dec k b)=dec k ((a+b) % Mk k) := by
  apply GL
  rw [Int.add_emod, En, En, ←Int.natCast_add, ←Int.natCast_emod, Nat.add_mod]; simp
theorem QM (k:IntKind) (a b:Nat) (hb:b<Mk k):k.wrap (dec k a - dec k b)=dec k ((a+(Mk k - b)) % Mk k) := by
  apply GL
  unfold dec
  cases k <;> simp only [Mk, Hk] at * <;> (repeat' split) <;> omega
theorem VX (k:IntKind) (a b:Nat):k.wrap (dec k a*dec k b)=dec k (a*b % Mk k) := by
  apply GL
  rw [Int.mul_emod, En, En, ←Int.natCast_mul, ←Int.natCast_emod, Nat.mul_mod]; simp
theorem ND {k j:IntKind} {a b:Nat} {κ:R} (h:(OY k a j b κ).good):k=j∧a<Hk k∧b<Hk k∧OY k a j b κ=κ := by
  obtain ⟨rfl, e1⟩ := kb h
  have e1:OY k a k b κ=_ := e1
  rw [e1] at h
  obtain ⟨h2, e2⟩ := Ad h
  rw [e2] at h
  obtain ⟨h3, e3⟩ := Ad h
  exact ⟨rfl, B9 h2, B9 h3, e1.trans (e2.trans e3)⟩
theorem bv (k:IntKind) (a:Nat) (ha:a<Mk k):(BitVec.ofInt k.bits (dec k a)).toNat=a := by
  rw [BitVec.toNat_ofInt]
  have h := En k a
  have e:((2 ^ k.bits:Nat):Int)=(Mk k:Int) := by rw [EW]
  rw [e, h, Nat.mod_eq_of_lt ha]; simp
theorem Fx (k:IntKind) (r:Nat) (hr:r<Mk k):k.wrap (r:Int)=dec k r :=
  GL (by rw [←Int.natCast_emod, Nat.mod_eq_of_lt hr])
theorem Vt (a b m:Nat) (h:a<m):Nat.land a b<m := Nat.lt_of_le_of_lt Nat.and_le_left h
theorem Abt (k:IntKind) (a b:Nat) (ha:a<Mk k) (hb:b<Mk k):Nat.lor a b<Mk k := by
  rw [EW] at *; exact Nat.or_lt_two_pow ha hb
theorem Wd (k:IntKind) (a b:Nat) (ha:a<Mk k) (hb:b<Mk k):Nat.xor a b<Mk k := by
  rw [EW] at *; exact Nat.xor_lt_two_pow ha hb
theorem Gi (op:BinOp) (k:IntKind) (a:Nat) (j:IntKind) (b:Nat) (κ:V->R) (ha:a<Mk k) (hb:b<Mk j) (h:(My op k a j b κ).good) :
    ∃ v, My op k a j b κ=κ v∧DE op (.int k (dec k a)) (.int j (dec j b)) v := by
  cases op with
  | add =>
    obtain ⟨rfl, e⟩ := kb (show R.good (Y0 k a j b κ) from h)
    refine ⟨_, (show Y0 k a k b κ=_ from e).trans (Aa _ _), .int k (dec k ((a+b) % Mk k)), fun P t w => ?_, Ei k _ (Nat.mod_lt _ (DM k))⟩
    simp only [binOp_add, Op.intArith, VK, Sem.run_pure]
  | sub =>
    obtain ⟨rfl, e⟩ := kb (show R.good (P2 k a j b κ) from h)
    refine ⟨_, (show P2 k a k b κ=_ from e).trans (Aa _ _), .int k (dec k ((a+(Mk k - b)) % Mk k)), fun P t w => ?_, Ei k _ (Nat.mod_lt _ (DM k))⟩
    simp only [binOp_sub, Op.intArith, QM _ _ _ hb, Sem.run_pure]
  | mul =>
    obtain ⟨rfl, e⟩ := kb (show R.good (XX k a j b κ) from h)
    refine ⟨_, (show XX k a k b κ=_ from e).trans (Aa _ _), .int k (dec k (a*b % Mk k)), fun P t w => ?_, Ei k _ (Nat.mod_lt _ (DM k))⟩
    simp only [binOp_mul, Op.intArith, VX, Sem.run_pure]
  | quo =>
    obtain ⟨rfl, h1, h2, e⟩ := ND (show R.good (Ud k a j b κ) from h)
    have e:Ud k a k b κ=_ := e
    have h:(Ud k a k b κ).good := h
    rw [e] at h
    obtain ⟨h3, e3⟩ := Ad h
    have h3 := A9.1 h3
    refine ⟨_, e.trans (e3.trans (Aa _ _)), .int k (dec k (a / b)), fun P t w => ?_, Ei k _ (Nat.lt_of_le_of_lt (Nat.div_le_self a b) ha)⟩
    have hd:a / b<Hk k := Nat.lt_of_le_of_lt (Nat.div_le_self a b) h1
    rw [binOp_quo, Ai h1, Ai h2, Ai hd]
    have hw:k.wrap ((a / b:Nat):Int)=((a / b:Nat):Int) := by
      rw [Fx k _ (Nat.lt_of_lt_of_le hd (Hb k)), Ai hd]
    simp only [Op.intDiv]
    rw [if_neg (by omega)]
    simp only [Sem.run_pure]
    rw [←hw, Int.ofNat_tdiv]
  | rem =>
    have h0:R.good (MA k a j b κ) := h
    by_cases hneg:a<Hk k
    case neg =>
      have e0:MA k a j b κ=Om k a j b κ := by
        unfold MA
        rw [show Nat.ble (Nat.succ a) (Hk k)=false from Bool.eq_false_iff.2 fun h => hneg (B9 h)]; rfl
      rw [e0] at h0
      obtain ⟨rfl, e1⟩ := kb h0
      have e1:Om k a k b κ=_ := e1
      rw [e1] at h0
      obtain ⟨h2, e2⟩ := Ad h0
      rw [e2] at h0
      obtain ⟨h3, e3⟩ := Ad h0
      have h2 := B9 h2
      have h3 := A9.1 h3
      have hq:(Mk k - a) % b<b := Nat.mod_lt _ (by omega)
      have hM:Hk k≤Mk k := Hb k
      have hd2:dec k a = -((Mk k - a:Nat):Int) := by rw [Cr hneg]; omega
      have hu:Hk k+Hk k=Mk k := by
        cases k <;> simp only [Mk, Hk] at * <;> omega
      refine ⟨_, e0.trans (e1.trans (e2.trans (e3.trans (Aa _ _)))), .int k (dec k (@Bool.rec (fun _ => Nat) (Nat.sub (Mk k) (Nat.mod (Nat.sub (Mk k) a) b)) 0 (Nat.beq (Nat.mod (Nat.sub (Mk k) a) b) 0))), fun P t w => ?_, Ei k _ ?_⟩
      · rw [binOp_rem, hd2, Ai h2]
        simp only [Op.intDiv]
        rw [if_neg (by omega)]
        simp only [Sem.run_pure]
        rw [Int.neg_tmod, ←Int.ofNat_tmod]
        by_cases hz:(Mk k - a) % b=0
        · have hb:Nat.beq (Nat.mod (Nat.sub (Mk k) a) b) 0=true := by rw [show Nat.mod (Nat.sub (Mk k) a) b=0 from hz]; rfl
          rw [hb, hz, Ai (Nat.lt_of_le_of_lt (Nat.zero_le _) h2)]; rfl
        · have hb:Nat.beq (Nat.mod (Nat.sub (Mk k) a) b) 0=false := Bool.eq_false_iff.2 fun h => hz (Nat.eq_of_beq_eq_true h)
          have hv : -(((Mk k - a) % b:Nat):Int)=dec k (Mk k - (Mk k - a) % b) := by rw [Cr (by omega)]; omega
          rw [hb, hv]; rfl
      · cases hb:Nat.beq (Nat.mod (Nat.sub (Mk k) a) b) 0 with
        | true => exact DM k
        | false => exact Nat.sub_lt (DM k) (Nat.pos_of_ne_zero fun h => by rw [show Nat.mod (Nat.sub (Mk k) a) b=0 from h] at hb; cases hb)
    have e00:MA k a j b κ=Te k a j b κ := by
      unfold MA
      rw [show Nat.ble (Nat.succ a) (Hk k)=true from A9.2 hneg]; rfl
    rw [e00] at h0
    obtain ⟨rfl, h1, h2, e⟩ := ND (show R.good (Te k a j b κ) from h0)
    have e:MA k a k b κ=_ := e00.trans e
    have h:(MA k a k b κ).good := h
    rw [e] at h
    obtain ⟨h3, e3⟩ := Ad h
    have h3 := A9.1 h3
    have hd:a % b<Hk k := Nat.lt_of_le_of_lt (Nat.mod_le a b) h1
    refine ⟨_, e.trans (e3.trans (Aa _ _)), .int k (dec k (a % b)), fun P t w => ?_, Ei k _ (Nat.lt_of_lt_of_le hd (Hb k))⟩
    rw [binOp_rem, Ai h1, Ai h2, Ai hd]
    simp only [Op.intDiv]
    rw [if_neg (by omega)]
    simp only [Sem.run_pure]
    rw [←Int.ofNat_tmod]
  | and =>
    obtain ⟨rfl, e⟩ := kb (show R.good (WD k a j b κ) from h)
    have hl:Nat.land a b<Mk k := Vt a b _ ha
    refine ⟨_, (show WD k a k b κ=_ from e).trans (Aa _ _), .int k (dec k (Nat.land a b)), fun P t w => ?_, Ei k _ hl⟩
    simp only [binOp_and, Op.intBits, BitVec.toNat_and, bv _ _ ha, bv _ _ hb, Sem.run_pure]
    rw [Fx k (a &&& b) hl]; rfl
  | or =>
    obtain ⟨rfl, e⟩ := kb (show R.good (ior k a j b κ) from h)
    have hl:Nat.lor a b<Mk k := Abt k a b ha hb
    refine ⟨_, (show ior k a k b κ=_ from e).trans (Aa _ _), .int k (dec k (Nat.lor a b)), fun P t w => ?_, Ei k _ hl⟩
    simp only [binOp_or, Op.intBits, BitVec.toNat_or, bv _ _ ha, bv _ _ hb, Sem.run_pure]
    rw [Fx k (a ||| b) hl]; rfl
  | xor =>
    obtain ⟨rfl, e⟩ := kb (show R.good (W2 k a j b κ) from h)
    have hl:Nat.xor a b<Mk k := Wd k a b ha hb
    refine ⟨_, (show W2 k a k b κ=_ from e).trans (Aa _ _), .int k (dec k (Nat.xor a b)), fun P t w => ?_, Ei k _ hl⟩
    simp only [binOp_xor, Op.intBits, BitVec.toNat_xor, bv _ _ ha, bv _ _ hb, Sem.run_pure]
    rw [Fx k (a ^^^ b) hl]; rfl
  | shl =>
    obtain ⟨h1, e1⟩ := Ad (show R.good (W9 k a j b κ) from h)
    have e1:W9 k a j b κ=_ := e1
    have h1 := B9 h1
    have hr:∀ P t w, (Go.binOp .shl t (.int k (dec k a)) (.int j (dec j b))).run P w = .ok (.int k (k.wrap (dec k a*2 ^ min b k.bits))) w := fun P t w => by
      rw [binOp_shl, Op.shift, Ai h1, if_neg (by omega)]; simp
    by_cases hb64:b≤64
    · refine ⟨_, e1.trans ((by rw [A9.2 hb64, Ab]:br (Nat.ble b 64) _ _=_).trans (Aa _ _)), .int k (dec k ((a <<< b) % Mk k)), fun P t w => ?_, Ei k _ (Nat.mod_lt _ (DM k))⟩
      rw [hr]
      congr 2
      apply GL
      rw [Nat.shiftLeft_eq]
      by_cases hbb:b≤k.bits
      · have e2:((2:Int) ^ b)=((2 ^ b:Nat):Int) := by simp
        rw [Nat.min_eq_left hbb, Int.mul_emod, En, e2, ←Int.natCast_emod, ←Int.natCast_mul, ←Int.natCast_emod, ←Nat.mul_mod]
      · rw [Nat.min_eq_right (by omega), Int.mul_emod]
        have h0:((2:Int) ^ k.bits) % (Mk k:Int)=0 := by rw [EW]; simp
        have h0':a*2 ^ b % Mk k=0 := by
          rw [EW, show b=k.bits+(b - k.bits) by omega, Nat.pow_add, ←Nat.mul_assoc, Nat.mul_right_comm]; exact Nat.mul_mod_left _ _
        rw [h0, h0']; simp
    · refine ⟨_, e1.trans (by rw [Au (by omega), Ag]:br (Nat.ble b 64) _ _=_), .int k (dec k 0), fun P t w => ?_, Ei k _ (DM k)⟩
      rw [hr]
      congr 2
      apply GL
      have hbits:k.bits≤64 := by cases k <;> simp [IntKind.bits]
      rw [Nat.min_eq_right (by omega), Int.mul_emod]
      have h0:((2:Int) ^ k.bits) % (Mk k:Int)=0 := by rw [EW]; simp
      rw [h0]; simp
  | shr =>
    obtain ⟨h1, e1⟩ := Ad (show R.good (UO k a j b κ) from h)
    have e1:UO k a j b κ=_ := e1
    have h1 := B9 h1
    have h:(UO k a j b κ).good := h
    rw [e1] at h
    obtain ⟨h2, e2⟩ := Ad h
    have h2 := B9 h2
    have hr:∀ P t w, (Go.binOp .shr t (.int k (dec k a)) (.int j (dec j b))).run P w = .ok (.int k ((a:Int).fdiv (2 ^ min b k.bits))) w := fun P t w => by
      rw [binOp_shr, Op.shift, Ai h1, Ai h2, if_neg (by omega)]; simp
    have hf:∀ n:Nat, (a:Int).fdiv (2 ^ n)=((a / 2 ^ n:Nat):Int) := fun n => by
      rw [Int.fdiv_eq_ediv_of_nonneg _ (by exact Int.le_of_lt (Int.pow_pos (by omega)))]; simp
    have hlt:∀ n:Nat, a / 2 ^ n<Hk k := fun n => Nat.lt_of_le_of_lt (Nat.div_le_self _ _) h2
    by_cases hb64:b≤64
    · refine ⟨_, e1.trans (e2.trans ((by rw [A9.2 hb64, Ab]:br (Nat.ble b 64) _ _=_).trans (Aa _ _))), .int k (dec k (a >>> b)), fun P t w => ?_, Ei k _ ?_⟩
      · rw [hr, hf, Nat.shiftRight_eq_div_pow, Ai (hlt b)]
        congr 3
        by_cases hbb:b≤k.bits
        · rw [Nat.min_eq_left hbb]
        · rw [Nat.min_eq_right (by omega)]
          have ha':a<2 ^ k.bits := by rw [←EW]; exact ha
          rw [Nat.div_eq_of_lt ha', Nat.div_eq_of_lt (Nat.lt_of_lt_of_le ha' (Nat.pow_le_pow_right (by omega) (by omega)))]
      · show a >>> b<Mk k
        rw [Nat.shiftRight_eq_div_pow]; exact Nat.lt_of_lt_of_le (hlt b) (Hb k)
    · refine ⟨_, e1.trans (e2.trans (by rw [Au (by omega), Ag]:br (Nat.ble b 64) _ _=_)), .int k (dec k 0), fun P t w => ?_, Ei k _ (DM k)⟩
      have hbits:k.bits≤64 := by cases k <;> simp [IntKind.bits]
      have ha':a<2 ^ k.bits := by rw [←EW]; exact ha
      rw [hr, hf, Nat.min_eq_right (by omega), Nat.div_eq_of_lt ha', Ai (by have := Hk k; cases k <;> simp [Hk])]
  | andNot =>
    obtain ⟨rfl, e⟩ := kb (show R.good (QP k a j b κ) from h)
    have hl:Nat.land a (Mk k - 1 - b)<Mk k := Vt a _ _ ha
    refine ⟨_, (show QP k a k b κ=_ from e).trans (Aa _ _), .int k (dec k (Nat.land a (Mk k - 1 - b))), fun P t w => ?_, Ei k _ hl⟩
    simp only [binOp_andNot, Op.intBits, BitVec.toNat_and, BitVec.toNat_not, bv _ _ ha, bv _ _ hb, Sem.run_pure, ←EW]
    rw [Fx k (a &&& (Mk k - 1 - b)) hl]; rfl
  | eql =>
    obtain ⟨rfl, e⟩ := kb (show R.good (ieq k a j b κ) from h)
    refine ⟨_, (show ieq k a k b κ=_ from e).trans (B2 _ _), .bool (Nat.beq a b), fun P t w => ?_, Bo _⟩
    rw [binOp_eql, Sem.run_pure]
    congr 2
    rw [Bool.eq_iff_iff, beq_iff_eq]
    exact ⟨fun h => by have := Lb ha hb h; subst this; exact Nat.beq_refl _, fun h => by rw [Nat.eq_of_beq_eq_true h]⟩
  | neq =>
    obtain ⟨rfl, e⟩ := kb (show R.good (ine k a j b κ) from h)
    have e:ine k a k b κ=_ := e
    by_cases hab:a=b
    · subst hab
      refine ⟨_, e.trans (by rw [Nat.beq_refl, Ab]:br (Nat.beq a a) _ _=_), .bool false, fun P t w => ?_, Bo _⟩
      rw [binOp_neq, Sem.run_pure]; simp
    · have hf:Nat.beq a b=false := Bool.eq_false_iff.2 fun h => hab (Nat.eq_of_beq_eq_true h)
      refine ⟨_, e.trans (by rw [hf, Ag]:br (Nat.beq a b) _ _=_), .bool true, fun P t w => ?_, Bo _⟩
      rw [binOp_neq, Sem.run_pure]
      congr 2
      rw [bne_iff_ne]
      exact fun h => hab (Lb ha hb h)
  | lss =>
    obtain ⟨rfl, e⟩ := kb (show R.good (ilt k a j b κ) from h)
    refine ⟨_, (show ilt k a k b κ=_ from e).trans (B2 _ _), .bool (DY k a b), fun P t w => ?_, Bo _⟩
    rw [binOp_lss, Sem.run_pure, EU ha hb]
  | gtr =>
    obtain ⟨rfl, e⟩ := kb (show R.good (igt k a j b κ) from h)
    refine ⟨_, (show igt k a k b κ=_ from e).trans (B2 _ _), .bool (DY k b a), fun P t w => ?_, Bo _⟩
    rw [binOp_gtr, Sem.run_pure, EU hb ha]
  | leq =>
    obtain ⟨rfl, e⟩ := kb (show R.good (ile k a j b κ) from h)
    have e:ile k a k b κ=_ := e
    cases hlt:DY k b a with
    | true =>
      refine ⟨_, e.trans (by rw [hlt, Ab]), .bool false, fun P t w => ?_, Bo _⟩
      rw [EU hb ha] at hlt
      rw [binOp_leq, Sem.run_pure]
      congr 2
      exact decide_eq_false (by have := of_decide_eq_true hlt; omega)
    | false =>
      refine ⟨_, e.trans (by rw [hlt, Ag]), .bool true, fun P t w => ?_, Bo _⟩
      rw [EU hb ha] at hlt
      rw [binOp_leq, Sem.run_pure]
      congr 2
      exact decide_eq_true (by have := of_decide_eq_false hlt; omega)
  | geq =>
    obtain ⟨rfl, e⟩ := kb (show R.good (ige k a j b κ) from h)
    have e:ige k a k b κ=_ := e
    cases hlt:DY k a b with
    | true =>
      refine ⟨_, e.trans (by rw [hlt, Ab]), .bool false, fun P t w => ?_, Bo _⟩
      rw [EU ha hb] at hlt
      rw [binOp_geq, Sem.run_pure]
      congr 2
      exact decide_eq_false (by have := of_decide_eq_true hlt; omega)
    | false =>
      refine ⟨_, e.trans (by rw [hlt, Ag]), .bool true, fun P t w => ?_, Bo _⟩
      rw [EU ha hb] at hlt
      rw [binOp_geq, Sem.run_pure]
      congr 2
      exact decide_eq_true (by have := of_decide_eq_false hlt; omega)
theorem Tl (s:ByteArray) (ρ:Env) (φ:AF):Aj ρ φ (.str s.size (Al s.data.toList)) (.string s) := by
  simp only [Aj]; exact ⟨s, rfl, rfl, rfl⟩
theorem Bp (s:ByteArray):s.data.toList.length=s.size := by simp
theorem Mg (x y:ByteArray):Dl x.size (Al x.data.toList) y.size (Al y.data.toList)=(x.toList == y.toList) := by
  rw [ByteArray.toList_eq, ByteArray.toList_eq, Bool.eq_iff_iff, beq_iff_eq]
  simp only [Dl, Bool.and_eq_true]
  constructor
  · rintro ⟨h1, h2⟩
    exact Jl (by rw [Bp, Bp]; exact Nat.eq_of_beq_eq_true h1) (Nat.eq_of_beq_eq_true h2)
  · intro h
    refine ⟨?_, by rw [h]; exact Nat.beq_refl _⟩
    rw [←Bp, ←Bp, h]; exact Nat.beq_refl _
theorem Vm (x y:List UInt8):RK x.length (Al x) y.length (Al y)=Op.bytesLess x y := by
  induction x generalizing y with
  | nil => cases y with
    | nil => rfl
    | cons b y => rfl
  | cons a x ih =>
    cases y with
    | nil => rfl
    | cons b y =>
      show br (Nat.beq (lo (Al (a::x)) 1) (lo (Al (b::y)) 1)) (RK x.length (sh (Al (a::x)) 1) y.length (sh (Al (b::y)) 1)) (Nat.ble (Nat.succ (lo (Al (a::x)) 1)) (lo (Al (b::y)) 1))=_
      have ha := a.toNat_lt; have hb := b.toNat_lt
      have l1:lo (Al (a::x)) 1=a.toNat := by rw [FH]; simp only [Al]; omega
      have l2:lo (Al (b::y)) 1=b.toNat := by rw [FH]; simp only [Al]; omega
      have s1:sh (Al (a::x)) 1=Al x := by rw [HF]; simp only [Al]; omega
      have s2:sh (Al (b::y)) 1=Al y := by rw [HF]; simp only [Al]; omega
      rw [l1, l2, s1, s2, ih, Op.bytesLess]
      by_cases hab:a=b
      · subst hab
        rw [Nat.beq_refl, Ab]; simp
      · have hne:a.toNat≠b.toNat := fun h => hab (UInt8.toNat_inj.1 h)
        rw [Bool.eq_false_iff.2 fun h => hne (Nat.eq_of_beq_eq_true h), Ag, BV]
        have:(a == b)=false := by simpa using hab
        rw [this]; simp [UInt8.lt_iff_toNat_lt]; rfl
theorem U6 (op:BinOp) (x y:ByteArray) (κ:V->R) (h:(KZ op x.size (Al x.data.toList) y.size (Al y.data.toList) κ).good) :
    ∃ v, KZ op x.size (Al x.data.toList) y.size (Al y.data.toList) κ=κ v∧DE op (.string x) (.string y) v := by
  have hlt := fun (x y:ByteArray) => (by
    have := Vm x.data.toList y.data.toList
    rw [Bp, Bp, ←ByteArray.toList_eq, ←ByteArray.toList_eq] at this
    rw [←ByteArray.toList_eq, ←ByteArray.toList_eq]; exact this:RK x.size (Al x.data.toList) y.size (Al y.data.toList)=Op.bytesLess x.toList y.toList)
  have hrun:∀ P t w, (Go.binOp op t (.string x) (.string y)).run P w=(Op.stringOp op x y).run P w := fun P t w => by cases op <;> rfl
  cases op with
  | add =>
    have e:KZ .add x.size (Al x.data.toList) y.size (Al y.data.toList) κ=_ := Aa (Nat.add x.size y.size) (fun l => br (Nat.ble l 1000000000) (Ac (Nat.add (Al x.data.toList) (up (Al y.data.toList) x.size)) fun r => κ (.str l r)) (.fail ""))
    rw [e] at h
    obtain ⟨h1, e1⟩ := Ad h
    have h1:x.size+y.size≤1000000000 := A9.1 h1
    refine ⟨_, e.trans (e1.trans (Aa _ _)), .string (x++y), fun P t w => ?_, fun ρ φ => ?_⟩
    · rw [hrun, Op.stringOp]
      rw [if_neg (by rw [IntKind.max_i64]; omega), Sem.run_pure]
    · have := Tl (x++y) ρ φ
      have e2:(x++y).data.toList=x.data.toList++y.data.toList := by simp
      rw [e2, HN, Bp, ByteArray.size_append] at this
      rw [Tm]; exact this
  | eql =>
    refine ⟨_, (B2 (Dl x.size (Al x.data.toList) y.size (Al y.data.toList)) (fun r => κ (.bool r)):KZ .eql x.size (Al x.data.toList) y.size (Al y.data.toList) κ=_), .bool (x.toList == y.toList), fun P t w => by rw [hrun]; rfl, fun ρ φ => ?_⟩
    rw [Mg]; exact Bo _ ρ φ
  | neq =>
    have e:KZ .neq x.size (Al x.data.toList) y.size (Al y.data.toList) κ=br (x.toList == y.toList) (κ (.bool false)) (κ (.bool true)) := by rw [←Mg]; rfl
    refine ⟨.bool !(x.toList == y.toList), ?_, .bool !(x.toList == y.toList), fun P t w => by rw [hrun]; rfl, fun ρ φ => Bo _ ρ φ⟩
    rw [e]; cases (x.toList == y.toList) <;> rfl
  | lss =>
    refine ⟨_, (B2 (RK x.size (Al x.data.toList) y.size (Al y.data.toList)) (fun r => κ (.bool r)):KZ .lss x.size (Al x.data.toList) y.size (Al y.data.toList) κ=_), .bool (Op.bytesLess x.toList y.toList), fun P t w => by rw [hrun]; rfl, fun ρ φ => ?_⟩
    rw [hlt]; exact Bo _ ρ φ
  | geq =>
    have e:KZ .geq x.size (Al x.data.toList) y.size (Al y.data.toList) κ=br (Op.bytesLess x.toList y.toList) (κ (.bool false)) (κ (.bool true)) := by rw [←hlt]; rfl
    refine ⟨.bool !(Op.bytesLess x.toList y.toList), ?_, .bool !(Op.bytesLess x.toList y.toList), fun P t w => by rw [hrun]; rfl, fun ρ φ => Bo _ ρ φ⟩
    rw [e]; cases (Op.bytesLess x.toList y.toList) <;> rfl
  | leq => exact h.elim
  | gtr => exact h.elim
  | _ => exact h.elim
end Go.Ev

namespace Go.Ev
set_option linter.unusedVariables false
section
variable {P:Program} {ρ:Env} {φ:AF} {w:World}
theorem BC (b off i:Nat):(⟨b, off, none⟩:Addr).add i=⟨b, off+i, none⟩ := by
  unfold Addr.add; split
  · simp_all
  · rfl
theorem H5 {b i:Nat} {c:Array Value} {e:TypeId} {fr:Nat×Nat} {x:Value} (h:w.heap[b]? = some (.cells c e fr)) (hx:c[i]? = some x):w.cell? ⟨b, i, none⟩=some x := by
  simp [World.cell?, h, hx]
theorem UE {b i:Nat} {c:Array Value} {e:TypeId} {fr:Nat×Nat} (h:w.heap[b]? = some (.cells c e fr)) (hf:Frz fr c.size) (hi:i<c.size):w.frozen? ⟨b, i, none⟩=false := by
  obtain ⟨lo, hi'⟩ := fr
  simp only [World.frozen?, h, Bool.and_eq_false_iff, decide_eq_false_iff_not]
  rcases hf with hf | hf <;> simp at hf <;> omega
theorem TC {b:Nat} {O:Obj} (h:w.heap[b]? = some O):Cf w b O=w := by
  obtain ⟨hb, e⟩ := Array.getElem?_eq_some_iff.1 h
  unfold Cf
  cases w with
  | mk heap tape drawn os output =>
    simp only [World.mk.injEq, and_true]
    apply Array.ext_getElem?
    intro k
    rw [Array.getElem?_setIfInBounds]
    by_cases hk:b=k
    · subst hk; rw [if_pos rfl, if_pos hb]; exact h.symm
    · rw [if_neg hk]
theorem UR {b:Nat} {O O':Obj}:Cf (Cf w b O) b O'=Cf w b O' := by
  simp [Cf]
theorem OT {b i:Nat} {c:Array Value} {e:TypeId} {fr:Nat×Nat} {v:Value} (h:w.heap[b]? = some (.cells c e fr)) :
    w.setCell ⟨b, i, none⟩ v=Cf w b (.cells (c.setIfInBounds i v) e fr) := by
  obtain ⟨hb, e'⟩ := Array.getElem?_eq_some_iff.1 h
  unfold World.setCell Cf
  cases w with
  | mk heap tape drawn os output =>
    congr 1
    apply Array.ext_getElem?
    intro k
    rw [Array.getElem?_modify, Array.getElem?_setIfInBounds]
    by_cases hk:b=k
    · subst hk; simp [hb, e']
    · simp [hk]
theorem Ho {b off:Nat} {c:Array Value} {e:TypeId} {fr:Nat×Nat} (h:w.heap[b]? = some (.cells c e fr)) :
    w.freeze { block := b, off := off } 1=Cf w b (.cells c e (if fr.1 == fr.2 then (off, off+1) else (min fr.1 off, max fr.2 (off+1)))) := by
  obtain ⟨hb, e'⟩ := Array.getElem?_eq_some_iff.1 h
  unfold World.freeze Cf
  cases w with
  | mk heap tape drawn os output =>
    simp only [Nat.one_ne_zero, if_false]
    congr 1
    apply Array.ext_getElem?
    intro k
    rw [Array.getElem?_modify, Array.getElem?_setIfInBounds]
    by_cases hk:b=k
    · subst hk; simp only at e'; simp [hb, e']
    · simp [hk]
theorem Me {O O':Obj}:Cf (w.alloc O) w.heap.size O'=w.alloc O' := by
  unfold Cf World.alloc
  congr 1
  apply Array.ext_getElem?
  intro k
  rw [Array.getElem?_setIfInBounds]
  by_cases hk:w.heap.size=k
  · subst hk; simp
  · simp [hk, Array.getElem?_push, Ne.symm hk]
theorem Ju {O:Obj}:(w.alloc O).heap[w.heap.size]? = some O := by show (w.heap.push O)[w.heap.size]? = _; simp
theorem HT (vs:List Value):∀ (w:World) (b off i:Nat) (c:Array Value) (e:TypeId) (fr:Nat×Nat), w.heap[b]? = some (.cells c e fr)->off+i+vs.length≤c.size->Frz fr c.size →
    (∀ v∈vs, v.oneCell'=true)->∃ c':Array Value, c'.size=c.size∧(∀ j, (j<off+i∨off+i+vs.length≤j)->c'[j]? = c[j]?)∧(∀ (j:Nat) (v:Value), vs[j]? = some v->c'[off+i+j]? = some v) ∧
      (storeCells ⟨b, off, none⟩ vs i).run P w = .ok () (Cf w b (.cells c' e fr)) := by
  induction vs with
  | nil => intro w b off i c e fr h _ _ _; exact ⟨c, rfl, fun _ _ => rfl, fun j v hv => by simp at hv, by rw [TC h]; rfl⟩
  | cons v vs ih =>
    intro w b off i c e fr h hl hf h1
    simp only [List.length_cons] at hl
    have hi:off+i<c.size := by omega
    have hst:(store ((⟨b, off, none⟩:Addr).add i) v).run P w = .ok () (Cf w b (.cells (c.setIfInBounds (off+i) v) e fr)) := by
      rw [BC, run_store P w _ v _ (h1 v (by simp)), H5 h (Array.getElem?_eq_getElem hi)]
      simp only [UE h hf hi, Bool.false_eq_true, if_false]
      rw [OT h]
    have hb:b<w.heap.size := (Array.getElem?_eq_some_iff.1 h).1
    obtain ⟨c', g1, g2, g3, g4⟩ := ih (Cf w b (.cells (c.setIfInBounds (off+i) v) e fr)) b off (i+1) (c.setIfInBounds (off+i) v) e fr (CA hb)
      (by simp; omega) (by simpa using hf) (fun x hx => h1 x (by simp [hx]))
    refine ⟨c', by simpa using g1, fun j hj => ?_, fun j u hu => ?_, ?_⟩
    · rw [g2 j (by simp only [List.length_cons] at hj; omega)]
      rw [Array.getElem?_setIfInBounds, if_neg (by simp only [List.length_cons] at hj; omega)]
    · cases j with
      | zero =>
        simp at hu; subst hu
        rw [g2 (off+i+0) (by omega), Array.getElem?_setIfInBounds]; simp [hi]
      | succ j =>
        have := g3 j u (by simpa using hu)
        rw [←this]; congr 1; omega
    · rw [storeCells]
      simp only [Sem.run_bind, hst, Result.andThen_ok, g4, UR]
/-- A row of cells, read. -/
theorem Dg {b off:Nat} {c:Array Value} {e:TypeId} {fr:Nat×Nat} (vs:List Value) (h:w.heap[b]? = some (.cells c e fr)) (hv:∀ (j:Nat) (v:Value), vs[j]? = some v->c[off+j]? = some v) :
    (loadCells ⟨b, off, none⟩ vs.length).run P w = .ok vs.toArray w :=
  run_loadCells_list w _ vs fun j v hj => by rw [BC]; exact H5 h (hv j v hj)
/-- Cells that an object tells of, as a list of values. -/
theorem Jq {cs:Cs} {f:Nat->Option Value} (h:EY ρ φ cs f):∃ vs:List Value, vs.length=cs.len∧(∀ (j:Nat) (v:Value), vs[j]? = some v->f j=some v)∧(∀ v∈vs, v.oneCell'=true) ∧
    (∀ l:List V, l.length=cs.len->(∀ i:Nat, l[i]? = cs.at i)->Bi ρ φ l vs) := by
  have key:∀ m, m≤cs.len->∃ vs:List Value, vs.length=m ∧ ∀ (j:Nat) (v:Value), vs[j]? = some v->f j=some v∧v.oneCell'=true ∧ ∀ u, cs.at j=some u->Aj ρ φ u v := by
    intro m
    induction m with
    | zero => exact fun _ => ⟨[], rfl, fun j v hv => by simp at hv⟩
    | succ m ih =>
      intro hm
      obtain ⟨vs, h1, h2⟩ := ih (by omega)
      obtain ⟨u, hu⟩ := Cs.at_lt (cs := cs) (i := m) (by omega)
      obtain ⟨x, hx, hr, ho⟩ := h m u hu
      refine ⟨vs++[x], by simp [h1], fun j v hv => ?_⟩
      by_cases hj:j<m
      · rw [List.getElem?_append_left (by omega)] at hv; exact h2 j v hv
      · rw [List.getElem?_append_right (by omega), h1] at hv
        have hjm:j=m := by
          rcases Nat.eq_or_lt_of_le (Nat.le_of_not_lt hj) with e | e
          · exact e.symm
          · rw [List.getElem?_eq_none (by simp; omega)] at hv; cases hv
        subst hjm
        simp at hv; subst hv
        exact ⟨hx, ho, fun u' hu' => by rw [hu] at hu'; cases hu'; exact hr⟩
  obtain ⟨vs, h1, h2⟩ := key cs.len (Nat.le_refl _)
  refine ⟨vs, h1, fun j v hv => (h2 j v hv).1, fun v hv => ?_, fun l hl hla => ?_⟩
  · obtain ⟨j, hj, rfl⟩ := List.getElem_of_mem hv
    exact (h2 j _ (List.getElem?_eq_getElem hj)).2.1
  · refine BO.2 ⟨by omega, fun i u hu => ?_⟩
    have hi:i<vs.length := by
      rcases Nat.lt_or_ge i vs.length with h' | h'
      · exact h'
      · rw [List.getElem?_eq_none (by omega)] at hu; cases hu
    exact ⟨vs[i], List.getElem?_eq_getElem hi, (h2 i _ (List.getElem?_eq_getElem hi)).2.2 u (by rw [←hla i]; exact hu)⟩
theorem Hs {cs y:Cs} {off m:Nat} {f:Nat->Option Value} (h:EY ρ φ cs f) (hl:y.len=m) (ha:∀ i, i<m->y.at i=cs.at (off+i)):EY ρ φ y fun i => f (off+i) := fun i v hv => by
  have hi := Cs.lt_of_at hv
  rw [ha i (by omega)] at hv
  exact h (off+i) v hv
end
structure TR (ρ:Env) (N:Nat) (φ:AF) (t:Regs) (a:Act):Prop where
  size:a.tmps.size=N
  defers:a.defers=[]
  at_:∀ s p, s<N->K2.ofN s=some p->Aj ρ φ (B3 p t) (a.tmps.getD s undef)
theorem TR.mono {ρ:Env} {N:Nat} {φ φ':AF} {t:Regs} {a:Act} (h:TR ρ N φ t a) (hle:AF.le φ φ'):TR ρ N φ' t a :=
  ⟨h.size, h.defers, fun s p h1 h2 => Fj hle (h.at_ s p h1 h2)⟩
section
variable (P:Program) (ρ:Env) (B N:Nat)
/-- One operation's step: whatever world the abstract state tells of, it comes to one that the new abstract state tells of. -/
def HK (o:Oper) (t:Regs) (h:Heap) (n:K4) (v:V) (h1:Heap) (n1:K4):Prop :=
  ∀ (φ:AF) (a:Act) (w:World), TR ρ N φ t a->Gam ρ B h n φ w->∀ (K:Act->World->Prop) (Q:Exit->Act->World->Prop),
    (∀ φ' x w', Fr h h1 φ φ' n n1 w w'->Gam ρ B h1 n1 φ' w'->Aj ρ φ' v x->K (a.put o.dst x) w')->o.wp P a w K Q
/-- All ways that begin well end well. -/
def Cv (o:Oper) (f:KV->R) (t:Regs) (h:Heap) (n:K4):Prop :=
  ∀ κ:KV, (f κ).good->∃ v h1 n1, f κ=κ v h1 n1∧HK P ρ B N o t h n v h1 n1
/-- An operation that leaves the world as it is. -/
def X8 (o:Oper) (t:Regs) (h:Heap) (n:K4) (v:V):Prop :=
  ∀ φ a w, TR ρ N φ t a->Gam ρ B h n φ w->∃ x, (execOp a.eval o).run P w = .ok (.value x) w∧Aj ρ φ v x
def B1 (o:Oper) (f:KV->R) (t:Regs) (h:Heap) (n:K4):Prop :=
  ∀ κ:KV, (f κ).good->∃ v, f κ=κ v h n∧X8 P ρ B N o t h n v
end
section
variable {P:Program} {ρ:Env} {B N:Nat}
theorem HK.value {o:Oper} {t:Regs} {h h1:Heap} {n n1:K4} {v:V}
    (H:∀ φ a w, TR ρ N φ t a->Gam ρ B h n φ w->∃ φ' x w', (execOp a.eval o).run P w = .ok (.value x) w'∧Fr h h1 φ φ' n n1 w w'∧Gam ρ B h1 n1 φ' w'∧Aj ρ φ' v x):HK P ρ B N o t h n v h1 n1 := by
  intro φ a w ht hg K Q hK
  obtain ⟨φ', x, w', e, h1, h2, h3⟩ := H φ a w ht hg
  unfold Oper.wp
  rw [e]
  exact hK φ' x w' h1 h2 h3
theorem HK.skip {o:Oper} {t:Regs} {h h1:Heap} {n n1:K4}
    (H:∀ φ a w, TR ρ N φ t a->Gam ρ B h n φ w->∃ φ' w', (execOp a.eval o).run P w = .ok .skip w'∧Fr h h1 φ φ' n n1 w w'∧Gam ρ B h1 n1 φ' w'):HK P ρ B N o t h n B8 h1 n1 := by
  intro φ a w ht hg K Q hK
  obtain ⟨φ', w', e, h1, h2⟩ := H φ a w ht hg
  unfold Oper.wp
  rw [e]
  exact hK φ' undef w' h1 h2 (by simp only [B8, Aj, undef]; exact ⟨#[], rfl, by simp only [Bi]⟩)
/-- Nothing of the world turns. -/
theorem HK.pure {o:Oper} {t:Regs} {h:Heap} {n:K4} {v:V}
    (H:∀ φ a w, TR ρ N φ t a->Gam ρ B h n φ w->∃ x, (execOp a.eval o).run P w = .ok (.value x) w∧Aj ρ φ v x):HK P ρ B N o t h n v h n :=
  .value fun φ a w ht hg => let ⟨x, e, hr⟩ := H φ a w ht hg; ⟨φ, x, w, e, .refl h φ n w, hg, hr⟩
theorem B1.sound {o:Oper} {f:KV->R} {t:Regs} {h:Heap} {n:K4} (H:B1 P ρ B N o f t h n):Cv P ρ B N o f t h n := fun κ hg =>
  let ⟨v, e, hp⟩ := H κ hg
  ⟨v, h, n, e, .pure hp⟩
theorem KO {v:Value} {c:V} (h:L7 v=some c) (φ:AF):Aj ρ φ c v∧v.oneCell'=true := by
  unfold L7 at h
  split at h
  · cases h; exact ⟨by simp only [Aj], rfl⟩
  · rename_i k n
    split at h
    · split at h
      · rename_i m hm
        cases h
        have := B9 hm
        refine ⟨?_, rfl⟩
        simp only [Aj]
        exact ⟨Nat.lt_of_lt_of_le this (Hb k), by rw [Ai this]; rfl⟩
      · cases h
    · split at h
      · rename_i m hm
        cases h
        have := A9.1 hm
        simp only [Nat.add_eq] at this
        refine ⟨?_, rfl⟩
        simp only [Aj]
        have hH := DM k
        refine ⟨by show Mk k - (m+1)<Mk k; omega, ?_⟩
        rw [show Nat.sub (Mk k) (Nat.succ m)=Mk k - (m+1) from rfl, Cr (by omega)]
        congr 1
        omega
      · cases h
  all_goals first
    | (cases h; exact ⟨Tl _ ρ φ, rfl⟩)
    | (cases h; exact ⟨by simp only [Aj, BB], rfl⟩)
    | (simp at h)
theorem Fb:∀ {vs:List Value} {l:List V}, IB vs=some l->∀ φ:AF, Bi ρ φ l vs ∧ ∀ v∈vs, v.oneCell'=true
  | [], l, h, φ => by simp only [IB, Option.some.injEq] at h; subst h; exact ⟨Ao.2 rfl, by simp⟩
  | v::vs, l, h, φ => by
    simp only [IB] at h
    split at h
    · rename_i x xs hx hxs
      cases h
      obtain ⟨h1, h2⟩ := Fb hxs φ
      obtain ⟨h3, h4⟩ := KO (ρ := ρ) hx φ
      exact ⟨Ak.2 ⟨v, vs, rfl, h3, h1⟩, by simpa using ⟨h4, h2⟩⟩
    · cases h
theorem LV {v:Value} {c:V} (h:K7 v=some c) (φ:AF):Aj ρ φ c v := by
  unfold K7 at h
  split at h
  · rename_i cs
    cases hl:IB cs.toList with
    | none => rw [hl] at h; cases h
    | some l =>
      rw [hl] at h; cases h
      simp only [Aj]
      exact ⟨cs, rfl, (Fb hl φ).1, (Fb (ρ := ρ) hl φ).2⟩
  · rename_i cs
    split at h
    · cases h
      rename_i he
      simp only [Aj]
      exact ⟨cs, rfl, Ao.2 (by simpa using he)⟩
    · cases h
  · rename_i f first caps
    split at h
    · cases h
      rename_i he
      simp at he
      simp only [Aj]
      exact ⟨#[], by rw [he.1, he.2], by simp only [Bi]⟩
    · cases h
  · exact (KO h φ).1
theorem Ae {o:Operand} {x:Opd} (h:At N o=some x) {φ:AF} {t:Regs} {a:Act} (ht:TR ρ N φ t a):Aj ρ φ (ev x t) (a.eval o) := by
  unfold At at h
  split at h
  · rename_i s
    unfold Ha at h
    split at h
    · rename_i hs
      cases hk:K2.ofN s with
      | none => rw [hk] at h; cases h
      | some p => rw [hk] at h; cases h; exact ht.at_ s p hs hk
    · cases h
  · rename_i v
    cases hc:K7 v with
    | none => rw [hc] at h; cases h
    | some c => rw [hc] at h; cases h; exact LV hc φ
  · cases h
    simp only [ev, Act.eval, Aj]
    exact ⟨#[], rfl, by simp only [Bi]⟩
  · cases h
theorem Fa:∀ {os:List Operand} {xs:List Opd}, Bg N os=some xs->∀ {φ:AF} {t:Regs} {a:Act}, TR ρ N φ t a->Bi ρ φ (xs.map (ev · t)) (os.map a.eval)
  | [], xs, h, φ, t, a, ht => by simp only [Bg, Option.some.injEq] at h; subst h; exact Ao.2 rfl
  | o::os, xs, h, φ, t, a, ht => by
    simp only [Bg] at h
    split at h
    · rename_i x ys hx hys
      cases h
      exact Ak.2 ⟨_, _, rfl, Ae hx ht, Fa hys ht⟩
    · cases h
theorem Ay {t:TypeId} {s:Nat} (h:B6 P t=some s) (w:World):(sizeOf t).run P w = .ok s w := by
  unfold B6 at h
  cases hi:P.info? t with
  | none => rw [hi] at h; cases h
  | some i => rw [hi] at h; cases h; simp [sizeOf, typeInfo, hi]
theorem BM {t:TypeId} {b:Bool} (h:Ly P t=some b) (w:World):(isAgg t).run P w = .ok b w := by
  unfold Ly at h
  cases hi:P.underlying t with
  | none => rw [hi] at h; cases h
  | some d =>
    rw [hi] at h; cases h
    unfold isAgg
    cases d <;> simp [run_underlying hi]
theorem Dm {t:TypeId} {z:Value} (h:(P.info? t).bind (·.zero)=some z) (w:World):(zeroValue t).run P w = .ok z w := by
  cases hi:P.info? t with
  | none => rw [hi] at h; cases h
  | some i =>
    rw [hi] at h
    simp only [Option.bind_some] at h
    simp [zeroValue, typeInfo, hi, h]
end
end Go.Ev
