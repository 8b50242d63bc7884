/- AN EVALUATOR OF THE MODEL OF Go, PROVED SOUND, PART 1: what it says of a call holds in every world, on every tape. Conditions: none of its own; each theorem bears its premises. -/
import Derived.Below
import Derived.Laws.Append
import Derived.Laws.Bits
import Derived.Laws.Cells
import Derived.Laws.Entries
import Derived.Laws.Sem
import Derived.Laws.Strings
import Derived.Laws.StructEq
import Derived.Laws.Tables
import Derived.Laws.World
import Derived.Orders
noncomputable section
set_option linter.unusedSimpArgs false
set_option linter.unusedVariables false
namespace Go.Ev
set_option linter.unusedVariables false
inductive D where
  | d0 | d1 | d2 | d3 | d4 | d5 | d6 | d7 | d8 | d9 | d10 | d11 | d12 | d13 | d14 | d15
def D.toN (d:D):Nat := @D.rec (fun _ => Nat) 0 1 2 3 4 5 6 7 8 9 10 11 12 13 14 15 d
theorem D.toN_lt (d:D):d.toN<16 := by cases d <;> decide
theorem D.toN_inj {a b:D} (h:a.toN=b.toN):a=b := by
  cases a <;> cases b <;> first | rfl | exact absurd h (by decide)
/-- The next digit, or the other way. -/
def D.nx {β:Type} (d:D):(D->β)->β->β :=
  @D.rec (fun _ => (D->β)->β->β) (fun k _ => k .d1) (fun k _ => k .d2) (fun k _ => k .d3) (fun k _ => k .d4) (fun k _ => k .d5) (fun k _ => k .d6) (fun k _ => k .d7) (fun k _ => k .d8) (fun k _ => k .d9) (fun k _ => k .d10) (fun k _ => k .d11) (fun k _ => k .d12) (fun k _ => k .d13) (fun k _ => k .d14) (fun k _ => k .d15) (fun _ c => c) d
theorem D.nx_eq {β:Type} (d:D) (k:D->β) (c:β):(d.nx k c=c∧d.toN=15)∨(∃ e:D, e.toN=d.toN+1∧d.nx k c=k e) := by
  cases d
  case d0 => exact .inr ⟨.d1, rfl, rfl⟩
  case d1 => exact .inr ⟨.d2, rfl, rfl⟩
  case d2 => exact .inr ⟨.d3, rfl, rfl⟩
  case d3 => exact .inr ⟨.d4, rfl, rfl⟩
  case d4 => exact .inr ⟨.d5, rfl, rfl⟩
  case d5 => exact .inr ⟨.d6, rfl, rfl⟩
  case d6 => exact .inr ⟨.d7, rfl, rfl⟩
  case d7 => exact .inr ⟨.d8, rfl, rfl⟩
  case d8 => exact .inr ⟨.d9, rfl, rfl⟩
  case d9 => exact .inr ⟨.d10, rfl, rfl⟩
  case d10 => exact .inr ⟨.d11, rfl, rfl⟩
  case d11 => exact .inr ⟨.d12, rfl, rfl⟩
  case d12 => exact .inr ⟨.d13, rfl, rfl⟩
  case d13 => exact .inr ⟨.d14, rfl, rfl⟩
  case d14 => exact .inr ⟨.d15, rfl, rfl⟩
  case d15 => exact .inl ⟨rfl, rfl⟩
def D.ofN:Nat->D
  | 0 => .d0 | 1 => .d1 | 2 => .d2 | 3 => .d3 | 4 => .d4 | 5 => .d5 | 6 => .d6 | 7 => .d7 | 8 => .d8 | 9 => .d9 | 10 => .d10 | 11 => .d11 | 12 => .d12 | 13 => .d13 | 14 => .d14 | _ => .d15
theorem D.toN_ofN:∀ n, n<16->(D.ofN n).toN=n
  | 0, _ => rfl | 1, _ => rfl | 2, _ => rfl | 3, _ => rfl | 4, _ => rfl | 5, _ => rfl | 6, _ => rfl | 7, _ => rfl | 8, _ => rfl | 9, _ => rfl | 10, _ => rfl | 11, _ => rfl | 12, _ => rfl | 13, _ => rfl | 14, _ => rfl | 15, _ => rfl
  | n+16, h => by omega
def D.beq (a b:D):Bool := Nat.beq a.toN b.toN
theorem D.beq_iff {a b:D}:a.beq b=true ↔ a=b := by
  unfold D.beq
  exact ⟨fun h => D.toN_inj (Nat.eq_of_beq_eq_true h), fun h => by subst h; exact Nat.beq_refl _⟩
/-- A place of the heap: four digits, the first leads. -/
structure K4 where
  a:D
  b:D
  c:D
  d:D
/-- The nil values. -/
inductive Nl where
  | ptr
  | sl
  | map
  | fn
  | iface
/-- What lies in memory that stays: an integer, a bool, a text, bytes, a slice that is nil. -/
inductive RV where
  | i (k:IntKind) (r:Nat)
  | b (b:Bool)
  | s (n c:Nat)
  | y (n c:Nat)
  | nl
/-- What is E1 of other values; rb, rx, rp: bytes, a slice, a pointer to cells of memory that stays, told. -/
inductive Ot where
  | any
  | sym (i:Nat)
  | yl (p:K4)
  | no
  | iv (k:IntKind) (lo hi:Nat)
  | os (lo hi:Nat)
  | bl
  | rs (m j:Nat)
  | ss (lo hi n c:Nat)
  | ro (i lo hi z:Nat)
  | ap (i j m:Nat)
  | sy (k:IntKind) (i:Nat)
  | rb (n c:Nat)
  | rx (l:List RV) (m z:Nat)
  | rp (l:List RV)
/-- Abstract values. An integer is told by its residue. A string is told by its length and its bytes as one number, the first byte lowest. -/
inductive V where
  | int (k:IntKind) (r:Nat)
  | bool (b:Bool)
  | ptr (p:K4) (off:Nat)
  | sl (p:K4) (off len cap:Nat) (ex:Bool) (esz:Nat)
  | str (n c:Nat)
  | agg (l:List V)
  | nil (w:Nl)
  | map (p:K4)
  | fn (f:Nat) (caps:List V)
  | tup (l:List V)
  | oth (o:Ot)
/-- Cells: a list, or bytes packed in one number. -/
inductive Cs where
  | l (xs:List V)
  | b (n c:Nat)
/-- An object: cells (may they be written? which older object may share their memory?), or a map (its entries, their stamps, its clock), or an iterator over a map (the map's place, the clock at its beginning, the stamps it has shown, the latest first, the clock at the last step), or one over nil; or the record of a range over a function (whose; the place of its box). -/
inductive Ob where
  | c (cs:Cs) (sup:Bool) (prev:Option K4)
  | m (es:List (V×V)) (bs:List Nat) (clk:Nat)
  | it (p:K4) (since:Nat) (seen:List Nat) (c:Nat)
  | it0
  | lp (f:Nat) (box:K4)
abbrev Cx := Option Ob
/-- Sixteen values. -/
inductive VP where
  | mk (A B C E F G I J L M N O P Q T U:V)
def VP.all (x:V):VP := .mk x x x x x x x x x x x x x x x x
def VP.sel (d:D) (p:VP):V :=
  @VP.rec (fun _ => V) (fun A B C E F G I J L M N O P Q T U => @D.rec (fun _ => V) A B C E F G I J L M N O P Q T U d) p
def vs0 {β:Type} (p:VP) (v:V) (k:VP->β):β := @VP.rec (fun _ => β) (fun A B C E F G I J L M N O P Q T U => k (.mk v B C E F G I J L M N O P Q T U)) p
def vs1 {β:Type} (p:VP) (v:V) (k:VP->β):β := @VP.rec (fun _ => β) (fun A B C E F G I J L M N O P Q T U => k (.mk A v C E F G I J L M N O P Q T U)) p
def vs2 {β:Type} (p:VP) (v:V) (k:VP->β):β := @VP.rec (fun _ => β) (fun A B C E F G I J L M N O P Q T U => k (.mk A B v E F G I J L M N O P Q T U)) p
def vs3 {β:Type} (p:VP) (v:V) (k:VP->β):β := @VP.rec (fun _ => β) (fun A B C E F G I J L M N O P Q T U => k (.mk A B C v F G I J L M N O P Q T U)) p
def vs4 {β:Type} (p:VP) (v:V) (k:VP->β):β := @VP.rec (fun _ => β) (fun A B C E F G I J L M N O P Q T U => k (.mk A B C E v G I J L M N O P Q T U)) p
def vs5 {β:Type} (p:VP) (v:V) (k:VP->β):β := @VP.rec (fun _ => β) (fun A B C E F G I J L M N O P Q T U => k (.mk A B C E F v I J L M N O P Q T U)) p
def vs6 {β:Type} (p:VP) (v:V) (k:VP->β):β := @VP.rec (fun _ => β) (fun A B C E F G I J L M N O P Q T U => k (.mk A B C E F G v J L M N O P Q T U)) p
def vs7 {β:Type} (p:VP) (v:V) (k:VP->β):β := @VP.rec (fun _ => β) (fun A B C E F G I J L M N O P Q T U => k (.mk A B C E F G I v L M N O P Q T U)) p
def vs8 {β:Type} (p:VP) (v:V) (k:VP->β):β := @VP.rec (fun _ => β) (fun A B C E F G I J L M N O P Q T U => k (.mk A B C E F G I J v M N O P Q T U)) p
def vs9 {β:Type} (p:VP) (v:V) (k:VP->β):β := @VP.rec (fun _ => β) (fun A B C E F G I J L M N O P Q T U => k (.mk A B C E F G I J L v N O P Q T U)) p
def Aax {β:Type} (p:VP) (v:V) (k:VP->β):β := @VP.rec (fun _ => β) (fun A B C E F G I J L M N O P Q T U => k (.mk A B C E F G I J L M v O P Q T U)) p
def Ab4 {β:Type} (p:VP) (v:V) (k:VP->β):β := @VP.rec (fun _ => β) (fun A B C E F G I J L M N O P Q T U => k (.mk A B C E F G I J L M N v P Q T U)) p
def Ae7 {β:Type} (p:VP) (v:V) (k:VP->β):β := @VP.rec (fun _ => β) (fun A B C E F G I J L M N O P Q T U => k (.mk A B C E F G I J L M N O v Q T U)) p
def Abs {β:Type} (p:VP) (v:V) (k:VP->β):β := @VP.rec (fun _ => β) (fun A B C E F G I J L M N O P Q T U => k (.mk A B C E F G I J L M N O P v T U)) p
def Ads {β:Type} (p:VP) (v:V) (k:VP->β):β := @VP.rec (fun _ => β) (fun A B C E F G I J L M N O P Q T U => k (.mk A B C E F G I J L M N O P Q v U)) p
def Ae0 {β:Type} (p:VP) (v:V) (k:VP->β):β := @VP.rec (fun _ => β) (fun A B C E F G I J L M N O P Q T U => k (.mk A B C E F G I J L M N O P Q T v)) p
def vg0 {β:Type} (p:VP) (k:V->β):β := @VP.rec (fun _ => β) (fun A B C E F G I J L M N O P Q T U => k A) p
def vg1 {β:Type} (p:VP) (k:V->β):β := @VP.rec (fun _ => β) (fun A B C E F G I J L M N O P Q T U => k B) p
def vg2 {β:Type} (p:VP) (k:V->β):β := @VP.rec (fun _ => β) (fun A B C E F G I J L M N O P Q T U => k C) p
def vg3 {β:Type} (p:VP) (k:V->β):β := @VP.rec (fun _ => β) (fun A B C E F G I J L M N O P Q T U => k E) p
def vg4 {β:Type} (p:VP) (k:V->β):β := @VP.rec (fun _ => β) (fun A B C E F G I J L M N O P Q T U => k F) p
def vg5 {β:Type} (p:VP) (k:V->β):β := @VP.rec (fun _ => β) (fun A B C E F G I J L M N O P Q T U => k G) p
def vg6 {β:Type} (p:VP) (k:V->β):β := @VP.rec (fun _ => β) (fun A B C E F G I J L M N O P Q T U => k I) p
def vg7 {β:Type} (p:VP) (k:V->β):β := @VP.rec (fun _ => β) (fun A B C E F G I J L M N O P Q T U => k J) p
def vg8 {β:Type} (p:VP) (k:V->β):β := @VP.rec (fun _ => β) (fun A B C E F G I J L M N O P Q T U => k L) p
def vg9 {β:Type} (p:VP) (k:V->β):β := @VP.rec (fun _ => β) (fun A B C E F G I J L M N O P Q T U => k M) p
def Aas {β:Type} (p:VP) (k:V->β):β := @VP.rec (fun _ => β) (fun A B C E F G I J L M N O P Q T U => k N) p
def Abq {β:Type} (p:VP) (k:V->β):β := @VP.rec (fun _ => β) (fun A B C E F G I J L M N O P Q T U => k O) p
def Adq {β:Type} (p:VP) (k:V->β):β := @VP.rec (fun _ => β) (fun A B C E F G I J L M N O P Q T U => k P) p
def Ab9 {β:Type} (p:VP) (k:V->β):β := @VP.rec (fun _ => β) (fun A B C E F G I J L M N O P Q T U => k Q) p
def Adp {β:Type} (p:VP) (k:V->β):β := @VP.rec (fun _ => β) (fun A B C E F G I J L M N O P Q T U => k T) p
def Ad7 {β:Type} (p:VP) (k:V->β):β := @VP.rec (fun _ => β) (fun A B C E F G I J L M N O P Q T U => k U) p
def VP.selK {β:Type} (d:D):VP->(V->β)->β :=
  @D.rec (fun _ => VP->(V->β)->β) vg0 vg1 vg2 vg3 vg4 vg5 vg6 vg7 vg8 vg9 Aas Abq Adq Ab9 Adp Ad7 d
theorem VP.selK_eq {β:Type} (d:D) (p:VP) (k:V->β):VP.selK d p k=k (VP.sel d p) := by
  cases d <;> cases p <;> rfl
def VP.setK {β:Type} (d:D):VP->V->(VP->β)->β :=
  @D.rec (fun _ => VP->V->(VP->β)->β) vs0 vs1 vs2 vs3 vs4 vs5 vs6 vs7 vs8 vs9 Aax Ab4 Ae7 Abs Ads Ae0 d
def VP.setS (d:D) (p:VP) (v:V):VP := VP.setK d p v id
theorem VP.setK_eq {β:Type} (d:D) (p:VP) (v:V) (k:VP->β):VP.setK d p v k=k (VP.setS d p v) := by
  cases d <;> cases p <;> rfl
theorem VP.sel_setS_same (d:D) (p:VP) (v:V):VP.sel d (VP.setS d p v)=v := by
  cases d <;> cases p <;> rfl
theorem VP.sel_setS_ne {d e:D} (p:VP) (v:V) (h:d≠e):VP.sel e (VP.setS d p v)=VP.sel e p := by
  cases p; cases d <;> cases e <;> first | rfl | exact absurd rfl h
theorem VP.sel_all (d:D) (x:V):VP.sel d (VP.all x)=x := by cases d <;> rfl
/-- The registers. -/
inductive Regs where
  | mk (A B C E F G I J L M N O P Q T U:VP)
def Regs.all (x:VP):Regs := .mk x x x x x x x x x x x x x x x x
def Regs.sel (d:D) (p:Regs):VP :=
  @Regs.rec (fun _ => VP) (fun A B C E F G I J L M N O P Q T U => @D.rec (fun _ => VP) A B C E F G I J L M N O P Q T U d) p
def qs0 {β:Type} (p:Regs) (v:VP) (k:Regs->β):β := @Regs.rec (fun _ => β) (fun A B C E F G I J L M N O P Q T U => k (.mk v B C E F G I J L M N O P Q T U)) p
def qs1 {β:Type} (p:Regs) (v:VP) (k:Regs->β):β := @Regs.rec (fun _ => β) (fun A B C E F G I J L M N O P Q T U => k (.mk A v C E F G I J L M N O P Q T U)) p
def qs2 {β:Type} (p:Regs) (v:VP) (k:Regs->β):β := @Regs.rec (fun _ => β) (fun A B C E F G I J L M N O P Q T U => k (.mk A B v E F G I J L M N O P Q T U)) p
def qs3 {β:Type} (p:Regs) (v:VP) (k:Regs->β):β := @Regs.rec (fun _ => β) (fun A B C E F G I J L M N O P Q T U => k (.mk A B C v F G I J L M N O P Q T U)) p
def qs4 {β:Type} (p:Regs) (v:VP) (k:Regs->β):β := @Regs.rec (fun _ => β) (fun A B C E F G I J L M N O P Q T U => k (.mk A B C E v G I J L M N O P Q T U)) p
def qs5 {β:Type} (p:Regs) (v:VP) (k:Regs->β):β := @Regs.rec (fun _ => β) (fun A B C E F G I J L M N O P Q T U => k (.mk A B C E F v I J L M N O P Q T U)) p
def qs6 {β:Type} (p:Regs) (v:VP) (k:Regs->β):β := @Regs.rec (fun _ => β) (fun A B C E F G I J L M N O P Q T U => k (.mk A B C E F G v J L M N O P Q T U)) p
def qs7 {β:Type} (p:Regs) (v:VP) (k:Regs->β):β := @Regs.rec (fun _ => β) (fun A B C E F G I J L M N O P Q T U => k (.mk A B C E F G I v L M N O P Q T U)) p
def qs8 {β:Type} (p:Regs) (v:VP) (k:Regs->β):β := @Regs.rec (fun _ => β) (fun A B C E F G I J L M N O P Q T U => k (.mk A B C E F G I J v M N O P Q T U)) p
def qs9 {β:Type} (p:Regs) (v:VP) (k:Regs->β):β := @Regs.rec (fun _ => β) (fun A B C E F G I J L M N O P Q T U => k (.mk A B C E F G I J L v N O P Q T U)) p
def Adu {β:Type} (p:Regs) (v:VP) (k:Regs->β):β := @Regs.rec (fun _ => β) (fun A B C E F G I J L M N O P Q T U => k (.mk A B C E F G I J L M v O P Q T U)) p
def Acy {β:Type} (p:Regs) (v:VP) (k:Regs->β):β := @Regs.rec (fun _ => β) (fun A B C E F G I J L M N O P Q T U => k (.mk A B C E F G I J L M N v P Q T U)) p
def Acr {β:Type} (p:Regs) (v:VP) (k:Regs->β):β := @Regs.rec (fun _ => β) (fun A B C E F G I J L M N O P Q T U => k (.mk A B C E F G I J L M N O v Q T U)) p
def Ac2 {β:Type} (p:Regs) (v:VP) (k:Regs->β):β := @Regs.rec (fun _ => β) (fun A B C E F G I J L M N O P Q T U => k (.mk A B C E F G I J L M N O P v T U)) p
def Ae1 {β:Type} (p:Regs) (v:VP) (k:Regs->β):β := @Regs.rec (fun _ => β) (fun A B C E F G I J L M N O P Q T U => k (.mk A B C E F G I J L M N O P Q v U)) p
def Aau {β:Type} (p:Regs) (v:VP) (k:Regs->β):β := @Regs.rec (fun _ => β) (fun A B C E F G I J L M N O P Q T U => k (.mk A B C E F G I J L M N O P Q T v)) p
def qg0 {β:Type} (p:Regs) (k:VP->β):β := @Regs.rec (fun _ => β) (fun A B C E F G I J L M N O P Q T U => k A) p
def qg1 {β:Type} (p:Regs) (k:VP->β):β := @Regs.rec (fun _ => β) (fun A B C E F G I J L M N O P Q T U => k B) p
def qg2 {β:Type} (p:Regs) (k:VP->β):β := @Regs.rec (fun _ => β) (fun A B C E F G I J L M N O P Q T U => k C) p
def qg3 {β:Type} (p:Regs) (k:VP->β):β := @Regs.rec (fun _ => β) (fun A B C E F G I J L M N O P Q T U => k E) p
def qg4 {β:Type} (p:Regs) (k:VP->β):β := @Regs.rec (fun _ => β) (fun A B C E F G I J L M N O P Q T U => k F) p
def qg5 {β:Type} (p:Regs) (k:VP->β):β := @Regs.rec (fun _ => β) (fun A B C E F G I J L M N O P Q T U => k G) p
def qg6 {β:Type} (p:Regs) (k:VP->β):β := @Regs.rec (fun _ => β) (fun A B C E F G I J L M N O P Q T U => k I) p
def qg7 {β:Type} (p:Regs) (k:VP->β):β := @Regs.rec (fun _ => β) (fun A B C E F G I J L M N O P Q T U => k J) p
def qg8 {β:Type} (p:Regs) (k:VP->β):β := @Regs.rec (fun _ => β) (fun A B C E F G I J L M N O P Q T U => k L) p
def qg9 {β:Type} (p:Regs) (k:VP->β):β := @Regs.rec (fun _ => β) (fun A B C E F G I J L M N O P Q T U => k M) p
def Ady {β:Type} (p:Regs) (k:VP->β):β := @Regs.rec (fun _ => β) (fun A B C E F G I J L M N O P Q T U => k N) p
def Aca {β:Type} (p:Regs) (k:VP->β):β := @Regs.rec (fun _ => β) (fun A B C E F G I J L M N O P Q T U => k O) p
def Aai {β:Type} (p:Regs) (k:VP->β):β := @Regs.rec (fun _ => β) (fun A B C E F G I J L M N O P Q T U => k P) p
def Ad2 {β:Type} (p:Regs) (k:VP->β):β := @Regs.rec (fun _ => β) (fun A B C E F G I J L M N O P Q T U => k Q) p
def ZM {β:Type} (p:Regs) (k:VP->β):β := @Regs.rec (fun _ => β) (fun A B C E F G I J L M N O P Q T U => k T) p
def Aa0 {β:Type} (p:Regs) (k:VP->β):β := @Regs.rec (fun _ => β) (fun A B C E F G I J L M N O P Q T U => k U) p
def Regs.selK {β:Type} (d:D):Regs->(VP->β)->β :=
  @D.rec (fun _ => Regs->(VP->β)->β) qg0 qg1 qg2 qg3 qg4 qg5 qg6 qg7 qg8 qg9 Ady Aca Aai Ad2 ZM Aa0 d
theorem Regs.selK_eq {β:Type} (d:D) (p:Regs) (k:VP->β):Regs.selK d p k=k (Regs.sel d p) := by
  cases d <;> cases p <;> rfl
def Regs.setK {β:Type} (d:D):Regs->VP->(Regs->β)->β :=
  @D.rec (fun _ => Regs->VP->(Regs->β)->β) qs0 qs1 qs2 qs3 qs4 qs5 qs6 qs7 qs8 qs9 Adu Acy Acr Ac2 Ae1 Aau d
def Regs.setS (d:D) (p:Regs) (v:VP):Regs := Regs.setK d p v id
theorem Regs.setK_eq {β:Type} (d:D) (p:Regs) (v:VP) (k:Regs->β):Regs.setK d p v k=k (Regs.setS d p v) := by
  cases d <;> cases p <;> rfl
theorem Regs.sel_setS_same (d:D) (p:Regs) (v:VP):Regs.sel d (Regs.setS d p v)=v := by
  cases d <;> cases p <;> rfl
theorem Regs.sel_setS_ne {d e:D} (p:Regs) (v:VP) (h:d≠e):Regs.sel e (Regs.setS d p v)=Regs.sel e p := by
  cases p; cases d <;> cases e <;> first | rfl | exact absurd rfl h
theorem Regs.sel_all (d:D) (x:VP):Regs.sel d (Regs.all x)=x := by cases d <;> rfl
/-- Sixteen places. -/
inductive HA where
  | mk (A B C E F G I J L M N O P Q T U:Cx)
def HA.all (x:Cx):HA := .mk x x x x x x x x x x x x x x x x
def HA.sel (d:D) (p:HA):Cx :=
  @HA.rec (fun _ => Cx) (fun A B C E F G I J L M N O P Q T U => @D.rec (fun _ => Cx) A B C E F G I J L M N O P Q T U d) p
def Aav {β:Type} (p:HA) (v:Cx) (k:HA->β):β := @HA.rec (fun _ => β) (fun A B C E F G I J L M N O P Q T U => k (.mk v B C E F G I J L M N O P Q T U)) p
def ZK {β:Type} (p:HA) (v:Cx) (k:HA->β):β := @HA.rec (fun _ => β) (fun A B C E F G I J L M N O P Q T U => k (.mk A v C E F G I J L M N O P Q T U)) p
def Ac5 {β:Type} (p:HA) (v:Cx) (k:HA->β):β := @HA.rec (fun _ => β) (fun A B C E F G I J L M N O P Q T U => k (.mk A B v E F G I J L M N O P Q T U)) p
def Aar {β:Type} (p:HA) (v:Cx) (k:HA->β):β := @HA.rec (fun _ => β) (fun A B C E F G I J L M N O P Q T U => k (.mk A B C v F G I J L M N O P Q T U)) p
def Ab6 {β:Type} (p:HA) (v:Cx) (k:HA->β):β := @HA.rec (fun _ => β) (fun A B C E F G I J L M N O P Q T U => k (.mk A B C E v G I J L M N O P Q T U)) p
def Ab5 {β:Type} (p:HA) (v:Cx) (k:HA->β):β := @HA.rec (fun _ => β) (fun A B C E F G I J L M N O P Q T U => k (.mk A B C E F v I J L M N O P Q T U)) p
def Aae {β:Type} (p:HA) (v:Cx) (k:HA->β):β := @HA.rec (fun _ => β) (fun A B C E F G I J L M N O P Q T U => k (.mk A B C E F G v J L M N O P Q T U)) p
def Aaz {β:Type} (p:HA) (v:Cx) (k:HA->β):β := @HA.rec (fun _ => β) (fun A B C E F G I J L M N O P Q T U => k (.mk A B C E F G I v L M N O P Q T U)) p
def Aam {β:Type} (p:HA) (v:Cx) (k:HA->β):β := @HA.rec (fun _ => β) (fun A B C E F G I J L M N O P Q T U => k (.mk A B C E F G I J v M N O P Q T U)) p
def Acp {β:Type} (p:HA) (v:Cx) (k:HA->β):β := @HA.rec (fun _ => β) (fun A B C E F G I J L M N O P Q T U => k (.mk A B C E F G I J L v N O P Q T U)) p
def YW {β:Type} (p:HA) (v:Cx) (k:HA->β):β := @HA.rec (fun _ => β) (fun A B C E F G I J L M N O P Q T U => k (.mk A B C E F G I J L M v O P Q T U)) p
def Y4 {β:Type} (p:HA) (v:Cx) (k:HA->β):β := @HA.rec (fun _ => β) (fun A B C E F G I J L M N O P Q T U => k (.mk A B C E F G I J L M N v P Q T U)) p
def Zi {β:Type} (p:HA) (v:Cx) (k:HA->β):β := @HA.rec (fun _ => β) (fun A B C E F G I J L M N O P Q T U => k (.mk A B C E F G I J L M N O v Q T U)) p
def Y3 {β:Type} (p:HA) (v:Cx) (k:HA->β):β := @HA.rec (fun _ => β) (fun A B C E F G I J L M N O P Q T U => k (.mk A B C E F G I J L M N O P v T U)) p
def XU {β:Type} (p:HA) (v:Cx) (k:HA->β):β := @HA.rec (fun _ => β) (fun A B C E F G I J L M N O P Q T U => k (.mk A B C E F G I J L M N O P Q v U)) p
def YT {β:Type} (p:HA) (v:Cx) (k:HA->β):β := @HA.rec (fun _ => β) (fun A B C E F G I J L M N O P Q T U => k (.mk A B C E F G I J L M N O P Q T v)) p
def Aa9 {β:Type} (p:HA) (k:Cx->β):β := @HA.rec (fun _ => β) (fun A B C E F G I J L M N O P Q T U => k A) p
def Abp {β:Type} (p:HA) (k:Cx->β):β := @HA.rec (fun _ => β) (fun A B C E F G I J L M N O P Q T U => k B) p
def Aea {β:Type} (p:HA) (k:Cx->β):β := @HA.rec (fun _ => β) (fun A B C E F G I J L M N O P Q T U => k C) p
def Aa6 {β:Type} (p:HA) (k:Cx->β):β := @HA.rec (fun _ => β) (fun A B C E F G I J L M N O P Q T U => k E) p
def Adf {β:Type} (p:HA) (k:Cx->β):β := @HA.rec (fun _ => β) (fun A B C E F G I J L M N O P Q T U => k F) p
def Adv {β:Type} (p:HA) (k:Cx->β):β := @HA.rec (fun _ => β) (fun A B C E F G I J L M N O P Q T U => k G) p
def Abv {β:Type} (p:HA) (k:Cx->β):β := @HA.rec (fun _ => β) (fun A B C E F G I J L M N O P Q T U => k I) p
def ZR {β:Type} (p:HA) (k:Cx->β):β := @HA.rec (fun _ => β) (fun A B C E F G I J L M N O P Q T U => k J) p
def Abg {β:Type} (p:HA) (k:Cx->β):β := @HA.rec (fun _ => β) (fun A B C E F G I J L M N O P Q T U => k L) p
def ZU {β:Type} (p:HA) (k:Cx->β):β := @HA.rec (fun _ => β) (fun A B C E F G I J L M N O P Q T U => k M) p
def Z9 {β:Type} (p:HA) (k:Cx->β):β := @HA.rec (fun _ => β) (fun A B C E F G I J L M N O P Q T U => k N) p
def Zp {β:Type} (p:HA) (k:Cx->β):β := @HA.rec (fun _ => β) (fun A B C E F G I J L M N O P Q T U => k O) p
def YL {β:Type} (p:HA) (k:Cx->β):β := @HA.rec (fun _ => β) (fun A B C E F G I J L M N O P Q T U => k P) p
def Ya {β:Type} (p:HA) (k:Cx->β):β := @HA.rec (fun _ => β) (fun A B C E F G I J L M N O P Q T U => k Q) p
def Yn {β:Type} (p:HA) (k:Cx->β):β := @HA.rec (fun _ => β) (fun A B C E F G I J L M N O P Q T U => k T) p
def YV {β:Type} (p:HA) (k:Cx->β):β := @HA.rec (fun _ => β) (fun A B C E F G I J L M N O P Q T U => k U) p
def HA.selK {β:Type} (d:D):HA->(Cx->β)->β :=
  @D.rec (fun _ => HA->(Cx->β)->β) Aa9 Abp Aea Aa6 Adf Adv Abv ZR Abg ZU Z9 Zp YL Ya Yn YV d
theorem HA.selK_eq {β:Type} (d:D) (p:HA) (k:Cx->β):HA.selK d p k=k (HA.sel d p) := by
  cases d <;> cases p <;> rfl
def HA.setK {β:Type} (d:D):HA->Cx->(HA->β)->β :=
  @D.rec (fun _ => HA->Cx->(HA->β)->β) Aav ZK Ac5 Aar Ab6 Ab5 Aae Aaz Aam Acp YW Y4 Zi Y3 XU YT d
def HA.setS (d:D) (p:HA) (v:Cx):HA := HA.setK d p v id
theorem HA.setK_eq {β:Type} (d:D) (p:HA) (v:Cx) (k:HA->β):HA.setK d p v k=k (HA.setS d p v) := by
  cases d <;> cases p <;> rfl
theorem HA.sel_setS_same (d:D) (p:HA) (v:Cx):HA.sel d (HA.setS d p v)=v := by
  cases d <;> cases p <;> rfl
theorem HA.sel_setS_ne {d e:D} (p:HA) (v:Cx) (h:d≠e):HA.sel e (HA.setS d p v)=HA.sel e p := by
  cases p; cases d <;> cases e <;> first | rfl | exact absurd rfl h
theorem HA.sel_all (d:D) (x:Cx):HA.sel d (HA.all x)=x := by cases d <;> rfl
/-- Of those sixteen. -/
inductive HB where
  | mk (A B C E F G I J L M N O P Q T U:HA)
def HB.all (x:HA):HB := .mk x x x x x x x x x x x x x x x x
def HB.sel (d:D) (p:HB):HA :=
  @HB.rec (fun _ => HA) (fun A B C E F G I J L M N O P Q T U => @D.rec (fun _ => HA) A B C E F G I J L M N O P Q T U d) p
def Abh {β:Type} (p:HB) (v:HA) (k:HB->β):β := @HB.rec (fun _ => β) (fun A B C E F G I J L M N O P Q T U => k (.mk v B C E F G I J L M N O P Q T U)) p
def ZN {β:Type} (p:HB) (v:HA) (k:HB->β):β := @HB.rec (fun _ => β) (fun A B C E F G I J L M N O P Q T U => k (.mk A v C E F G I J L M N O P Q T U)) p
def Ada {β:Type} (p:HB) (v:HA) (k:HB->β):β := @HB.rec (fun _ => β) (fun A B C E F G I J L M N O P Q T U => k (.mk A B v E F G I J L M N O P Q T U)) p
def Ae6 {β:Type} (p:HB) (v:HA) (k:HB->β):β := @HB.rec (fun _ => β) (fun A B C E F G I J L M N O P Q T U => k (.mk A B C v F G I J L M N O P Q T U)) p
def Aap {β:Type} (p:HB) (v:HA) (k:HB->β):β := @HB.rec (fun _ => β) (fun A B C E F G I J L M N O P Q T U => k (.mk A B C E v G I J L M N O P Q T U)) p
def ZS {β:Type} (p:HB) (v:HA) (k:HB->β):β := @HB.rec (fun _ => β) (fun A B C E F G I J L M N O P Q T U => k (.mk A B C E F v I J L M N O P Q T U)) p
def Abm {β:Type} (p:HB) (v:HA) (k:HB->β):β := @HB.rec (fun _ => β) (fun A B C E F G I J L M N O P Q T U => k (.mk A B C E F G v J L M N O P Q T U)) p
def Acv {β:Type} (p:HB) (v:HA) (k:HB->β):β := @HB.rec (fun _ => β) (fun A B C E F G I J L M N O P Q T U => k (.mk A B C E F G I v L M N O P Q T U)) p
def Abj {β:Type} (p:HB) (v:HA) (k:HB->β):β := @HB.rec (fun _ => β) (fun A B C E F G I J L M N O P Q T U => k (.mk A B C E F G I J v M N O P Q T U)) p
def Adh {β:Type} (p:HB) (v:HA) (k:HB->β):β := @HB.rec (fun _ => β) (fun A B C E F G I J L M N O P Q T U => k (.mk A B C E F G I J L v N O P Q T U)) p
def Zl {β:Type} (p:HB) (v:HA) (k:HB->β):β := @HB.rec (fun _ => β) (fun A B C E F G I J L M N O P Q T U => k (.mk A B C E F G I J L M v O P Q T U)) p
def XA {β:Type} (p:HB) (v:HA) (k:HB->β):β := @HB.rec (fun _ => β) (fun A B C E F G I J L M N O P Q T U => k (.mk A B C E F G I J L M N v P Q T U)) p
def Za {β:Type} (p:HB) (v:HA) (k:HB->β):β := @HB.rec (fun _ => β) (fun A B C E F G I J L M N O P Q T U => k (.mk A B C E F G I J L M N O v Q T U)) p
def Z8 {β:Type} (p:HB) (v:HA) (k:HB->β):β := @HB.rec (fun _ => β) (fun A B C E F G I J L M N O P Q T U => k (.mk A B C E F G I J L M N O P v T U)) p
def YC {β:Type} (p:HB) (v:HA) (k:HB->β):β := @HB.rec (fun _ => β) (fun A B C E F G I J L M N O P Q T U => k (.mk A B C E F G I J L M N O P Q v U)) p
def XR {β:Type} (p:HB) (v:HA) (k:HB->β):β := @HB.rec (fun _ => β) (fun A B C E F G I J L M N O P Q T U => k (.mk A B C E F G I J L M N O P Q T v)) p
def Aal {β:Type} (p:HB) (k:HA->β):β := @HB.rec (fun _ => β) (fun A B C E F G I J L M N O P Q T U => k A) p
def Adw {β:Type} (p:HB) (k:HA->β):β := @HB.rec (fun _ => β) (fun A B C E F G I J L M N O P Q T U => k B) p
def Aay {β:Type} (p:HB) (k:HA->β):β := @HB.rec (fun _ => β) (fun A B C E F G I J L M N O P Q T U => k C) p
def Aaj {β:Type} (p:HB) (k:HA->β):β := @HB.rec (fun _ => β) (fun A B C E F G I J L M N O P Q T U => k E) p
def Ac6 {β:Type} (p:HB) (k:HA->β):β := @HB.rec (fun _ => β) (fun A B C E F G I J L M N O P Q T U => k F) p
def Aco {β:Type} (p:HB) (k:HA->β):β := @HB.rec (fun _ => β) (fun A B C E F G I J L M N O P Q T U => k G) p
def Adr {β:Type} (p:HB) (k:HA->β):β := @HB.rec (fun _ => β) (fun A B C E F G I J L M N O P Q T U => k I) p
def Ac3 {β:Type} (p:HB) (k:HA->β):β := @HB.rec (fun _ => β) (fun A B C E F G I J L M N O P Q T U => k J) p
def ZP {β:Type} (p:HB) (k:HA->β):β := @HB.rec (fun _ => β) (fun A B C E F G I J L M N O P Q T U => k L) p
def Ab0 {β:Type} (p:HB) (k:HA->β):β := @HB.rec (fun _ => β) (fun A B C E F G I J L M N O P Q T U => k M) p
def XX {β:Type} (p:HB) (k:HA->β):β := @HB.rec (fun _ => β) (fun A B C E F G I J L M N O P Q T U => k N) p
def Y7 {β:Type} (p:HB) (k:HA->β):β := @HB.rec (fun _ => β) (fun A B C E F G I J L M N O P Q T U => k O) p
def Ze {β:Type} (p:HB) (k:HA->β):β := @HB.rec (fun _ => β) (fun A B C E F G I J L M N O P Q T U => k P) p
def XI {β:Type} (p:HB) (k:HA->β):β := @HB.rec (fun _ => β) (fun A B C E F G I J L M N O P Q T U => k Q) p
def YP {β:Type} (p:HB) (k:HA->β):β := @HB.rec (fun _ => β) (fun A B C E F G I J L M N O P Q T U => k T) p
def XJ {β:Type} (p:HB) (k:HA->β):β := @HB.rec (fun _ => β) (fun A B C E F G I J L M N O P Q T U => k U) p
def HB.selK {β:Type} (d:D):HB->(HA->β)->β :=
  @D.rec (fun _ => HB->(HA->β)->β) Aal Adw Aay Aaj Ac6 Aco Adr Ac3 ZP Ab0 XX Y7 Ze XI YP XJ d
theorem HB.selK_eq {β:Type} (d:D) (p:HB) (k:HA->β):HB.selK d p k=k (HB.sel d p) := by
  cases d <;> cases p <;> rfl
def HB.setK {β:Type} (d:D):HB->HA->(HB->β)->β :=
  @D.rec (fun _ => HB->HA->(HB->β)->β) Abh ZN Ada Ae6 Aap ZS Abm Acv Abj Adh Zl XA Za Z8 YC XR d
def HB.setS (d:D) (p:HB) (v:HA):HB := HB.setK d p v id
theorem HB.setK_eq {β:Type} (d:D) (p:HB) (v:HA) (k:HB->β):HB.setK d p v k=k (HB.setS d p v) := by
  cases d <;> cases p <;> rfl
theorem HB.sel_setS_same (d:D) (p:HB) (v:HA):HB.sel d (HB.setS d p v)=v := by
  cases d <;> cases p <;> rfl
theorem HB.sel_setS_ne {d e:D} (p:HB) (v:HA) (h:d≠e):HB.sel e (HB.setS d p v)=HB.sel e p := by
  cases p; cases d <;> cases e <;> first | rfl | exact absurd rfl h
theorem HB.sel_all (d:D) (x:HA):HB.sel d (HB.all x)=x := by cases d <;> rfl
/-- Of those sixteen. -/
inductive HC where
  | mk (A B C E F G I J L M N O P Q T U:HB)
def HC.all (x:HB):HC := .mk x x x x x x x x x x x x x x x x
def HC.sel (d:D) (p:HC):HB :=
  @HC.rec (fun _ => HB) (fun A B C E F G I J L M N O P Q T U => @D.rec (fun _ => HB) A B C E F G I J L M N O P Q T U d) p
def Aby {β:Type} (p:HC) (v:HB) (k:HC->β):β := @HC.rec (fun _ => β) (fun A B C E F G I J L M N O P Q T U => k (.mk v B C E F G I J L M N O P Q T U)) p
def Acn {β:Type} (p:HC) (v:HB) (k:HC->β):β := @HC.rec (fun _ => β) (fun A B C E F G I J L M N O P Q T U => k (.mk A v C E F G I J L M N O P Q T U)) p
def Aag {β:Type} (p:HC) (v:HB) (k:HC->β):β := @HC.rec (fun _ => β) (fun A B C E F G I J L M N O P Q T U => k (.mk A B v E F G I J L M N O P Q T U)) p
def Abr {β:Type} (p:HC) (v:HB) (k:HC->β):β := @HC.rec (fun _ => β) (fun A B C E F G I J L M N O P Q T U => k (.mk A B C v F G I J L M N O P Q T U)) p
def Ab1 {β:Type} (p:HC) (v:HB) (k:HC->β):β := @HC.rec (fun _ => β) (fun A B C E F G I J L M N O P Q T U => k (.mk A B C E v G I J L M N O P Q T U)) p
def Adg {β:Type} (p:HC) (v:HB) (k:HC->β):β := @HC.rec (fun _ => β) (fun A B C E F G I J L M N O P Q T U => k (.mk A B C E F v I J L M N O P Q T U)) p
def Adt {β:Type} (p:HC) (v:HB) (k:HC->β):β := @HC.rec (fun _ => β) (fun A B C E F G I J L M N O P Q T U => k (.mk A B C E F G v J L M N O P Q T U)) p
def Acu {β:Type} (p:HC) (v:HB) (k:HC->β):β := @HC.rec (fun _ => β) (fun A B C E F G I J L M N O P Q T U => k (.mk A B C E F G I v L M N O P Q T U)) p
def ZW {β:Type} (p:HC) (v:HB) (k:HC->β):β := @HC.rec (fun _ => β) (fun A B C E F G I J L M N O P Q T U => k (.mk A B C E F G I J v M N O P Q T U)) p
def Aci {β:Type} (p:HC) (v:HB) (k:HC->β):β := @HC.rec (fun _ => β) (fun A B C E F G I J L M N O P Q T U => k (.mk A B C E F G I J L v N O P Q T U)) p
def Z2 {β:Type} (p:HC) (v:HB) (k:HC->β):β := @HC.rec (fun _ => β) (fun A B C E F G I J L M N O P Q T U => k (.mk A B C E F G I J L M v O P Q T U)) p
def Zt {β:Type} (p:HC) (v:HB) (k:HC->β):β := @HC.rec (fun _ => β) (fun A B C E F G I J L M N O P Q T U => k (.mk A B C E F G I J L M N v P Q T U)) p
def YI {β:Type} (p:HC) (v:HB) (k:HC->β):β := @HC.rec (fun _ => β) (fun A B C E F G I J L M N O P Q T U => k (.mk A B C E F G I J L M N O v Q T U)) p
def Xz {β:Type} (p:HC) (v:HB) (k:HC->β):β := @HC.rec (fun _ => β) (fun A B C E F G I J L M N O P Q T U => k (.mk A B C E F G I J L M N O P v T U)) p
def Yu {β:Type} (p:HC) (v:HB) (k:HC->β):β := @HC.rec (fun _ => β) (fun A B C E F G I J L M N O P Q T U => k (.mk A B C E F G I J L M N O P Q v U)) p
def Zr {β:Type} (p:HC) (v:HB) (k:HC->β):β := @HC.rec (fun _ => β) (fun A B C E F G I J L M N O P Q T U => k (.mk A B C E F G I J L M N O P Q T v)) p
def Acb {β:Type} (p:HC) (k:HB->β):β := @HC.rec (fun _ => β) (fun A B C E F G I J L M N O P Q T U => k A) p
def Adm {β:Type} (p:HC) (k:HB->β):β := @HC.rec (fun _ => β) (fun A B C E F G I J L M N O P Q T U => k B) p
def Abo {β:Type} (p:HC) (k:HB->β):β := @HC.rec (fun _ => β) (fun A B C E F G I J L M N O P Q T U => k C) p
def ZT {β:Type} (p:HC) (k:HB->β):β := @HC.rec (fun _ => β) (fun A B C E F G I J L M N O P Q T U => k E) p
def Abt {β:Type} (p:HC) (k:HB->β):β := @HC.rec (fun _ => β) (fun A B C E F G I J L M N O P Q T U => k F) p
def Adj {β:Type} (p:HC) (k:HB->β):β := @HC.rec (fun _ => β) (fun A B C E F G I J L M N O P Q T U => k G) p
def Ab7 {β:Type} (p:HC) (k:HB->β):β := @HC.rec (fun _ => β) (fun A B C E F G I J L M N O P Q T U => k I) p
def Acw {β:Type} (p:HC) (k:HB->β):β := @HC.rec (fun _ => β) (fun A B C E F G I J L M N O P Q T U => k J) p
def Aa2 {β:Type} (p:HC) (k:HB->β):β := @HC.rec (fun _ => β) (fun A B C E F G I J L M N O P Q T U => k L) p
def Ac8 {β:Type} (p:HC) (k:HB->β):β := @HC.rec (fun _ => β) (fun A B C E F G I J L M N O P Q T U => k M) p
def Y6 {β:Type} (p:HC) (k:HB->β):β := @HC.rec (fun _ => β) (fun A B C E F G I J L M N O P Q T U => k N) p
def Y1 {β:Type} (p:HC) (k:HB->β):β := @HC.rec (fun _ => β) (fun A B C E F G I J L M N O P Q T U => k O) p
def XP {β:Type} (p:HC) (k:HB->β):β := @HC.rec (fun _ => β) (fun A B C E F G I J L M N O P Q T U => k P) p
def Zb {β:Type} (p:HC) (k:HB->β):β := @HC.rec (fun _ => β) (fun A B C E F G I J L M N O P Q T U => k Q) p
def Yx {β:Type} (p:HC) (k:HB->β):β := @HC.rec (fun _ => β) (fun A B C E F G I J L M N O P Q T U => k T) p
def Zo {β:Type} (p:HC) (k:HB->β):β := @HC.rec (fun _ => β) (fun A B C E F G I J L M N O P Q T U => k U) p
def HC.selK {β:Type} (d:D):HC->(HB->β)->β :=
  @D.rec (fun _ => HC->(HB->β)->β) Acb Adm Abo ZT Abt Adj Ab7 Acw Aa2 Ac8 Y6 Y1 XP Zb Yx Zo d
theorem HC.selK_eq {β:Type} (d:D) (p:HC) (k:HB->β):HC.selK d p k=k (HC.sel d p) := by
  cases d <;> cases p <;> rfl
def HC.setK {β:Type} (d:D):HC->HB->(HC->β)->β :=
  @D.rec (fun _ => HC->HB->(HC->β)->β) Aby Acn Aag Abr Ab1 Adg Adt Acu ZW Aci Z2 Zt YI Xz Yu Zr d
def HC.setS (d:D) (p:HC) (v:HB):HC := HC.setK d p v id
theorem HC.setK_eq {β:Type} (d:D) (p:HC) (v:HB) (k:HC->β):HC.setK d p v k=k (HC.setS d p v) := by
  cases d <;> cases p <;> rfl
theorem HC.sel_setS_same (d:D) (p:HC) (v:HB):HC.sel d (HC.setS d p v)=v := by
  cases d <;> cases p <;> rfl
theorem HC.sel_setS_ne {d e:D} (p:HC) (v:HB) (h:d≠e):HC.sel e (HC.setS d p v)=HC.sel e p := by
  cases p; cases d <;> cases e <;> first | rfl | exact absurd rfl h
theorem HC.sel_all (d:D) (x:HB):HC.sel d (HC.all x)=x := by cases d <;> rfl
/-- The heap. -/
inductive Heap where
  | mk (A B C E F G I J L M N O P Q T U:HC)
def Heap.all (x:HC):Heap := .mk x x x x x x x x x x x x x x x x
def Heap.sel (d:D) (p:Heap):HC :=
  @Heap.rec (fun _ => HC) (fun A B C E F G I J L M N O P Q T U => @D.rec (fun _ => HC) A B C E F G I J L M N O P Q T U d) p
def Ad0 {β:Type} (p:Heap) (v:HC) (k:Heap->β):β := @Heap.rec (fun _ => β) (fun A B C E F G I J L M N O P Q T U => k (.mk v B C E F G I J L M N O P Q T U)) p
def Acc {β:Type} (p:Heap) (v:HC) (k:Heap->β):β := @Heap.rec (fun _ => β) (fun A B C E F G I J L M N O P Q T U => k (.mk A v C E F G I J L M N O P Q T U)) p
def ZI {β:Type} (p:Heap) (v:HC) (k:Heap->β):β := @Heap.rec (fun _ => β) (fun A B C E F G I J L M N O P Q T U => k (.mk A B v E F G I J L M N O P Q T U)) p
def Abn {β:Type} (p:Heap) (v:HC) (k:Heap->β):β := @Heap.rec (fun _ => β) (fun A B C E F G I J L M N O P Q T U => k (.mk A B C v F G I J L M N O P Q T U)) p
def Abu {β:Type} (p:Heap) (v:HC) (k:Heap->β):β := @Heap.rec (fun _ => β) (fun A B C E F G I J L M N O P Q T U => k (.mk A B C E v G I J L M N O P Q T U)) p
def Ado {β:Type} (p:Heap) (v:HC) (k:Heap->β):β := @Heap.rec (fun _ => β) (fun A B C E F G I J L M N O P Q T U => k (.mk A B C E F v I J L M N O P Q T U)) p
def Aad {β:Type} (p:Heap) (v:HC) (k:Heap->β):β := @Heap.rec (fun _ => β) (fun A B C E F G I J L M N O P Q T U => k (.mk A B C E F G v J L M N O P Q T U)) p
def Aab {β:Type} (p:Heap) (v:HC) (k:Heap->β):β := @Heap.rec (fun _ => β) (fun A B C E F G I J L M N O P Q T U => k (.mk A B C E F G I v L M N O P Q T U)) p
def Ad8 {β:Type} (p:Heap) (v:HC) (k:Heap->β):β := @Heap.rec (fun _ => β) (fun A B C E F G I J L M N O P Q T U => k (.mk A B C E F G I J v M N O P Q T U)) p
def Abk {β:Type} (p:Heap) (v:HC) (k:Heap->β):β := @Heap.rec (fun _ => β) (fun A B C E F G I J L M N O P Q T U => k (.mk A B C E F G I J L v N O P Q T U)) p
def Xw {β:Type} (p:Heap) (v:HC) (k:Heap->β):β := @Heap.rec (fun _ => β) (fun A B C E F G I J L M N O P Q T U => k (.mk A B C E F G I J L M v O P Q T U)) p
def YZ {β:Type} (p:Heap) (v:HC) (k:Heap->β):β := @Heap.rec (fun _ => β) (fun A B C E F G I J L M N O P Q T U => k (.mk A B C E F G I J L M N v P Q T U)) p
def YD {β:Type} (p:Heap) (v:HC) (k:Heap->β):β := @Heap.rec (fun _ => β) (fun A B C E F G I J L M N O P Q T U => k (.mk A B C E F G I J L M N O v Q T U)) p
def Yw {β:Type} (p:Heap) (v:HC) (k:Heap->β):β := @Heap.rec (fun _ => β) (fun A B C E F G I J L M N O P Q T U => k (.mk A B C E F G I J L M N O P v T U)) p
def Z5 {β:Type} (p:Heap) (v:HC) (k:Heap->β):β := @Heap.rec (fun _ => β) (fun A B C E F G I J L M N O P Q T U => k (.mk A B C E F G I J L M N O P Q v U)) p
def YE {β:Type} (p:Heap) (v:HC) (k:Heap->β):β := @Heap.rec (fun _ => β) (fun A B C E F G I J L M N O P Q T U => k (.mk A B C E F G I J L M N O P Q T v)) p
def Ack {β:Type} (p:Heap) (k:HC->β):β := @Heap.rec (fun _ => β) (fun A B C E F G I J L M N O P Q T U => k A) p
def Abc {β:Type} (p:Heap) (k:HC->β):β := @Heap.rec (fun _ => β) (fun A B C E F G I J L M N O P Q T U => k B) p
def ZX {β:Type} (p:Heap) (k:HC->β):β := @Heap.rec (fun _ => β) (fun A B C E F G I J L M N O P Q T U => k C) p
def Ae2 {β:Type} (p:Heap) (k:HC->β):β := @Heap.rec (fun _ => β) (fun A B C E F G I J L M N O P Q T U => k E) p
def Adc {β:Type} (p:Heap) (k:HC->β):β := @Heap.rec (fun _ => β) (fun A B C E F G I J L M N O P Q T U => k F) p
def Adn {β:Type} (p:Heap) (k:HC->β):β := @Heap.rec (fun _ => β) (fun A B C E F G I J L M N O P Q T U => k G) p
def Acl {β:Type} (p:Heap) (k:HC->β):β := @Heap.rec (fun _ => β) (fun A B C E F G I J L M N O P Q T U => k I) p
def Aa7 {β:Type} (p:Heap) (k:HC->β):β := @Heap.rec (fun _ => β) (fun A B C E F G I J L M N O P Q T U => k J) p
def Abx {β:Type} (p:Heap) (k:HC->β):β := @Heap.rec (fun _ => β) (fun A B C E F G I J L M N O P Q T U => k L) p
def Abd {β:Type} (p:Heap) (k:HC->β):β := @Heap.rec (fun _ => β) (fun A B C E F G I J L M N O P Q T U => k M) p
def XW {β:Type} (p:Heap) (k:HC->β):β := @Heap.rec (fun _ => β) (fun A B C E F G I J L M N O P Q T U => k N) p
def Zk {β:Type} (p:Heap) (k:HC->β):β := @Heap.rec (fun _ => β) (fun A B C E F G I J L M N O P Q T U => k O) p
def Z6 {β:Type} (p:Heap) (k:HC->β):β := @Heap.rec (fun _ => β) (fun A B C E F G I J L M N O P Q T U => k P) p
def Zf {β:Type} (p:Heap) (k:HC->β):β := @Heap.rec (fun _ => β) (fun A B C E F G I J L M N O P Q T U => k Q) p
def YQ {β:Type} (p:Heap) (k:HC->β):β := @Heap.rec (fun _ => β) (fun A B C E F G I J L M N O P Q T U => k T) p
def XM {β:Type} (p:Heap) (k:HC->β):β := @Heap.rec (fun _ => β) (fun A B C E F G I J L M N O P Q T U => k U) p
def Heap.selK {β:Type} (d:D):Heap->(HC->β)->β :=
  @D.rec (fun _ => Heap->(HC->β)->β) Ack Abc ZX Ae2 Adc Adn Acl Aa7 Abx Abd XW Zk Z6 Zf YQ XM d
theorem Heap.selK_eq {β:Type} (d:D) (p:Heap) (k:HC->β):Heap.selK d p k=k (Heap.sel d p) := by
  cases d <;> cases p <;> rfl
def Heap.setK {β:Type} (d:D):Heap->HC->(Heap->β)->β :=
  @D.rec (fun _ => Heap->HC->(Heap->β)->β) Ad0 Acc ZI Abn Abu Ado Aad Aab Ad8 Abk Xw YZ YD Yw Z5 YE d
def Heap.setS (d:D) (p:Heap) (v:HC):Heap := Heap.setK d p v id
theorem Heap.setK_eq {β:Type} (d:D) (p:Heap) (v:HC) (k:Heap->β):Heap.setK d p v k=k (Heap.setS d p v) := by
  cases d <;> cases p <;> rfl
theorem Heap.sel_setS_same (d:D) (p:Heap) (v:HC):Heap.sel d (Heap.setS d p v)=v := by
  cases d <;> cases p <;> rfl
theorem Heap.sel_setS_ne {d e:D} (p:Heap) (v:HC) (h:d≠e):Heap.sel e (Heap.setS d p v)=Heap.sel e p := by
  cases p; cases d <;> cases e <;> first | rfl | exact absurd rfl h
theorem Heap.sel_all (d:D) (x:HC):Heap.sel d (Heap.all x)=x := by cases d <;> rfl
inductive O8 where
  | d0 | d1 | d2 | d3 | d4 | d5 | d6 | d7
inductive O4 where
  | d0 | d1 | d2 | d3
/-- Four values. -/
inductive SQ where
  | mk (c0 c1 c2 c3:V)
def SQ.all (x:V):SQ := .mk x x x x
def SQ.sel (d:O4) (p:SQ):V :=
  @SQ.rec (fun _ => V) (fun c0 c1 c2 c3 => @O4.rec (fun _ => V) c0 c1 c2 c3 d) p
def Aaq {β:Type} (p:SQ) (v:V) (k:SQ->β):β := @SQ.rec (fun _ => β) (fun c0 c1 c2 c3 => k (.mk v c1 c2 c3)) p
def Adl {β:Type} (p:SQ) (v:V) (k:SQ->β):β := @SQ.rec (fun _ => β) (fun c0 c1 c2 c3 => k (.mk c0 v c2 c3)) p
def Ae4 {β:Type} (p:SQ) (v:V) (k:SQ->β):β := @SQ.rec (fun _ => β) (fun c0 c1 c2 c3 => k (.mk c0 c1 v c3)) p
def Ad1 {β:Type} (p:SQ) (v:V) (k:SQ->β):β := @SQ.rec (fun _ => β) (fun c0 c1 c2 c3 => k (.mk c0 c1 c2 v)) p
def Ad6 {β:Type} (p:SQ) (k:V->β):β := @SQ.rec (fun _ => β) (fun c0 c1 c2 c3 => k c0) p
def Ab8 {β:Type} (p:SQ) (k:V->β):β := @SQ.rec (fun _ => β) (fun c0 c1 c2 c3 => k c1) p
def Aah {β:Type} (p:SQ) (k:V->β):β := @SQ.rec (fun _ => β) (fun c0 c1 c2 c3 => k c2) p
def Ac7 {β:Type} (p:SQ) (k:V->β):β := @SQ.rec (fun _ => β) (fun c0 c1 c2 c3 => k c3) p
def SQ.selK {β:Type} (d:O4):SQ->(V->β)->β :=
  @O4.rec (fun _ => SQ->(V->β)->β) Ad6 Ab8 Aah Ac7 d
theorem SQ.selK_eq {β:Type} (d:O4) (p:SQ) (k:V->β):SQ.selK d p k=k (SQ.sel d p) := by
  cases d <;> cases p <;> rfl
def SQ.setK {β:Type} (d:O4):SQ->V->(SQ->β)->β :=
  @O4.rec (fun _ => SQ->V->(SQ->β)->β) Aaq Adl Ae4 Ad1 d
def SQ.setS (d:O4) (p:SQ) (v:V):SQ := SQ.setK d p v id
theorem SQ.setK_eq {β:Type} (d:O4) (p:SQ) (v:V) (k:SQ->β):SQ.setK d p v k=k (SQ.setS d p v) := by
  cases d <;> cases p <;> rfl
theorem SQ.sel_setS_same (d:O4) (p:SQ) (v:V):SQ.sel d (SQ.setS d p v)=v := by
  cases d <;> cases p <;> rfl
theorem SQ.sel_setS_ne {d e:O4} (p:SQ) (v:V) (h:d≠e):SQ.sel e (SQ.setS d p v)=SQ.sel e p := by
  cases p; cases d <;> cases e <;> first | rfl | exact absurd rfl h
theorem SQ.sel_all (d:O4) (x:V):SQ.sel d (SQ.all x)=x := by cases d <;> rfl
/-- The registers that are kept when code is run. -/
inductive S where
  | mk (c0 c1 c2 c3 c4 c5 c6 c7:SQ)
def S.all (x:SQ):S := .mk x x x x x x x x
def S.sel (d:O8) (p:S):SQ :=
  @S.rec (fun _ => SQ) (fun c0 c1 c2 c3 c4 c5 c6 c7 => @O8.rec (fun _ => SQ) c0 c1 c2 c3 c4 c5 c6 c7 d) p
def Acz {β:Type} (p:S) (v:SQ) (k:S->β):β := @S.rec (fun _ => β) (fun c0 c1 c2 c3 c4 c5 c6 c7 => k (.mk v c1 c2 c3 c4 c5 c6 c7)) p
def Aat {β:Type} (p:S) (v:SQ) (k:S->β):β := @S.rec (fun _ => β) (fun c0 c1 c2 c3 c4 c5 c6 c7 => k (.mk c0 v c2 c3 c4 c5 c6 c7)) p
def Ad3 {β:Type} (p:S) (v:SQ) (k:S->β):β := @S.rec (fun _ => β) (fun c0 c1 c2 c3 c4 c5 c6 c7 => k (.mk c0 c1 v c3 c4 c5 c6 c7)) p
def ZQ {β:Type} (p:S) (v:SQ) (k:S->β):β := @S.rec (fun _ => β) (fun c0 c1 c2 c3 c4 c5 c6 c7 => k (.mk c0 c1 c2 v c4 c5 c6 c7)) p
def ZH {β:Type} (p:S) (v:SQ) (k:S->β):β := @S.rec (fun _ => β) (fun c0 c1 c2 c3 c4 c5 c6 c7 => k (.mk c0 c1 c2 c3 v c5 c6 c7)) p
def Aa5 {β:Type} (p:S) (v:SQ) (k:S->β):β := @S.rec (fun _ => β) (fun c0 c1 c2 c3 c4 c5 c6 c7 => k (.mk c0 c1 c2 c3 c4 v c6 c7)) p
def Ach {β:Type} (p:S) (v:SQ) (k:S->β):β := @S.rec (fun _ => β) (fun c0 c1 c2 c3 c4 c5 c6 c7 => k (.mk c0 c1 c2 c3 c4 c5 v c7)) p
def Ac1 {β:Type} (p:S) (v:SQ) (k:S->β):β := @S.rec (fun _ => β) (fun c0 c1 c2 c3 c4 c5 c6 c7 => k (.mk c0 c1 c2 c3 c4 c5 c6 v)) p
def Abl {β:Type} (p:S) (k:SQ->β):β := @S.rec (fun _ => β) (fun c0 c1 c2 c3 c4 c5 c6 c7 => k c0) p
def Aeb {β:Type} (p:S) (k:SQ->β):β := @S.rec (fun _ => β) (fun c0 c1 c2 c3 c4 c5 c6 c7 => k c1) p
def Acd {β:Type} (p:S) (k:SQ->β):β := @S.rec (fun _ => β) (fun c0 c1 c2 c3 c4 c5 c6 c7 => k c2) p
def Aaa {β:Type} (p:S) (k:SQ->β):β := @S.rec (fun _ => β) (fun c0 c1 c2 c3 c4 c5 c6 c7 => k c3) p
def Ab2 {β:Type} (p:S) (k:SQ->β):β := @S.rec (fun _ => β) (fun c0 c1 c2 c3 c4 c5 c6 c7 => k c4) p
def ZL {β:Type} (p:S) (k:SQ->β):β := @S.rec (fun _ => β) (fun c0 c1 c2 c3 c4 c5 c6 c7 => k c5) p
def Acf {β:Type} (p:S) (k:SQ->β):β := @S.rec (fun _ => β) (fun c0 c1 c2 c3 c4 c5 c6 c7 => k c6) p
def Acg {β:Type} (p:S) (k:SQ->β):β := @S.rec (fun _ => β) (fun c0 c1 c2 c3 c4 c5 c6 c7 => k c7) p
def S.selK {β:Type} (d:O8):S->(SQ->β)->β :=
  @O8.rec (fun _ => S->(SQ->β)->β) Abl Aeb Acd Aaa Ab2 ZL Acf Acg d
theorem S.selK_eq {β:Type} (d:O8) (p:S) (k:SQ->β):S.selK d p k=k (S.sel d p) := by
  cases d <;> cases p <;> rfl
def S.setK {β:Type} (d:O8):S->SQ->(S->β)->β :=
  @O8.rec (fun _ => S->SQ->(S->β)->β) Acz Aat Ad3 ZQ ZH Aa5 Ach Ac1 d
def S.setS (d:O8) (p:S) (v:SQ):S := S.setK d p v id
theorem S.setK_eq {β:Type} (d:O8) (p:S) (v:SQ) (k:S->β):S.setK d p v k=k (S.setS d p v) := by
  cases d <;> cases p <;> rfl
theorem S.sel_setS_same (d:O8) (p:S) (v:SQ):S.sel d (S.setS d p v)=v := by
  cases d <;> cases p <;> rfl
theorem S.sel_setS_ne {d e:O8} (p:S) (v:SQ) (h:d≠e):S.sel e (S.setS d p v)=S.sel e p := by
  cases p; cases d <;> cases e <;> first | rfl | exact absurd rfl h
theorem S.sel_all (d:O8) (x:SQ):S.sel d (S.all x)=x := by cases d <;> rfl
end Go.Ev

namespace Go.Ev
set_option linter.unusedVariables false
def K4.toN (p:K4):Nat := p.a.toN*4096+p.b.toN*256+p.c.toN*16+p.d.toN
theorem K4.toN_inj {p q:K4} (h:p.toN=q.toN):p=q := by
  obtain ⟨a, b, c, d⟩ := p
  obtain ⟨a', b', c', d'⟩ := q
  simp only [K4.toN] at h
  have := a.toN_lt; have := b.toN_lt; have := c.toN_lt; have := d.toN_lt
  have := a'.toN_lt; have := b'.toN_lt; have := c'.toN_lt; have := d'.toN_lt
  have ha:a=a' := D.toN_inj (by omega)
  have hb:b=b' := D.toN_inj (by omega)
  have hc:c=c' := D.toN_inj (by omega)
  have hd:d=d' := D.toN_inj (by omega)
  subst ha hb hc hd; rfl
def K4.beq (p q:K4):Bool := and (p.d.beq q.d) (and (p.c.beq q.c) (and (p.b.beq q.b) (p.a.beq q.a)))
theorem K4.beq_iff {p q:K4}:p.beq q=true ↔ p=q := by
  obtain ⟨a, b, c, d⟩ := p
  obtain ⟨a', b', c', d'⟩ := q
  simp only [K4.beq, Bool.and_eq_true, D.beq_iff, K4.mk.injEq]
  constructor
  · rintro ⟨rfl, rfl, rfl, rfl⟩; exact ⟨rfl, rfl, rfl, rfl⟩
  · rintro ⟨rfl, rfl, rfl, rfl⟩; exact ⟨rfl, rfl, rfl, rfl⟩
inductive Ex where
  | nrm
  | exit (id:Nat)
  | ret
/-- What a piece of the run comes to: an exit with its registers, heap and next place; a value of a call; or nothing that is E1. -/
inductive R where
  | ok (e:Ex) (t:S) (h:Heap) (n:K4)
  | rv (v:V) (h:Heap) (n:K4)
  | fail (why:String)
  | both (a b:R)
abbrev KV := V->Heap->K4->R
def A8 (p:K4) (h:Heap):Option Ob := HA.sel p.d (HB.sel p.c (HC.sel p.b (Heap.sel p.a h)))
def Qu {β:Type} (p:K4) (h:Heap) (κ:Option Ob->β):β :=
  @K4.rec (fun _ => β) (fun a b c d => Heap.selK a h fun x => HC.selK b x fun y => HB.selK c y fun z => HA.selK d z κ) p
theorem CZ {β:Type} (p:K4) (h:Heap) (κ:Option Ob->β):Qu p h κ=κ (A8 p h) := by
  cases p; simp only [Qu, Heap.selK_eq, HC.selK_eq, HB.selK_eq, HA.selK_eq, A8]
def FY {β:Type} (p:K4) (h:Heap) (o:Option Ob) (k:Heap->β):β :=
  @K4.rec (fun _ => β) (fun a b c d => Heap.selK a h fun x => HC.selK b x fun y => HB.selK c y fun z =>
    HA.setK d z o fun z => HB.setK c y z fun y => HC.setK b x y fun x => Heap.setK a h x k) p
def Af (p:K4) (h:Heap) (o:Option Ob):Heap := FY p h o id
theorem B6 {β:Type} (p:K4) (h:Heap) (o:Option Ob) (k:Heap->β):FY p h o k=k (Af p h o) := by
  cases p; simp only [FY, Af, Heap.setK_eq, HC.setK_eq, HB.setK_eq, HA.setK_eq, Heap.selK_eq, HC.selK_eq, HB.selK_eq]; rfl
theorem A6 (p:K4) (h:Heap) (o:Option Ob):A8 p (Af p h o)=o := by
  cases p; simp only [A8, Af, FY, Heap.setK_eq, HC.setK_eq, HB.setK_eq, HA.setK_eq, Heap.selK_eq, HC.selK_eq, HB.selK_eq, HA.selK_eq, id, Heap.sel_setS_same, HC.sel_setS_same, HB.sel_setS_same, HA.sel_setS_same]
theorem A7 {p q:K4} (h:Heap) (o:Option Ob) (hne:p≠q):A8 q (Af p h o)=A8 q h := by
  obtain ⟨a, b, c, d⟩ := p
  obtain ⟨a', b', c', d'⟩ := q
  simp only [A8, Af, FY, Heap.setK_eq, HC.setK_eq, HB.setK_eq, HA.setK_eq, Heap.selK_eq, HC.selK_eq, HB.selK_eq, HA.selK_eq, id]
  by_cases ha:a=a'
  · subst ha
    rw [Heap.sel_setS_same]
    by_cases hb:b=b'
    · subst hb
      rw [HC.sel_setS_same]
      by_cases hc:c=c'
      · subst hc
        rw [HB.sel_setS_same]
        by_cases hd:d=d'
        · subst hd; exact absurd rfl hne
        · rw [HA.sel_setS_ne _ _ hd]
      · rw [HB.sel_setS_ne _ _ hc]
    · rw [HC.sel_setS_ne _ _ hb]
  · rw [Heap.sel_setS_ne _ _ ha]
def AJ:Heap := Heap.all (HC.all (HB.all (HA.all none)))
theorem Ew (p:K4):A8 p AJ=none := by simp only [A8, AJ, Heap.sel_all, HC.sel_all, HB.sel_all, HA.sel_all]
/-- The next place. -/
def K4.nx (p:K4) (k:K4->R):R :=
  @K4.rec (fun _ => R) (fun a b c d => d.nx (fun d => k ⟨a, b, c, d⟩)
    (c.nx (fun c => k ⟨a, b, c, .d0⟩)
      (b.nx (fun b => k ⟨a, b, .d0, .d0⟩)
        (a.nx (fun a => k ⟨a, .d0, .d0, .d0⟩) (.fail ""))))) p
theorem K4.nx_eq (p:K4) (k:K4->R):(∃ w, p.nx k = .fail w) ∨ ∃ q:K4, q.toN=p.toN+1∧p.nx k=k q := by
  obtain ⟨a, b, c, d⟩ := p
  simp only [K4.nx, K4.toN]
  have hd0:D.d0.toN=0 := rfl
  rcases d.nx_eq (fun d => k ⟨a, b, c, d⟩) (c.nx (fun c => k ⟨a, b, c, .d0⟩) (b.nx (fun b => k ⟨a, b, .d0, .d0⟩) (a.nx (fun a => k ⟨a, .d0, .d0, .d0⟩) (.fail "")))) with ⟨h, hd⟩ | ⟨e, he, h⟩
  · rw [h]
    rcases c.nx_eq (fun c => k ⟨a, b, c, .d0⟩) (b.nx (fun b => k ⟨a, b, .d0, .d0⟩) (a.nx (fun a => k ⟨a, .d0, .d0, .d0⟩) (.fail ""))) with ⟨h, hc⟩ | ⟨e, he, h⟩
    · rw [h]
      rcases b.nx_eq (fun b => k ⟨a, b, .d0, .d0⟩) (a.nx (fun a => k ⟨a, .d0, .d0, .d0⟩) (.fail "")) with ⟨h, hb⟩ | ⟨e, he, h⟩
      · rw [h]
        rcases a.nx_eq (fun a => k ⟨a, .d0, .d0, .d0⟩) (.fail "") with ⟨h, ha⟩ | ⟨e, he, h⟩
        · exact .inl ⟨_, h⟩
        · exact .inr ⟨⟨e, .d0, .d0, .d0⟩, by simp only [he]; omega, h⟩
      · exact .inr ⟨⟨a, e, .d0, .d0⟩, by simp only [he]; omega, h⟩
    · exact .inr ⟨⟨a, b, e, .d0⟩, by simp only [he]; omega, h⟩
  · exact .inr ⟨⟨a, b, c, e⟩, by simp only [he]; omega, h⟩
/-- Sixteen places are passed by: the place behind them begins a sixteen. -/
def K4.nx16 (p:K4) (k:K4->R):R :=
  @K4.rec (fun _ => R) (fun a b c d => c.nx (fun c => k ⟨a, b, c, .d0⟩)
    (b.nx (fun b => k ⟨a, b, .d0, .d0⟩)
      (a.nx (fun a => k ⟨a, .d0, .d0, .d0⟩) (.fail "")))) p
/-- The place in its sixteen. -/
def K4.at (p:K4) (j:D) (k:K4->R):R := @K4.rec (fun _ => R) (fun a b c _ => k ⟨a, b, c, j⟩) p
theorem K4.at_eq (p:K4) (j:D) (k:K4->R):p.at j k=k ⟨p.a, p.b, p.c, j⟩ := by cases p; rfl
theorem K4.nx16_eq (p:K4) (k:K4->R):(∃ w, p.nx16 k = .fail w) ∨ ∃ q:K4, q.toN=(p.a.toN*256+p.b.toN*16+p.c.toN+1)*16∧q.d = .d0∧p.nx16 k=k q := by
  obtain ⟨a, b, c, d⟩ := p
  simp only [K4.nx16, K4.toN]
  have hd0:D.d0.toN=0 := rfl
  rcases c.nx_eq (fun c => k ⟨a, b, c, .d0⟩) (b.nx (fun b => k ⟨a, b, .d0, .d0⟩) (a.nx (fun a => k ⟨a, .d0, .d0, .d0⟩) (.fail ""))) with ⟨h, hc⟩ | ⟨e, he, h⟩
  · rw [h]
    rcases b.nx_eq (fun b => k ⟨a, b, .d0, .d0⟩) (a.nx (fun a => k ⟨a, .d0, .d0, .d0⟩) (.fail "")) with ⟨h, hb⟩ | ⟨e, he, h⟩
    · rw [h]
      rcases a.nx_eq (fun a => k ⟨a, .d0, .d0, .d0⟩) (.fail "") with ⟨h, ha⟩ | ⟨e, he, h⟩
      · exact .inl ⟨_, h⟩
      · exact .inr ⟨⟨e, .d0, .d0, .d0⟩, by simp only [he]; omega, rfl, h⟩
    · exact .inr ⟨⟨a, e, .d0, .d0⟩, by simp only [he]; omega, rfl, h⟩
  · exact .inr ⟨⟨a, b, e, .d0⟩, by simp only [he]; omega, rfl, h⟩
structure K2 where
  a:D
  b:D
def Ay:V := .tup []
def Fi:S := S.all (SQ.all Ay)
def Bg (p:K2) (t:Regs):V := VP.sel p.b (Regs.sel p.a t)
def HW {β:Type} (p:K2) (t:Regs) (κ:V->β):β :=
  @K2.rec (fun _ => β) (fun a b => Regs.selK a t fun x => VP.selK b x κ) p
theorem CY {β:Type} (p:K2) (t:Regs) (κ:V->β):HW p t κ=κ (Bg p t) := by
  cases p; simp only [HW, Regs.selK_eq, VP.selK_eq, Bg]
def MZ {β:Type} (p:K2) (t:Regs) (v:V) (k:Regs->β):β :=
  @K2.rec (fun _ => β) (fun a b => Regs.selK a t fun x => VP.setK b x v fun x => Regs.setK a t x k) p
def EM (p:K2) (t:Regs) (v:V):Regs := MZ p t v id
theorem Nx {β:Type} (p:K2) (t:Regs) (v:V) (k:Regs->β):MZ p t v k=k (EM p t v) := by
  cases p; simp only [MZ, EM, Regs.setK_eq, VP.setK_eq, Regs.selK_eq, VP.selK_eq]; rfl
theorem B7 (p:K2) (t:Regs) (v:V):Bg p (EM p t v)=v := by
  cases p; simp only [Bg, EM, MZ, Regs.setK_eq, VP.setK_eq, Regs.selK_eq, VP.selK_eq, id, Regs.sel_setS_same, VP.sel_setS_same]
theorem Bx {p q:K2} (t:Regs) (v:V) (hne:p≠q):Bg q (EM p t v)=Bg q t := by
  obtain ⟨a, b⟩ := p
  obtain ⟨a', b'⟩ := q
  simp only [Bg, EM, MZ, Regs.setK_eq, VP.setK_eq, Regs.selK_eq, VP.selK_eq, id]
  by_cases ha:a=a'
  · subst ha
    rw [Regs.sel_setS_same]
    by_cases hb:b=b'
    · subst hb; exact absurd rfl hne
    · rw [VP.sel_setS_ne _ _ hb]
  · rw [Regs.sel_setS_ne _ _ ha]
def Kg:Regs := Regs.all (VP.all Ay)
theorem OS (p:K2):Bg p Kg=Ay := by simp only [Bg, Kg, Regs.sel_all, VP.sel_all]
/-- The place of a register's number. -/
def K2.ofN (n:Nat):Option K2 := if n<256 then some ⟨D.ofN (n / 16), D.ofN (n % 16)⟩ else none
theorem K2.ofN_inj {m n:Nat} {p:K2} (h:K2.ofN m=some p) (h':K2.ofN n=some p):m=n := by
  unfold K2.ofN at h h'
  split at h
  · split at h'
    · simp only [Option.some.injEq] at h h'
      rw [←h] at h'
      simp only [K2.mk.injEq] at h'
      have h1 := congrArg D.toN h'.1
      have h2 := congrArg D.toN h'.2
      rw [D.toN_ofN _ (by omega), D.toN_ofN _ (by omega)] at h1
      rw [D.toN_ofN _ (by omega), D.toN_ofN _ (by omega)] at h2
      omega
    · simp at h'
  · simp at h
theorem K2.ofN_lt {n:Nat} {p:K2} (h:K2.ofN n=some p):n<256 := by
  unfold K2.ofN at h; split at h
  · assumption
  · simp at h
end Go.Ev

namespace Go.Ev
set_option linter.unusedVariables false
def br {β:Type} (c:Bool) (t f:β):β := @Bool.rec (fun _ => β) f t c
theorem Ac {β:Type} (t f:β):br true t f=t := rfl
theorem Aq {β:Type} (t f:β):br false t f=f := rfl
def Ab {β:Type} (n:Nat) (k:Nat->β):β := @Nat.rec (fun _ => β) (k 0) (fun m _ => k (Nat.succ m)) n
theorem A9 {β:Type} (n:Nat) (k:Nat->β):Ab n k=k n := by cases n <;> rfl
def Cn {β:Type} (b:Bool) (k:Bool->β):β := @Bool.rec (fun _ => β) (k false) (k true) b
theorem Bu {β:Type} (b:Bool) (k:Bool->β):Cn b k=k b := by cases b <;> rfl
/-- A result that is E1. -/
def R.good:R->Prop
  | .fail _ => False
  | _ => True
theorem Ae {c:Bool} {t:R} {s:String} (h:(br c t (.fail s)).good):c=true∧br c t (.fail s)=t := by
  cases c
  · exact h.elim
  · exact ⟨rfl, rfl⟩
theorem Gd {c:Bool} {t:R} {s:String} (h:(br c (.fail s) t).good):c=false∧br c (.fail s) t=t := by
  cases c
  · exact ⟨rfl, rfl⟩
  · exact h.elim
def Mk (k:IntKind):Nat := @IntKind.rec (fun _ => Nat) 256 65536 4294967296 18446744073709551616 256 65536 4294967296 18446744073709551616 k
def Hk (k:IntKind):Nat := @IntKind.rec (fun _ => Nat) 128 32768 2147483648 9223372036854775808 256 65536 4294967296 18446744073709551616 k
def kix (k:IntKind):Nat := @IntKind.rec (fun _ => Nat) 0 1 2 3 4 5 6 7 k
def C9 (k:IntKind) (r:Nat):Int := if r<Hk k then (r:Int) else (r:Int) - (Mk k:Int)
def Bk (k j:IntKind):Bool := Nat.beq (kix k) (kix j)
theorem AL {k j:IntKind}:Bk k j=true ↔ k=j := by
  cases k <;> cases j <;> simp [Bk, kix]
theorem DS (k:IntKind):0<Mk k := by cases k <;> simp [Mk]
theorem GP (k:IntKind):Hk k≤Mk k := by cases k <;> simp [Mk, Hk]
theorem EU (k:IntKind):Mk k=2 ^ k.bits := by cases k <;> rfl
theorem GC {k:IntKind} {z:Int} {r:Nat} (h:z % (Mk k:Int)=r):k.wrap z=C9 k r := by
  cases k <;> simp [Mk, C9, Hk, IntKind.wrap, IntKind.bits, IntKind.signed] at h ⊢ <;> (repeat' split) <;> omega
theorem ED (k:IntKind) (a:Nat):C9 k a % (Mk k:Int)=((a % Mk k:Nat):Int) := by
  unfold C9
  split
  · exact (Int.natCast_emod a (Mk k)).symm
  · rw [Int.sub_emod_right]; exact (Int.natCast_emod a (Mk k)).symm
theorem Ao {k:IntKind} {a:Nat} (h:a<Hk k):C9 k a=a := by unfold C9; rw [if_pos h]
theorem CA {k:IntKind} {a:Nat} (h:¬ a<Hk k):C9 k a=a - Mk k := by unfold C9; rw [if_neg h]
theorem JR {k:IntKind} {a b:Nat} (ha:a<Mk k) (hb:b<Mk k) (h:C9 k a=C9 k b):a=b := by
  have h1 := ED k a
  have h2 := ED k b
  rw [h, h2, Nat.mod_eq_of_lt ha, Nat.mod_eq_of_lt hb] at h1
  omega
def DK (k:IntKind) (a b:Nat):Bool :=
  br (Nat.ble (Hk k) a) (br (Nat.ble (Hk k) b) (Nat.ble (Nat.succ a) b) true) (br (Nat.ble (Hk k) b) false (Nat.ble (Nat.succ a) b))
theorem Aa {a b:Nat}:Nat.ble a b=true ↔ a≤b := ⟨Nat.le_of_ble_eq_true, Nat.ble_eq_true_of_le⟩
theorem AS {a b:Nat} (h:b<a):Nat.ble a b=false := Bool.eq_false_iff.2 (fun e => by have := Aa.1 e; omega)
theorem CU (a b:Nat):Nat.ble a b=decide (a≤b) := by rw [Bool.eq_iff_iff, Aa]; simp
theorem EP {k:IntKind} {a b:Nat} (ha:a<Mk k) (hb:b<Mk k):DK k a b=decide (C9 k a<C9 k b) := by
  have hH := GP k
  unfold DK
  by_cases h1:Hk k≤a
  · rw [Aa.2 h1, Ac, CA (by omega)]
    by_cases h2:Hk k≤b
    · rw [Aa.2 h2, Ac, CA (by omega), CU]; apply decide_eq_decide.2; omega
    · rw [AS (by omega), Aq, Ao (by omega)]; symm; apply decide_eq_true; omega
  · rw [AS (by omega), Aq, Ao (by omega)]
    by_cases h2:Hk k≤b
    · rw [Aa.2 h2, Ac, CA (by omega)]; symm; apply decide_eq_false; omega
    · rw [AS (by omega), Aq, Ao (by omega), CU]; apply decide_eq_decide.2; omega
def Au:List UInt8->Nat
  | [] => 0
  | b::l => b.toNat+256*Au l
theorem UZ (l:List UInt8):Au l<256 ^ l.length := by
  induction l with
  | nil => simp [Au]
  | cons b l ih =>
    have := b.toNat_lt
    simp only [Au, List.length_cons, Nat.pow_succ]
    omega
theorem Hf (a b:List UInt8):Au (a++b)=Au a+256 ^ a.length*Au b := by
  induction a with
  | nil => simp [Au]
  | cons x a ih => simp only [List.cons_append, Au, ih, List.length_cons, Nat.pow_succ, Nat.mul_add, Nat.mul_assoc, Nat.add_assoc]; rw [Nat.mul_left_comm]
theorem IR {a b:List UInt8} (hl:a.length=b.length) (h:Au a=Au b):a=b := by
  induction a generalizing b with
  | nil => cases b with
    | nil => rfl
    | cons => simp at hl
  | cons x a ih =>
    cases b with
    | nil => simp at hl
    | cons y b =>
      simp only [Au] at h
      have hx := x.toNat_lt; have hy := y.toNat_lt
      have h1:x.toNat=y.toNat := by omega
      have h2:Au a=Au b := by omega
      rw [ih (by simpa using hl) h2, UInt8.toNat_inj.1 h1]
theorem Io (l:List UInt8):∀ n, Au l / 256 ^ n=Au (l.drop n) := by
  intro n
  induction n generalizing l with
  | zero => simp
  | succ n ih =>
    cases l with
    | nil => simp [Au]
    | cons b l =>
      have := b.toNat_lt
      rw [Nat.pow_succ, Nat.mul_comm, ←Nat.div_div_eq_div_mul]
      have:Au (b::l) / 256=Au l := by simp only [Au]; omega
      rw [this, ih, List.drop_succ_cons]
theorem IM (l:List UInt8):∀ n, Au l % 256 ^ n=Au (l.take n) := by
  intro n
  have h := Hf (l.take n) (l.drop n)
  rw [List.take_append_drop] at h
  have hlt := UZ (l.take n)
  by_cases hn:n≤l.length
  · have hlen:(l.take n).length=n := by simp [hn]
    rw [hlen] at h hlt
    rw [h, Nat.add_mul_mod_self_left, Nat.mod_eq_of_lt hlt]
  · rw [List.take_of_length_le (by omega)] at hlt ⊢
    exact Nat.mod_eq_of_lt (Nat.lt_of_lt_of_le hlt (Nat.pow_le_pow_right (by omega) (by omega)))
theorem Ib (l:List UInt8) (i:Nat) (h:i<l.length):(Au l / 256 ^ i) % 256=l[i].toNat := by
  rw [Io, List.drop_eq_getElem_cons h]
  have := l[i].toNat_lt
  simp only [Au]; omega
/-- c without its first i bytes. -/
def sh (c i:Nat):Nat := Nat.shiftRight c (Nat.mul 8 i)
theorem Fv (c i:Nat):sh c i=c / 256 ^ i := by
  show c >>> (8*i)=_
  rw [Nat.shiftRight_eq_div_pow, Nat.pow_mul]
/-- Its first i bytes. -/
def lo (c i:Nat):Nat := Nat.mod c (Nat.pow 256 i)
theorem E0 (c i:Nat):lo c i=c % 256 ^ i := rfl
/-- i bytes further on. -/
def up (c i:Nat):Nat := Nat.shiftLeft c (Nat.mul 8 i)
theorem Qr (c i:Nat):up c i=256 ^ i*c := by
  show c <<< (8*i)=_
  rw [Nat.shiftLeft_eq, Nat.pow_mul, Nat.mul_comm]
/-- The code of a function that ranges over a function and appends what comes: the round's parameter, the box of its slice, how many registers. -/
structure ApC where
  asg:Code
  bod:Code
  par:Nat
  box:Nat
  ntm:Nat
/-- What the symbols stand for; the functions that range over a function; blocks that stay as they are. -/
structure Env where
  v:Nat->Value
  ap:Nat->Option ApC
  gl:Nat->Option (Array Value×TypeId×(Nat×Nat)) := fun _ => none
abbrev AT := K4->Option (Nat×Nat×Nat)
def Ci:Nl->Value
  | .ptr => .pointer none
  | .sl => .slice none 0 0
  | .map => .map none
  | .fn => .nilFunc
  | .iface => .nilIface
/-- A bool that is told: the bit j of i's lowest 32. -/
def PV (i j:Nat):Bool := Nat.beq (Nat.mod (Nat.div (Nat.mod i 4294967296) (Nat.pow 2 j)) 2) 1
def Xj (i:Nat):Nat := Nat.div (Nat.sub i 73786976294838206464) 281474976710656
def ZF (i:Nat):Nat := Nat.mod (Nat.div (Nat.sub i 73786976294838206464) 1099511627776) 256
def ZA (i j:Nat):Nat := Nat.mod (Nat.div (Nat.mod (Nat.sub i 73786976294838206464) 1099511627776) (Nat.pow (Xj i) j)) (Xj i)
def Ic (i:Nat):Nat := Nat.mod (Nat.div (Nat.sub i 36893488147419103233) 65536) 65536
def YA (i:Nat):Nat := Nat.div (Nat.sub i 36893488147419103233) 4294967296
def Qx (i:Nat):Nat := Nat.mod (Nat.sub i 36893488147419103233) 65536
/-- A cell that stays: some bool (i=0), a symbol, a bool of which the first ones are told (2^64+their number*2^32+their bits), some integer (from 2^65), an integer told by its remainder (from 2^66). -/
def Lm (ρ:Env) (i j:Nat) (y:Value):Prop := (i=0 ∧ ∃ b, y = .bool b)∨(1≤i∧i<18446744073709551616∧y=ρ.v (i+j) ∧ ∃ r, r<Mk .i64∧y = .int .i64 (C9 .i64 r)) ∨
  (18446744073709551616≤i∧i<36893488147419103232 ∧ ∃ b, y = .bool b∧(j<(i - 18446744073709551616) / 4294967296->b=PV i j))∨(36893488147419103232≤i∧i<73786976294838206464 ∧ ∃ r, r<Mk .i64∧y = .int .i64 (C9 .i64 r)∧(36893488147419103232<i->j=YA i->(C9 .i64 r).tmod (Ic i:Nat)+(Ic i:Nat)=(Qx i:Nat))) ∨
  (73786976294838206464≤i ∧ ∃ z:Int, y = .int .i64 z ∧ -9223372036854775808≤z∧z<9223372036854775808∧(j<ZF i->z.natAbs % Xj i=ZA i j))
/-- What is told of memory that stays. -/
def GK (ρ:Env):RV->Value->Prop
  | .i k r, x => r<Mk k∧x = .int k (C9 k r)
  | .b b, x => x = .bool b
  | .s n c, x => ∃ s:ByteArray, x = .string s∧s.size=n∧Au s.data.toList=c
  | .y n c, x => ∃ a cap, x = .slice (some a) n cap∧n≤cap∧c<256 ^ n∧(0<n->∃ b o ce e fr, a=⟨b, o, none⟩∧ρ.gl b=some (ce, e, fr) ∧ ∀ j, j<n->ce[o+j]? = some (.int .u8 ((c / 256 ^ j % 256:Nat):Int)))
  | .nl, x => x = .slice none 0 0
def QD (ρ:Env) (l:List RV) (ce:Array Value) (o:Nat):Prop := ∀ j v, l[j]? = some v->∃ y, ce[o+j]? = some y∧GK ρ v y
def RV.v:RV->V
  | .i k r => .int k r
  | .b q => .bool q
  | .s n c => .str n c
  | .y n c => .oth (.rb n c)
  | .nl => .nil .sl
section
variable (ρ:Env) (φ:AT)
mutual
def As:V->Value->Prop
  | .int k r, x => r<Mk k∧x = .int k (C9 k r)
  | .bool b, x => x = .bool b
  | .ptr p off, x => ∃ b s tot, φ p=some (b, s, tot)∧x = .pointer (some ⟨b, s+off, none⟩)
  | .sl p off len cap ex esz, x => ∃ b s tot o cap', φ p=some (b, s, tot)∧x = .slice (some ⟨b, o, none⟩) len cap'∧len≤cap∧cap≤cap' ∧
      (ex=true->cap'=cap)∧(0<cap'->o=s+off∧o+cap'*esz≤tot)
  | .str n c, x => ∃ s:ByteArray, x = .string s∧s.size=n∧Au s.data.toList=c
  | .agg l, x => ∃ cs:Array Value, x = .agg cs∧By l cs.toList ∧ ∀ y∈cs.toList, y.oneCell'=true
  | .nil w, x => x=Ci w
  | .map p, x => ∃ b s tot, φ p=some (b, s, tot)∧x = .map (some b)
  | .fn f caps, x => ∃ cs:Array Value, x = .func (.func f) #[] cs∧By caps cs.toList
  | .tup l, x => ∃ cs:Array Value, x = .tuple cs∧By l cs.toList
  | .oth o, x => match o with | .any => True | .sym i => x=ρ.v i | .yl p => (∃ b s tot, φ p=some (b, s, tot)∧x = .func (.yield b) #[] #[]) | .no => False | .iv k lo hi => ∃ r, lo≤r∧r≤hi∧r<Mk k∧x = .int k (C9 k r) | .os lo hi => ∃ p len cap, x = .slice p len cap∧lo≤len∧len≤hi∧len≤cap | .bl => ∃ b, x = .bool b | .rs m j => ∃ z:Int, x = .int .i64 z ∧ -9223372036854775808≤z∧z<9223372036854775808∧(m<36893488147419103232∧z.natAbs % (m % 18446744073709551616)=j∨(36893488147419103232≤m∧j % 18446744073709551616≤z.natAbs % (m % 18446744073709551616)∧z.natAbs % (m % 18446744073709551616)≤j / 18446744073709551616))∧(18446744073709551616≤m->m<36893488147419103232->0≤z)∧(73786976294838206464≤m->z<0) | .ss lo hi n c => ∃ s:ByteArray, x = .string s∧lo≤s.size∧s.size≤hi ∧ ¬ (s.size=n∧Au s.data.toList=c) | .ro i lo hi z => ∃ b o len cap c e fr, x = .slice (some ⟨b, o, none⟩) len cap∧lo≤len∧len≤hi∧len≤cap∧ρ.gl b=some (c, e, fr) ∧ ∀ j, j<len*z->∃ y, c[o+j]? = some y∧Lm ρ i j y | .ap i j m => ∃ b o c e fr, x = .pointer (some ⟨b, o, none⟩)∧ρ.gl b=some (c, e, fr) ∧ ∀ q, q<m->∃ y, c[o+q]? = some y∧Lm ρ i (j+q) y | .sy k i => x=ρ.v i ∧ ∃ r, r<Mk k∧x = .int k (C9 k r) | .rb n c => GK ρ (.y n c) x | .rx l m z => ∃ a cap, x = .slice (some a) m cap∧m≤cap∧l.length=m*z∧(0<m->∃ b o ce e fr, a=⟨b, o, none⟩∧ρ.gl b=some (ce, e, fr)∧QD ρ l ce o) | .rp l => ∃ b o ce e fr, x = .pointer (some ⟨b, o, none⟩)∧ρ.gl b=some (ce, e, fr)∧QD ρ l ce o
def By:List V->List Value->Prop
  | [], l => l=[]
  | v::vs, l => ∃ y ys, l=y::ys∧As v y∧By vs ys
end
end
theorem NI {ρ:Env} {φ:AT} {v:RV} {x:Value} (h:GK ρ v x):As ρ φ v.v x := by
  cases v with
  | i k r => simpa only [As, GK, RV.v] using h
  | b b => simpa only [As, GK, RV.v] using h
  | s n c => simpa only [As, GK, RV.v] using h
  | y n c => simpa only [As, RV.v] using h
  | nl => simpa only [As, GK, RV.v, Ci] using h
end Go.Ev

namespace Go.Ev
abbrev AV {A0:Sort _} (s:String):A0->R := fun _ => .fail s
abbrev AG {A0 A1:Sort _} (s:String):A0->A1->R := fun _ _ => .fail s
abbrev Cb {A0 A1 A2:Sort _} (s:String):A0->A1->A2->R := fun _ _ _ => .fail s
abbrev Fp {A0 A1 A2 A3:Sort _} (s:String):A0->A1->A2->A3->R := fun _ _ _ _ => .fail s
abbrev fF5 {A0 A1 A2 A3 A4:Sort _} (s:String):A0->A1->A2->A3->A4->R := fun _ _ _ _ _ => .fail s
abbrev DN {A0 A1 A2 A3 A4 A5:Sort _} (s:String):A0->A1->A2->A3->A4->A5->R := fun _ _ _ _ _ _ => .fail s
set_option linter.unusedVariables false
def D6 (m:Nat):List V->(List V->R)->R :=
  @Nat.rec (fun _ => List V->(List V->R)->R) (fun _ k => k [])
    (fun _ ih xs k => @List.rec V (fun _ => R) (.fail "") (fun x ys _ => ih ys fun zs => k (x::zs)) xs) m
def Du (m:Nat):List V->(List V->R)->R :=
  @Nat.rec (fun _ => List V->(List V->R)->R) (fun xs k => k xs)
    (fun _ ih xs k => @List.rec V (fun _ => R) (.fail "") (fun _ ys _ => ih ys k) xs) m
def DL (m:Nat):List V->(V->R)->R :=
  @Nat.rec (fun _ => List V->(V->R)->R) (fun xs k => @List.rec V (fun _ => R) (.fail "") (fun x _ _ => k x) xs)
    (fun _ ih xs k => @List.rec V (fun _ => R) (.fail "") (fun _ ys _ => ih ys k) xs) m
def EH (xs ys:List V):(List V->R)->R :=
  @List.rec V (fun _ => (List V->R)->R) (fun k => k ys) (fun x _ ih k => ih fun zs => k (x::zs)) xs
def Gk (xs:List V):(Nat->R)->R :=
  @List.rec V (fun _ => (Nat->R)->R) (fun k => k 0) (fun _ _ ih k => ih fun n => Ab (Nat.succ n) k) xs
theorem F8 {m:Nat} {xs:List V} {k:List V->R} (h:(D6 m xs k).good):m≤xs.length∧D6 m xs k=k (xs.take m) := by
  induction m generalizing xs k with
  | zero => exact ⟨Nat.zero_le _, rfl⟩
  | succ m ih =>
    cases xs with
    | nil => exact h.elim
    | cons x xs =>
      have := ih (xs := xs) (k := fun zs => k (x::zs)) h
      exact ⟨by simpa using this.1, this.2⟩
theorem Fm {m:Nat} {xs:List V} {k:List V->R} (h:(Du m xs k).good):m≤xs.length∧Du m xs k=k (xs.drop m) := by
  induction m generalizing xs with
  | zero => exact ⟨Nat.zero_le _, rfl⟩
  | succ m ih =>
    cases xs with
    | nil => exact h.elim
    | cons x xs =>
      have := ih (xs := xs) h
      exact ⟨by simpa using this.1, this.2⟩
theorem EX {m:Nat} {xs:List V} {k:V->R} (h:(DL m xs k).good):∃ v, xs[m]? = some v∧DL m xs k=k v := by
  induction m generalizing xs with
  | zero =>
    cases xs with
    | nil => exact h.elim
    | cons x xs => exact ⟨x, rfl, rfl⟩
  | succ m ih =>
    cases xs with
    | nil => exact h.elim
    | cons x xs =>
      obtain ⟨v, h1, h2⟩ := ih (xs := xs) h
      exact ⟨v, by simpa using h1, h2⟩
theorem DA (xs ys:List V) (k:List V->R):EH xs ys k=k (xs++ys) := by
  induction xs generalizing k with
  | nil => rfl
  | cons x xs ih => exact ih fun zs => k (x::zs)
theorem CV (xs:List V) (k:Nat->R):Gk xs k=k xs.length := by
  induction xs generalizing k with
  | nil => rfl
  | cons x xs ih => exact (ih fun n => Ab (Nat.succ n) k).trans (A9 _ _)
def GS (v:V) (κ:IntKind->Nat->R):R :=
  @V.rec (fun _ => R) (fun _ => Unit) (fun k r => κ k r) (AV "") (AG "") (DN "") (AG "") (AG "") (AV "") (AV "") (Cb "") (AG "") (AV "") () (fun _ _ _ _ => ()) v
def P3 (v:V) (κ:Bool->R):R :=
  @V.rec (fun _ => R) (fun _ => Unit) (AG "") (fun b => κ b) (AG "") (DN "") (AG "") (AG "") (AV "") (AV "") (Cb "") (AG "") (AV "") () (fun _ _ _ _ => ()) v
def JP (v:V) (κ:K4->Nat->R):R :=
  @V.rec (fun _ => R) (fun _ => Unit) (AG "") (AV "") (fun p off => κ p off) (DN "") (AG "") (AG "") (AV "") (AV "") (Cb "") (AG "") (AV "") () (fun _ _ _ _ => ()) v
def DM (v:V) (κn:R) (κ:K4->Nat->Nat->Nat->Bool->Nat->R):R :=
  @V.rec (fun _ => R) (fun _ => Unit) (AG "") (AV "") (AG "") (fun p off len cap ex esz => κ p off len cap ex esz) (AG "") (AG "") (fun w => @Nl.rec (fun _ => R) (.fail "") κn (.fail "") (.fail "") (.fail "") w) (AV "") (Cb "") (AG "") (AV "") () (fun _ _ _ _ => ()) v
def Be (v:V) (κ:Nat->Nat->R):R :=
  @V.rec (fun _ => R) (fun _ => Unit) (AG "") (AV "") (AG "") (DN "") (fun n c => κ n c) (AG "") (AV "") (AV "") (Cb "") (AG "") (AV "") () (fun _ _ _ _ => ()) v
def asAgg (v:V) (κ:List V->R):R :=
  @V.rec (fun _ => R) (fun _ => Unit) (AG "") (AV "") (AG "") (DN "") (AG "") (fun l _i => κ l) (AV "") (AV "") (Cb "") (AG "") (AV "") () (fun _ _ _ _ => ()) v
def KE (v:V) (κ:List V->R):R :=
  @V.rec (fun _ => R) (fun _ => Unit) (AG "") (AV "") (AG "") (DN "") (AG "") (AG "") (AV "") (AV "") (Cb "") (fun l _i => κ l) (AV "") () (fun _ _ _ _ => ()) v
def E2 (v:V) (κn:R) (κ:K4->R):R :=
  @V.rec (fun _ => R) (fun _ => Unit) (AG "") (AV "") (AG "") (DN "") (AG "") (AG "") (fun w => @Nl.rec (fun _ => R) (.fail "") (.fail "") κn (.fail "") (.fail "") w) (fun p => κ p) (Cb "") (AG "") (AV "") () (fun _ _ _ _ => ()) v
def Pm (v:V) (κ:Nat->List V->R):R :=
  @V.rec (fun _ => R) (fun _ => Unit) (AG "") (AV "") (AG "") (DN "") (AG "") (AG "") (AV "") (AV "") (fun f caps _i => κ f caps) (AG "") (AV "") () (fun _ _ _ _ => ()) v
def Eb (v:V) (κ:List V->R):R :=
  @V.rec (fun _ => R) (fun _ => Unit) (fun _ _ => κ [v]) (fun _ => κ [v]) (fun _ _ => κ [v]) (fun _ _ _ _ _ _ => κ [v]) (fun _ _ => κ [v]) (fun l _i => κ l) (fun _ => κ [v]) (fun _ => κ [v]) (fun _ _ _ => κ [v]) (fun l _i => .fail "") (fun o => @Ot.rec (fun _ => R) (.fail "") (fun _ => κ [v]) (AV "") (.fail "") (fun _ _ _ => κ [v]) (fun _ _ => κ [v]) (κ [v]) (fun _ _ => κ [v]) (fun _ _ _ _ => κ [v]) (fun _ _ _ _ => κ [v]) (fun _ _ _ => κ [v]) (fun _ _ => κ [v]) (fun _ _ => κ [v]) (fun _ _ _ => κ [v]) (fun _ => κ [v]) o) () (fun _ _ _ _ => ()) v
/-- Is it a slice that is not looked into? -/
def XT (v:V) (κ:Nat->Nat->R) (e:R):R :=
  @V.rec (fun _ => R) (fun _ => Unit) (fun _ _ => e) (fun _ => e) (fun _ _ => e) (fun _ _ _ _ _ _ => e) (fun _ _ => e) (fun _ _ => e) (fun _ => e) (fun _ => e) (fun _ _ _ => e) (fun _ _ => e) (fun o => @Ot.rec (fun _ => R) e (fun _ => e) (fun _ => e) e (fun _ _ _ => e) (fun lo hi => κ lo hi) e (fun _ _ => e) (fun _ _ _ _ => e) (fun _ _ _ _ => e) (fun _ _ _ => e) (fun _ _ => e) (fun _ _ => e) (fun _ _ _ => e) (fun _ => e) o) () (fun _ _ _ _ => ()) v
theorem R6 (v:V) (κ:Nat->Nat->R) (e:R):(∃ lo hi, v = .oth (.os lo hi)∧XT v κ e=κ lo hi)∨XT v κ e=e := by
  cases v with
  | oth o => cases o with
    | os lo hi => exact .inl ⟨lo, hi, rfl, rfl⟩
    | _ => exact .inr rfl
  | _ => exact .inr rfl
/-- Is it an integer E1 by a remainder? -/
def rsK (v:V) (κ:Nat->Nat->R) (e:R):R :=
  @V.rec (fun _ => R) (fun _ => Unit) (fun _ _ => e) (fun _ => e) (fun _ _ => e) (fun _ _ _ _ _ _ => e) (fun _ _ => e) (fun _ _ => e) (fun _ => e) (fun _ => e) (fun _ _ _ => e) (fun _ _ => e) (fun o => @Ot.rec (fun _ => R) e (fun _ => e) (fun _ => e) e (fun _ _ _ => e) (fun _ _ => e) e (fun m j => κ m j) (fun _ _ _ _ => e) (fun _ _ _ _ => e) (fun _ _ _ => e) (fun _ _ => e) (fun _ _ => e) (fun _ _ _ => e) (fun _ => e) o) () (fun _ _ _ _ => ()) v
theorem RM (v:V) (κ:Nat->Nat->R) (e:R):(∃ m j, v = .oth (.rs m j)∧rsK v κ e=κ m j)∨rsK v κ e=e := by
  cases v with
  | oth o => cases o with
    | rs m j => exact .inl ⟨m, j, rfl, rfl⟩
    | _ => exact .inr rfl
  | _ => exact .inr rfl
/-- Is it a text that is not looked into? -/
def V7 (v:V) (κ:Nat->Nat->Nat->Nat->R) (e:R):R :=
  @V.rec (fun _ => R) (fun _ => Unit) (fun _ _ => e) (fun _ => e) (fun _ _ => e) (fun _ _ _ _ _ _ => e) (fun _ _ => e) (fun _ _ => e) (fun _ => e) (fun _ => e) (fun _ _ _ => e) (fun _ _ => e) (fun o => @Ot.rec (fun _ => R) e (fun _ => e) (fun _ => e) e (fun _ _ _ => e) (fun _ _ => e) e (fun _ _ => e) (fun lo hi n c => κ lo hi n c) (fun _ _ _ _ => e) (fun _ _ _ => e) (fun _ _ => e) (fun _ _ => e) (fun _ _ _ => e) (fun _ => e) o) () (fun _ _ _ _ => ()) v
theorem IY (v:V) (κ:Nat->Nat->Nat->Nat->R) (e:R):(∃ lo hi n c, v = .oth (.ss lo hi n c)∧V7 v κ e=κ lo hi n c)∨V7 v κ e=e := by
  cases v with
  | oth o => cases o with
    | ss lo hi n c => exact .inl ⟨lo, hi, n, c, rfl, rfl⟩
    | _ => exact .inr rfl
  | _ => exact .inr rfl
/-- A pointer, or what is not looked into. -/
def L5 (v:V) (κ:K4->Nat->R) (κo:Ot->R):R :=
  @V.rec (fun _ => R) (fun _ => Unit) (AG "") (AV "") (fun p off => κ p off) (DN "") (AG "") (AG "") (AV "") (AV "") (Cb "") (AG "") (fun o => κo o) () (fun _ _ _ _ => ()) v
/-- A slice, or what is not looked into. -/
def E3 (v:V) (κn:R) (κ:K4->Nat->Nat->Nat->Bool->Nat->R) (κo:Ot->R):R :=
  @V.rec (fun _ => R) (fun _ => Unit) (AG "") (AV "") (AG "") (fun p off len cap ex esz => κ p off len cap ex esz) (AG "") (AG "") (fun w => @Nl.rec (fun _ => R) (.fail "") κn (.fail "") (.fail "") (.fail "") w) (AV "") (Cb "") (AG "") (fun o => κo o) () (fun _ _ _ _ => ()) v
theorem HX {v:V} {κ:K4->Nat->R} {κo:Ot->R} (h:(L5 v κ κo).good):(∃ p off, v = .ptr p off∧L5 v κ κo=κ p off)∨(∃ o, v = .oth o∧L5 v κ κo=κo o) := by
  cases v with
  | ptr p off => exact .inl ⟨p, off, rfl, rfl⟩
  | oth o => exact .inr ⟨o, rfl, rfl⟩
  | _ => exact h.elim
theorem Fx {v:V} {κn:R} {κ:K4->Nat->Nat->Nat->Bool->Nat->R} {κo:Ot->R} (h:(E3 v κn κ κo).good) :
    (v = .nil .sl∧E3 v κn κ κo=κn)∨(∃ p off len cap ex esz, v = .sl p off len cap ex esz∧E3 v κn κ κo=κ p off len cap ex esz)∨(∃ o, v = .oth o∧E3 v κn κ κo=κo o) := by
  cases v with
  | sl p off len cap ex esz => exact .inr (.inl ⟨p, off, len, cap, ex, esz, rfl, rfl⟩)
  | nil w => cases w with
    | sl => exact .inl ⟨rfl, rfl⟩
    | _ => exact h.elim
  | oth o => exact .inr (.inr ⟨o, rfl, rfl⟩)
  | _ => exact h.elim
def Wt (o:Ot) (κ:Nat->Nat->R) (e:R):R :=
  @Ot.rec (fun _ => R) e (fun _ => e) (fun _ => e) e (fun _ _ _ => e) (fun lo hi => κ lo hi) e (fun _ _ => e) (fun _ _ _ _ => e) (fun _ _ _ _ => e) (fun _ _ _ => e) (fun _ _ => e) (fun _ _ => e) (fun _ _ _ => e) (fun _ => e) o
def PT (o:Ot) (κ:Nat->Nat->Nat->Nat->R) (e:R):R :=
  @Ot.rec (fun _ => R) e (fun _ => e) (fun _ => e) e (fun _ _ _ => e) (fun _ _ => e) e (fun _ _ => e) (fun _ _ _ _ => e) (fun i lo hi z => κ i lo hi z) (fun _ _ _ => e) (fun _ _ => e) (fun _ _ => e) (fun _ _ _ => e) (fun _ => e) o
def RJ (o:Ot) (κ:Nat->Nat->Nat->R) (e:R):R :=
  @Ot.rec (fun _ => R) e (fun _ => e) (fun _ => e) e (fun _ _ _ => e) (fun _ _ => e) e (fun _ _ => e) (fun _ _ _ _ => e) (fun _ _ _ _ => e) (fun i j m => κ i j m) (fun _ _ => e) (fun _ _ => e) (fun _ _ _ => e) (fun _ => e) o
def WN (o:Ot) (κ:IntKind->Nat->R) (e:R):R :=
  @Ot.rec (fun _ => R) e (fun _ => e) (fun _ => e) e (fun _ _ _ => e) (fun _ _ => e) e (fun _ _ => e) (fun _ _ _ _ => e) (fun _ _ _ _ => e) (fun _ _ _ => e) (fun k i => κ k i) (fun _ _ => e) (fun _ _ _ => e) (fun _ => e) o
theorem P4 (o:Ot) (κ:IntKind->Nat->R) (e:R):(∃ k i, o = .sy k i∧WN o κ e=κ k i)∨WN o κ e=e := by
  cases o with
  | sy k i => exact .inl ⟨k, i, rfl, rfl⟩
  | _ => exact .inr rfl
def HG (o:Ot) (κ:Nat->Nat->R) (e:R):R :=
  @Ot.rec (fun _ => R) e (fun _ => e) (fun _ => e) e (fun _ _ _ => e) (fun _ _ => e) e (fun _ _ => e) (fun _ _ _ _ => e) (fun _ _ _ _ => e) (fun _ _ _ => e) (fun _ _ => e) (fun n c => κ n c) (fun _ _ _ => e) (fun _ => e) o
def JC (o:Ot) (κ:List RV->Nat->Nat->R) (e:R):R :=
  @Ot.rec (fun _ => R) e (fun _ => e) (fun _ => e) e (fun _ _ _ => e) (fun _ _ => e) e (fun _ _ => e) (fun _ _ _ _ => e) (fun _ _ _ _ => e) (fun _ _ _ => e) (fun _ _ => e) (fun _ _ => e) (fun l m z => κ l m z) (fun _ => e) o
def KR (o:Ot) (κ:List RV->R) (e:R):R :=
  @Ot.rec (fun _ => R) e (fun _ => e) (fun _ => e) e (fun _ _ _ => e) (fun _ _ => e) e (fun _ _ => e) (fun _ _ _ _ => e) (fun _ _ _ _ => e) (fun _ _ _ => e) (fun _ _ => e) (fun _ _ => e) (fun _ _ _ => e) (fun l => κ l) o
def T9 (l:List RV) (κ:V->R):R := @List.rec RV (fun _ => R) (.fail "") (fun v _ _ => κ v.v) l
def Em {α:Type} (o:Option α):Bool := @Option.rec α (fun _ => Bool) false (fun _ => true) o
theorem CI {v:V} {κ:IntKind->Nat->R} (h:(GS v κ).good):∃ k r, v = .int k r∧GS v κ=κ k r := by
  cases v with
  | int k r => exact ⟨k, r, rfl, rfl⟩
  | _ => exact h.elim
theorem Fb {v:V} {κ:Bool->R} (h:(P3 v κ).good):∃ b, v = .bool b∧P3 v κ=κ b := by
  cases v with
  | bool b => exact ⟨b, rfl, rfl⟩
  | _ => exact h.elim
theorem Dt {v:V} {κ:K4->Nat->R} (h:(JP v κ).good):∃ p off, v = .ptr p off∧JP v κ=κ p off := by
  cases v with
  | ptr p off => exact ⟨p, off, rfl, rfl⟩
  | _ => exact h.elim
theorem Dl {v:V} {κn:R} {κ:K4->Nat->Nat->Nat->Bool->Nat->R} (h:(DM v κn κ).good) :
    (v = .nil .sl∧DM v κn κ=κn) ∨ ∃ p off len cap ex esz, v = .sl p off len cap ex esz∧DM v κn κ=κ p off len cap ex esz := by
  cases v with
  | sl p off len cap ex esz => exact .inr ⟨p, off, len, cap, ex, esz, rfl, rfl⟩
  | nil w => cases w with
    | sl => exact .inl ⟨rfl, rfl⟩
    | _ => exact h.elim
  | _ => exact h.elim
theorem Ce {v:V} {κ:Nat->Nat->R} (h:(Be v κ).good):∃ n c, v = .str n c∧Be v κ=κ n c := by
  cases v with
  | str n c => exact ⟨n, c, rfl, rfl⟩
  | _ => exact h.elim
theorem CR {v:V} {κ:List V->R} (h:(asAgg v κ).good):∃ l, v = .agg l∧asAgg v κ=κ l := by
  cases v with
  | agg l => exact ⟨l, rfl, rfl⟩
  | _ => exact h.elim
theorem KZ {v:V} {κ:List V->R} (h:(KE v κ).good):∃ l, v = .tup l∧KE v κ=κ l := by
  cases v with
  | tup l => exact ⟨l, rfl, rfl⟩
  | _ => exact h.elim
theorem Ec {v:V} {κn:R} {κ:K4->R} (h:(E2 v κn κ).good) :
    (v = .nil .map∧E2 v κn κ=κn) ∨ ∃ p, v = .map p∧E2 v κn κ=κ p := by
  cases v with
  | map p => exact .inr ⟨p, rfl, rfl⟩
  | nil w => cases w with
    | map => exact .inl ⟨rfl, rfl⟩
    | _ => exact h.elim
  | _ => exact h.elim
theorem Mh {v:V} {κ:Nat->List V->R} (h:(Pm v κ).good):∃ f caps, v = .fn f caps∧Pm v κ=κ f caps := by
  cases v with
  | fn f caps => exact ⟨f, caps, rfl, rfl⟩
  | _ => exact h.elim
/-- The cells of an abstract value. -/
def V.cl:V->List V
  | .agg l => l
  | v => [v]
/-- A value of one cell, or an aggregate. -/
def V.celled:V->Prop
  | .tup _ => False
  | .oth .any => False
  | .oth (.yl _) => False
  | .oth .no => False
  | _ => True
theorem FJ {v:V} {κ:List V->R} (h:(Eb v κ).good):v.celled∧Eb v κ=κ v.cl := by
  cases v with
  | tup l => exact h.elim
  | oth o => cases o with
    | any => exact h.elim
    | yl p => exact h.elim
    | no => exact h.elim
    | _ => exact ⟨trivial, rfl⟩
  | _ => exact ⟨trivial, rfl⟩
def Cs.at (cs:Cs) (i:Nat):Option V :=
  match cs with
  | .l xs => xs[i]?
  | .b n c => if i<n then some (.int .u8 (c / 256 ^ i % 256)) else none
def Cs.len:Cs->Nat
  | .l xs => xs.length
  | .b n _ => n
theorem Cs.at_lt {cs:Cs} {i:Nat} (h:i<cs.len):∃ v, cs.at i=some v := by
  cases cs with
  | l xs => exact ⟨xs[i], by simp [Cs.at, List.getElem?_eq_getElem h]⟩
  | b n c => exact ⟨_, if_pos h⟩
theorem Cs.at_none {cs:Cs} {i:Nat} (h:cs.len≤i):cs.at i=none := by
  cases cs with
  | l xs => simp only [Cs.at]; exact List.getElem?_eq_none h
  | b n c => exact if_neg (Nat.not_lt.2 h)
theorem Cs.lt_of_at {cs:Cs} {i:Nat} {v:V} (h:cs.at i=some v):i<cs.len := by
  rcases Nat.lt_or_ge i cs.len with h' | h'
  · exact h'
  · rw [Cs.at_none h'] at h; exact absurd h (by simp)
def Ge (cs:Cs) (i:Nat) (κ:V->R):R :=
  @Cs.rec (fun _ => R) (fun xs => DL i xs κ) (fun n c => br (Nat.ble (Nat.succ i) n) (Ab (lo (sh c i) 1) fun r => κ (.int .u8 r)) (.fail "")) cs
theorem TA (c i:Nat):lo (sh c i) 1=c / 256 ^ i % 256 := by rw [E0, Fv]
theorem Hz {cs:Cs} {i:Nat} {κ:V->R} (h:(Ge cs i κ).good):∃ v, cs.at i=some v∧Ge cs i κ=κ v := by
  cases cs with
  | l xs => exact EX h
  | b n c =>
    obtain ⟨h1, h2⟩ := Ae (show R.good (br (Nat.ble (Nat.succ i) n) _ (.fail _)) from h)
    refine ⟨.int .u8 (c / 256 ^ i % 256), ?_, ?_⟩
    · exact if_pos (show i<n from Aa.1 h1)
    · show br (Nat.ble (Nat.succ i) n) _ _=_
      rw [h2, A9, TA]
theorem FL (d i m:Nat) (hi:i<m):d % 256 ^ m / 256 ^ i % 256=d / 256 ^ i % 256 := by
  have hm:256 ^ m=256 ^ i*(256*256 ^ (m - i - 1)) := by
    rw [←Nat.pow_succ', ←Nat.pow_add]; congr 1; omega
  rw [hm, Nat.mod_mul_right_div_self, Nat.mod_mul_right_mod]
def Bh (cs:Cs) (off m:Nat) (κ:Cs->R):R :=
  @Cs.rec (fun _ => R) (fun xs => Du off xs fun ys => D6 m ys fun zs => κ (.l zs))
    (fun n c => br (Nat.ble (Nat.add off m) n) (Ab (lo (sh c off) m) fun r => κ (.b m r)) (.fail "")) cs
theorem CL {cs:Cs} {off m:Nat} {κ:Cs->R} (h:(Bh cs off m κ).good) :
    off+m≤cs.len ∧ ∃ y:Cs, y.len=m∧(∀ i, i<m->y.at i=cs.at (off+i))∧Bh cs off m κ=κ y := by
  cases cs with
  | l xs =>
    obtain ⟨h1, e1⟩ := Fm (h:(Du off xs _).good)
    have h':(D6 m (xs.drop off) fun zs => κ (.l zs)).good := by rw [←e1]; exact h
    obtain ⟨h2, e2⟩ := F8 h'
    simp only [List.length_drop] at h2
    refine ⟨by simp only [Cs.len]; omega, .l ((xs.drop off).take m), by simp [Cs.len]; omega, fun i hi => ?_, e1.trans e2⟩
    simp [Cs.at, hi]
  | b n c =>
    obtain ⟨h1, h2⟩ := Ae (show R.good (br (Nat.ble (Nat.add off m) n) _ (.fail _)) from h)
    have h1:off+m≤n := Aa.1 h1
    refine ⟨h1, .b m (c / 256 ^ off % 256 ^ m), rfl, fun i hi => ?_, ?_⟩
    · simp only [Cs.at]
      rw [if_pos hi, if_pos (by omega)]
      congr 2
      rw [Nat.pow_add, ←Nat.div_div_eq_div_mul]
      generalize c / 256 ^ off=d
      exact (FL d i m hi)
    · show br (Nat.ble (Nat.add off m) n) _ _=_
      rw [h2, A9, E0, Fv]
end Go.Ev

namespace Go.Ev
set_option linter.unusedVariables false
theorem Cs.b_pos {n c i:Nat} (h:i<n):(Cs.b n c).at i=some (.int .u8 (c / 256 ^ i % 256)) := if_pos h
theorem Cs.b_neg {n c i:Nat} (h:¬ i<n):(Cs.b n c).at i=none := if_neg h
def Jj (v:V) (κ:Nat->R) (e:R):R :=
  @V.rec (fun _ => R) (fun _ => Unit) (fun k r => br (Bk k .u8) (br (Nat.ble r 255) (κ r) e) e) (fun _ => e) (fun _ _ => e) (fun _ _ _ _ _ _ => e) (fun _ _ => e) (fun _ _ => e) (fun _ => e) (fun _ => e) (fun _ _ _ => e) (fun _ _ => e) (fun _ => e) () (fun _ _ _ _ => ()) v
theorem Un (v:V) (κ:Nat->R) (e:R):Jj v κ e=e ∨ ∃ r, v = .int .u8 r∧r<256∧Jj v κ e=κ r := by
  cases v with
  | int k r =>
    by_cases hk:Bk k .u8=true
    · have := AL.1 hk
      subst this
      by_cases hr:Nat.ble r 255=true
      · refine .inr ⟨r, rfl, by have := Aa.1 hr; omega, ?_⟩
        show br (Bk .u8 .u8) (br (Nat.ble r 255) (κ r) e) e=_
        rw [hk, hr]; rfl
      · refine .inl ?_
        show br (Bk .u8 .u8) (br (Nat.ble r 255) (κ r) e) e=_
        rw [hk, Bool.eq_false_iff.2 hr]; rfl
    · refine .inl ?_
      show br (Bk k .u8) (br (Nat.ble r 255) (κ r) e) e=_
      rw [Bool.eq_false_iff.2 hk]; rfl
  | _ => exact .inl rfl
def Ct (xs:List V):(Nat->Nat->R)->R->R :=
  @List.rec V (fun _ => (Nat->Nat->R)->R->R) (fun κ _ => κ 0 0)
    (fun x _ ih κ e => Jj x (fun r => ih (fun n c => Ab (Nat.succ n) fun n => Ab (Nat.add r (Nat.mul 256 c)) fun c => κ n c) e) e) xs
theorem KU (xs:List V):∀ (κ:Nat->Nat->R) (e:R), Ct xs κ e=e ∨ ∃ n c, Ct xs κ e=κ n c∧(Cs.b n c).len=xs.length∧(∀ i, (Cs.b n c).at i=xs[i]?)∧c<256 ^ n := by
  induction xs with
  | nil => exact fun κ e => .inr ⟨0, 0, rfl, rfl, fun i => by simp [Cs.at], by simp⟩
  | cons x xs ih =>
    intro κ e
    rcases Un x (fun r => Ct xs (fun n c => Ab (Nat.succ n) fun n => Ab (Nat.add r (Nat.mul 256 c)) fun c => κ n c) e) e with h | ⟨r, rfl, hr, h⟩
    · exact .inl h
    · rcases ih (fun n c => Ab (Nat.succ n) fun n => Ab (Nat.add r (Nat.mul 256 c)) fun c => κ n c) e with h' | ⟨n, c, h', hl, hc, hlt⟩
      · exact .inl (h.trans h')
      · refine .inr ⟨n+1, r+256*c, ?_, ?_, fun i => ?_, by rw [Nat.pow_succ]; omega⟩
        · refine (h.trans h').trans ?_
          rw [A9, A9]; rfl
        · simp only [Cs.len] at hl ⊢; simp [hl]
        · cases i with
          | zero =>
            simp only [Cs.at, List.getElem?_cons_zero]
            rw [if_pos (by omega)]
            congr 2
            simp; omega
          | succ i =>
            rw [List.getElem?_cons_succ, ←hc i]
            simp only [Cs.at]
            by_cases hi:i<n
            · rw [if_pos (by omega), if_pos hi]
              congr 2
              rw [Nat.pow_succ, Nat.mul_comm (256 ^ i) 256, ←Nat.div_div_eq_div_mul]
              congr 2
              omega
            · rw [if_neg (by omega), if_neg hi]
def ES (n:Nat):Nat->(List V->R)->R :=
  @Nat.rec (fun _ => Nat->(List V->R)->R) (fun _ κ => κ [])
    (fun _ ih c κ => Ab (lo c 1) fun r => Ab (sh c 1) fun d => ih d fun zs => κ (.int .u8 r::zs)) n
theorem Km (n:Nat):∀ (c:Nat) (κ:List V->R), ∃ zs, ES n c κ=κ zs∧zs.length=n ∧ ∀ i, zs[i]? = (Cs.b n c).at i := by
  induction n with
  | zero => exact fun c κ => ⟨[], rfl, rfl, fun i => by simp [Cs.at]⟩
  | succ n ih =>
    intro c κ
    obtain ⟨zs, h1, h2, h3⟩ := ih (sh c 1) (fun zs => κ (.int .u8 (lo c 1)::zs))
    refine ⟨.int .u8 (lo c 1)::zs, ?_, by simp [h2], fun i => ?_⟩
    · refine Eq.trans ?_ h1
      exact (A9 (lo c 1) (fun r => Ab (sh c 1) fun d => ES n d fun zs => κ (.int .u8 r::zs))).trans (A9 (sh c 1) _)
    · cases i with
      | zero => simp [Cs.at, E0]
      | succ i =>
        rw [List.getElem?_cons_succ, h3]
        simp only [Cs.at, Fv]
        by_cases hi:i<n
        · rw [if_pos hi, if_pos (show i+1<n+1 by omega), Nat.div_div_eq_div_mul, ←Nat.pow_add, Nat.add_comm 1 i]
        · rw [if_neg hi, if_neg (show ¬ i+1<n+1 by omega)]
def E4 (cs:Cs) (κ:List V->R):R := @Cs.rec (fun _ => R) (fun xs => κ xs) (fun n c => ES n c κ) cs
theorem G0 (cs:Cs) (κ:List V->R):∃ zs, E4 cs κ=κ zs∧zs.length=cs.len ∧ ∀ i, zs[i]? = cs.at i := by
  cases cs with
  | l xs => exact ⟨xs, rfl, rfl, fun _ => rfl⟩
  | b n c => exact Km n c κ
def Xh (cs:Cs) (κ:Nat->R):R := @Cs.rec (fun _ => R) (fun xs => Gk xs κ) (fun n _ => κ n) cs
theorem UW (cs:Cs) (κ:Nat->R):Xh cs κ=κ cs.len := by
  cases cs with
  | l xs => exact CV xs κ
  | b n c => rfl
def K7 (n c off m d:Nat) (κ:Cs->R):R :=
  br (Nat.ble (Nat.add off m) n) (Ab (Nat.add (lo c off) (up (Nat.add (lo d m) (up (sh c (Nat.add off m)) m)) off)) fun r => κ (.b n r)) (.fail "")
def JB (cs:Cs) (off:Nat) (y:Cs) (κ:Cs->R):R :=
  @Cs.rec (fun _ => R)
    (fun xs => E4 y fun ys => D6 off xs fun a => Gk ys fun m => Ab (Nat.add off m) fun j => Du j xs fun b => EH ys b fun t => EH a t fun zs => κ (.l zs))
    (fun n c => @Cs.rec (fun _ => R) (fun ys => Ct ys (fun m d => K7 n c off m d κ) (.fail "")) (fun m d => K7 n c off m d κ) y) cs
def Qb (cs:Cs) (off:Nat) (y z:Cs):Prop :=
  off+y.len≤cs.len∧z.len=cs.len∧(∀ i, i<off->z.at i=cs.at i)∧(∀ i, i<y.len->z.at (off+i)=y.at i)∧(∀ i, off+y.len≤i->z.at i=cs.at i)
theorem Kp (a b j i:Nat) (hi:i<j):(a % 256 ^ j+256 ^ j*b) / 256 ^ i % 256=a / 256 ^ i % 256 := by
  have h:(a % 256 ^ j+256 ^ j*b) % 256 ^ j=a % 256 ^ j := by rw [Nat.add_mul_mod_self_left, Nat.mod_mod]
  rw [←FL _ i j hi, h, FL _ i j hi]
theorem Ho (a b j i:Nat):(a % 256 ^ j+256 ^ j*b) / 256 ^ (j+i) % 256=b / 256 ^ i % 256 := by
  have hp:0<256 ^ j := Nat.pow_pos (by omega)
  rw [Nat.pow_add, ←Nat.div_div_eq_div_mul, Nat.add_mul_div_left _ _ hp, Nat.div_eq_of_lt (Nat.mod_lt _ hp), Nat.zero_add]
theorem MJ {n c off m d:Nat} {κ:Cs->R} (h:(K7 n c off m d κ).good):∃ z, Qb (.b n c) off (.b m d) z∧K7 n c off m d κ=κ z := by
  obtain ⟨h1, h2⟩ := Ae (show R.good (br (Nat.ble (Nat.add off m) n) _ (.fail _)) from h)
  have h1:off+m≤n := Aa.1 h1
  refine ⟨.b n (c % 256 ^ off+256 ^ off*(d % 256 ^ m+256 ^ m*(c / 256 ^ (off+m)))), ⟨h1, rfl, fun i hi => ?_, fun i hi => ?_, fun i hi => ?_⟩, ?_⟩
  · simp only [Cs.at]
    rw [Kp _ _ _ _ hi]
  · simp only [Cs.len] at hi
    simp only [Cs.at]
    rw [if_pos (by omega), if_pos hi, Ho, Kp _ _ _ _ hi]
  · simp only [Cs.len] at hi
    simp only [Cs.at]
    obtain ⟨e, rfl⟩:∃ e, i=off+(m+e) := ⟨i - off - m, by omega⟩
    rw [Ho, Ho, Nat.div_div_eq_div_mul, ←Nat.pow_add, Nat.add_assoc]
  · show br (Nat.ble (Nat.add off m) n) _ _=_
    rw [h2, A9]
    simp only [E0, Qr, Fv]
    rfl
theorem Rb {cs:Cs} {off:Nat} {y:Cs} {κ:Cs->R} (h:(JB cs off y κ).good):∃ z, Qb cs off y z∧JB cs off y κ=κ z := by
  cases cs with
  | l xs =>
    obtain ⟨ys, e0, hyl, hya⟩ := G0 y (fun ys => D6 off xs fun a => Gk ys fun m => Ab (Nat.add off m) fun j => Du j xs fun b => EH ys b fun t => EH a t fun zs => κ (.l zs))
    have e0:JB (.l xs) off y κ=_ := e0
    rw [e0] at h
    obtain ⟨h1, e1⟩ := F8 h
    rw [e1, CV, A9] at h
    obtain ⟨h2, e2⟩ := Fm h
    simp only [Nat.add_eq] at h2
    have hlen:ys.length=y.len := hyl
    refine ⟨.l (xs.take off++(ys++xs.drop (off+ys.length))), ⟨?_, ?_, fun i hi => ?_, fun i hi => ?_, fun i hi => ?_⟩, ?_⟩
    · show off+y.len≤xs.length
      omega
    · show (xs.take off++(ys++xs.drop (off+ys.length))).length=xs.length
      simp only [List.length_append, List.length_take, List.length_drop]; omega
    · simp only [Cs.at]
      rw [List.getElem?_append_left (by rw [List.length_take]; omega), List.getElem?_take, if_pos hi]
    · simp only [Cs.at]
      rw [List.getElem?_append_right (by rw [List.length_take]; omega), List.length_take, Nat.min_eq_left h1, Nat.add_sub_cancel_left,
        List.getElem?_append_left (by omega)]
      exact hya i
    · simp only [Cs.at]
      rw [List.getElem?_append_right (by rw [List.length_take]; omega), List.length_take, Nat.min_eq_left h1,
        List.getElem?_append_right (by omega), List.getElem?_drop]
      congr 1; omega
    · rw [e0, e1, CV, A9, e2, DA, DA]; rfl
  | b n c =>
    cases y with
    | l ys =>
      rcases KU ys (fun m d => K7 n c off m d κ) (.fail "") with e | ⟨m, d, e, hl, ha, _⟩
      · have e:JB (.b n c) off (.l ys) κ=_ := e
        rw [e] at h; exact h.elim
      · have e:JB (.b n c) off (.l ys) κ=_ := e
        rw [e] at h
        obtain ⟨z, ⟨g1, g2, g3, g4, g5⟩, e'⟩ := MJ h
        refine ⟨z, ⟨?_, g2, g3, fun i hi => ?_, fun i hi => g5 i ?_⟩, e.trans e'⟩
        · rw [hl] at g1; exact g1
        · rw [g4 i (by rw [hl]; exact hi)]; exact ha i
        · rw [hl]; exact hi
    | b m d => exact MJ h
def Um (n c m d:Nat) (κ:Cs->R):R :=
  Ab (Nat.add n m) fun l => Ab (Nat.add (lo c n) (up d n)) fun r => κ (.b l r)
def Sy (x y:Cs) (κ:Cs->R):R :=
  @Cs.rec (fun _ => R) (fun xs => E4 y fun ys => EH xs ys fun zs => κ (.l zs))
    (fun n c => @Cs.rec (fun _ => R) (fun ys => Ct ys (fun m d => Um n c m d κ) (ES n c fun xs => EH xs ys fun zs => κ (.l zs))) (fun m d => Um n c m d κ) y) x
def QH (x y z:Cs):Prop := z.len=x.len+y.len∧(∀ i, i<x.len->z.at i=x.at i)∧(∀ i, z.at (x.len+i)=y.at i)
theorem YM (xs ys:List V) (x y:Cs) (hx:xs.length=x.len) (hxa:∀ i, xs[i]? = x.at i) (hy:ys.length=y.len) (hya:∀ i, ys[i]? = y.at i):QH x y (.l (xs++ys)) := by
  refine ⟨by simp [Cs.len, hx, hy], fun i hi => ?_, fun i => ?_⟩
  · simp only [Cs.at]; rw [List.getElem?_append_left (by omega)]; exact hxa i
  · simp only [Cs.at]; rw [List.getElem?_append_right (by omega), hx, Nat.add_sub_cancel_left]; exact hya i
theorem PX (n c m d:Nat) (κ:Cs->R):∃ z, QH (.b n c) (.b m d) z∧Um n c m d κ=κ z := by
  refine ⟨.b (n+m) (c % 256 ^ n+256 ^ n*d), ⟨rfl, fun i hi => ?_, fun i => ?_⟩, ?_⟩
  · simp only [Cs.len] at hi
    simp only [Cs.at]
    rw [if_pos (by omega), if_pos hi, Kp _ _ _ _ hi]
  · show (Cs.b (n+m) _).at (n+i)=(Cs.b m d).at i
    by_cases hi:i<m
    · rw [Cs.b_pos (by omega), Cs.b_pos hi, Ho]
    · rw [Cs.b_neg (by omega), Cs.b_neg hi]
  · simp only [Um, A9, E0, Qr]; rfl
theorem Vd (x y:Cs) (κ:Cs->R):∃ z, QH x y z∧Sy x y κ=κ z := by
  cases x with
  | l xs =>
    obtain ⟨ys, e0, hyl, hya⟩ := G0 y (fun ys => EH xs ys fun zs => κ (.l zs))
    exact ⟨_, YM xs ys (.l xs) y rfl (fun _ => rfl) hyl hya, e0.trans (DA _ _ _)⟩
  | b n c =>
    cases y with
    | l ys =>
      rcases KU ys (fun m d => Um n c m d κ) (ES n c fun xs => EH xs ys fun zs => κ (.l zs)) with e | ⟨m, d, e, hl, ha, _⟩
      · obtain ⟨xs, e1, h2, h3⟩ := Km n c (fun xs => EH xs ys fun zs => κ (.l zs))
        exact ⟨_, YM xs ys (.b n c) (.l ys) h2 h3 rfl (fun _ => rfl), (e.trans e1).trans (DA _ _ _)⟩
      · obtain ⟨z, ⟨g1, g2, g3⟩, e'⟩ := PX n c m d κ
        refine ⟨z, ⟨by rw [g1, hl]; rfl, g2, fun i => (g3 i).trans (ha i)⟩, e.trans e'⟩
    | b m d => exact PX n c m d κ
def TD (m:Nat):List V->(List V->R)->R :=
  @Nat.rec (fun _ => List V->(List V->R)->R) (fun _ κ => κ []) (fun _ ih z κ => ih z fun zs => EH z zs κ) m
theorem Uv (m:Nat) (z:List V) (κ:List V->R):∃ zs, TD m z κ=κ zs∧zs.length=m*z.length ∧ ∀ i, i<m*z.length->zs[i]? = z[i % z.length]? := by
  induction m generalizing κ with
  | zero => exact ⟨[], rfl, by simp, fun i hi => by simp at hi⟩
  | succ m ih =>
    obtain ⟨zs, h1, h2, h3⟩ := ih (fun zs => EH z zs κ)
    refine ⟨z++zs, h1.trans (DA _ _ _), by rw [List.length_append, h2, Nat.succ_mul]; omega, fun i hi => ?_⟩
    by_cases hz:i<z.length
    · rw [List.getElem?_append_left hz, Nat.mod_eq_of_lt hz]
    · rw [List.getElem?_append_right (by omega), h3 _ (by rw [Nat.succ_mul] at hi; omega)]
      congr 1
      rw [←Nat.mod_eq_sub_mod (by omega)]
def Ff (u8:Bool) (z:List V) (m:Nat) (κ:Cs->R):R :=
  br u8 (κ (.b m 0)) (TD m z fun zs => κ (.l zs))
theorem Hw (u8:Bool) (z:List V) (m:Nat) (κ:Cs->R) (hu:u8=true->z=[.int .u8 0]) :
    ∃ y:Cs, Ff u8 z m κ=κ y∧y.len=m*z.length ∧ ∀ i, i<m*z.length->y.at i=z[i % z.length]? := by
  cases u8 with
  | true =>
    rw [hu rfl]
    refine ⟨.b m 0, rfl, by simp [Cs.len], fun i hi => ?_⟩
    simp only [Cs.at]
    rw [if_pos (by simpa using hi)]
    simp [Nat.mod_one]
  | false =>
    obtain ⟨zs, h1, h2, h3⟩ := Uv m z (fun zs => κ (.l zs))
    exact ⟨.l zs, h1, h2, h3⟩
end Go.Ev

namespace Go.Ev
set_option linter.unusedVariables false
inductive Opd where
  | t (p:K2)
  | c (v:V)
/-- Scalars: integers, strings, bools. -/
inductive Sc where
  | i
  | s
  | b
/-- How two values are held against each other: scalars; structs of scalars at these offsets; references. -/
inductive Plan where
  | sc (k:Sc)
  | st (fs:List (Nat×Sc))
  | ks (l:List Sc)
  | rf (w:Nl)
structure Part where
  off:Nat
  size:Nat
  x:Opd
def Db (o:Opd) (t:Regs) (κ:V->R):R := @Opd.rec (fun _ => R) (fun p => HW p t κ) (fun v => κ v) o
def ev (o:Opd) (t:Regs):V := match o with | .t p => Bg p t | .c v => v
theorem AD (o:Opd) (t:Regs) (κ:V->R):Db o t κ=κ (ev o t) := by
  cases o with
  | t p => exact CY p t κ
  | c v => rfl
def OA (l:List Opd) (t:Regs):(List V->R)->R :=
  @List.rec Opd (fun _ => (List V->R)->R) (fun κ => κ []) (fun o _ ih κ => Db o t fun v => ih fun vs => κ (v::vs)) l
theorem FD (l:List Opd) (t:Regs) (κ:List V->R):OA l t κ=κ (l.map (ev · t)) := by
  induction l generalizing κ with
  | nil => rfl
  | cons o l ih =>
    show Db o t _=_
    rw [AD]
    exact ih _
inductive AK where
  | mv (x:Opd)
  | pick (c a b:Opd)
  | alc (cs:Cs)
  | box (x:Opd)
  | build (zero:List V) (parts:List Part)
  | bslice (u8:Bool) (len esz:Nat) (zero:List V) (parts:List Part)
  | ld (x:Opd)
  | ldn (m:Nat) (x:Opd)
  | st (m:Nat) (a x:Opd)
  | nilck (x:Opd)
  | bin (op:BinOp) (x y:Opd)
  | eq (neg:Bool) (pl:Plan) (x y:Opd)
  | not (x:Opd)
  | neg (x:Opd)
  | com (x:Opd)
  | cvi (k:IntKind) (x:Opd)
  | b2s (x:Opd)
  | s2b (x:Opd)
  | idn (x:Opd)
  | bsl (x:Opd)
  | mkfn (f:Nat) (caps:List Opd)
  | mkmap 
  | mksl (eb:Nat) (u8:Bool) (zero:List V) (l c:Opd)
  | slS (x:Opd) (lo hi:Option Opd)
  | slL (esz:Nat) (x:Opd) (lo hi:Option Opd)
  | slA (m esz:Nat) (x:Opd) (lo hi:Option Opd)
  | fad (off:Nat) (x:Opd)
  | fld (off size:Nat) (ag:Bool) (x:Opd)
  | ixS (esz:Nat) (x i:Opd)
  | ixA (m esz:Nat) (x i:Opd)
  | idS (x i:Opd)
  | idA (m esz:Nat) (ag:Bool) (x i:Opd)
  | lk (pl:Plan) (zero:V) (ok:Bool) (m k:Opd)
  | mu (pl:Plan) (m k v:Opd)
  | del (pl:Plan) (m k:Opd)
  | ext (i:Nat) (x:Opd)
  | call (f:Nat) (args:List Opd)
  | calld (x:Opd) (args:List Opd)
  | lnS (x:Opd)
  | lnL (x:Opd)
  | lnM (x:Opd)
  | min (x y:Opd)
  | max (x y:Opd)
  | app (esz eb:Nat) (x y:Opd)
  | appz (esz eb:Nat) (u8:Bool) (zero:List V) (x c:Opd)
  | cpy (esz:Nat) (x y:Opd)
  | max3 (x y z:Opd)
  | cpL (x:Opd)
  | clr (u8:Bool) (zero:List V) (x:Opd)
  | bad (why:String)
def Ve (k:IntKind) (a:Nat) (j:IntKind) (b:Nat) (κ:V->R):R := br (Bk k j) (Ab (Nat.mod (Nat.add a b) (Mk k)) fun r => κ (.int k r)) (.fail "")
def N2 (k:IntKind) (a:Nat) (j:IntKind) (b:Nat) (κ:V->R):R := br (Bk k j) (Ab (Nat.mod (Nat.add a (Nat.sub (Mk k) b)) (Mk k)) fun r => κ (.int k r)) (.fail "")
def US (k:IntKind) (a:Nat) (j:IntKind) (b:Nat) (κ:V->R):R := br (Bk k j) (Ab (Nat.mod (Nat.mul a b) (Mk k)) fun r => κ (.int k r)) (.fail "")
/-- Both are not negative. -/
def Ng (k:IntKind) (a:Nat) (j:IntKind) (b:Nat) (κ:R):R :=
  br (Bk k j) (br (Nat.ble (Nat.succ a) (Hk k)) (br (Nat.ble (Nat.succ b) (Hk k)) κ (.fail "")) (.fail "")) (.fail "")
def R3 (k:IntKind) (a:Nat) (j:IntKind) (b:Nat) (κ:V->R):R := Ng k a j b (br (Nat.ble 1 b) (Ab (Nat.div a b) fun r => κ (.int k r)) (.fail ""))
def QO (k:IntKind) (a:Nat) (j:IntKind) (b:Nat) (κ:V->R):R := Ng k a j b (br (Nat.ble 1 b) (Ab (Nat.mod a b) fun r => κ (.int k r)) (.fail ""))
def M2 (k:IntKind) (a:Nat) (j:IntKind) (b:Nat) (κ:V->R):R :=
  br (Bk k j) (br (Nat.ble (Nat.succ b) (Hk k)) (br (Nat.ble 1 b) (Ab (@Bool.rec (fun _ => Nat) (Nat.sub (Mk k) (Nat.mod (Nat.sub (Mk k) a) b)) 0 (Nat.beq (Nat.mod (Nat.sub (Mk k) a) b) 0)) fun r => κ (.int k r)) (.fail "")) (.fail "")) (.fail "")
def Lc (k:IntKind) (a:Nat) (j:IntKind) (b:Nat) (κ:V->R):R := br (Nat.ble (Nat.succ a) (Hk k)) (QO k a j b κ) (M2 k a j b κ)
def Tj (k:IntKind) (a:Nat) (j:IntKind) (b:Nat) (κ:V->R):R := br (Bk k j) (Ab (Nat.land a b) fun r => κ (.int k r)) (.fail "")
def XK (k:IntKind) (a:Nat) (j:IntKind) (b:Nat) (κ:V->R):R := br (Bk k j) (Ab (Nat.lor a b) fun r => κ (.int k r)) (.fail "")
def S3 (k:IntKind) (a:Nat) (j:IntKind) (b:Nat) (κ:V->R):R := br (Bk k j) (Ab (Nat.xor a b) fun r => κ (.int k r)) (.fail "")
def OV (k:IntKind) (a:Nat) (j:IntKind) (b:Nat) (κ:V->R):R := br (Bk k j) (Ab (Nat.land a (Nat.sub (Nat.sub (Mk k) 1) b)) fun r => κ (.int k r)) (.fail "")
def T4 (k:IntKind) (a:Nat) (j:IntKind) (b:Nat) (κ:V->R):R :=
  br (Nat.ble (Nat.succ b) (Hk j)) (br (Nat.ble b 64) (Ab (Nat.mod (Nat.shiftLeft a b) (Mk k)) fun r => κ (.int k r)) (κ (.int k 0))) (.fail "")
def Rg (k:IntKind) (a:Nat) (j:IntKind) (b:Nat) (κ:V->R):R :=
  br (Nat.ble (Nat.succ b) (Hk j)) (br (Nat.ble (Nat.succ a) (Hk k)) (br (Nat.ble b 64) (Ab (Nat.shiftRight a b) fun r => κ (.int k r)) (κ (.int k 0))) (.fail "")) (.fail "")
def Zv (k:IntKind) (a:Nat) (j:IntKind) (b:Nat) (κ:V->R):R := br (Bk k j) (Cn (Nat.beq a b) fun r => κ (.bool r)) (.fail "")
def Zx (k:IntKind) (a:Nat) (j:IntKind) (b:Nat) (κ:V->R):R := br (Bk k j) (br (Nat.beq a b) (κ (.bool false)) (κ (.bool true))) (.fail "")
def Zz (k:IntKind) (a:Nat) (j:IntKind) (b:Nat) (κ:V->R):R := br (Bk k j) (Cn (DK k a b) fun r => κ (.bool r)) (.fail "")
def ZE (k:IntKind) (a:Nat) (j:IntKind) (b:Nat) (κ:V->R):R := br (Bk k j) (Cn (DK k b a) fun r => κ (.bool r)) (.fail "")
def Zu (k:IntKind) (a:Nat) (j:IntKind) (b:Nat) (κ:V->R):R := br (Bk k j) (br (DK k b a) (κ (.bool false)) (κ (.bool true))) (.fail "")
def ZG (k:IntKind) (a:Nat) (j:IntKind) (b:Nat) (κ:V->R):R := br (Bk k j) (br (DK k a b) (κ (.bool false)) (κ (.bool true))) (.fail "")
def Lp (op:BinOp):IntKind->Nat->IntKind->Nat->(V->R)->R :=
  @BinOp.rec (fun _ => IntKind->Nat->IntKind->Nat->(V->R)->R) Ve N2 US R3 Lc Tj XK S3 T4 Rg OV Zv Zx Zz Zu ZE ZG op
def WL (n c m d:Nat) (κ:V->R):R :=
  Ab (Nat.add n m) fun l => br (Nat.ble l 1000000000) (Ab (Nat.add c (up d n)) fun r => κ (.str l r)) (.fail "")
def DE (n c m d:Nat):Bool := and (Nat.beq n m) (Nat.beq c d)
/-- Is the first of two texts the lesser, by its bytes? -/
def Po (n:Nat):Nat->Nat->Nat->Bool :=
  @Nat.rec (fun _ => Nat->Nat->Nat->Bool) (fun _ m _ => Nat.ble 1 m)
    (fun _ ih c m d => @Nat.rec (fun _ => Bool) false (fun m _ => br (Nat.beq (lo c 1) (lo d 1)) (ih (sh c 1) m (sh d 1)) (Nat.ble (Nat.succ (lo c 1)) (lo d 1))) m) n
def L6 (n c m d:Nat) (κ:V->R):R := .fail ""
def Wz (n c m d:Nat) (κ:V->R):R := Cn (DE n c m d) fun r => κ (.bool r)
def sne (n c m d:Nat) (κ:V->R):R := br (DE n c m d) (κ (.bool false)) (κ (.bool true))
def slt (n c m d:Nat) (κ:V->R):R := Cn (Po n c m d) fun r => κ (.bool r)
def sgt (n c m d:Nat) (κ:V->R):R := .fail ""
def sle (n c m d:Nat) (κ:V->R):R := .fail ""
def sge (n c m d:Nat) (κ:V->R):R := br (Po n c m d) (κ (.bool false)) (κ (.bool true))
def JD (op:BinOp):Nat->Nat->Nat->Nat->(V->R)->R :=
  @BinOp.rec (fun _ => Nat->Nat->Nat->Nat->(V->R)->R) WL L6 L6 L6 L6 L6 L6 L6 L6 L6 L6 Wz sne slt sle sgt sge op
def Jg (v:V) (κ:IntKind->Nat->Nat->R):R :=
  @V.rec (fun _ => R) (fun _ => Unit) (fun k r => κ k r r) (AV "") (AG "") (DN "") (AG "") (AG "") (AV "") (AV "") (Cb "") (AG "") (fun o => @Ot.rec (fun _ => R) (.fail "") (fun _ => (.fail "")) (fun _ => (.fail "")) (.fail "") (fun k lo hi => κ k lo hi) (fun _ _ => (.fail "")) (.fail "") (fun m _ => br (Nat.ble 18446744073709551616 m) (br (Nat.ble (Nat.succ m) 36893488147419103232) (κ .i64 0 9223372036854775807) (.fail "")) (.fail "")) (fun _ _ _ _ => (.fail "")) (fun _ _ _ _ => (.fail "")) (fun _ _ _ => (.fail "")) (fun k _ => κ k 0 (Nat.sub (Mk k) 1)) (fun _ _ => (.fail "")) (fun _ _ _ => (.fail "")) (fun _ => (.fail "")) o) () (fun _ _ _ _ => ()) v
def B2 (H M r:Nat):Nat := br (Nat.ble H r) (Nat.sub r H) (Nat.add r (Nat.sub M H))
def CS (H lo hi:Nat):Bool := br (Nat.ble (Nat.succ hi) H) true (Nat.ble H lo)
def Uy (a b c d:Nat) (κ:V->R):R := br (Nat.ble (Nat.succ b) c) (κ (.bool true)) (br (Nat.ble d a) (κ (.bool false)) (κ (.oth .bl)))
def V8 (a b c d:Nat) (κ:V->R):R := br (Nat.ble (Nat.succ b) c) (κ (.bool false)) (br (Nat.ble d a) (κ (.bool true)) (κ (.oth .bl)))
def LH (a b c d:Nat):Bool := br (Nat.beq a b) (br (Nat.beq b c) (Nat.beq c d) false) false
def WW (a b c d:Nat) (κ:V->R):R := br (Nat.ble (Nat.succ b) c) (κ (.bool false)) (br (Nat.ble (Nat.succ d) a) (κ (.bool false)) (br (LH a b c d) (κ (.bool true)) (κ (.oth .bl))))
def Xo (a b c d:Nat) (κ:V->R):R := br (Nat.ble (Nat.succ b) c) (κ (.bool true)) (br (Nat.ble (Nat.succ d) a) (κ (.bool true)) (br (LH a b c d) (κ (.bool false)) (κ (.oth .bl))))
def Hg (a b c d:Nat) (κ:V->R):R := .fail ""
def Zn (op:BinOp):Nat->Nat->Nat->Nat->(V->R)->R :=
  @BinOp.rec (fun _ => Nat->Nat->Nat->Nat->(V->R)->R) Hg Hg Hg Hg Hg Hg Hg Hg Hg Hg Hg WW Xo Uy (fun a b c d κ => V8 c d a b κ) (fun a b c d κ => Uy c d a b κ) V8 op
def HT (op:BinOp) (κ:V->R):R :=
  @BinOp.rec (fun _ => R) (.fail "") (.fail "") (.fail "") (.fail "") (.fail "") (.fail "") (.fail "") (.fail "") (.fail "") (.fail "") (.fail "") (κ (.oth .bl)) (κ (.oth .bl)) (κ (.oth .bl)) (κ (.oth .bl)) (κ (.oth .bl)) (κ (.oth .bl)) op
/-- Alike or not, where the bounds are apart. -/
def Uw (op:BinOp) (κ:V->R) (e:R):R := @BinOp.rec (fun _ => R) e e e e e e e e e e e (κ (.bool false)) (κ (.bool true)) e e e e op
def U3 (op:BinOp) (a b c d:Nat) (κ:V->R):R := br (br (Nat.ble (Nat.succ b) c) true (Nat.ble (Nat.succ d) a)) (Uw op κ (HT op κ)) (HT op κ)
def GR (op:BinOp) (x y:V) (κ:V->R):R :=
  Jg x fun k a b => Jg y fun j c d => br (Bk k j) (br (CS (Hk k) a b) (br (CS (Hk k) c d) (Zn op (B2 (Hk k) (Mk k) a) (B2 (Hk k) (Mk k) b) (B2 (Hk k) (Mk k) c) (B2 (Hk k) (Mk k) d) κ) (U3 op a b c d κ)) (U3 op a b c d κ)) (.fail "")
def Q7 (x y:V) (κ:V->R):R :=
  Jg x fun k a b => Jg y fun j c d => br (Bk k j) (Ab (Nat.add a c) fun lo => Ab (Nat.add b d) fun hi => br (Nat.ble (Nat.succ hi) (Hk k)) (κ (.oth (.iv k lo hi))) (Ab (Nat.sub (Mk k) 1) fun m => κ (.oth (.iv k 0 m)))) (.fail "")
def PW (x y:V) (κ:V->R):R :=
  Jg x fun k a b => Jg y fun j c d => br (Bk k j) (br (Nat.ble d a) (br (Nat.ble (Nat.succ b) (Hk k)) (Ab (Nat.sub a d) fun lo => Ab (Nat.sub b c) fun hi => κ (.oth (.iv k lo hi))) (.fail "")) (.fail "")) (.fail "")
/-- The remainder of an integer E1 by bounds: below the divisor, or any. -/
def QR (x y:V) (κ:V->R):R :=
  Jg x fun k a b => GS y fun j d => br (Bk k .i64) (br (Bk j .i64) (br (Nat.ble 1 d) (br (Nat.ble (Nat.succ d) 9223372036854775808)
    (br (Nat.ble (Nat.succ b) 9223372036854775808) (Ab (Nat.sub d 1) fun e => κ (.oth (.iv .i64 0 e))) (κ (.oth (.iv .i64 0 18446744073709551615)))) (.fail "")) (.fail "")) (.fail "")) (.fail "")
def Gj (op:BinOp) (x y:V) (κ:V->R):R :=
  @BinOp.rec (fun _ => R) (Q7 x y κ) (PW x y κ) (GR op x y κ) (GR op x y κ) (QR x y κ) (GR op x y κ) (GR op x y κ) (GR op x y κ) (GR op x y κ) (GR op x y κ) (GR op x y κ) (GR op x y κ) (GR op x y κ) (GR op x y κ) (GR op x y κ) (GR op x y κ) (GR op x y κ) op
def Up (a b c d:Nat) (yes no:R):R := br (Nat.ble (Nat.succ b) c) yes (br (Nat.ble d a) no (.fail ""))
def Xt (u v:V) (κ:V->R):R :=
  Jg u fun k a b => Jg v fun j c d => br (Bk k j) (br (CS (Hk k) a b) (br (CS (Hk k) c d) (Up (B2 (Hk k) (Mk k) a) (B2 (Hk k) (Mk k) b) (B2 (Hk k) (Mk k) c) (B2 (Hk k) (Mk k) d) (κ v) (κ u)) (.fail "")) (.fail "")) (.fail "")
def Xr (u v:V) (κ:V->R):R :=
  Jg u fun k a b => Jg v fun j c d => br (Bk k j) (br (CS (Hk k) a b) (br (CS (Hk k) c d) (Up (B2 (Hk k) (Mk k) c) (B2 (Hk k) (Mk k) d) (B2 (Hk k) (Mk k) a) (B2 (Hk k) (Mk k) b) (κ v) (κ u)) (.fail "")) (.fail "")) (.fail "")
/-- .. of a negative one. -/
def VS (m j b:Nat) (κ:V->R):R := br (Nat.beq m (Nat.add 73786976294838206464 b)) (Ab (Nat.mod j 18446744073709551616) fun d => br (Nat.beq d (Nat.div j 18446744073709551616)) (br (Nat.ble 1 d) (Ab (Nat.sub 18446744073709551616 d) fun r => κ (.int .i64 r)) (.fail "")) (.fail "")) (.fail "")
/-- The remainder of an integer that is E1 by it. -/
def Qt (op:BinOp) (x y:V) (κ:V->R) (e:R):R :=
  @BinOp.rec (fun _ => R) e e e e (rsK x (fun m j => GS y fun k b => br (Bk k .i64) (br (Nat.ble 1 b) (br (Nat.ble (Nat.succ b) 9223372036854775808) (br (Nat.beq m (Nat.add 18446744073709551616 b)) (κ (.int .i64 j)) (br (Nat.beq m b) (br (Nat.beq j 0) (κ (.int .i64 0)) (κ (.oth (.iv .i64 1 18446744073709551615)))) (VS m j b κ))) (.fail "")) (.fail "")) (.fail "")) e) e e e e e e e e e e e e op
def XZ (v:V) (κ:IntKind->Nat->R) (e:R):R :=
  @V.rec (fun _ => R) (fun _ => Unit) (fun _ _ => e) (fun _ => e) (fun _ _ => e) (fun _ _ _ _ _ _ => e) (fun _ _ => e) (fun _ _ => e) (fun _ => e) (fun _ => e) (fun _ _ _ => e) (fun _ _ => e) (fun o => WN o κ e) () (fun _ _ _ _ => ()) v
/-- Two symbols that are one. -/
def Kz (x y:V) (a e:R):R := XZ x (fun k i => XZ y (fun j i' => br (Bk k j) (br (Nat.beq i i') a e) e) e) e
def ZD (op:BinOp) (x y:V) (κ:V->R) (e:R):R := @BinOp.rec (fun _ => R) e e e e e e e e e e e (Kz x y (κ (.bool true)) e) (Kz x y (κ (.bool false)) e) e e e e op
def JT (op:BinOp) (x y:V) (κ:V->R):R := ZD op x y κ (Qt op x y κ (Gj op x y κ))
/-- A text that is not looked into held against one that is. -/
def Q2 (op:BinOp) (l0 l1 n c m d:Nat) (κ:V->R):R :=
  br (br (Nat.ble l0 m) (br (Nat.ble m l1) (br (Nat.beq m n) (Nat.beq d c) false) true) true)
    (@BinOp.rec (fun _ => R) (.fail "") (.fail "") (.fail "") (.fail "") (.fail "") (.fail "") (.fail "") (.fail "") (.fail "") (.fail "") (.fail "") (κ (.bool false)) (κ (.bool true)) (.fail "") (.fail "") (.fail "") (.fail "") op) (.fail "")
def CD (op:BinOp) (x y:V) (κ:V->R):R := V7 x (fun l0 l1 n c => Be y fun m d => Q2 op l0 l1 n c m d κ) (JT op x y κ)
def Lf (op:BinOp) (x y:V) (κ:V->R):R :=
  @V.rec (fun _ => R) (fun _ => Unit) (fun k r => @V.rec (fun _ => R) (fun _ => Unit) (fun j b => Lp op k r j b κ) (AV "") (AG "") (DN "") (AG "") (AG "") (AV "") (AV "") (Cb "") (AG "") (fun _ => JT op x y κ) () (fun _ _ _ _ => ()) y) (AV "") (AG "") (DN "") (fun n c => Be y fun m d => JD op n c m d κ) (AG "") (AV "") (AV "") (Cb "") (AG "") (fun _ => CD op x y κ) () (fun _ _ _ _ => ()) x
def eqI (x y:V) (κ:Bool->R):R := GS x fun k a => GS y fun j b => br (Bk k j) (Cn (Nat.beq a b) κ) (.fail "")
def eqS (x y:V) (κ:Bool->R):R := Be x fun n c => Be y fun m d => Cn (DE n c m d) κ
def eqB (x y:V) (κ:Bool->R):R := P3 x fun b => P3 y fun c => br b (br c (κ true) (κ false)) (br c (κ false) (κ true))
def L8 (k:Sc):V->V->(Bool->R)->R := @Sc.rec (fun _ => V->V->(Bool->R)->R) eqI eqS eqB k
def Nl.ix (w:Nl):Nat := @Nl.rec (fun _ => Nat) 0 1 2 3 4 w
/-- A reference of that sort: nil, or another one. -/
def GM (w:Nl) (v:V) (κn κo:R):R :=
  @V.rec (fun _ => R) (fun _ => Unit) (AG "") (AV "") (fun p off => br (Nat.beq w.ix 0) κo (.fail "")) (fun p off len cap ex esz => br (Nat.beq w.ix 1) κo (.fail "")) (AG "") (AG "") (fun w' => br (Nat.beq w'.ix w.ix) κn (.fail "")) (fun p => br (Nat.beq w.ix 2) κo (.fail "")) (fun f caps _i => br (Nat.beq w.ix 3) κo (.fail "")) (AG "") (fun o => br (Nat.beq w.ix 1) (HG o (fun _ _ => κo) (JC o (fun _ _ _ => κo) (.fail ""))) (.fail "")) () (fun _ _ _ _ => ()) v
def JG (w:Nl) (x y:V) (κ:Bool->R):R :=
  GM w x (GM w y (κ true) (κ false)) (GM w y (κ false) (JP x fun p o => JP y fun q o' => br (K4.beq p q) (Cn (Nat.beq o o') κ) (.fail "")))
def IX (fs:List (Nat×Sc)) (x y:List V) (κ:Bool->R):R :=
  @List.rec (Nat×Sc) (fun _ => R) (κ true) (fun f _ ih => @Prod.rec Nat Sc (fun _ => R) (fun o k => DL o x fun u => DL o y fun v => L8 k u v fun r => br r ih (κ false)) f) fs
/-- Structs that are scalars throughout, cell by cell. -/
def Oq (ks:List Sc):List V->List V->(Bool->R)->R :=
  @List.rec Sc (fun _ => List V->List V->(Bool->R)->R)
    (fun a b κ => @List.rec V (fun _ => R) (@List.rec V (fun _ => R) (κ true) (Cb "") b) (Cb "") a)
    (fun k _ ih a b κ => @List.rec V (fun _ => R) (.fail "") (fun u a _ => @List.rec V (fun _ => R) (.fail "") (fun v b _ => L8 k u v fun r => br r (ih a b κ) (κ false)) b) a) ks
def L3 (pl:Plan) (x y:V) (κ:Bool->R):R :=
  @Plan.rec (fun _ => R) (fun k => L8 k x y κ) (fun fs => asAgg x fun a => asAgg y fun b => IX fs a b κ) (fun l => asAgg x fun a => asAgg y fun b => Oq l a b κ) (fun w => JG w x y κ) pl
def NS (ks:List Sc):List V->R->R :=
  @List.rec Sc (fun _ => List V->R->R) (fun a κ => @List.rec V (fun _ => R) κ (Cb "") a) (fun _ _ ih a κ => @List.rec V (fun _ => R) (.fail "") (fun _ l _ => ih l κ) a) ks
/-- Is it such a key? -/
def K0 (pl:Plan) (v:V) (κ:R):R :=
  @Plan.rec (fun _ => R) (fun k => @Sc.rec (fun _ => R) (GS v fun _ _ => κ) (Be v fun _ _ => κ) (P3 v fun _ => κ) k) (AV "") (fun l => asAgg v fun a => NS l a κ) (AV "") pl
def EK (pl:Plan) (k:V) (es:List (V×V)) (κf:V->R) (κn:R):R :=
  @List.rec (V×V) (fun _ => R) κn (fun e _ ih => @Prod.rec V V (fun _ => R) (fun a b => L3 pl k a fun r => br r (κf b) ih) e) es
def HL (pl:Plan) (k v:V) (es:List (V×V)):(List (V×V)->R)->R :=
  @List.rec (V×V) (fun _ => (List (V×V)->R)->R) (fun κ => κ [(k, v)])
    (fun e tl ih κ => @Prod.rec V V (fun _ => R) (fun a _ => L3 pl k a fun r => br r (κ ((k, v)::tl)) (ih fun l => κ (e::l))) e) es
def HF (pl:Plan) (k:V) (es:List (V×V)):(List (V×V)->R)->R :=
  @List.rec (V×V) (fun _ => (List (V×V)->R)->R) (fun κ => κ [])
    (fun e tl ih κ => @Prod.rec V V (fun _ => R) (fun a _ => L3 pl k a fun r => br r (κ tl) (ih fun l => κ (e::l))) e) es
/-- The stamps behind an update: of an entry that is new the clock, else as they were. -/
def KM (es:List (V×V)):List Nat->Bool :=
  @List.rec (V×V) (fun _ => List Nat->Bool) (fun bs => @List.rec Nat (fun _ => Bool) true (fun _ _ _ => false) bs) (fun _ _ ih bs => @List.rec Nat (fun _ => Bool) false (fun _ bs _ => ih bs) bs) es
def Qz (bs:List Nat) (c:Nat):(List Nat->R)->R :=
  @List.rec Nat (fun _ => (List Nat->R)->R) (fun κ => κ [c]) (fun b _ ih κ => ih fun l => κ (b::l)) bs
def Vy (es:List (V×V)) (bs:List Nat) (c:Nat) (κ:List Nat->Nat->R):R :=
  br (KM es bs) (κ bs c) (Qz bs c fun bs => Ab (Nat.succ c) fun c => κ bs c)
/-- .. and behind a removal. -/
def HH (pl:Plan) (k:V) (es:List (V×V)):List Nat->(List Nat->R)->R :=
  @List.rec (V×V) (fun _ => List Nat->(List Nat->R)->R) (fun bs κ => κ bs)
    (fun e _ ih bs κ => @List.rec Nat (fun _ => R) (.fail "") (fun b tl _ => @Prod.rec V V (fun _ => R) (fun a _ => L3 pl k a fun r => br r (κ tl) (ih tl fun l => κ (b::l))) e) bs) es
def U6 (es:List (V×V)):(Nat->R)->R :=
  @List.rec (V×V) (fun _ => (Nat->R)->R) (fun κ => κ 0) (fun _ _ ih κ => ih fun n => Ab (Nat.succ n) κ) es
def Ht (p:K4) (h:Heap) (κ:Cs->Bool->Option K4->R):R :=
  Qu p h fun o => @Option.rec Ob (fun _ => R) (.fail "") (fun o => @Ob.rec (fun _ => R) κ (Cb "") (Fp "") (.fail "") (AG "") o) o
def Oi (p:K4) (h:Heap) (κ:List (V×V)->List Nat->Nat->R):R :=
  Qu p h fun o => @Option.rec Ob (fun _ => R) (.fail "") (fun o => @Ob.rec (fun _ => R) (Cb "") κ (Fp "") (.fail "") (AG "") o) o
def Di (h:Heap) (n:K4) (o:Ob) (κ:Heap->K4->R):R := FY n h (some o) fun h' => n.nx fun n' => κ h' n'
def Jm (prev:Option K4) (h:Heap) (κ:Heap->R):R := @Option.rec K4 (fun _ => R) (κ h) (fun q => FY q h none κ) prev
def DV (h:Heap) (p:K4) (off:Nat) (y:Cs) (κ:Heap->R):R :=
  Ht p h fun cs sup prev => br sup (.fail "") (JB cs off y fun cs' => Jm prev h fun h => FY p h (some (.c cs' false none)) κ)
/-- An index: not negative. -/
def IW (v:V) (κ:Nat->R):R := GS v fun k r => br (Nat.ble (Nat.succ r) (Hk k)) (κ r) (.fail "")
def BG (o:Option Opd) (t:Regs) (d:Nat) (κ:Nat->R):R := @Option.rec Opd (fun _ => R) (κ d) (fun x => Db x t fun v => IW v κ) o
def DX (n:Nat) (κ:V->R):R := br (Nat.ble (Nat.succ n) 9223372036854775808) (κ (.int .i64 n)) (.fail "")
def L9 (xs:List V) (off:Nat) (ys:List V) (κ:List V->R):R :=
  D6 off xs fun a => Gk ys fun m => Ab (Nat.add off m) fun j => Du j xs fun b => EH ys b fun t => EH a t κ
def Dq (parts:List Part) (t:Regs):List V->(List V->R)->R :=
  @List.rec Part (fun _ => List V->(List V->R)->R) (fun z κ => κ z)
    (fun p _ ih z κ => @Part.rec (fun _ => R) (fun off size x => Db x t fun v => Eb v fun l => Gk l fun m => br (Nat.beq m size) (L9 z off l fun z => ih z κ) (.fail "")) p) parts
def Y8 (i j:Nat) (κ:V->R):R := br (Nat.ble (Nat.succ j) (ZF i)) (Ab (Xj i) fun m => br (Nat.ble (Nat.succ m) 18446744073709551616) (Ab (ZA i j) fun d => κ (.oth (.rs m d))) (.fail "")) (κ (.oth (.iv .i64 0 18446744073709551615)))
def Yj (i j:Nat) (κ:V->R):R := br (Nat.ble i 36893488147419103232) (κ (.oth (.iv .i64 0 18446744073709551615))) (br (Nat.beq j (YA i))
  (Ab (Ic i) fun m => Ab (Qx i) fun t => br (Nat.ble (Nat.succ m) t) (Ab (Nat.sub t m) fun d => κ (.oth (.rs (Nat.add 18446744073709551616 m) d)))
    (br (Nat.beq t m) (br (Nat.ble 1 m) (κ (.oth (.rs m 0))) (.fail "")) (Ab (Nat.sub m t) fun d => κ (.oth (.rs (Nat.add 73786976294838206464 m) (Nat.add (Nat.mul d 18446744073709551616) d))))))
  (κ (.oth (.iv .i64 0 18446744073709551615))))
/-- A cell of memory that stays. -/
def VK (i j:Nat) (κ:V->R):R := br (Nat.beq i 0) (κ (.oth .bl)) (br (Nat.ble i 18446744073709551615) (Ab (Nat.add i j) fun q => κ (.oth (.sy .i64 q)))
  (br (Nat.ble i 36893488147419103231) (br (Nat.ble (Nat.succ j) (Nat.div (Nat.sub i 18446744073709551616) 4294967296)) (br (PV i j) (κ (.bool true)) (κ (.bool false))) (κ (.oth .bl))) (br (Nat.ble i 73786976294838206463) (Yj i j κ) (Y8 i j κ))))
def Jk (m:Nat):Nat->List V := @Nat.rec (fun _ => Nat->List V) (fun _ => []) (fun _ ih i => .oth (.sy .i64 i)::ih (Nat.succ i)) m
/-- The cells of a slice or string, and how many elements they are. -/
def J4 (esz:Nat) (v:V) (h:Heap) (κ:Nat->Cs->R):R :=
  @V.rec (fun _ => R) (fun _ => Unit) (AG "") (AV "") (AG "") (fun p off len cap ex esz' => br (Nat.beq esz' esz) (Ht p h fun cs _ _ => Ab (Nat.mul len esz) fun m => Bh cs off m fun y => κ len y) (.fail "")) (fun n c => br (Nat.beq esz 1) (κ n (.b n c)) (.fail "")) (AG "") (fun w => @Nl.rec (fun _ => R) (.fail "") (κ 0 (.l [])) (.fail "") (.fail "") (.fail "") w) (AV "") (Cb "") (AG "") (fun o => PT o (fun i l0 l1 z => br (Nat.beq z esz) (br (Nat.beq l0 l1) (br (and (Nat.ble 1 i) (Nat.ble i 18446744073709551615)) (Ab (Nat.mul l0 esz) fun m => κ l0 (.l (Jk m i))) (.fail "")) (.fail "")) (.fail "")) (JC o (fun l m z => br (Nat.beq z esz) (br (Nat.beq l.length (Nat.mul m z)) (κ m (.l (l.map RV.v))) (.fail "")) (.fail "")) (HG o (fun m c => br (Nat.beq esz 1) (κ m (.b m c)) (.fail "")) (.fail "")))) () (fun _ _ _ _ => ()) v
/-- What an append gives that was given the cells. -/
def Ep (esz eb:Nat) (x:V) (m:Nat) (y:Cs) (h:Heap) (n:K4) (κ:KV):R :=
  DM x
    (br (Nat.beq m 0) (κ (.nil .sl) h n) (br (Nat.ble (Nat.mul (Nat.add (Nat.mul 4 m) 4096) eb) 281474976710656) (Di h n (.c y false none) fun h' n' => κ (.sl n 0 m m false esz) h' n') (.fail "")))
    (fun p off len cap ex esz' => br (Nat.beq esz' esz) (br (Nat.beq m 0) (κ x h n) (Ab (Nat.add len m) fun need =>
      br (Nat.ble need cap)
        (Ab (Nat.add off (Nat.mul len esz)) fun j => DV h p j y fun h' => κ (.sl p off need cap ex esz) h' n)
        (br (Nat.ble (Nat.mul (Nat.add (Nat.mul 4 need) 4096) eb) 281474976710656)
          (Ht p h fun cs sup prev => Ab (Nat.mul len esz) fun l => Bh cs off l fun a => Sy a y fun z =>
            br ex
              (Di h n (.c z false none) fun h' n' => κ (.sl n 0 need need false esz) h' n')
              (br sup (.fail "")
                (Ab (Nat.add off l) fun j => Bh cs 0 j fun old => Jm prev h fun h => FY p h (some (.c old true none)) fun h =>
                  Di h n (.c z false (some p)) fun h' n' => κ (.sl n 0 need need false esz) h' n')))
          (.fail "")))) (.fail ""))
abbrev CF := Nat->List V->Heap->K4->R
def Vn (x:Opd) (cf:CF) (t:Regs) (h:Heap) (n:K4) (κ:KV):R :=
  Db x t fun v => κ v h n
def I1 (c a b:Opd) (cf:CF) (t:Regs) (h:Heap) (n:K4) (κ:KV):R :=
  Db c t fun v => P3 v fun q => br q (Db a t fun v => κ v h n) (Db b t fun v => κ v h n)
def OR (cs:Cs) (cf:CF) (t:Regs) (h:Heap) (n:K4) (κ:KV):R :=
  Di h n (.c cs false none) fun h' n' => κ (.ptr n 0) h' n'
def IG (x:Opd) (cf:CF) (t:Regs) (h:Heap) (n:K4) (κ:KV):R :=
  Db x t fun v => Eb v fun l => Di h n (.c (.l l) false none) fun h' n' => κ (.ptr n 0) h' n'
def QK (zero:List V) (parts:List Part) (cf:CF) (t:Regs) (h:Heap) (n:K4) (κ:KV):R :=
  Dq parts t zero fun l => κ (.agg l) h n
def Hj (u8:Bool) (len esz:Nat) (zero:List V) (parts:List Part) (cf:CF) (t:Regs) (h:Heap) (n:K4) (κ:KV):R :=
  Dq parts t zero fun l => br u8 (Ct l (fun m c => Di h n (.c (.b m c) false none) fun h' n' => κ (.sl n 0 len len true esz) h' n') (.fail "")) (Di h n (.c (.l l) false none) fun h' n' => κ (.sl n 0 len len true esz) h' n')
def RX (x:Opd) (cf:CF) (t:Regs) (h:Heap) (n:K4) (κ:KV):R :=
  Db x t fun v => L5 v (fun p off => Ht p h fun cs _ _ => Ge cs off fun v => κ v h n) (fun o => RJ o (fun i j m => br (Nat.ble 1 m) (VK i j fun v => κ v h n) (.fail "")) (KR o (fun l => T9 l fun v => κ v h n) (.fail "")))
def MS (m:Nat) (x:Opd) (cf:CF) (t:Regs) (h:Heap) (n:K4) (κ:KV):R :=
  Db x t fun v => L5 v (fun p off => Ht p h fun cs _ _ => Bh cs off m fun y => E4 y fun l => κ (.agg l) h n) (fun o => KR o (fun l => br (Nat.ble m l.length) (κ (.agg ((l.take m).map RV.v)) h n) (.fail "")) (.fail ""))
def Rh (m:Nat) (a x:Opd) (cf:CF) (t:Regs) (h:Heap) (n:K4) (κ:KV):R :=
  Db a t fun u => JP u fun p off => Db x t fun v => Eb v fun l => Gk l fun k => br (Nat.beq k m) (DV h p off (.l l) fun h' => κ Ay h' n) (.fail "")
def D7 (x:Opd) (cf:CF) (t:Regs) (h:Heap) (n:K4) (κ:KV):R :=
  Db x t fun v => @V.rec (fun _ => R) (fun _ => Unit) (AG "") (AV "") (fun p off => κ v h n) (DN "") (AG "") (AG "") (AV "") (AV "") (fun f caps _i => κ v h n) (AG "") (fun o => KR o (fun _ => κ v h n) (.fail "")) () (fun _ _ _ _ => ()) v
def KA (op:BinOp) (x y:Opd) (cf:CF) (t:Regs) (h:Heap) (n:K4) (κ:KV):R :=
  Db x t fun u => Db y t fun v => Lf op u v fun r => κ r h n
def Rk (neg:Bool) (pl:Plan) (x y:Opd) (cf:CF) (t:Regs) (h:Heap) (n:K4) (κ:KV):R :=
  Db x t fun u => Db y t fun v => L3 pl u v fun r => br neg (br r (κ (.bool false) h n) (κ (.bool true) h n)) (κ (.bool r) h n)
def ME (x:Opd) (cf:CF) (t:Regs) (h:Heap) (n:K4) (κ:KV):R :=
  Db x t fun v => P3 v fun q => br q (κ (.bool false) h n) (κ (.bool true) h n)
def MK (x:Opd) (cf:CF) (t:Regs) (h:Heap) (n:K4) (κ:KV):R :=
  Db x t fun v => GS v fun k r => N2 k 0 k r fun v => κ v h n
def Ms (x:Opd) (cf:CF) (t:Regs) (h:Heap) (n:K4) (κ:KV):R :=
  Db x t fun v => GS v fun k r => Ab (Nat.xor (Nat.sub (Mk k) 1) r) fun r => κ (.int k r) h n
def M9 (k:IntKind) (x:Opd) (cf:CF) (t:Regs) (h:Heap) (n:K4) (κ:KV):R :=
  Db x t fun v => GS v fun j r => br (Nat.ble (Nat.succ r) (Hk j)) (Ab (Nat.mod r (Mk k)) fun r => κ (.int k r) h n) (br (Nat.ble (Mk k) (Mk j)) (Ab (Nat.mod r (Mk k)) fun r => κ (.int k r) h n) (Ab (Nat.sub (Mk k) (Nat.sub (Mk j) r)) fun r => κ (.int k r) h n))
def Ji (x:Opd) (cf:CF) (t:Regs) (h:Heap) (n:K4) (κ:KV):R :=
  Db x t fun v => E3 v (κ (.str 0 0) h n) (fun p off len cap ex esz => br (Nat.beq esz 1) (Ht p h fun cs _ _ => Bh cs off len fun y => E4 y fun l => Ct l (fun m c => κ (.str m c) h n) (.fail "")) (.fail "")) (fun o => HG o (fun m c => κ (.str m c) h n) (.fail ""))
def If (x:Opd) (cf:CF) (t:Regs) (h:Heap) (n:K4) (κ:KV):R :=
  Db x t fun v => Be v fun m c => Di h n (.c (.b m c) false none) fun h' n' => κ (.sl n 0 m m false 1) h' n'
def MM (x:Opd) (cf:CF) (t:Regs) (h:Heap) (n:K4) (κ:KV):R :=
  Db x t fun v => Be v fun _ _ => κ v h n
def Mu (x:Opd) (cf:CF) (t:Regs) (h:Heap) (n:K4) (κ:KV):R :=
  Db x t fun v => DM v (.fail "") (fun p _ _ _ _ _ => Ht p h fun _ _ _ => κ v h n)
def Pz (f:Nat) (caps:List Opd) (cf:CF) (t:Regs) (h:Heap) (n:K4) (κ:KV):R :=
  OA caps t fun l => κ (.fn f l) h n
def ID  (cf:CF) (t:Regs) (h:Heap) (n:K4) (κ:KV):R :=
  Di h n (.m [] [] 0) fun h' n' => κ (.map n) h' n'
def Gy (eb:Nat) (u8:Bool) (zero:List V) (l c:Opd) (cf:CF) (t:Regs) (h:Heap) (n:K4) (κ:KV):R :=
  Db l t fun u => IW u fun a => Db c t fun v => IW v fun b => br (Nat.ble a b) (br (Nat.ble (Nat.mul eb b) 281474976710656) (Ff u8 zero b fun y => Di h n (.c y false none) fun h' n' => Gk zero fun esz => κ (.sl n 0 a b true esz) h' n') (.fail "")) (.fail "")
def Iz (x:Opd) (lo hi:Option Opd) (cf:CF) (t:Regs) (h:Heap) (n:K4) (κ:KV):R :=
  Db x t fun v => V7 v (fun l0 l1 _ _ => br (br (Em hi) true (Nat.beq l0 l1)) (BG hi t l0 fun b => BG lo t 0 fun a => br (Nat.ble a b) (br (Nat.ble b l0) (Ab (Nat.sub b a) fun l => κ (.oth (.ss l l (Nat.succ l) 0)) h n) (.fail "")) (.fail "")) (.fail "")) <| Be v fun m c => BG hi t m fun b => BG lo t 0 fun a => br (Nat.ble a b) (br (Nat.ble b m) (Ab (Nat.sub b a) fun l => Ab (Ev.lo (sh c a) l) fun r => κ (.str l r) h n) (.fail "")) (.fail "")
def QC (esz:Nat) (x:Opd) (mx hi:Option Opd) (cf:CF) (t:Regs) (h:Heap) (n:K4) (κ:KV):R :=
  Db x t fun v => DM v (.fail "") (fun p off len cap ex esz' => BG hi t len fun b => BG mx t cap fun c => br (Nat.beq esz' esz) (br (Nat.ble b c) (br (Nat.ble c cap) (κ (.sl p off b c true esz) h n) (.fail "")) (.fail "")) (.fail ""))
def GO (esz:Nat) (x:Opd) (lo hi:Option Opd) (cf:CF) (t:Regs) (h:Heap) (n:K4) (κ:KV):R :=
  br (Nat.ble 4294967296 esz) (QC (Nat.sub esz 4294967296) x lo hi cf t h n κ) <|
  Db x t fun v => XT v (fun l0 l1 => br (br (Em hi) true (Nat.beq l0 l1)) (BG hi t l0 fun b => BG lo t 0 fun a => br (Nat.ble a b) (br (Nat.ble b l0) (Ab (Nat.sub b a) fun l => κ (.oth (.os l l)) h n) (.fail "")) (.fail "")) (.fail "")) <| E3 v (BG hi t 0 fun b => BG lo t 0 fun a => br (Nat.beq b 0) (br (Nat.beq a 0) (κ (.nil .sl) h n) (.fail "")) (.fail "")) (fun p off len cap ex esz' => BG hi t len fun b => BG lo t 0 fun a => br (Nat.beq esz' esz) (br (Nat.ble a b) (br (Nat.ble b cap) (Ab (Nat.sub b a) fun l => Ab (Nat.sub cap a) fun c => Ab (Nat.add off (Nat.mul a esz)) fun o => κ (.sl p o l c ex esz) h n) (.fail "")) (.fail "")) (.fail "")) (fun o => JC o (fun l m z => BG hi t m fun b => BG lo t 0 fun a => br (Nat.beq z esz) (br (Nat.ble a b) (br (Nat.ble b m) (Ab (Nat.sub b a) fun k => Ab (Nat.mul a esz) fun j => Ab (Nat.mul k esz) fun q => κ (.oth (.rx ((l.drop j).take q) k esz)) h n) (.fail "")) (.fail "")) (.fail "")) (HG o (fun m c => BG hi t m fun b => BG lo t 0 fun a => br (Nat.beq esz 1) (br (Nat.ble a b) (br (Nat.ble b m) (Ab (Nat.sub b a) fun k => Ab (Ev.lo (sh c a) k) fun r => κ (.oth (.rb k r)) h n) (.fail "")) (.fail "")) (.fail "")) (.fail "")))
def Ip (m esz:Nat) (x:Opd) (lo hi:Option Opd) (cf:CF) (t:Regs) (h:Heap) (n:K4) (κ:KV):R :=
  Db x t fun v => JP v fun p off => Ht p h fun cs _ _ => Xh cs fun z => br (Nat.ble (Nat.add off (Nat.mul m esz)) z) (BG hi t m fun b => BG lo t 0 fun a => br (Nat.ble a b) (br (Nat.ble b m) (Ab (Nat.sub b a) fun l => Ab (Nat.sub m a) fun c => Ab (Nat.add off (Nat.mul a esz)) fun o => κ (.sl p o l c true esz) h n) (.fail "")) (.fail "")) (.fail "")
def MH (off:Nat) (x:Opd) (cf:CF) (t:Regs) (h:Heap) (n:K4) (κ:KV):R :=
  Db x t fun v => L5 v (fun p o => Ab (Nat.add o off) fun o => κ (.ptr p o) h n) (fun o => RJ o (fun i j m => br (Nat.ble (Nat.succ off) m) (Ab (Nat.add j off) fun j => Ab (Nat.sub m off) fun m => κ (.oth (.ap i j m)) h n) (.fail "")) (KR o (fun l => br (Nat.ble (Nat.succ off) l.length) (κ (.oth (.rp (l.drop off))) h n) (.fail "")) (.fail "")))
def MI (off size:Nat) (ag:Bool) (x:Opd) (cf:CF) (t:Regs) (h:Heap) (n:K4) (κ:KV):R :=
  Db x t fun v => asAgg v fun l => br ag (Du off l fun r => D6 size r fun r => κ (.agg r) h n) (DL off l fun v => κ v h n)
def Mb (esz:Nat) (x i:Opd) (cf:CF) (t:Regs) (h:Heap) (n:K4) (κ:KV):R :=
  Db x t fun v => Db i t fun u => IW u fun a => E3 v (.fail "") (fun p off len cap ex esz' => br (Nat.beq esz' esz) (br (Nat.ble (Nat.succ a) len) (Ab (Nat.add off (Nat.mul a esz)) fun o => κ (.ptr p o) h n) (.fail "")) (.fail "")) (fun o => PT o (fun i lo hi z => br (Nat.beq z esz) (br (Nat.ble (Nat.succ a) lo) (Ab (Nat.mul a esz) fun j => κ (.oth (.ap i j esz)) h n) (.fail "")) (.fail "")) (JC o (fun l m z => br (Nat.beq z esz) (br (Nat.ble (Nat.succ a) m) (Ab (Nat.mul a esz) fun j => κ (.oth (.rp (l.drop j))) h n) (.fail "")) (.fail "")) (HG o (fun m c => br (Nat.beq esz 1) (br (Nat.ble (Nat.succ a) m) (Ab (Ev.lo (sh c a) 1) fun r => κ (.oth (.rp [.i .u8 r])) h n) (.fail "")) (.fail "")) (.fail ""))))
def LV (m esz:Nat) (x i:Opd) (cf:CF) (t:Regs) (h:Heap) (n:K4) (κ:KV):R :=
  Db x t fun v => Db i t fun u => IW u fun a => JP v fun p off => br (Nat.ble (Nat.succ a) m) (Ab (Nat.add off (Nat.mul a esz)) fun o => κ (.ptr p o) h n) (.fail "")
def LQ (x i:Opd) (cf:CF) (t:Regs) (h:Heap) (n:K4) (κ:KV):R :=
  Db x t fun v => Db i t fun u => IW u fun a => Be v fun m c => br (Nat.ble (Nat.succ a) m) (Ab (Ev.lo (sh c a) 1) fun r => κ (.int .u8 r) h n) (.fail "")
def Lv (m esz:Nat) (ag:Bool) (x i:Opd) (cf:CF) (t:Regs) (h:Heap) (n:K4) (κ:KV):R :=
  Db x t fun v => Db i t fun u => IW u fun a => asAgg v fun l => br (Nat.ble (Nat.succ a) m) (Ab (Nat.mul a esz) fun j => br ag (Du j l fun r => D6 esz r fun r => κ (.agg r) h n) (DL j l fun v => κ v h n)) (.fail "")
def R1 (pl:Plan) (zero:V) (ok:Bool) (m k:Opd) (cf:CF) (t:Regs) (h:Heap) (n:K4) (κ:KV):R :=
  Db m t fun u => Db k t fun v => K0 pl v <| E2 u (br ok (κ (.tup [zero, .bool false]) h n) (κ zero h n)) (fun p => Oi p h fun es _ _ => EK pl v es (fun r => br ok (κ (.tup [r, .bool true]) h n) (κ r h n)) (br ok (κ (.tup [zero, .bool false]) h n) (κ zero h n)))
def RS (pl:Plan) (m k v:Opd) (cf:CF) (t:Regs) (h:Heap) (n:K4) (κ:KV):R :=
  Db m t fun u => Db k t fun a => Db v t fun b => K0 pl a <| E2 u (.fail "") (fun p => Oi p h fun es bs c => HL pl a b es fun es => Vy es bs c fun bs c => FY p h (some (.m es bs c)) fun h' => κ Ay h' n)
def MQ (pl:Plan) (m k:Opd) (cf:CF) (t:Regs) (h:Heap) (n:K4) (κ:KV):R :=
  Db m t fun u => Db k t fun a => K0 pl a <| E2 u (κ (.tup []) h n) (fun p => Oi p h fun es bs c => HF pl a es fun es' => HH pl a es bs fun bs => FY p h (some (.m es' bs c)) fun h' => κ (.tup []) h' n)
def MT (i:Nat) (x:Opd) (cf:CF) (t:Regs) (h:Heap) (n:K4) (κ:KV):R :=
  Db x t fun v => KE v fun l => DL i l fun v => κ v h n
def N7 (f:Nat) (args:List Opd) (cf:CF) (t:Regs) (h:Heap) (n:K4) (κ:KV):R :=
  OA args t fun l => @R.rec (fun _ => R) (Fp "") (fun v h n => κ v h n) (fun w => .fail w) (Fp "") (cf f l h n)
def EQ (x:Opd) (args:List Opd) (cf:CF) (t:Regs) (h:Heap) (n:K4) (κ:KV):R :=
  Db x t fun v => Pm v fun f caps => OA args t fun l => EH l caps fun l => @R.rec (fun _ => R) (Fp "") (fun v h n => κ v h n) (fun w => .fail w) (Fp "") (cf f l h n)
def MC (x:Opd) (cf:CF) (t:Regs) (h:Heap) (n:K4) (κ:KV):R :=
  Db x t fun v => V7 v (fun l0 l1 _ _ => br (Nat.ble (Nat.succ l1) 9223372036854775808) (κ (.oth (.iv .i64 l0 l1)) h n) (.fail "")) <| Be v fun m _ => DX m fun v => κ v h n
def Lw (x:Opd) (cf:CF) (t:Regs) (h:Heap) (n:K4) (κ:KV):R :=
  Db x t fun v => E3 v (κ (.int .i64 0) h n) (fun p off len cap ex esz => DX len fun v => κ v h n) (fun o => Wt o (fun l0 l1 => br (Nat.ble (Nat.succ l1) 9223372036854775808) (κ (.oth (.iv .i64 l0 l1)) h n) (.fail "")) (PT o (fun i l0 l1 z => br (Nat.ble (Nat.succ l1) 9223372036854775808) (br (Nat.beq l0 l1) (κ (.int .i64 l0) h n) (κ (.oth (.iv .i64 l0 l1)) h n)) (.fail "")) (JC o (fun l m z => DX m fun v => κ v h n) (HG o (fun m c => DX m fun v => κ v h n) (.fail "")))))
def Mv (x:Opd) (cf:CF) (t:Regs) (h:Heap) (n:K4) (κ:KV):R :=
  Db x t fun v => E2 v (κ (.int .i64 0) h n) (fun p => Oi p h fun es _ _ => U6 es fun m => DX m fun v => κ v h n)
def LG (x y:Opd) (cf:CF) (t:Regs) (h:Heap) (n:K4) (κ:KV):R :=
  Db x t fun u => Db y t fun v => Xr u v fun v => κ v h n
def My (x y:Opd) (cf:CF) (t:Regs) (h:Heap) (n:K4) (κ:KV):R :=
  Db x t fun u => Db y t fun v => Xt u v fun v => κ v h n
def LR (esz eb:Nat) (x y:Opd) (cf:CF) (t:Regs) (h:Heap) (n:K4) (κ:KV):R :=
  Db x t fun u => Db y t fun v => J4 esz v h fun m y => Ep esz eb u m y h n κ
def J7 (esz eb:Nat) (u8:Bool) (zero:List V) (x c:Opd) (cf:CF) (t:Regs) (h:Heap) (n:K4) (κ:KV):R :=
  Db x t fun u => Db c t fun v => IW v fun m => br (Nat.ble (Nat.mul eb m) 281474976710656) (Ff u8 zero m fun y => Ep esz eb u m y h n κ) (.fail "")
def Mg (esz:Nat) (x y:Opd) (cf:CF) (t:Regs) (h:Heap) (n:K4) (κ:KV):R :=
  Db x t fun u => Db y t fun v => J4 esz v h fun m y => DM u (κ (.int .i64 0) h n) (fun p off len cap ex esz' => br (Nat.beq esz' esz) (Ab (@Bool.rec (fun _ => Nat) len m (Nat.ble m len)) fun k => br (Nat.beq k 0) (κ (.int .i64 0) h n) (Ab (Nat.mul k esz) fun j => Bh y 0 j fun y => DV h p off y fun h => DX k fun v => κ v h n)) (.fail ""))
def Je (x y z:Opd) (cf:CF) (t:Regs) (h:Heap) (n:K4) (κ:KV):R :=
  Db x t fun u => Db y t fun v => Db z t fun w => GS u fun k a => GS v fun j b => GS w fun i c => br (Bk k j) (br (Bk k i) (br (DK k a b) (br (DK k b c) (κ w h n) (κ v h n)) (br (DK k a c) (κ w h n) (κ u h n))) (.fail "")) (.fail "")
def LC (x:Opd) (cf:CF) (t:Regs) (h:Heap) (n:K4) (κ:KV):R :=
  Db x t fun v => DM v (κ (.int .i64 0) h n) (fun p off len cap ex esz => br ex (DX cap fun v => κ v h n) (.fail ""))
def LY (u8:Bool) (zero:List V) (x:Opd) (cf:CF) (t:Regs) (h:Heap) (n:K4) (κ:KV):R :=
  Db x t fun v => DM v (κ (.tup []) h n) (fun p off len cap ex esz => Gk zero fun m => br (Nat.beq m esz) (br (Nat.beq len 0) (κ (.tup []) h n) (Ff u8 zero len fun y => DV h p off y fun h => κ (.tup []) h n)) (.fail ""))
def QM (why:String) (cf:CF) (t:Regs) (h:Heap) (n:K4) (κ:KV):R :=
  .fail ""
def HK (o:AK):CF->Regs->Heap->K4->KV->R :=
  @AK.rec (fun _ => CF->Regs->Heap->K4->KV->R) Vn I1 OR IG QK Hj RX MS Rh D7 KA Rk ME MK Ms M9 Ji If MM Mu Pz ID Gy Iz GO Ip MH MI Mb LV LQ Lv R1 RS MQ MT N7 EQ MC Lw Mv LG My LR J7 Mg Je LC LY QM o
end Go.Ev

namespace Go.Ev
set_option linter.unusedVariables false
structure AOp where
  dst:Option K2
  g:Option (K2×Bool)
  k:AK
/-- One step of a region that draws its order, in one order: a reading (or what hangs on registers alone); an effect; what makes memory, at a place kept for it; a reading Lr again, which must tell the same; a place kept that must be free; a reading of what was Lr at a place kept. -/
inductive Item where
  | rd (i:Nat) (o:AOp)
  | ef (i:Nat) (o:AOp)
  | al (i:Nat) (j:D) (o:AOp)
  | ck (i:Nat) (o:AOp)
  | no (j:D)
  | rn (i:Nat) (j:D) (o:AOp)
/-- What begins a range over a map, goes on with it, tells its entry; a call that may come to many ways; a call of what is told. -/
inductive Sp where
  | rng (x:Opd)
  | nxt (x:Opd)
  | ent (x:Opd)
  | tcl (f:Nat) (l:List Opd)
  | dcl (x:Opd) (l:List Opd)
inductive AC where
  | skip
  | seq (a b:AC)
  | ops (l:List AOp)
  | drawn (al:Bool) (l:List Item)
  | cond (c:Opd) (a b:AC)
  | block (id:Nat) (b:AC)
  | loop (b:AC)
  | exit (id:Nat)
  | ret
  | bad (why:String)
  | spl (pre:List AOp) (sp:Sp) (d:Option K2) (post:List AOp)
inductive ARes where
  | tmp (p:K2)
  | cel (p:K2) (m:Option Nat)
structure AFn where
  ps:List K2
  code:AC
  rs:List ARes
abbrev Nq := List V->Heap->K4->R
/-- Is the operation wanted? Its guard is what another one of the region has told. -/
def D2 (g:Option (K2×Bool)) (t:Regs) (yes no:R):R :=
  @Option.rec (K2×Bool) (fun _ => R) yes (fun p => @Prod.rec K2 Bool (fun _ => R) (fun r want => HW r t fun v =>
    @V.rec (fun _ => R) (fun _ => Unit) (fun _ _ => no) (fun b => br (Bool.rec (Bool.rec true false b) b want) yes no) (fun _ _ => no) (fun _ _ _ _ _ _ => no) (fun _ _ => no) (fun _ _ => no) (fun _ => no) (fun _ => no) (fun _ _ _ => no) (fun _ _ => no) (fun o => .fail "") () (fun _ _ _ _ => ()) v) p) g
/-- Two open values are one: both any, both some bool, or integers between the same bounds. -/
def asO (v:V) (κ:Ot->R):R :=
  @V.rec (fun _ => R) (fun _ => Unit) (fun _ _ => (.fail "")) (fun _ => (.fail "")) (fun _ _ => (.fail "")) (fun _ _ _ _ _ _ => (.fail "")) (fun _ _ => (.fail "")) (fun _ _ => (.fail "")) (fun _ => (.fail "")) (fun _ => (.fail "")) (fun _ _ _ => (.fail "")) (fun _ _ => (.fail "")) (fun o => κ o) () (fun _ _ _ _ => ()) v
def Yl (u:Ot) (κ:R):R := @Ot.rec (fun _ => R) κ (fun _ => (.fail "")) (fun _ => (.fail "")) (.fail "") (fun _ _ _ => (.fail "")) (fun _ _ => (.fail "")) (.fail "") (fun _ _ => (.fail "")) (fun _ _ _ _ => (.fail "")) (fun _ _ _ _ => (.fail "")) (fun _ _ _ => (.fail "")) (fun _ _ => (.fail "")) (fun _ _ => (.fail "")) (fun _ _ _ => (.fail "")) (fun _ => (.fail "")) u
def Aaf (u:Ot) (κ:R):R := @Ot.rec (fun _ => R) (.fail "") (fun _ => (.fail "")) (fun _ => (.fail "")) (.fail "") (fun _ _ _ => (.fail "")) (fun _ _ => (.fail "")) κ (fun _ _ => (.fail "")) (fun _ _ _ _ => (.fail "")) (fun _ _ _ _ => (.fail "")) (fun _ _ _ => (.fail "")) (fun _ _ => (.fail "")) (fun _ _ => (.fail "")) (fun _ _ _ => (.fail "")) (fun _ => (.fail "")) u
def Adz (u:Ot) (κ:IntKind->Nat->Nat->R):R := @Ot.rec (fun _ => R) (.fail "") (fun _ => (.fail "")) (fun _ => (.fail "")) (.fail "") (fun k lo hi => κ k lo hi) (fun _ _ => (.fail "")) (.fail "") (fun _ _ => (.fail "")) (fun _ _ _ _ => (.fail "")) (fun _ _ _ _ => (.fail "")) (fun _ _ _ => (.fail "")) (fun _ _ => (.fail "")) (fun _ _ => (.fail "")) (fun _ _ _ => (.fail "")) (fun _ => (.fail "")) u
def Xi (o u:Ot) (κ:R):R :=
  @Ot.rec (fun _ => R) (Yl u κ) (fun _ => (.fail "")) (fun _ => (.fail "")) (.fail "") (fun k lo hi => Adz u fun k' lo' hi' => br (Bk k k') (br (Nat.beq lo lo') (br (Nat.beq hi hi') κ (.fail "")) (.fail "")) (.fail "")) (fun _ _ => (.fail "")) (Aaf u κ) (fun _ _ => (.fail "")) (fun _ _ _ _ => (.fail "")) (fun _ _ _ _ => (.fail "")) (fun _ _ _ => (.fail "")) (fun _ _ => (.fail "")) (fun _ _ => (.fail "")) (fun _ _ _ => (.fail "")) (fun _ => (.fail "")) o
/-- Two abstract values are one. -/
def BE (x:V):V->R->R :=
  @V.rec (fun _ => V->R->R) (fun _ => List V->R->R)
    (fun k r y κ => GS y fun j b => br (Bk k j) (br (Nat.beq r b) κ (.fail "")) (.fail ""))
    (fun b y κ => P3 y fun c => br (Bool.rec (Bool.rec true false b) b c) κ (.fail ""))
    (fun p off y κ => JP y fun q o => br (K4.beq p q) (br (Nat.beq off o) κ (.fail "")) (.fail ""))
    (fun p off len cap ex esz y κ => DM y (.fail "") fun q o l c e z => br (K4.beq p q) (br (and (Nat.beq off o) (and (Nat.beq len l) (and (Nat.beq cap c) (and (Bool.rec (Bool.rec true false ex) ex e) (Nat.beq esz z))))) κ (.fail "")) (.fail ""))
    (fun n c y κ => Be y fun m d => br (DE n c m d) κ (.fail ""))
    (fun _ ih y κ => asAgg y fun l => ih l κ)
    (fun w y κ => @V.rec (fun _ => R) (fun _ => Unit) (AG "") (AV "") (AG "") (DN "") (AG "") (AG "")
      (fun u => br (Nat.beq (@Nl.rec (fun _ => Nat) 0 1 2 3 4 w) (@Nl.rec (fun _ => Nat) 0 1 2 3 4 u)) κ (.fail "")) (AV "") (Cb "") (AG "") (AV "") () (fun _ _ _ _ => ()) y)
    (fun p y κ => E2 y (.fail "") fun q => br (K4.beq p q) κ (.fail ""))
    (fun f _ ih y κ => Pm y fun g l => br (Nat.beq f g) (ih l κ) (.fail ""))
    (fun _ ih y κ => KE y fun l => ih l κ)
    (fun o y κ => asO y fun u => Xi o u κ)
    (fun l κ => @List.rec V (fun _ => R) κ (Cb "") l)
    (fun _ _ ihx ihl l κ => @List.rec V (fun _ => R) (.fail "") (fun y ys _ => ihx y (ihl ys κ)) l) x
/-- The value alone. -/
def JV:KV := fun v _ _ => .rv v AJ ⟨.d0, .d0, .d0, .d0⟩
/-- An operation's value and what it leaves. -/
def HN (r:R) (κ:V->Heap->K4->R):R := @R.rec (fun _ => R) (Fp "") (fun v h n => κ v h n) (fun w => .fail w) (Fp "") r
def Gh (o:Option Ob) (κ:R):R := @Option.rec Ob (fun _ => R) κ (AV "") o
def VU (o:Option Ob) (κ:Ob->R):R := @Option.rec Ob (fun _ => R) (.fail "") κ o
def S6 (d:Option K2) (κ:K2->R):R := @Option.rec K2 (fun _ => R) (.fail "") κ d
/-- Rounds of a loop. -/
def Jy (body:S->Heap->K4->R) (m:Nat):S->Heap->K4->R :=
  @Nat.rec (fun _ => S->Heap->K4->R) (Cb "")
    (fun _ rec t h n => @R.rec (fun _ => R) (fun e t h n => @Ex.rec (fun _ => R) (rec t h n) (fun id => .ok (.exit id) t h n) (.ok .ret t h n) e) (Cb "") (fun w => .fail w) (fun _ _ a b => .both a b) (body t h n)) m
def RR (args:List V):List K2->Regs->(Regs->R)->R :=
  @List.rec V (fun _ => List K2->Regs->(Regs->R)->R) (fun ps t κ => @List.rec K2 (fun _ => R) (κ t) (Cb "") ps)
    (fun v _ ih ps t κ => @List.rec K2 (fun _ => R) (.fail "") (fun p qs _ => MZ p t v fun t => ih qs t κ) ps) args
def Kw (r:ARes) (t:Regs) (h:Heap) (κ:V->R):R :=
  @ARes.rec (fun _ => R) (fun p => HW p t κ) (fun p m => HW p t fun v => JP v fun q off => Ht q h fun cs _ _ =>
    @Option.rec Nat (fun _ => R) (Ge cs off κ) (fun m => Bh cs off m fun y => E4 y fun l => κ (.agg l)) m) r
def JI (rs:List ARes) (t:Regs) (h:Heap):(List V->R)->R :=
  @List.rec ARes (fun _ => (List V->R)->R) (fun κ => κ []) (fun r _ ih κ => Kw r t h fun v => ih fun vs => κ (v::vs)) rs
def PD (rs:List ARes) (t:Regs) (h:Heap) (n:K4):R :=
  JI rs t h fun l => @List.rec V (fun _ => R) (.rv (.tup []) h n) (fun v vs _ => @List.rec V (fun _ => R) (.rv v h n) (fun _ _ _ => .rv (.tup l) h n) vs) l
end Go.Ev

namespace Go.Ev
set_option linter.unusedVariables false
def JO (v:Value):Option V :=
  match v with
  | .bool b => some (.bool b)
  | .int k n => match n with
    | .ofNat m => if Nat.ble (Nat.succ m) (Hk k) then some (.int k m) else none
    | .negSucc m => if Nat.ble (Nat.add (Hk k) (Nat.succ m)) (Mk k) then some (.int k (Nat.sub (Mk k) (Nat.succ m))) else none
  | .string s => some (.str s.size (Au s.data.toList))
  | .pointer none => some (.nil .ptr)
  | .slice none 0 0 => some (.nil .sl)
  | .map none => some (.nil .map)
  | .nilFunc => some (.nil .fn)
  | .nilIface => some (.nil .iface)
  | _ => none
def HQ:List Value->Option (List V)
  | [] => some []
  | v::l => match JO v, HQ l with
    | some x, some xs => some (x::xs)
    | _, _ => none
def J0 (v:Value):Option V :=
  match v with
  | .agg cs => (HQ cs.toList).map .agg
  | .tuple cs => if cs.toList.isEmpty then some (.tup []) else none
  | .func (.func f) first caps => if first.toList.isEmpty&&caps.toList.isEmpty then some (.fn f []) else none
  | v => JO v
section
variable (P:Program) (N:Nat)
def GL (t:Nat):Option K2 := if t<N then K2.ofN t else none
def AH:Operand->Option Opd
  | .tmp t => (GL N t).map .t
  | .const v => (J0 v).map .c
  | .func f => some (.c (.fn f []))
  | .global _ => none
def Bw:List Operand->Option (List Opd)
  | [] => some []
  | o::l => match AH N o, Bw l with
    | some x, some xs => some (x::xs)
    | _, _ => none
def Et:Option Operand->Option (Option Opd)
  | none => some none
  | some o => (AH N o).map some
def Dw (t:TypeId):Option (List V) := ((P.info? t).bind (·.zero)).bind fun z => HQ z.cells.toList
def Bj (t:TypeId):Option Nat := (P.info? t).map (·.size)
def Fh (t:TypeId):Option Nat := (P.info? t).map (·.bytes)
def KO (t:TypeId):Option Bool := (P.underlying t).map fun d => match d with | .struct _ | .array _ _ => true | _ => false
def Xv (t:TypeId):Bool := match P.underlying t with | some (.int .u8) => true | _ => false
def P2 (t:TypeId):Option Sc :=
  match P.underlying t with
  | some (.int _) => some .i
  | some .string => some .s
  | some .bool => some .b
  | _ => none
/-- The offsets of a struct's fields, all of them scalars. -/
def H9:List Field->Option (List (Nat×Sc))
  | [] => some []
  | f::l => if f.name ≠ "_" then
      match P2 P f.type, H9 l with
      | some k, some r => some ((f.offset, k)::r)
      | _, _ => none
    else none
def KG (t:TypeId):Option Plan :=
  match P.underlying t with
  | some .bool => some (.sc .b)
  | some (.struct fs) => if P.stoodInHeld t then none else (H9 P fs.toList).map .st
  | some (.pointer e) => match Bj P e with
    | some (_+1) => some (.rf .ptr)
    | _ => none
  | some (.slice _) => some (.rf .sl)
  | some (.map _ _) => some (.rf .map)
  | some (.func _ _ _) => some (.rf .fn)
  | _ => none
def HJ (t:TypeId):Option Plan :=
  match P.underlying t with
  | some (.struct fs) =>
    if P.stoodInHeld t then none else
    match H9 P fs.toList with
    | some offs => if offs.map (·.1)=List.range offs.length then some (.ks (offs.map (·.2))) else none
    | none => none
  | _ => (P2 P t).map .sc
def FP (place:Nat->Option (Nat×Nat)):List (Nat×Operand)->Option (List Part)
  | [] => some []
  | (i, o)::l => match place i, AH N o, FP place l with
    | some (off, size), some x, some xs => some (⟨off, size, x⟩::xs)
    | _, _, _ => none
/-- So many elements' zero cells. -/
def Eh (z:List V):Nat->List V
  | 0 => []
  | n+1 => z++Eh z n
/-- The zero of a byte. -/
def Lh:List V->Bool
  | [.int .u8 0] => true
  | _ => false
def F7 (b:Builtin) (argTypes:Array TypeId) (args:List Opd):Option AK :=
  match b, argTypes.toList, args with
  | .len, t::_, x::_ =>
    match P.underlying t with
    | some .string => some (.lnS x)
    | some (.slice _) => some (.lnL x)
    | some (.map _ _) => some (.lnM x)
    | _ => none
  | .min, _, [x, y] => some (.min x y)
  | .max, _, [x, y] => some (.max x y)
  | .max, _, [x, y, z] => some (.max3 x y z)
  | .append, [t, u], [x, y] =>
    match P.underlying t, P.underlying u with
    | some (.slice e), some (.int _) =>
      match Bj P e, Fh P e, Dw P e with
      | some s, some b, some z => if s == z.length&&0<s&&0<b then some (.appz s b (Lh z) z x y) else none
      | _, _, _ => none
    | some (.slice e), some _ =>
      match Bj P e, Fh P e, Dw P e with
      | some s, some b, some z => if s == z.length&&0<s&&0<b then some (.app s b x y) else none
      | _, _, _ => none
    | _, _ => none
  | .copy, t::_, [x, y] =>
    match P.underlying t with
    | some (.slice e) => match Bj P e with
      | some s => if 0<s then some (.cpy s x y) else none
      | none => none
    | _ => none
  | .delete, t::_, [m, k] =>
    match P.underlying t with
    | some (.map kt _) => (HJ P kt).map fun pl => .del pl m k
    | _ => none
  | .cap, t::_, x::_ =>
    match P.underlying t with
    | some (.slice _) => some (.cpL x)
    | _ => none
  | .clear, t::_, x::_ =>
    match P.underlying t with
    | some (.slice e) => match Bj P e, Dw P e with
      | some s, some z => if s == z.length&&0<s then some (.clr (Lh z) z x) else none
      | _, _ => none
    | _ => none
  | _, _, _ => none
def Fs (o:Oper):Option AK :=
  match o.op with
  | .move x | .assign x => (AH N x).map .mv
  | .pick c a b => match AH N c, AH N a, AH N b with
    | some c, some a, some b => some (.pick c a b)
    | _, _, _ => none
  | .alloc e => (Dw P e).map fun z => .alc (.l z)
  | .box _ x => (AH N x).map .box
  | .build t parts =>
    match P.underlying t, Dw P t with
    | some (.struct fs), some z => (fs.toList.mapM fun f => (P.info? f.type).map fun i => (f.offset, i.size)).bind fun places => (FP N (places.toArray[·]?) parts.toList).map fun ps => .build z ps
    | some (.array _ e), some z => (Bj P e).bind fun s => (FP N (fun i => some (i*s, s)) parts.toList).map fun ps => .build z ps
    | _, _ => none
  | .buildSlice t len parts =>
    match P.underlying t with
    | some (.slice e) =>
      match Bj P e, Dw P e with
      | some s, some z => if s == z.length&&0<s&&len*s≤2 ^ 24 then
          (FP N (fun i => some (i*s, s)) parts.toList).map fun ps => .bslice (Xv P e&&s == 1) len s (Eh z len) ps else none
      | _, _ => none
    | _ => none
  | .load t a => match KO P t, Bj P t, AH N a with
    | some true, some s, some a => some (.ldn s a)
    | some false, _, some a => some (.ld a)
    | _, _, _ => none
  | .store t a x => match Bj P t, AH N a, AH N x with
    | some s, some a, some x => some (.st s a x)
    | _, _, _ => none
  | .nilCheck x => (AH N x).map .nilck
  | .binOp op t x y _ =>
    match AH N x, AH N y with
    | some a, some b =>
      match op, P.underlying t with
      | .eql, some (.int _) | .eql, some .string => some (.bin .eql a b)
      | .neq, some (.int _) | .neq, some .string => some (.bin .neq a b)
      | .eql, _ => if P.eqGuardType P.depth t then none else (KG P t).map fun pl => .eq false pl a b
      | .neq, _ => if P.eqGuardType P.depth t then none else (KG P t).map fun pl => .eq true pl a b
      | op, _ => some (.bin op a b)
    | _, _ => none
  | .unOp op _ x =>
    match op, AH N x with
    | .not, some x => some (.not x)
    | .neg, some x => some (.neg x)
    | .xor, some x => some (.com x)
    | _, _ => none
  | .convert src dst x =>
    match P.underlying src, P.underlying dst, AH N x with
    | some (.int _), some (.int k), some x => some (.cvi k x)
    | some .string, some .string, some x => some (.idn x)
    | some .string, some (.slice e), some x => if Xv P e then some (.s2b x) else none
    | some (.slice e), some .string, some x => if Xv P e then some (.b2s x) else none
    | some (.slice _), some (.slice e), some x => if src == dst&&Xv P e then some (.bsl x) else none
    | _, _, _ => none
  | .makeFunc fn first caps =>
    match fn, first.toList, Bw N caps.toList with
    | .func f, [], some l => some (.mkfn f l)
    | _, _, _ => none
  | .makeMap _ none => some .mkmap
  | .makeSlice t l c =>
    match P.underlying t, AH N l, AH N c with
    | some (.slice e), some l, some c =>
      match Bj P e, Fh P e, Dw P e with
      | some s, some b, some z => if s == z.length&&0<s&&0<b then some (.mksl b (Lh z) z l c) else none
      | _, _, _ => none
    | _, _, _ => none
  | .slice t x none (some hi) (some mx) =>
    match P.underlying t, AH N x, AH N hi, AH N mx with
    | some (.slice e), some x, some hi, some mx => (Bj P e).map fun s => .slL (s+4294967296) x (some mx) (some hi)
    | _, _, _, _ => none
  | .slice t x lo hi none =>
    match P.underlying t, AH N x, Et N lo, Et N hi with
    | some .string, some x, some lo, some hi => some (.slS x lo hi)
    | some (.slice e), some x, some lo, some hi => (Bj P e).bind fun s => if s<4294967296 then some (.slL s x lo hi) else none
    | some (.array m e), some x, some lo, some hi => (Bj P e).map fun s => .slA m s x lo hi
    | _, _, _, _ => none
  | .fieldAddr s x f =>
    match P.underlying s, AH N x with
    | some (.struct fs), some x => (fs[f]?).bind fun f => match Bj P f.type with
      | some (_+1) => some (.fad f.offset x)
      | _ => none
    | _, _ => none
  | .field s x f =>
    match P.underlying s, AH N x with
    | some (.struct fs), some x => (fs[f]?).bind fun f => match KO P f.type, Bj P f.type with
      | some ag, some sz => some (.fld f.offset sz ag x)
      | _, _ => none
    | _, _ => none
  | .indexAddr t x i =>
    match P.underlying t, AH N x, AH N i with
    | some (.slice e), some x, some i => (Bj P e).map fun s => .ixS s x i
    | some (.array m e), some x, some i => (Bj P e).map fun s => .ixA m s x i
    | _, _, _ => none
  | .index t x i =>
    match P.underlying t, AH N x, AH N i with
    | some .string, some x, some i => some (.idS x i)
    | some (.array m e), some x, some i => match KO P e, Bj P e with
      | some ag, some s => some (.idA m s ag x i)
      | _, _ => none
    | _, _, _ => none
  | .lookup t m k ok =>
    match P.underlying t, AH N m, AH N k with
    | some (.map kt e), some m, some k =>
      match HJ P kt, (P.info? e).bind (·.zero) with
      | some pl, some z => (J0 z).map fun z => .lk pl z ok m k
      | _, _ => none
    | _, _, _ => none
  | .mapUpdate t m k v | .insert t m k v =>
    match P.underlying t, AH N m, AH N k, AH N v with
    | some (.map kt _), some m, some k, some v => (HJ P kt).map fun pl => .mu pl m k v
    | _, _, _, _ => none
  | .extract x i => (AH N x).map fun x => .ext i x
  | .call c =>
    match c.callee, Bw N c.args.toList with
    | .builtin b, some args => F7 P b c.argTypes args
    | .value (.func f), some args => some (.call f args)
    | .value x, some args => (AH N x).map fun x => .calld x args
    | _, _ => none
  | _ => none
/-- An operation, its guard read off the region's other operations. -/
def Jp (ops:Array Oper) (o:Oper):Option AOp :=
  match (match o.dst with | none => some none | some d => (GL N d).map some:Option (Option K2)),
    (match o.guard with | none => some none | some (j, w) => ((ops[j]?).bind (·.dst)).bind fun d => (GL N d).map fun s => some (s, w):Option (Option (K2×Bool))) with
  | some d, some g => some ⟨d, g, (Fs P N o).getD (.bad o.pos)⟩
  | _, _ => none
def HM (ops:Array Oper):List Oper->Option (List AOp)
  | [] => some []
  | o::l => match Jp P N ops o, HM ops l with
    | some x, some xs => some (x::xs)
    | _, _ => none
/-- 0: it hangs on registers alone; 1: it reads; 2: it makes memory; 3: it does more. -/
def AK.sort:AK->Nat
  | .ld _ | .ldn _ _ | .b2s _ | .slA _ _ _ _ _ | .lk _ _ _ _ _ | .lnM _ => 1
  | .alc _ | .box _ | .bslice _ _ _ _ _ | .s2b _ | .mkmap | .mksl _ _ _ _ _ => 2
  | .st _ _ _ | .mu _ _ _ _ | .del _ _ _ | .call _ _ | .calld _ _ | .app _ _ _ _ | .appz _ _ _ _ _ _ | .cpy _ _ _ | .clr _ _ _ | .bsl _ | .bad _ => 3
  | _ => 0
def Dg (o:Oper):List Nat := o.after.toList.filterMap fun e => if Region.binds .any e then some e.on else none
/-- Of each operation all that stand ahead of it, as bits. -/
def Adx (deps:List (List Nat)):List Nat :=
  deps.foldl (fun acc ds => acc++[ds.foldl (fun s d => s ||| 2 ^ d ||| acc.getD d 0) 0]) []
def AK.opds:AK->List Opd
  | .mv x | .box x | .ld x | .ldn _ x | .nilck x | .not x | .neg x | .com x | .cvi _ x | .b2s x | .s2b x | .idn x | .bsl x | .fad _ x | .fld _ _ _ x | .ext _ x | .lnS x | .lnL x | .lnM x | .cpL x | .clr _ _ x => [x]
  | .pick c a b | .max3 c a b => [c, a, b]
  | .alc _ | .mkmap | .bad _ => []
  | .build _ ps | .bslice _ _ _ _ ps => ps.map (·.x)
  | .st _ a x | .bin _ a x | .eq _ _ a x | .ixS _ a x | .ixA _ _ a x | .idS a x | .idA _ _ _ a x | .lk _ _ _ a x | .del _ a x | .min a x | .max a x | .app _ _ a x | .appz _ _ _ _ a x | .cpy _ a x
  | .mksl _ _ _ a x => [a, x]
  | .mu _ m k v => [m, k, v]
  | .mkfn _ l | .call _ l => l
  | .calld x l => x::l
  | .slS x lo hi | .slL _ x lo hi | .slA _ _ x lo hi => x::(lo.toList++hi.toList)
def K2.beq (p q:K2):Bool := and (p.b.beq q.b) (p.a.beq q.a)
def Ux (p:K2) (l:List K2):Bool := l.any (K2.beq p)
/-- The registers that an operation reads. -/
def AOp.slots (o:AOp):List K2 :=
  (o.k.opds.filterMap fun x => match x with | .t p => some p | .c _ => none)++(match o.g with | some (p, _) => [p] | none => [])
/-- The items of a drawn region, told by numbers. -/
inductive SI where
  | rd (i:Nat)
  | ef (i:Nat)
  | al (i:Nat) (j:D)
  | ck (i:Nat)
  | no (j:D)
  | rn (i a:Nat) (j:D)
def SI.ix:SI->Option Nat
  | .rd i => some i
  | .ef i => some i
  | .al i _ => some i
  | .rn i _ _ => some i
  | _ => none
def SI.isEf:SI->Bool
  | .ef _ => true
  | _ => false
def SI.isAl:SI->Bool
  | .al _ _ => true
  | _ => false
/-- What is read here, first or again. -/
def SI.reads:SI->Option Nat
  | .rd i => some i
  | .ck i => some i
  | _ => none
def SI.isCk (i:Nat):SI->Bool
  | .ck j => Nat.beq i j
  | _ => false
def Cm:AOp := ⟨none, none, .bad "no such operation"⟩
def L0 (os:List AOp):SI->Item
  | .rd i => .rd i (os.getD i Cm)
  | .ef i => .ef i (os.getD i Cm)
  | .al i j => .al i j (os.getD i Cm)
  | .ck i => .ck i (os.getD i Cm)
  | .no j => .no j
  | .rn i _ j => .rn i j (os.getD i Cm)
/-- What is E1 of a drawn region: sorts, registers written and read, what each hangs on, ancestors, the items. -/
structure Plot where
  so:List Nat
  ds:List (Option K2)
  sl:List (List K2)
  de:List (List Nat)
  an:List Nat
  sk:List SI
namespace Plot
variable (p:Plot)
def m:Nat := p.so.length
def sort (i:Nat):Nat := p.so.getD i 9
def dst (i:Nat):Option K2 := p.ds.getD i none
def slots (i:Nat):List K2 := p.sl.getD i []
def deps (i:Nat):List Nat := p.de.getD i []
def anc (i d:Nat):Bool := (p.an.getD i 0).testBit d
def pos (i:Nat):Nat := p.sk.findIdx fun x => match x.ix with | some j => Nat.beq i j | none => false
/-- How many effects stand ahead of a place. -/
def bat (l:Nat):Nat := ((p.sk.take l).filter SI.isEf).length
def effs:List Nat := p.sk.filterMap fun x => match x with | .ef i => some i | _ => none
def all (f:Nat->Bool):Bool := (List.range p.m).all f
/-- What depends on nothing but its number, kept. -/
structure Tab where
  po:List Nat
  ba:List Nat
  ef:List Nat
def tab:Tab := ⟨(List.range p.m).map p.pos, (List.range (p.sk.length+1)).map p.bat, p.effs⟩
def writes (w:Nat) (l:List K2):Bool := match p.dst w with | some d => Ux d l | none => false
def okDst:Bool := p.all fun i => p.all fun j => Nat.beq i j || match p.dst i with | some d => !(match p.dst j with | some e => d.beq e | none => false) | none => true
def okDeps:Bool := p.all fun i => (p.deps i).all fun d => Nat.blt d i
def okAnc:Bool := p.all fun i => p.all fun d => !p.anc i d || (p.deps i).any fun c => Nat.beq c d || p.anc c d
def okPos (t:Tab):Bool := p.all fun i => match p.sk[t.po.getD i 0]? with
  | some (.ef j) => Nat.beq i j&&Nat.beq (p.sort i) 3
  | some (.al j _) => Nat.beq i j&&Nat.beq (p.sort i) 2
  | some (.rd j) => Nat.beq i j&&Nat.ble (p.sort i) 1
  | some (.rn j a d) => Nat.beq i j&&(Nat.ble (p.sort i) 1&&(Nat.blt a p.m&&(p.anc i a&&(Nat.blt (t.po.getD a 0) (t.po.getD i 0)&&(Nat.beq (t.ba.getD (t.po.getD a 0) 0) (t.ba.getD (t.po.getD i 0) 0) &&
      match p.sk[t.po.getD a 0]? with | some (.al a' d') => Nat.beq a a'&&d.beq d' | _ => false)))))
  | _ => false
def okUniq (t:Tab):Bool := (List.range p.sk.length).all fun l => match p.sk[l]? with
  | some x => match x.ix with
    | some i => Nat.blt i p.m&&Nat.beq (t.po.getD i 0) l
    | none => match x with
      | .ck i => Nat.blt i p.m&&Nat.blt (t.po.getD i 0) l&&Nat.ble (p.sort i) 1
      | _ => true
  | none => false
def okSlots (t:Tab):Bool := p.all fun i => p.all fun w => !p.writes w (p.slots i) || (!Nat.beq i w&&((p.anc i w&&Nat.blt (t.po.getD w 0) (t.po.getD i 0)) ||
  (p.anc w i&&Nat.blt (t.po.getD i 0) (t.po.getD w 0)&&(List.range p.sk.length).all fun l => match p.sk[l]? with | some x => !x.isCk i || Nat.blt l (t.po.getD w 0) | none => true)))
def okEff (t:Tab):Bool := t.ef.all fun i => t.ef.all fun j => !Nat.blt (t.po.getD i 0) (t.po.getD j 0) || p.anc j i
/-- With j effects done the operation cannot be next. -/
def never (t:Tab) (i j:Nat):Bool := t.ef.any fun e => (p.anc i e&&Nat.ble j (t.ba.getD (t.po.getD e 0) 0)) || (p.anc e i&&Nat.blt (t.ba.getD (t.po.getD e 0) 0) j)
/-- What was Lr in a later batch, or in this one, is read. -/
def fresh (t:Tab) (i j:Nat):Bool := match p.sk[t.po.getD i 0]? with | some (.rn _ a _) => Nat.ble j (t.ba.getD (t.po.getD a 0) 0) | _ => false
def okRead (t:Tab):Bool := p.all fun i => !Nat.beq (p.sort i) 1 || (List.range (t.ef.length+1)).all fun j => p.never t i j || p.fresh t i j ||
  (List.range p.sk.length).any fun l => Nat.beq (t.ba.getD l 0) j&&match p.sk[l]? with | some x => (match x.reads with | some i' => Nat.beq i i' | none => false) | none => false
def okAl (t:Tab):Bool := p.all fun i => !Nat.beq (p.sort i) 2 || match p.sk[t.po.getD i 0]? with
  | some (.al _ d) => ((List.range (t.ef.length+1)).all fun j => if Nat.ble j (t.ba.getD (t.po.getD i 0) 0) then
        (List.range p.sk.length).any fun l => Nat.beq (t.ba.getD l 0) j&&match p.sk[l]? with | some (.no d') => d.beq d' | _ => false
      else t.ef.any fun e => p.anc e i&&Nat.blt (t.ba.getD (t.po.getD e 0) 0) j) &&
    p.all fun i' => Nat.beq i i' || match p.sk[t.po.getD i' 0]? with | some (.al _ d') => !d.beq d' | _ => true
  | _ => false
def ok:Bool :=
  let t := p.tab
  p.okDst&&(p.okDeps&&(p.okAnc&&(p.okPos t&&(p.okUniq t&&(p.okSlots t&&(p.okEff t&&(p.okRead t&&p.okAl t)))))))
end Plot
/-- How many of the effects stand ahead. -/
def Y2 (effs:List Nat) (anc:Nat):Nat := (effs.filter (anc.testBit ·)).length
/-- How many effects there are ahead of the first one that it stands ahead of. -/
def Yb (effs:List (Nat×Nat)) (i:Nat):Nat := (effs.takeWhile fun e => !e.2.testBit i).length
/-- The Na: effects as their number (from 1), readings as early as they may, what makes memory as late, the rest behind what it hangs on. -/
def Na (effs:List (Nat×Nat)):List (Nat×List Nat×Nat×Nat)->List Nat->List Nat
  | [], acc => acc
  | (i, deps, anc, sort)::l, acc =>
    let b := deps.foldl (fun m d => max m (acc.getD d 0)) 0
    let b := match sort with
      | 1 => max b (Y2 (effs.map (·.1)) anc)
      | 2 => max b (Yb effs i)
      | 3 => Y2 (effs.map (·.1)) anc+1
      | _ => b
    Na effs l (acc++[b])
/-- The plot of a region. -/
def WU (so:List Nat) (de:List (List Nat)) (an:List Nat) (ro:List (Option Nat)):List SI :=
  let idx := List.range so.length
  let ef := (idx.filter fun i => so.getD i 0 == 3).map fun i => (i, an.getD i 0)
  let ba := Na ef (idx.map fun i => (i, de.getD i [], an.getD i 0, so.getD i 0)) []
  let al := idx.filter fun i => so.getD i 0 == 2
  let dig := fun i => D.ofN (al.takeWhile (· != i)).length
  let item := fun i => if so.getD i 0 == 2 then SI.al i (dig i) else match ro.getD i none with
    | some a => if so.getD i 0 == 1&&ba.getD i 0 == ba.getD a 0 then SI.rn i a (dig a) else SI.rd i
    | none => SI.rd i
  (List.range (ef.length+1)).flatMap fun j =>
    ((idx.filter fun i => so.getD i 0 == 3&&ba.getD i 0 == j).map SI.ef) ++
    ((al.filter fun i => Nat.ble j (ba.getD i 0)).map fun i => SI.no (dig i)) ++
    ((idx.filter fun i => so.getD i 0 != 3&&ba.getD i 0 == j).map item) ++
    ((idx.filter fun i => so.getD i 0 == 1&&Nat.blt (ba.getD i 0) j&&Nat.ble j (Yb ef i)).map SI.ck)
/-- What an operation reads, or leads to. -/
def AK.base:AK->Option K2
  | .ld (.t p) | .ldn _ (.t p) | .b2s (.t p) | .slA _ _ (.t p) _ _ | .lk _ _ _ (.t p) _ | .lnM (.t p) | .ixS _ (.t p) _ | .ixA _ _ (.t p) _ | .fad _ (.t p) | .slL _ (.t p) _ _ | .nilck (.t p) | .idn (.t p) => some p
  | _ => none
/-- The operation that Lr what is read. -/
def U8 (os:List AOp):Nat->Nat->Option Nat
  | 0, _ => none
  | fuel+1, i => match os[i]? with
    | some o => match o.k.base with
      | some q =>
        let j := os.findIdx fun x => match x.dst with | some d => d.beq q | none => false
        match os[j]? with
        | some x => if x.k.sort == 2 then some j else if Nat.blt j i then U8 os fuel j else none
        | none => none
      | none => none
    | none => none
def Co (deps:List (List Nat)) (os:List AOp):Plot :=
  let so := os.map (·.k.sort)
  let an := Adx deps
  ⟨so, os.map (·.dst), os.map AOp.slots, deps, an, WU so deps an ((List.range so.length).map fun i => if so.getD i 0 == 1 then U8 os 6 i else none)⟩
def CC (ops:Array Oper) (draw:Bool):AC :=
  match HM P N ops ops.toList with
  | none => .bad "a region of it registers"
  | some os =>
    if draw then
      let p := Co (ops.toList.map Dg) os
      if p.ok then .drawn (p.sk.any SI.isAl) (p.sk.map (L0 os)) else .bad "a region of it order"
    else .ops os
/-- Functions whose result hangs on the order in which a map tells its keys. -/
def WK (f:FuncId):Bool := match P.funcs[f]? with
  | some fn => fn.origin == "slices.Collect" || fn.origin == "slices.AppendSeq" || fn.name == "stillroom/stillroomtop.small"
  | none => false
def ZB (o:Oper):Option Sp := match o.op with
  | .range ty x => match P.underlying ty with | some (.map _ _) => (AH N x).map .rng | _ => none
  | .next x s => if s then none else (AH N x).map .nxt
  | .entry x => (AH N x).map .ent
  | .call ct => match ct.callee with
    | .value (.func f) => if WK P f then (Bw N ct.args.toList).map (.tcl f) else none
    | .value (.tmp s) => match AH N (.tmp s), Bw N ct.args.toList with
      | some x, some l => some (.dcl x l)
      | _, _ => none
    | _ => none
  | _ => none
def WQ (o:Oper):Option (Option K2) := match o.dst with | none => some none | some d => (GL N d).map some
def P1 (ops:Array Oper):List Oper->Option (List AOp×Sp×Option K2×List AOp)
  | [] => none
  | o::l => match ZB P N o with
    | some sp => match o.guard, WQ N o, HM P N ops l with
      | none, some d, some post => some ([], sp, d, post)
      | _, _, _ => none
    | none => match P1 ops l with
      | none => none
      | some r => match Jp P N ops o with
        | some x => some (x::r.1, r.2)
        | none => none
def UX (ops:Array Oper) (draw:Bool):AC :=
  if draw then CC P N ops true else match P1 P N ops ops.toList with
  | some r => .spl r.1 r.2.1 r.2.2.1 r.2.2.2
  | none => CC P N ops false
def B8:Code->AC
  | .skip => .skip
  | .region _ ops draw => UX P N ops draw
  | .seq a b => .seq (B8 a) (B8 b)
  | .cond c a b => match AH N c with
    | some c => .cond c (B8 a) (B8 b)
    | none => .bad "a test"
  | .block id b => .block id (B8 b)
  | .loop b => .loop (B8 b)
  | .exit id => .exit id
  | .label _ => .skip
  | .ret => .ret
  | .rangeFunc _ _ _ _ => .bad "a range over a function"
  | .scope _ => .bad "a scope"
  | .goto _ => .bad "a goto"
  | .refuse why => .bad why
def FW:List Nat->Option (List K2)
  | [] => some []
  | t::l => match GL N t, FW l with
    | some x, some xs => some (x::xs)
    | _, _ => none
def CK:List ResultVar->Option (List ARes)
  | [] => some []
  | .tmp t::l => match GL N t, CK l with
    | some x, some xs => some (.tmp x::xs)
    | _, _ => none
  | .cell t ty::l => match GL N t, KO P ty, Bj P ty, CK l with
    | some x, some ag, some m, some xs => some (.cel x (if ag then some m else none)::xs)
    | _, _, _, _ => none
end
/-- A function. -/
def Kv (P:Program) (f:FuncId):Option AFn :=
  match P.funcs[f]? with
  | some fn =>
    match fn.body, FW fn.ntmps (List.range (fn.params.size+fn.nfree)), CK P fn.ntmps fn.results.toList with
    | some c, some ps, some rs => if fn.name == "runtime.NumGoroutine" then none else some ⟨ps, B8 P fn.ntmps c, rs⟩
    | _, _, _ => none
  | none => none
end Go.Ev

namespace Go.Ev
set_option linter.unusedVariables false
section
variable {ρ:Env}
def AT.le (φ φ':AT):Prop := ∀ p x, φ p=some x->φ' p=some x
theorem AT.le_refl (φ:AT):AT.le φ φ := fun _ _ h => h
theorem AT.le_trans {a b c:AT} (h:AT.le a b) (k:AT.le b c):AT.le a c := fun p x hx => k p x (h p x hx)
mutual
theorem Fa {φ φ':AT} (h:AT.le φ φ'):∀ {v:V} {x:Value}, As ρ φ v x->As ρ φ' v x
  | .int _ _, _, r => by simpa only [As] using r
  | .bool _, _, r => by simpa only [As] using r
  | .ptr _ _, _, r => by
    simp only [As] at r ⊢
    obtain ⟨b, s, tot, hp, e⟩ := r
    exact ⟨b, s, tot, h _ _ hp, e⟩
  | .sl _ _ _ _ _ _, _, r => by
    simp only [As] at r ⊢
    obtain ⟨b, s, tot, o, c, hp, e⟩ := r
    exact ⟨b, s, tot, o, c, h _ _ hp, e⟩
  | .str _ _, _, r => by simpa only [As] using r
  | .agg l, _, r => by
    simp only [As] at r ⊢
    obtain ⟨cs, e, hl, ho⟩ := r
    exact ⟨cs, e, FZ h hl, ho⟩
  | .nil _, _, r => by simpa only [As] using r
  | .map _, _, r => by
    simp only [As] at r ⊢
    obtain ⟨b, s, tot, hp, e⟩ := r
    exact ⟨b, s, tot, h _ _ hp, e⟩
  | .fn _ l, _, r => by
    simp only [As] at r ⊢
    obtain ⟨cs, e, hl⟩ := r
    exact ⟨cs, e, FZ h hl⟩
  | .tup l, _, r => by
    simp only [As] at r ⊢
    obtain ⟨cs, e, hl⟩ := r
    exact ⟨cs, e, FZ h hl⟩
  | .oth o, _, r => by
    cases o with
    | yl p =>
      simp only [As] at r ⊢
      obtain ⟨b, s, tot, hp, e⟩ := r
      exact ⟨b, s, tot, h _ _ hp, e⟩
    | _ => simp only [As] at r ⊢ <;> exact r
theorem FZ {φ φ':AT} (h:AT.le φ φ'):∀ {l:List V} {xs:List Value}, By ρ φ l xs->By ρ φ' l xs
  | [], _, r => by simpa only [By] using r
  | v::l, _, r => by
    simp only [By] at r ⊢
    obtain ⟨y, ys, e, hy, hys⟩ := r
    exact ⟨y, ys, e, Fa h hy, FZ h hys⟩
end
theorem AF {φ:AT} {xs:List Value}:By ρ φ [] xs ↔ xs=[] := by simp only [By]
theorem Aw {φ:AT} {v:V} {l:List V} {xs:List Value}:By ρ φ (v::l) xs ↔ ∃ y ys, xs=y::ys∧As ρ φ v y∧By ρ φ l ys := by simp only [By]
theorem B5 {φ:AT} {l:List V}:∀ {xs:List Value}, By ρ φ l xs->xs.length=l.length := by
  induction l with
  | nil => intro xs h; rw [AF] at h; rw [h]; rfl
  | cons v l ih => intro xs h; obtain ⟨y, ys, rfl, _, h⟩ := Aw.1 h; simp [ih h]
theorem Cr {φ:AT} {l:List V}:∀ {xs:List Value}, By ρ φ l xs ↔ xs.length=l.length ∧ ∀ (i:Nat) (v:V), l[i]? = some v->∃ x, xs[i]? = some x∧As ρ φ v x := by
  induction l with
  | nil =>
    intro xs; rw [AF]; constructor
    · rintro rfl; exact ⟨rfl, fun i v h => by simp at h⟩
    · rintro ⟨h, _⟩; exact List.eq_nil_of_length_eq_zero h
  | cons v l ih =>
    intro xs
    rw [Aw]
    constructor
    · rintro ⟨y, ys, rfl, hy, hys⟩
      obtain ⟨h1, h2⟩ := ih.1 hys
      refine ⟨by simp [h1], fun i u hu => ?_⟩
      cases i with
      | zero => simp at hu; subst hu; exact ⟨y, rfl, hy⟩
      | succ i => simpa using h2 i u (by simpa using hu)
    · rintro ⟨h1, h2⟩
      cases xs with
      | nil => simp at h1
      | cons y ys =>
        obtain ⟨x, hx, hr⟩ := h2 0 v rfl
        simp at hx; subst hx
        exact ⟨y, ys, rfl, hr, ih.2 ⟨by simpa using h1, fun i u hu => by simpa using h2 (i+1) u (by simpa using hu)⟩⟩
theorem FI {φ:AT} {a b:List V} {xs ys:List Value} (h:By ρ φ a xs) (k:By ρ φ b ys):By ρ φ (a++b) (xs++ys) := by
  induction a generalizing xs with
  | nil => rw [AF] at h; subst h; exact k
  | cons v a ih => obtain ⟨y, zs, rfl, hy, h⟩ := Aw.1 h; exact Aw.2 ⟨y, zs++ys, rfl, hy, ih h⟩
theorem J3 {φ:AT} {a:List V} {xs:List Value} (h:By ρ φ a xs) (k:Nat):By ρ φ (a.drop k) (xs.drop k) := by
  induction k generalizing a xs with
  | zero => simpa using h
  | succ k ih => cases a with
    | nil => rw [AF] at h; subst h; simpa using AF.2 rfl
    | cons v a => obtain ⟨y, zs, rfl, hy, h⟩ := Aw.1 h; simpa using ih h
theorem Jb {φ:AT} {a:List V} {xs:List Value} (h:By ρ φ a xs) (k:Nat):By ρ φ (a.take k) (xs.take k) := by
  induction k generalizing a xs with
  | zero => simpa using AF.2 rfl
  | succ k ih => cases a with
    | nil => rw [AF] at h; subst h; simpa using AF.2 rfl
    | cons v a => obtain ⟨y, zs, rfl, hy, h⟩ := Aw.1 h; simpa using Aw.2 ⟨y, zs.take k, rfl, hy, ih h⟩
/-- Symbols stand for values of one cell. -/
def Bo (ρ:Env):Prop := ∀ i, (ρ.v i).oneCell'=true
theorem Hn {φ:AT} (hρ:Bo ρ) {v:V} (hv:v.celled) {x:Value} (h:As ρ φ v x) :
    By ρ φ v.cl x.cells.toList ∧ ∀ y∈x.cells.toList, y.oneCell'=true := by
  cases v with
  | agg l =>
    simp only [As] at h
    obtain ⟨cs, rfl, hl, ho⟩ := h
    exact ⟨hl, ho⟩
  | tup l => exact hv.elim
  | int k r =>
    have h' := h; simp only [As] at h'; obtain ⟨_, rfl⟩ := h'
    exact ⟨Aw.2 ⟨_, [], rfl, h, AF.2 rfl⟩, by simp [Value.cells, Value.oneCell']⟩
  | bool b =>
    have h' := h; simp only [As] at h'; subst h'
    exact ⟨Aw.2 ⟨_, [], rfl, h, AF.2 rfl⟩, by simp [Value.cells, Value.oneCell']⟩
  | ptr p o =>
    have h' := h; simp only [As] at h'; obtain ⟨_, _, _, _, rfl⟩ := h'
    exact ⟨Aw.2 ⟨_, [], rfl, h, AF.2 rfl⟩, by simp [Value.cells, Value.oneCell']⟩
  | sl p o l c e z =>
    have h' := h; simp only [As] at h'; obtain ⟨_, _, _, _, _, _, rfl, _⟩ := h'
    exact ⟨Aw.2 ⟨_, [], rfl, h, AF.2 rfl⟩, by simp [Value.cells, Value.oneCell']⟩
  | str n c =>
    have h' := h; simp only [As] at h'; obtain ⟨_, rfl, _⟩ := h'
    exact ⟨Aw.2 ⟨_, [], rfl, h, AF.2 rfl⟩, by simp [Value.cells, Value.oneCell']⟩
  | nil w =>
    have h' := h; simp only [As] at h'; subst h'
    exact ⟨Aw.2 ⟨_, [], by cases w <;> rfl, h, AF.2 rfl⟩, by cases w <;> simp [Ci, Value.cells, Value.oneCell']⟩
  | map p =>
    have h' := h; simp only [As] at h'; obtain ⟨_, _, _, _, rfl⟩ := h'
    exact ⟨Aw.2 ⟨_, [], rfl, h, AF.2 rfl⟩, by simp [Value.cells, Value.oneCell']⟩
  | fn f l =>
    have h' := h; simp only [As] at h'; obtain ⟨_, rfl, _⟩ := h'
    exact ⟨Aw.2 ⟨_, [], rfl, h, AF.2 rfl⟩, by simp [Value.cells, Value.oneCell']⟩
  | oth o =>
    cases o with
    | any => exact hv.elim
    | yl p => exact hv.elim
    | no => exact hv.elim
    | sym i =>
      have h' := h; simp only [As] at h'; subst h'
      have hone := hρ i
      have hc:(ρ.v i).cells = #[ρ.v i] := by
        cases hx:ρ.v i <;> first | rfl | (rw [hx] at hone; simp [Value.oneCell'] at hone)
      rw [hc]
      exact ⟨Aw.2 ⟨_, [], rfl, h, AF.2 rfl⟩, by simpa using hone⟩
    | iv k lo hi =>
      have h' := h; simp only [As] at h'; obtain ⟨_, _, _, _, rfl⟩ := h'
      exact ⟨Aw.2 ⟨_, [], rfl, h, AF.2 rfl⟩, by simp [Value.cells, Value.oneCell']⟩
    | os lo hi =>
      have h' := h; simp only [As] at h'; obtain ⟨_, _, _, rfl, _⟩ := h'
      exact ⟨Aw.2 ⟨_, [], rfl, h, AF.2 rfl⟩, by simp [Value.cells, Value.oneCell']⟩
    | bl =>
      have h' := h; simp only [As] at h'; obtain ⟨_, rfl⟩ := h'
      exact ⟨Aw.2 ⟨_, [], rfl, h, AF.2 rfl⟩, by simp [Value.cells, Value.oneCell']⟩
    | rs m j =>
      have h' := h; simp only [As] at h'; obtain ⟨_, rfl, _⟩ := h'
      exact ⟨Aw.2 ⟨_, [], rfl, h, AF.2 rfl⟩, by simp [Value.cells, Value.oneCell']⟩
    | ss lo hi n c =>
      have h' := h; simp only [As] at h'; obtain ⟨_, rfl, _⟩ := h'
      exact ⟨Aw.2 ⟨_, [], rfl, h, AF.2 rfl⟩, by simp [Value.cells, Value.oneCell']⟩
    | ro i lo hi z =>
      have h' := h; simp only [As] at h'; obtain ⟨_, _, _, _, _, _, _, rfl, _⟩ := h'
      exact ⟨Aw.2 ⟨_, [], rfl, h, AF.2 rfl⟩, by simp [Value.cells, Value.oneCell']⟩
    | ap i j m =>
      have h' := h; simp only [As] at h'; obtain ⟨_, _, _, _, _, rfl, _⟩ := h'
      exact ⟨Aw.2 ⟨_, [], rfl, h, AF.2 rfl⟩, by simp [Value.cells, Value.oneCell']⟩
    | sy k i =>
      have h' := h; simp only [As] at h'; obtain ⟨_, _, _, rfl⟩ := h'
      exact ⟨Aw.2 ⟨_, [], rfl, h, AF.2 rfl⟩, by simp [Value.cells, Value.oneCell']⟩
    | rb n c =>
      have h' := h; simp only [As, GK] at h'; obtain ⟨_, _, rfl, _⟩ := h'
      exact ⟨Aw.2 ⟨_, [], rfl, h, AF.2 rfl⟩, by simp [Value.cells, Value.oneCell']⟩
    | rx l m z =>
      have h' := h; simp only [As] at h'; obtain ⟨_, _, rfl, _⟩ := h'
      exact ⟨Aw.2 ⟨_, [], rfl, h, AF.2 rfl⟩, by simp [Value.cells, Value.oneCell']⟩
    | rp l =>
      have h' := h; simp only [As] at h'; obtain ⟨_, _, _, _, _, rfl, _⟩ := h'
      exact ⟨Aw.2 ⟨_, [], rfl, h, AF.2 rfl⟩, by simp [Value.cells, Value.oneCell']⟩
theorem S8 {ρ:Env} {v:RV} {x:Value} (h:GK ρ v x):x.oneCell'=true := by
  cases v with
  | i k r => obtain ⟨_, rfl⟩ := h; rfl
  | b b => obtain rfl:x=_ := h; rfl
  | s n c => obtain ⟨_, rfl, _⟩ := h; rfl
  | y n c => obtain ⟨_, _, rfl, _⟩ := h; rfl
  | nl => obtain rfl:x=_ := h; rfl
/-- The values of cells that stay. -/
theorem Kq {ρ:Env} {φ:AT} {l:List RV} {ce:Array Value} {o:Nat} (h:QD ρ l ce o):∃ vs:List Value, vs.length=l.length∧(∀ j v, vs[j]? = some v->ce[o+j]? = some v)∧(∀ x∈vs, x.oneCell'=true)∧By ρ φ (l.map RV.v) vs := by
  induction l generalizing o with
  | nil => exact ⟨[], rfl, (fun j v h => by simp at h), (fun x h => by simp at h), AF.2 rfl⟩
  | cons v l ih =>
    obtain ⟨y, y1, y2⟩ := h 0 v rfl
    obtain ⟨vs, a1, a2, a3, a4⟩ := ih (o := o+1) fun j u hu => by
      obtain ⟨z, z1, z2⟩ := h (j+1) u (by simpa using hu)
      exact ⟨z, by rw [Nat.add_assoc, Nat.add_comm 1]; exact z1, z2⟩
    refine ⟨y::vs, by simp [a1], fun j u hu => ?_, fun x hx => ?_, Aw.2 ⟨y, vs, rfl, NI y2, a4⟩⟩
    · cases j with
      | zero => simp at hu; subst hu; exact y1
      | succ j =>
        have := a2 j u (by simpa using hu)
        rw [Nat.add_assoc, Nat.add_comm 1] at this; exact this
    · rcases List.mem_cons.1 hx with rfl | hx
      · exact S8 y2
      · exact a3 x hx
def Cf:Ob->Option K4
  | .c _ _ p => p
  | _ => none
def Jh:Ob->Bool
  | .c _ s _ => s
  | _ => false
/-- The bytes that may not be written lie behind the cells. -/
def WE (fr:Nat×Nat) (tot:Nat):Prop := fr.1=fr.2∨tot≤fr.1
def H5 (ρ:Env) (φ:AT):List (V×V)->List MapEntry->Prop
  | [], l => l=[]
  | e::es, l => ∃ y ys, l=y::ys∧As ρ φ e.1 y.key∧As ρ φ e.2 y.val∧H5 ρ φ es ys
def EV (ρ:Env) (φ:AT) (cs:Cs) (f:Nat->Option Value):Prop :=
  ∀ i v, cs.at i=some v->∃ x, f i=some x∧As ρ φ v x∧x.oneCell'=true
def GE (ρ:Env) (φ:AT) (w:World) (o:Ob) (b s tot:Nat):Prop :=
  match o with
  | .c cs _ _ => ∃ c e fr, w.heap[b]? = some (.cells c e fr)∧c.size=tot∧s+cs.len≤tot∧WE fr tot∧EV ρ φ cs fun i => c[s+i]?
  | .m es bs clk => ∃ ents, w.heap[b]? = some (.map ents clk)∧H5 ρ φ es ents.toList∧ents.toList.map (·.born)=bs
  | .it p since seen c => ∃ bm sm tm, φ p=some (bm, sm, tm)∧s=0∧w.heap[b]? = some (.mapIter (some bm) since seen.reverse.toArray c)
  | .it0 => s=0∧w.heap[b]? = some (.mapIter none 0 #[] 0)
  | .lp f box => s=0 ∧ ∃ (A:ApC) (fn:FuncId) (tmps:Array Value) (D:Nat), ρ.ap f=some A∧w.heap[b]? = some (.loop { state := .ready, pending := none, fn, tmps, params := #[A.par], assign := A.asg, body := A.bod, defers := D }) ∧
      tmps.size=A.ntm∧As ρ φ (.ptr box 0) (tmps.getD A.box undef)
theorem R5 {φ φ':AT} (h:AT.le φ φ') {es:List (V×V)}:∀ {l:List MapEntry}, H5 ρ φ es l->H5 ρ φ' es l := by
  induction es with
  | nil => exact fun h => h
  | cons e es ih => rintro l ⟨y, ys, rfl, h1, h2, h3⟩; exact ⟨y, ys, rfl, Fa h h1, Fa h h2, ih h3⟩
theorem G9 {φ φ':AT} (h:AT.le φ φ') {cs:Cs} {f:Nat->Option Value} (k:EV ρ φ cs f):EV ρ φ' cs f :=
  fun i v hv => let ⟨x, h1, h2, h3⟩ := k i v hv; ⟨x, h1, Fa h h2, h3⟩
theorem E6 {φ φ':AT} (h:AT.le φ φ') {w:World} {o:Ob} {b s tot:Nat} (k:GE ρ φ w o b s tot):GE ρ φ' w o b s tot := by
  cases o with
  | c cs sup prev =>
    obtain ⟨c, e, fr, h1, h2, h3, h4, h5⟩ := k
    exact ⟨c, e, fr, h1, h2, h3, h4, G9 h h5⟩
  | m es bs clk =>
    obtain ⟨ents, h1, h2, h3⟩ := k
    exact ⟨ents, h1, R5 h h2, h3⟩
  | it p since seen c =>
    obtain ⟨bm, sm, tm, h1, h2, h3⟩ := k
    exact ⟨bm, sm, tm, h _ _ h1, h2, h3⟩
  | it0 => exact k
  | lp f box =>
    obtain ⟨h0, A, fn, tmps, D, h1, h2, h3, h4⟩ := k
    exact ⟨h0, A, fn, tmps, D, h1, h2, h3, Fa h h4⟩
theorem Cp {φ:AT} {w w':World} {o:Ob} {b s tot:Nat} (h:w'.heap[b]? = w.heap[b]?) (k:GE ρ φ w o b s tot):GE ρ φ w' o b s tot := by
  cases o with
  | c cs sup prev => obtain ⟨c, e, fr, h1, h2⟩ := k; exact ⟨c, e, fr, h.trans h1, h2⟩
  | m es bs clk => obtain ⟨ents, h1, h2⟩ := k; exact ⟨ents, h.trans h1, h2⟩
  | it p since seen c => obtain ⟨bm, sm, tm, h1, h2, h3⟩ := k; exact ⟨bm, sm, tm, h1, h2, h.trans h3⟩
  | it0 => exact ⟨k.1, h.trans k.2⟩
  | lp f box => obtain ⟨h0, A, fn, tmps, D, h1, h2, h3⟩ := k; exact ⟨h0, A, fn, tmps, D, h1, h.trans h2, h3⟩
structure Gam (ρ:Env) (B:Nat) (h:Heap) (n:K4) (φ:AT) (w:World):Prop where
  base:B≤w.heap.size
  dom:∀ p x, φ p=some x->p.toN<n.toN
  blk:∀ p b s tot, φ p=some (b, s, tot)->B≤b∧b<w.heap.size
  obj:∀ p o b s tot, A8 p h=some o->φ p=some (b, s, tot)->GE ρ φ w o b s tot
  sep:∀ p q o o' b s tot s' tot', p≠q->A8 p h=some o->A8 q h=some o'->φ p=some (b, s, tot)->φ q=some (b, s', tot')->Cf o=some q∨Cf o'=some p
  sup:∀ p q o o' b s tot s' tot', A8 p h=some o->Cf o=some q->A8 q h=some o'->φ p=some (b, s, tot)->φ q=some (b, s', tot')->Jh o'=true
  glob:∀ b c e fr, ρ.gl b=some (c, e, fr)->b<B∧w.heap[b]? = some (.cells c e fr)
/-- What a step leaves as it was. -/
structure Fr (h h':Heap) (φ φ':AT) (n n':K4) (w w':World):Prop where
  ext:AT.le φ φ'
  new:∀ p x, φ' p=some x->φ p=some x∨(n.toN≤p.toN∧p.toN<n'.toN)
  nn:n.toN≤n'.toN
  os:w'.os=w.os
  tape:w'.tape=w.tape
  out:w'.output=w.output
  size:w.heap.size≤w'.heap.size
  old:∀ b, b<w.heap.size->(∀ p s tot, φ p=some (b, s, tot)->A8 p h=none)->w'.heap[b]? = w.heap[b]?
  fresh:∀ p b s tot, φ' p=some (b, s, tot)->φ p=some (b, s, tot)∨w.heap.size≤b ∨ ∃ q s' tot', φ q=some (b, s', tot')∧A8 q h≠none
  dm:∀ p, φ p≠none->A8 p h=none->A8 p h'=none
theorem Fr.refl (h:Heap) (φ:AT) (n:K4) (w:World):Fr h h φ φ n n w w :=
  ⟨AT.le_refl φ, fun _ _ h => .inl h, Nat.le_refl _, rfl, rfl, rfl, Nat.le_refl _, fun _ _ _ => rfl, fun _ _ _ _ h => .inl h, fun _ _ h => h⟩
theorem Fr.trans {h h1 h2:Heap} {φ φ1 φ2:AT} {n n1 n2:K4} {w w1 w2:World} (a:Fr h h1 φ φ1 n n1 w w1) (c:Fr h1 h2 φ1 φ2 n1 n2 w1 w2):Fr h h2 φ φ2 n n2 w w2 where
  ext := AT.le_trans a.ext c.ext
  new := fun p x hx => by
    rcases c.new p x hx with h' | ⟨h1, h2⟩
    · rcases a.new p x h' with h' | ⟨h1, h2⟩
      · exact .inl h'
      · exact .inr ⟨h1, Nat.lt_of_lt_of_le h2 c.nn⟩
    · exact .inr ⟨Nat.le_trans a.nn h1, h2⟩
  nn := Nat.le_trans a.nn c.nn
  os := c.os.trans a.os
  tape := c.tape.trans a.tape
  out := c.out.trans a.out
  size := Nat.le_trans a.size c.size
  old := fun b hb hn => by
    rw [←a.old b hb hn]
    refine c.old b (Nat.lt_of_lt_of_le hb a.size) fun p s tot hp => ?_
    rcases a.fresh p b s tot hp with h' | h' | ⟨q, s', tot', hq, hne⟩
    · exact a.dm p (by rw [h']; simp) (hn p s tot h')
    · omega
    · exact absurd (hn q s' tot' hq) hne
  fresh := fun p b s tot hp => by
    rcases c.fresh p b s tot hp with h' | h' | ⟨q, s', tot', hq, hne⟩
    · exact a.fresh p b s tot h'
    · exact .inr (.inl (Nat.le_trans a.size h'))
    · rcases a.fresh q b s' tot' hq with h' | h' | h'
      · refine .inr (.inr ⟨q, s', tot', h', fun hn => hne (a.dm q (by rw [h']; simp) hn)⟩)
      · exact .inr (.inl h')
      · exact .inr (.inr h')
  dm := fun p hp hn => c.dm p (by
    cases hx:φ p with
    | none => exact absurd hx hp
    | some x => rw [a.ext p x hx]; simp) (a.dm p hp hn)
/-- A draw. -/
theorem Fr.drew {h:Heap} {φ:AT} {n:K4} {w:World}:Fr h h φ φ n n w w.drew :=
  ⟨AT.le_refl φ, fun _ _ h => .inl h, Nat.le_refl _, rfl, rfl, rfl, Nat.le_refl _, fun _ _ _ => rfl, fun _ _ _ _ h => .inl h, fun _ _ h => h⟩
theorem Gam.drew {B:Nat} {h:Heap} {φ:AT} {n:K4} {w:World} (g:Gam ρ B h n φ w):Gam ρ B h n φ w.drew :=
  ⟨g.base, g.dom, g.blk, fun p o b s tot h1 h2 => Cp (w := w) rfl (g.obj p o b s tot h1 h2), g.sep, g.sup, g.glob⟩
/-- A greater next place. -/
theorem Gam.nx {B:Nat} {h:Heap} {φ:AT} {n n':K4} {w:World} (g:Gam ρ B h n φ w) (hn:n.toN≤n'.toN):Gam ρ B h n' φ w :=
  ⟨g.base, fun p x hx => Nat.lt_of_lt_of_le (g.dom p x hx) hn, g.blk, g.obj, g.sep, g.sup, g.glob⟩
def EG (φ:AT) (p:K4) (x:Nat×Nat×Nat):AT := fun q => if p.beq q then some x else φ q
theorem Cj (φ:AT) (p:K4) (x:Nat×Nat×Nat):EG φ p x p=some x := if_pos (K4.beq_iff.2 rfl)
theorem Hv {φ:AT} {p q:K4} {x:Nat×Nat×Nat} (h:p≠q):EG φ p x q=φ q := if_neg fun e => h (K4.beq_iff.1 e)
theorem D5 {φ:AT} {p:K4} {x:Nat×Nat×Nat} (h:φ p=none):AT.le φ (EG φ p x) := fun q y hy => by
  rw [Hv fun e => by rw [e, hy] at h; cases h]; exact hy
theorem AI {φ:AT} {p q:K4} {x y:Nat×Nat×Nat} (h:EG φ p x q=some y):(p=q∧x=y)∨(p≠q∧φ q=some y) := by
  by_cases e:p=q
  · subst e; rw [Cj] at h; exact .inl ⟨rfl, by simpa using h⟩
  · rw [Hv e] at h; exact .inr ⟨e, h⟩
theorem BA {h:Heap} {p q:K4} {o:Option Ob} {x:Ob} (k:A8 q (Af p h o)=some x):(p=q∧o=some x)∨(p≠q∧A8 q h=some x) := by
  by_cases e:p=q
  · subst e; rw [A6] at k; exact .inl ⟨rfl, k⟩
  · rw [A7 _ _ e] at k; exact .inr ⟨e, k⟩
/-- A new block. -/
theorem Gam.alloc {B:Nat} {h:Heap} {φ:AT} {n n' p:K4} {w:World} (g:Gam ρ B h n φ w) (hp:φ p=none) (hpn:p.toN<n'.toN) (hn:n.toN≤n'.toN)
    (o:Ob) (ho:Cf o=none) (O:Obj) (tot:Nat)
    (hok:∀ φ':AT, AT.le φ φ'->∀ w':World, w'.heap[w.heap.size]? = some O->GE ρ φ' w' o w.heap.size 0 tot) :
    Gam ρ B (Af p h (some o)) n' (EG φ p (w.heap.size, 0, tot)) (w.alloc O) where
  base := by have := g.base; rw [World.size_alloc]; omega
  glob := fun b c e fr hb => ⟨(g.glob b c e fr hb).1, by rw [Go.RowKit.Below.heap_alloc w O b (by have := (g.glob b c e fr hb).1; have := g.base; omega)]; exact (g.glob b c e fr hb).2⟩
  dom := fun q x hx => by
    rcases AI hx with ⟨rfl, _⟩ | ⟨_, hx⟩
    · exact hpn
    · exact Nat.lt_of_lt_of_le (g.dom q x hx) hn
  blk := fun q b s t hx => by
    rw [World.size_alloc]
    rcases AI hx with ⟨rfl, e⟩ | ⟨_, hx⟩
    · simp only [Prod.mk.injEq] at e; have := g.base; omega
    · have := g.blk q b s t hx; omega
  obj := fun q o' b s t hq hx => by
    rcases AI hx with ⟨rfl, e⟩ | ⟨hne, hx⟩
    · rw [A6] at hq
      simp only [Prod.mk.injEq] at e
      obtain ⟨rfl, rfl, rfl⟩ := e
      cases hq
      exact hok _ (D5 hp) _ (by show (w.heap.push O)[w.heap.size]? = some O; simp)
    · rw [A7 _ _ hne] at hq
      have hb := (g.blk q b s t hx).2
      refine Cp (w := w) ?_ (E6 (D5 hp) (g.obj q o' b s t hq hx))
      exact Go.RowKit.Below.heap_alloc w O b hb
  sep := fun q r o1 o2 b s t s' t' hne hq hr hx hy => by
    rcases AI hx with ⟨rfl, e⟩ | ⟨hpq, hx⟩
    · rcases AI hy with ⟨rfl, _⟩ | ⟨_, hy⟩
      · exact absurd rfl hne
      · simp only [Prod.mk.injEq] at e
        have := (g.blk r b s' t' hy).2; omega
    · rcases AI hy with ⟨rfl, e⟩ | ⟨hpr, hy⟩
      · simp only [Prod.mk.injEq] at e
        have := (g.blk q b s t hx).2; omega
      · rw [A7 _ _ hpq] at hq
        rw [A7 _ _ hpr] at hr
        exact g.sep q r o1 o2 b s t s' t' hne hq hr hx hy
  sup := fun q r o1 o2 b s t s' t' hq hpr hr hx hy => by
    rcases AI hx with ⟨rfl, e⟩ | ⟨hpq, hx⟩
    · rw [A6] at hq; cases hq; rw [ho] at hpr; cases hpr
    · rcases AI hy with ⟨rfl, e⟩ | ⟨hpr', hy⟩
      · simp only [Prod.mk.injEq] at e; have := (g.blk q b s t hx).2; omega
      · rw [A7 _ _ hpq] at hq
        rw [A7 _ _ hpr'] at hr
        exact g.sup q r o1 o2 b s t s' t' hq hpr hr hx hy
theorem Fr.alloc {h:Heap} {φ:AT} {n n' p:K4} {w:World} (hp:φ p=none) (hn:n.toN≤n'.toN) (h1:n.toN≤p.toN) (h2:p.toN<n'.toN)
    (o:Option Ob) (O:Obj) (tot:Nat):Fr h (Af p h o) φ (EG φ p (w.heap.size, 0, tot)) n n' w (w.alloc O) where
  ext := D5 hp
  new := fun q x hx => by
    rcases AI hx with ⟨rfl, _⟩ | ⟨_, hx⟩
    · exact .inr ⟨h1, h2⟩
    · exact .inl hx
  nn := hn
  os := rfl
  tape := rfl
  out := rfl
  size := by rw [World.size_alloc]; omega
  old := fun b hb _ => Go.RowKit.Below.heap_alloc w O b hb
  fresh := fun q b s t hx => by
    rcases AI hx with ⟨rfl, e⟩ | ⟨_, hx⟩
    · simp only [Prod.mk.injEq] at e; exact .inr (.inl (by omega))
    · exact .inl hx
  dm := fun q hq hn => by
    have hne:p≠q := fun e => hq (e ▸ hp)
    rw [A7 _ _ hne]; exact hn
def EL (prev:Option K4) (h:Heap):Heap := match prev with | none => h | some q => Af q h none
theorem Gq (prev:Option K4) (h:Heap) (κ:Heap->R):Jm prev h κ=κ (EL prev h) := by
  cases prev with
  | none => rfl
  | some q => exact B6 q h none κ
theorem Dk {prev:Option K4} {h:Heap} {q:K4} {x:Ob} (k:A8 q (EL prev h)=some x):prev≠some q∧A8 q h=some x := by
  cases prev with
  | none => exact ⟨by simp, k⟩
  | some r =>
    rcases BA k with ⟨_, h⟩ | ⟨hne, h⟩
    · cases h
    · exact ⟨fun e => hne (by simpa using e), h⟩
theorem Pf {prev:Option K4} {h:Heap} {q:K4} (k:A8 q h=none):A8 q (EL prev h)=none := by
  cases hx:A8 q (EL prev h) with
  | none => rfl
  | some x => rw [(Dk hx).2] at k; cases k
/-- The world with another block. -/
def Da (w:World) (b:Nat) (O:Obj):World := { w with heap := w.heap.setIfInBounds b O }
theorem DI {w:World} {b:Nat} {O:Obj} (h:b<w.heap.size):(Da w b O).heap[b]? = some O := by
  simp [Da, h]
theorem HD {w:World} {b k:Nat} {O:Obj} (h:b≠k):(Da w b O).heap[k]? = w.heap[k]? := by
  simp [Da, Array.getElem?_setIfInBounds_ne h]
theorem Ea {w:World} {b:Nat} {O:Obj}:(Da w b O).heap.size=w.heap.size := by simp [Da]
/-- An object that may be written is written: what may share its memory is given up. -/
theorem Gam.write {B:Nat} {h:Heap} {φ:AT} {n p:K4} {w:World} {o o':Ob} {b s tot:Nat} {O:Obj} (g:Gam ρ B h n φ w) (hp:A8 p h=some o) (hφ:φ p=some (b, s, tot))
    (hs:Jh o=false) (ho':Cf o'=none) (hok:GE ρ φ (Da w b O) o' b s tot) :
    Gam ρ B (Af p (EL (Cf o) h) (some o')) n φ (Da w b O) where
  base := by rw [Ea]; exact g.base
  glob := fun k c e fr hk => ⟨(g.glob k c e fr hk).1, by rw [HD (by have := (g.glob k c e fr hk).1; have := (g.blk p b s tot hφ).1; omega)]; exact (g.glob k c e fr hk).2⟩
  dom := g.dom
  blk := fun q b s t hx => by rw [Ea]; exact g.blk q b s t hx
  obj := fun q o1 b1 s1 t1 hq hx => by
    rcases BA hq with ⟨rfl, e⟩ | ⟨hne, hq⟩
    · rw [hφ] at hx; simp only [Option.some.injEq, Prod.mk.injEq] at hx e
      obtain ⟨rfl, rfl, rfl⟩ := hx; subst e; exact hok
    · obtain ⟨hk, hq⟩ := Dk hq
      have hb:b≠b1 := fun e => by
        subst e
        rcases g.sep p q o o1 b s tot s1 t1 hne hp hq hφ hx with h' | h'
        · exact hk h'
        · have := g.sup q p o1 o b s1 t1 s tot hq h' hp hx hφ
          rw [this] at hs; cases hs
      exact Cp (HD hb) (g.obj q o1 b1 s1 t1 hq hx)
  sep := fun q r o1 o2 b1 s1 t1 s2 t2 hne hq hr hx hy => by
    rcases BA hq with ⟨rfl, e⟩ | ⟨hpq, hq⟩
    · rcases BA hr with ⟨rfl, e'⟩ | ⟨hpr, hr⟩
      · exact absurd rfl hne
      · obtain ⟨hk, hr⟩ := Dk hr
        rcases g.sep p r o o2 b1 s1 t1 s2 t2 hne hp hr hx hy with h' | h'
        · exact absurd h' hk
        · exact .inr h'
    · obtain ⟨hk, hq⟩ := Dk hq
      rcases BA hr with ⟨rfl, e'⟩ | ⟨hpr, hr⟩
      · rcases g.sep q p o1 o b1 s1 t1 s2 t2 hne hq hp hx hy with h' | h'
        · exact .inl h'
        · exact absurd h' hk
      · obtain ⟨_, hr⟩ := Dk hr
        exact g.sep q r o1 o2 b1 s1 t1 s2 t2 hne hq hr hx hy
  sup := fun q r o1 o2 b1 s1 t1 s2 t2 hq hpr hr hx hy => by
    rcases BA hq with ⟨rfl, e⟩ | ⟨hpq, hq⟩
    · simp only [Option.some.injEq] at e; subst e; rw [ho'] at hpr; cases hpr
    · obtain ⟨hk, hq⟩ := Dk hq
      rcases BA hr with ⟨rfl, e⟩ | ⟨_, hr⟩
      · have := g.sup q p o1 o b1 s1 t1 s2 t2 hq hpr hp hx hy
        rw [this] at hs; cases hs
      · exact g.sup q r o1 o2 b1 s1 t1 s2 t2 hq hpr (Dk hr).2 hx hy
theorem Fr.write {h:Heap} {φ:AT} {n p:K4} {w:World} {o:Ob} {o':Option Ob} {b s tot:Nat} {O:Obj} (hp:A8 p h=some o) (hφ:φ p=some (b, s, tot)) :
    Fr h (Af p (EL (Cf o) h) o') φ φ n n w (Da w b O) where
  ext := AT.le_refl φ
  new := fun _ _ h => .inl h
  nn := Nat.le_refl _
  os := rfl
  tape := rfl
  out := rfl
  size := by rw [Ea]; exact Nat.le_refl _
  old := fun k hk hn => HD fun e => by
    subst e
    have := hn p s tot hφ; rw [hp] at this; cases this
  fresh := fun _ _ _ _ h => .inl h
  dm := fun q hq hn => by
    by_cases e:p=q
    · subst e; rw [hp] at hn; cases hn
    · rw [A7 _ _ e]; exact Pf hn
end
end Go.Ev

namespace Go.Ev
set_option linter.unusedVariables false
theorem kb {k j:IntKind} {t:R} {s:String} (h:(br (Bk k j) t (.fail s)).good):k=j∧br (Bk k j) t (.fail s)=t := by
  obtain ⟨h1, h2⟩ := Ae h
  exact ⟨AL.1 h1, h2⟩
theorem Bq {a b:Nat} (h:Nat.ble (Nat.succ a) b=true):a<b := Aa.1 h
/-- An operator's outcome, whatever world. -/
def DY (op:BinOp) (x y:Value) (v:V):Prop :=
  ∃ r:Value, (∀ (P:Program) (t:TypeId) (w:World), (Go.binOp op t x y).run P w = .ok r w) ∧ ∀ (ρ:Env) (φ:AT), As ρ φ v r
theorem Ey (k:IntKind) (r:Nat) (hr:r<Mk k) (ρ:Env) (φ:AT):As ρ φ (.int k r) (.int k (C9 k r)) := by
  simp [As, hr]
theorem BX (b:Bool) (ρ:Env) (φ:AT):As ρ φ (.bool b) (.bool b) := by simp only [As]
theorem Tv (k:IntKind) (a b:Nat):k.wrap (C9 k a+C9 k b)=C9 k ((a+b) % Mk k) := by
  apply GC
  rw [Int.add_emod, ED, ED, ←Int.natCast_add, ←Int.natCast_emod, Nat.add_mod]; simp
theorem Oc (k:IntKind) (a b:Nat) (hb:b<Mk k):k.wrap (C9 k a - C9 k b)=C9 k ((a+(Mk k - b)) % Mk k) := by
  apply GC
  unfold C9
  cases k <;> simp only [Mk, Hk] at * <;> (repeat' split) <;> omega
theorem Uf (k:IntKind) (a b:Nat):k.wrap (C9 k a*C9 k b)=C9 k (a*b % Mk k) := by
  apply GC
  rw [Int.mul_emod, ED, ED, ←Int.natCast_mul, ←Int.natCast_emod, Nat.mul_mod]; simp
theorem LP {k j:IntKind} {a b:Nat} {κ:R} (h:(Ng k a j b κ).good):k=j∧a<Hk k∧b<Hk k∧Ng k a j b κ=κ := by
  obtain ⟨rfl, e1⟩ := kb h
  have e1:Ng k a k b κ=_ := e1
  rw [e1] at h
  obtain ⟨h2, e2⟩ := Ae h
  rw [e2] at h
  obtain ⟨h3, e3⟩ := Ae h
  exact ⟨rfl, Bq h2, Bq h3, e1.trans (e2.trans e3)⟩
theorem bv (k:IntKind) (a:Nat) (ha:a<Mk k):(BitVec.ofInt k.bits (C9 k a)).toNat=a := by
  rw [BitVec.toNat_ofInt]
  have h := ED k a
  have e:((2 ^ k.bits:Nat):Int)=(Mk k:Int) := by rw [EU]
  rw [e, h, Nat.mod_eq_of_lt ha]; simp
theorem Fn (k:IntKind) (r:Nat) (hr:r<Mk k):k.wrap (r:Int)=C9 k r :=
  GC (by rw [←Int.natCast_emod, Nat.mod_eq_of_lt hr])
theorem T5 (a b m:Nat) (h:a<m):Nat.land a b<m := Nat.lt_of_le_of_lt Nat.and_le_left h
theorem Yp (k:IntKind) (a b:Nat) (ha:a<Mk k) (hb:b<Mk k):Nat.lor a b<Mk k := by
  rw [EU] at *; exact Nat.or_lt_two_pow ha hb
theorem TH (k:IntKind) (a b:Nat) (ha:a<Mk k) (hb:b<Mk k):Nat.xor a b<Mk k := by
  rw [EU] at *; exact Nat.xor_lt_two_pow ha hb
theorem Gl (op:BinOp) (k:IntKind) (a:Nat) (j:IntKind) (b:Nat) (κ:V->R) (ha:a<Mk k) (hb:b<Mk j) (h:(Lp op k a j b κ).good) :
    ∃ v, Lp op k a j b κ=κ v∧DY op (.int k (C9 k a)) (.int j (C9 j b)) v := by
  cases op with
  | add =>
    obtain ⟨rfl, e⟩ := kb (show R.good (Ve k a j b κ) from h)
    refine ⟨_, (show Ve k a k b κ=_ from e).trans (A9 _ _), .int k (C9 k ((a+b) % Mk k)), fun P t w => ?_, Ey k _ (Nat.mod_lt _ (DS k))⟩
    simp only [binOp_add, Op.intArith, Tv, Sem.run_pure]
  | sub =>
    obtain ⟨rfl, e⟩ := kb (show R.good (N2 k a j b κ) from h)
    refine ⟨_, (show N2 k a k b κ=_ from e).trans (A9 _ _), .int k (C9 k ((a+(Mk k - b)) % Mk k)), fun P t w => ?_, Ey k _ (Nat.mod_lt _ (DS k))⟩
    simp only [binOp_sub, Op.intArith, Oc _ _ _ hb, Sem.run_pure]
  | mul =>
    obtain ⟨rfl, e⟩ := kb (show R.good (US k a j b κ) from h)
    refine ⟨_, (show US k a k b κ=_ from e).trans (A9 _ _), .int k (C9 k (a*b % Mk k)), fun P t w => ?_, Ey k _ (Nat.mod_lt _ (DS k))⟩
    simp only [binOp_mul, Op.intArith, Uf, Sem.run_pure]
  | quo =>
    obtain ⟨rfl, h1, h2, e⟩ := LP (show R.good (R3 k a j b κ) from h)
    have e:R3 k a k b κ=_ := e
    have h:(R3 k a k b κ).good := h
    rw [e] at h
    obtain ⟨h3, e3⟩ := Ae h
    have h3 := Aa.1 h3
    refine ⟨_, e.trans (e3.trans (A9 _ _)), .int k (C9 k (a / b)), fun P t w => ?_, Ey k _ (Nat.lt_of_le_of_lt (Nat.div_le_self a b) ha)⟩
    have hd:a / b<Hk k := Nat.lt_of_le_of_lt (Nat.div_le_self a b) h1
    rw [binOp_quo, Ao h1, Ao h2, Ao hd]
    have hw:k.wrap ((a / b:Nat):Int)=((a / b:Nat):Int) := by
      rw [Fn k _ (Nat.lt_of_lt_of_le hd (GP k)), Ao hd]
    simp only [Op.intDiv]
    rw [if_neg (by omega)]
    simp only [Sem.run_pure]
    rw [←hw, Int.ofNat_tdiv]
  | rem =>
    have h0:R.good (Lc k a j b κ) := h
    by_cases hneg:a<Hk k
    case neg =>
      have e0:Lc k a j b κ=M2 k a j b κ := by
        unfold Lc
        rw [show Nat.ble (Nat.succ a) (Hk k)=false from Bool.eq_false_iff.2 fun h => hneg (Bq h)]; rfl
      rw [e0] at h0
      obtain ⟨rfl, e1⟩ := kb h0
      have e1:M2 k a k b κ=_ := e1
      rw [e1] at h0
      obtain ⟨h2, e2⟩ := Ae h0
      rw [e2] at h0
      obtain ⟨h3, e3⟩ := Ae h0
      have h2 := Bq h2
      have h3 := Aa.1 h3
      have hq:(Mk k - a) % b<b := Nat.mod_lt _ (by omega)
      have hM:Hk k≤Mk k := GP k
      have hd2:C9 k a = -((Mk k - a:Nat):Int) := by rw [CA hneg]; omega
      have hu:Hk k+Hk k=Mk k := by
        cases k <;> simp only [Mk, Hk] at * <;> omega
      refine ⟨_, e0.trans (e1.trans (e2.trans (e3.trans (A9 _ _)))), .int k (C9 k (@Bool.rec (fun _ => Nat) (Nat.sub (Mk k) (Nat.mod (Nat.sub (Mk k) a) b)) 0 (Nat.beq (Nat.mod (Nat.sub (Mk k) a) b) 0))), fun P t w => ?_, Ey k _ ?_⟩
      · rw [binOp_rem, hd2, Ao h2]
        simp only [Op.intDiv]
        rw [if_neg (by omega)]
        simp only [Sem.run_pure]
        rw [Int.neg_tmod, ←Int.ofNat_tmod]
        by_cases hz:(Mk k - a) % b=0
        · have hb:Nat.beq (Nat.mod (Nat.sub (Mk k) a) b) 0=true := by rw [show Nat.mod (Nat.sub (Mk k) a) b=0 from hz]; rfl
          rw [hb, hz, Ao (Nat.lt_of_le_of_lt (Nat.zero_le _) h2)]; rfl
        · have hb:Nat.beq (Nat.mod (Nat.sub (Mk k) a) b) 0=false := Bool.eq_false_iff.2 fun h => hz (Nat.eq_of_beq_eq_true h)
          have hv : -(((Mk k - a) % b:Nat):Int)=C9 k (Mk k - (Mk k - a) % b) := by rw [CA (by omega)]; omega
          rw [hb, hv]; rfl
      · cases hb:Nat.beq (Nat.mod (Nat.sub (Mk k) a) b) 0 with
        | true => exact DS k
        | false => exact Nat.sub_lt (DS k) (Nat.pos_of_ne_zero fun h => by rw [show Nat.mod (Nat.sub (Mk k) a) b=0 from h] at hb; cases hb)
    have e00:Lc k a j b κ=QO k a j b κ := by
      unfold Lc
      rw [show Nat.ble (Nat.succ a) (Hk k)=true from Aa.2 hneg]; rfl
    rw [e00] at h0
    obtain ⟨rfl, h1, h2, e⟩ := LP (show R.good (QO k a j b κ) from h0)
    have e:Lc k a k b κ=_ := e00.trans e
    have h:(Lc k a k b κ).good := h
    rw [e] at h
    obtain ⟨h3, e3⟩ := Ae h
    have h3 := Aa.1 h3
    have hd:a % b<Hk k := Nat.lt_of_le_of_lt (Nat.mod_le a b) h1
    refine ⟨_, e.trans (e3.trans (A9 _ _)), .int k (C9 k (a % b)), fun P t w => ?_, Ey k _ (Nat.lt_of_lt_of_le hd (GP k))⟩
    rw [binOp_rem, Ao h1, Ao h2, Ao hd]
    simp only [Op.intDiv]
    rw [if_neg (by omega)]
    simp only [Sem.run_pure]
    rw [←Int.ofNat_tmod]
  | and =>
    obtain ⟨rfl, e⟩ := kb (show R.good (Tj k a j b κ) from h)
    have hl:Nat.land a b<Mk k := T5 a b _ ha
    refine ⟨_, (show Tj k a k b κ=_ from e).trans (A9 _ _), .int k (C9 k (Nat.land a b)), fun P t w => ?_, Ey k _ hl⟩
    simp only [binOp_and, Op.intBits, BitVec.toNat_and, bv _ _ ha, bv _ _ hb, Sem.run_pure]
    rw [Fn k (a &&& b) hl]; rfl
  | or =>
    obtain ⟨rfl, e⟩ := kb (show R.good (XK k a j b κ) from h)
    have hl:Nat.lor a b<Mk k := Yp k a b ha hb
    refine ⟨_, (show XK k a k b κ=_ from e).trans (A9 _ _), .int k (C9 k (Nat.lor a b)), fun P t w => ?_, Ey k _ hl⟩
    simp only [binOp_or, Op.intBits, BitVec.toNat_or, bv _ _ ha, bv _ _ hb, Sem.run_pure]
    rw [Fn k (a ||| b) hl]; rfl
  | xor =>
    obtain ⟨rfl, e⟩ := kb (show R.good (S3 k a j b κ) from h)
    have hl:Nat.xor a b<Mk k := TH k a b ha hb
    refine ⟨_, (show S3 k a k b κ=_ from e).trans (A9 _ _), .int k (C9 k (Nat.xor a b)), fun P t w => ?_, Ey k _ hl⟩
    simp only [binOp_xor, Op.intBits, BitVec.toNat_xor, bv _ _ ha, bv _ _ hb, Sem.run_pure]
    rw [Fn k (a ^^^ b) hl]; rfl
  | shl =>
    obtain ⟨h1, e1⟩ := Ae (show R.good (T4 k a j b κ) from h)
    have e1:T4 k a j b κ=_ := e1
    have h1 := Bq h1
    have hr:∀ P t w, (Go.binOp .shl t (.int k (C9 k a)) (.int j (C9 j b))).run P w = .ok (.int k (k.wrap (C9 k a*2 ^ min b k.bits))) w := fun P t w => by
      rw [binOp_shl, Op.shift, Ao h1, if_neg (by omega)]; simp
    by_cases hb64:b≤64
    · refine ⟨_, e1.trans ((by rw [Aa.2 hb64, Ac]:br (Nat.ble b 64) _ _=_).trans (A9 _ _)), .int k (C9 k ((a <<< b) % Mk k)), fun P t w => ?_, Ey k _ (Nat.mod_lt _ (DS k))⟩
      rw [hr]
      congr 2
      apply GC
      rw [Nat.shiftLeft_eq]
      by_cases hbb:b≤k.bits
      · have e2:((2:Int) ^ b)=((2 ^ b:Nat):Int) := by simp
        rw [Nat.min_eq_left hbb, Int.mul_emod, ED, e2, ←Int.natCast_emod, ←Int.natCast_mul, ←Int.natCast_emod, ←Nat.mul_mod]
      · rw [Nat.min_eq_right (by omega), Int.mul_emod]
        have h0:((2:Int) ^ k.bits) % (Mk k:Int)=0 := by rw [EU]; simp
        have h0':a*2 ^ b % Mk k=0 := by
          rw [EU, show b=k.bits+(b - k.bits) by omega, Nat.pow_add, ←Nat.mul_assoc, Nat.mul_right_comm]; exact Nat.mul_mod_left _ _
        rw [h0, h0']; simp
    · refine ⟨_, e1.trans (by rw [AS (by omega), Aq]:br (Nat.ble b 64) _ _=_), .int k (C9 k 0), fun P t w => ?_, Ey k _ (DS k)⟩
      rw [hr]
      congr 2
      apply GC
      have hbits:k.bits≤64 := by cases k <;> simp [IntKind.bits]
      rw [Nat.min_eq_right (by omega), Int.mul_emod]
      have h0:((2:Int) ^ k.bits) % (Mk k:Int)=0 := by rw [EU]; simp
      rw [h0]; simp
  | shr =>
    obtain ⟨h1, e1⟩ := Ae (show R.good (Rg k a j b κ) from h)
    have e1:Rg k a j b κ=_ := e1
    have h1 := Bq h1
    have h:(Rg k a j b κ).good := h
    rw [e1] at h
    obtain ⟨h2, e2⟩ := Ae h
    have h2 := Bq h2
    have hr:∀ P t w, (Go.binOp .shr t (.int k (C9 k a)) (.int j (C9 j b))).run P w = .ok (.int k ((a:Int).fdiv (2 ^ min b k.bits))) w := fun P t w => by
      rw [binOp_shr, Op.shift, Ao h1, Ao h2, if_neg (by omega)]; simp
    have hf:∀ n:Nat, (a:Int).fdiv (2 ^ n)=((a / 2 ^ n:Nat):Int) := fun n => by
      rw [Int.fdiv_eq_ediv_of_nonneg _ (by exact Int.le_of_lt (Int.pow_pos (by omega)))]; simp
    have hlt:∀ n:Nat, a / 2 ^ n<Hk k := fun n => Nat.lt_of_le_of_lt (Nat.div_le_self _ _) h2
    by_cases hb64:b≤64
    · refine ⟨_, e1.trans (e2.trans ((by rw [Aa.2 hb64, Ac]:br (Nat.ble b 64) _ _=_).trans (A9 _ _))), .int k (C9 k (a >>> b)), fun P t w => ?_, Ey k _ ?_⟩
      · rw [hr, hf, Nat.shiftRight_eq_div_pow, Ao (hlt b)]
        congr 3
        by_cases hbb:b≤k.bits
        · rw [Nat.min_eq_left hbb]
        · rw [Nat.min_eq_right (by omega)]
          have ha':a<2 ^ k.bits := by rw [←EU]; exact ha
          rw [Nat.div_eq_of_lt ha', Nat.div_eq_of_lt (Nat.lt_of_lt_of_le ha' (Nat.pow_le_pow_right (by omega) (by omega)))]
      · show a >>> b<Mk k
        rw [Nat.shiftRight_eq_div_pow]; exact Nat.lt_of_lt_of_le (hlt b) (GP k)
    · refine ⟨_, e1.trans (e2.trans (by rw [AS (by omega), Aq]:br (Nat.ble b 64) _ _=_)), .int k (C9 k 0), fun P t w => ?_, Ey k _ (DS k)⟩
      have hbits:k.bits≤64 := by cases k <;> simp [IntKind.bits]
      have ha':a<2 ^ k.bits := by rw [←EU]; exact ha
      rw [hr, hf, Nat.min_eq_right (by omega), Nat.div_eq_of_lt ha', Ao (by have := Hk k; cases k <;> simp [Hk])]
  | andNot =>
    obtain ⟨rfl, e⟩ := kb (show R.good (OV k a j b κ) from h)
    have hl:Nat.land a (Mk k - 1 - b)<Mk k := T5 a _ _ ha
    refine ⟨_, (show OV k a k b κ=_ from e).trans (A9 _ _), .int k (C9 k (Nat.land a (Mk k - 1 - b))), fun P t w => ?_, Ey k _ hl⟩
    simp only [binOp_andNot, Op.intBits, BitVec.toNat_and, BitVec.toNat_not, bv _ _ ha, bv _ _ hb, Sem.run_pure, ←EU]
    rw [Fn k (a &&& (Mk k - 1 - b)) hl]; rfl
  | eql =>
    obtain ⟨rfl, e⟩ := kb (show R.good (Zv k a j b κ) from h)
    refine ⟨_, (show Zv k a k b κ=_ from e).trans (Bu _ _), .bool (Nat.beq a b), fun P t w => ?_, BX _⟩
    rw [binOp_eql, Sem.run_pure]
    congr 2
    rw [Bool.eq_iff_iff, beq_iff_eq]
    exact ⟨fun h => by have := JR ha hb h; subst this; exact Nat.beq_refl _, fun h => by rw [Nat.eq_of_beq_eq_true h]⟩
  | neq =>
    obtain ⟨rfl, e⟩ := kb (show R.good (Zx k a j b κ) from h)
    have e:Zx k a k b κ=_ := e
    by_cases hab:a=b
    · subst hab
      refine ⟨_, e.trans (by rw [Nat.beq_refl, Ac]:br (Nat.beq a a) _ _=_), .bool false, fun P t w => ?_, BX _⟩
      rw [binOp_neq, Sem.run_pure]; simp
    · have hf:Nat.beq a b=false := Bool.eq_false_iff.2 fun h => hab (Nat.eq_of_beq_eq_true h)
      refine ⟨_, e.trans (by rw [hf, Aq]:br (Nat.beq a b) _ _=_), .bool true, fun P t w => ?_, BX _⟩
      rw [binOp_neq, Sem.run_pure]
      congr 2
      rw [bne_iff_ne]
      exact fun h => hab (JR ha hb h)
  | lss =>
    obtain ⟨rfl, e⟩ := kb (show R.good (Zz k a j b κ) from h)
    refine ⟨_, (show Zz k a k b κ=_ from e).trans (Bu _ _), .bool (DK k a b), fun P t w => ?_, BX _⟩
    rw [binOp_lss, Sem.run_pure, EP ha hb]
  | gtr =>
    obtain ⟨rfl, e⟩ := kb (show R.good (ZE k a j b κ) from h)
    refine ⟨_, (show ZE k a k b κ=_ from e).trans (Bu _ _), .bool (DK k b a), fun P t w => ?_, BX _⟩
    rw [binOp_gtr, Sem.run_pure, EP hb ha]
  | leq =>
    obtain ⟨rfl, e⟩ := kb (show R.good (Zu k a j b κ) from h)
    have e:Zu k a k b κ=_ := e
    cases hlt:DK k b a with
    | true =>
      refine ⟨_, e.trans (by rw [hlt, Ac]), .bool false, fun P t w => ?_, BX _⟩
      rw [EP hb ha] at hlt
      rw [binOp_leq, Sem.run_pure]
      congr 2
      exact decide_eq_false (by have := of_decide_eq_true hlt; omega)
    | false =>
      refine ⟨_, e.trans (by rw [hlt, Aq]), .bool true, fun P t w => ?_, BX _⟩
      rw [EP hb ha] at hlt
      rw [binOp_leq, Sem.run_pure]
      congr 2
      exact decide_eq_true (by have := of_decide_eq_false hlt; omega)
  | geq =>
    obtain ⟨rfl, e⟩ := kb (show R.good (ZG k a j b κ) from h)
    have e:ZG k a k b κ=_ := e
    cases hlt:DK k a b with
    | true =>
      refine ⟨_, e.trans (by rw [hlt, Ac]), .bool false, fun P t w => ?_, BX _⟩
      rw [EP ha hb] at hlt
      rw [binOp_geq, Sem.run_pure]
      congr 2
      exact decide_eq_false (by have := of_decide_eq_true hlt; omega)
    | false =>
      refine ⟨_, e.trans (by rw [hlt, Aq]), .bool true, fun P t w => ?_, BX _⟩
      rw [EP ha hb] at hlt
      rw [binOp_geq, Sem.run_pure]
      congr 2
      exact decide_eq_true (by have := of_decide_eq_false hlt; omega)
theorem Q5 (s:ByteArray) (ρ:Env) (φ:AT):As ρ φ (.str s.size (Au s.data.toList)) (.string s) := by
  simp only [As]; exact ⟨s, rfl, rfl, rfl⟩
theorem C1 (s:ByteArray):s.data.toList.length=s.size := by simp
theorem Kc (x y:ByteArray):DE x.size (Au x.data.toList) y.size (Au y.data.toList)=(x.toList == y.toList) := by
  rw [ByteArray.toList_eq, ByteArray.toList_eq, Bool.eq_iff_iff, beq_iff_eq]
  simp only [DE, Bool.and_eq_true]
  constructor
  · rintro ⟨h1, h2⟩
    exact IR (by rw [C1, C1]; exact Nat.eq_of_beq_eq_true h1) (Nat.eq_of_beq_eq_true h2)
  · intro h
    refine ⟨?_, by rw [h]; exact Nat.beq_refl _⟩
    rw [←C1, ←C1, h]; exact Nat.beq_refl _
theorem Tg (x y:List UInt8):Po x.length (Au x) y.length (Au y)=Op.bytesLess x y := by
  induction x generalizing y with
  | nil => cases y with
    | nil => rfl
    | cons b y => rfl
  | cons a x ih =>
    cases y with
    | nil => rfl
    | cons b y =>
      show br (Nat.beq (lo (Au (a::x)) 1) (lo (Au (b::y)) 1)) (Po x.length (sh (Au (a::x)) 1) y.length (sh (Au (b::y)) 1)) (Nat.ble (Nat.succ (lo (Au (a::x)) 1)) (lo (Au (b::y)) 1))=_
      have ha := a.toNat_lt; have hb := b.toNat_lt
      have l1:lo (Au (a::x)) 1=a.toNat := by rw [E0]; simp only [Au]; omega
      have l2:lo (Au (b::y)) 1=b.toNat := by rw [E0]; simp only [Au]; omega
      have s1:sh (Au (a::x)) 1=Au x := by rw [Fv]; simp only [Au]; omega
      have s2:sh (Au (b::y)) 1=Au y := by rw [Fv]; simp only [Au]; omega
      rw [l1, l2, s1, s2, ih, Op.bytesLess]
      by_cases hab:a=b
      · subst hab
        rw [Nat.beq_refl, Ac]; simp
      · have hne:a.toNat≠b.toNat := fun h => hab (UInt8.toNat_inj.1 h)
        rw [Bool.eq_false_iff.2 fun h => hne (Nat.eq_of_beq_eq_true h), Aq, CU]
        have:(a == b)=false := by simpa using hab
        rw [this]; simp [UInt8.lt_iff_toNat_lt]; rfl
theorem RQ (op:BinOp) (x y:ByteArray) (κ:V->R) (h:(JD op x.size (Au x.data.toList) y.size (Au y.data.toList) κ).good) :
    ∃ v, JD op x.size (Au x.data.toList) y.size (Au y.data.toList) κ=κ v∧DY op (.string x) (.string y) v := by
  have hlt := fun (x y:ByteArray) => (by
    have := Tg x.data.toList y.data.toList
    rw [C1, C1, ←ByteArray.toList_eq, ←ByteArray.toList_eq] at this
    rw [←ByteArray.toList_eq, ←ByteArray.toList_eq]; exact this:Po x.size (Au x.data.toList) y.size (Au y.data.toList)=Op.bytesLess x.toList y.toList)
  have hrun:∀ P t w, (Go.binOp op t (.string x) (.string y)).run P w=(Op.stringOp op x y).run P w := fun P t w => by cases op <;> rfl
  cases op with
  | add =>
    have e:JD .add x.size (Au x.data.toList) y.size (Au y.data.toList) κ=_ := A9 (Nat.add x.size y.size) (fun l => br (Nat.ble l 1000000000) (Ab (Nat.add (Au x.data.toList) (up (Au y.data.toList) x.size)) fun r => κ (.str l r)) (.fail ""))
    rw [e] at h
    obtain ⟨h1, e1⟩ := Ae h
    have h1:x.size+y.size≤1000000000 := Aa.1 h1
    refine ⟨_, e.trans (e1.trans (A9 _ _)), .string (x++y), fun P t w => ?_, fun ρ φ => ?_⟩
    · rw [hrun, Op.stringOp]
      rw [if_neg (by rw [IntKind.max_i64]; omega), Sem.run_pure]
    · have := Q5 (x++y) ρ φ
      have e2:(x++y).data.toList=x.data.toList++y.data.toList := by simp
      rw [e2, Hf, C1, ByteArray.size_append] at this
      rw [Qr]; exact this
  | eql =>
    refine ⟨_, (Bu (DE x.size (Au x.data.toList) y.size (Au y.data.toList)) (fun r => κ (.bool r)):JD .eql x.size (Au x.data.toList) y.size (Au y.data.toList) κ=_), .bool (x.toList == y.toList), fun P t w => by rw [hrun]; rfl, fun ρ φ => ?_⟩
    rw [Kc]; exact BX _ ρ φ
  | neq =>
    have e:JD .neq x.size (Au x.data.toList) y.size (Au y.data.toList) κ=br (x.toList == y.toList) (κ (.bool false)) (κ (.bool true)) := by rw [←Kc]; rfl
    refine ⟨.bool !(x.toList == y.toList), ?_, .bool !(x.toList == y.toList), fun P t w => by rw [hrun]; rfl, fun ρ φ => BX _ ρ φ⟩
    rw [e]; cases (x.toList == y.toList) <;> rfl
  | lss =>
    refine ⟨_, (Bu (Po x.size (Au x.data.toList) y.size (Au y.data.toList)) (fun r => κ (.bool r)):JD .lss x.size (Au x.data.toList) y.size (Au y.data.toList) κ=_), .bool (Op.bytesLess x.toList y.toList), fun P t w => by rw [hrun]; rfl, fun ρ φ => ?_⟩
    rw [hlt]; exact BX _ ρ φ
  | geq =>
    have e:JD .geq x.size (Au x.data.toList) y.size (Au y.data.toList) κ=br (Op.bytesLess x.toList y.toList) (κ (.bool false)) (κ (.bool true)) := by rw [←hlt]; rfl
    refine ⟨.bool !(Op.bytesLess x.toList y.toList), ?_, .bool !(Op.bytesLess x.toList y.toList), fun P t w => by rw [hrun]; rfl, fun ρ φ => BX _ ρ φ⟩
    rw [e]; cases (Op.bytesLess x.toList y.toList) <;> rfl
  | leq => exact h.elim
  | gtr => exact h.elim
  | _ => exact h.elim
end Go.Ev

namespace Go.Ev
set_option linter.unusedVariables false
section
variable {P:Program} {ρ:Env} {φ:AT} {w:World}
theorem Ch (b off i:Nat):(⟨b, off, none⟩:Addr).add i=⟨b, off+i, none⟩ := by
  unfold Addr.add; split
  · simp_all
  · rfl
theorem Gs {b i:Nat} {c:Array Value} {e:TypeId} {fr:Nat×Nat} {x:Value} (h:w.heap[b]? = some (.cells c e fr)) (hx:c[i]? = some x):w.cell? ⟨b, i, none⟩=some x := by
  simp [World.cell?, h, hx]
theorem RK {b i:Nat} {c:Array Value} {e:TypeId} {fr:Nat×Nat} (h:w.heap[b]? = some (.cells c e fr)) (hf:WE fr c.size) (hi:i<c.size):w.frozen? ⟨b, i, none⟩=false := by
  obtain ⟨lo, hi'⟩ := fr
  simp only [World.frozen?, h, Bool.and_eq_false_iff, decide_eq_false_iff_not]
  rcases hf with hf | hf <;> simp at hf <;> omega
theorem Q3 {b:Nat} {O:Obj} (h:w.heap[b]? = some O):Da w b O=w := by
  obtain ⟨hb, e⟩ := Array.getElem?_eq_some_iff.1 h
  unfold Da
  cases w with
  | mk heap tape drawn os output =>
    simp only [World.mk.injEq, and_true]
    apply Array.ext_getElem?
    intro k
    rw [Array.getElem?_setIfInBounds]
    by_cases hk:b=k
    · subst hk; rw [if_pos rfl, if_pos hb]; exact h.symm
    · rw [if_neg hk]
theorem Rl {b:Nat} {O O':Obj}:Da (Da w b O) b O'=Da w b O' := by
  simp [Da]
theorem Nu {b i:Nat} {c:Array Value} {e:TypeId} {fr:Nat×Nat} {v:Value} (h:w.heap[b]? = some (.cells c e fr)) :
    w.setCell ⟨b, i, none⟩ v=Da w b (.cells (c.setIfInBounds i v) e fr) := by
  obtain ⟨hb, e'⟩ := Array.getElem?_eq_some_iff.1 h
  unfold World.setCell Da
  cases w with
  | mk heap tape drawn os output =>
    congr 1
    apply Array.ext_getElem?
    intro k
    rw [Array.getElem?_modify, Array.getElem?_setIfInBounds]
    by_cases hk:b=k
    · subst hk; simp [hb, e']
    · simp [hk]
theorem H6 {b off:Nat} {c:Array Value} {e:TypeId} {fr:Nat×Nat} (h:w.heap[b]? = some (.cells c e fr)) :
    w.freeze { block := b, off := off } 1=Da w b (.cells c e (if fr.1 == fr.2 then (off, off+1) else (min fr.1 off, max fr.2 (off+1)))) := by
  obtain ⟨hb, e'⟩ := Array.getElem?_eq_some_iff.1 h
  unfold World.freeze Da
  cases w with
  | mk heap tape drawn os output =>
    simp only [Nat.one_ne_zero, if_false]
    congr 1
    apply Array.ext_getElem?
    intro k
    rw [Array.getElem?_modify, Array.getElem?_setIfInBounds]
    by_cases hk:b=k
    · subst hk; simp only at e'; simp [hb, e']
    · simp [hk]
theorem Kj {O O':Obj}:Da (w.alloc O) w.heap.size O'=w.alloc O' := by
  unfold Da World.alloc
  congr 1
  apply Array.ext_getElem?
  intro k
  rw [Array.getElem?_setIfInBounds]
  by_cases hk:w.heap.size=k
  · subst hk; simp
  · simp [hk, Array.getElem?_push, Ne.symm hk]
theorem Ik {O:Obj}:(w.alloc O).heap[w.heap.size]? = some O := by show (w.heap.push O)[w.heap.size]? = _; simp
theorem H3 (vs:List Value):∀ (w:World) (b off i:Nat) (c:Array Value) (e:TypeId) (fr:Nat×Nat), w.heap[b]? = some (.cells c e fr)->off+i+vs.length≤c.size->WE fr c.size →
    (∀ v∈vs, v.oneCell'=true)->∃ c':Array Value, c'.size=c.size∧(∀ j, (j<off+i∨off+i+vs.length≤j)->c'[j]? = c[j]?)∧(∀ (j:Nat) (v:Value), vs[j]? = some v->c'[off+i+j]? = some v) ∧
      (storeCells ⟨b, off, none⟩ vs i).run P w = .ok () (Da w b (.cells c' e fr)) := by
  induction vs with
  | nil => intro w b off i c e fr h _ _ _; exact ⟨c, rfl, fun _ _ => rfl, fun j v hv => by simp at hv, by rw [Q3 h]; rfl⟩
  | cons v vs ih =>
    intro w b off i c e fr h hl hf h1
    simp only [List.length_cons] at hl
    have hi:off+i<c.size := by omega
    have hst:(store ((⟨b, off, none⟩:Addr).add i) v).run P w = .ok () (Da w b (.cells (c.setIfInBounds (off+i) v) e fr)) := by
      rw [Ch, run_store P w _ v _ (h1 v (by simp)), Gs h (Array.getElem?_eq_getElem hi)]
      simp only [RK h hf hi, Bool.false_eq_true, if_false]
      rw [Nu h]
    have hb:b<w.heap.size := (Array.getElem?_eq_some_iff.1 h).1
    obtain ⟨c', g1, g2, g3, g4⟩ := ih (Da w b (.cells (c.setIfInBounds (off+i) v) e fr)) b off (i+1) (c.setIfInBounds (off+i) v) e fr (DI hb)
      (by simp; omega) (by simpa using hf) (fun x hx => h1 x (by simp [hx]))
    refine ⟨c', by simpa using g1, fun j hj => ?_, fun j u hu => ?_, ?_⟩
    · rw [g2 j (by simp only [List.length_cons] at hj; omega)]
      rw [Array.getElem?_setIfInBounds, if_neg (by simp only [List.length_cons] at hj; omega)]
    · cases j with
      | zero =>
        simp at hu; subst hu
        rw [g2 (off+i+0) (by omega), Array.getElem?_setIfInBounds]; simp [hi]
      | succ j =>
        have := g3 j u (by simpa using hu)
        rw [←this]; congr 1; omega
    · rw [storeCells]
      simp only [Sem.run_bind, hst, Result.andThen_ok, g4, Rl]
/-- A row of cells, read. -/
theorem Dr {b off:Nat} {c:Array Value} {e:TypeId} {fr:Nat×Nat} (vs:List Value) (h:w.heap[b]? = some (.cells c e fr)) (hv:∀ (j:Nat) (v:Value), vs[j]? = some v->c[off+j]? = some v) :
    (loadCells ⟨b, off, none⟩ vs.length).run P w = .ok vs.toArray w :=
  run_loadCells_list w _ vs fun j v hj => by rw [Ch]; exact Gs h (hv j v hj)
/-- Cells that an object tells of, as a list of values. -/
theorem IC {cs:Cs} {f:Nat->Option Value} (h:EV ρ φ cs f):∃ vs:List Value, vs.length=cs.len∧(∀ (j:Nat) (v:Value), vs[j]? = some v->f j=some v)∧(∀ v∈vs, v.oneCell'=true) ∧
    (∀ l:List V, l.length=cs.len->(∀ i:Nat, l[i]? = cs.at i)->By ρ φ l vs) := by
  have key:∀ m, m≤cs.len->∃ vs:List Value, vs.length=m ∧ ∀ (j:Nat) (v:Value), vs[j]? = some v->f j=some v∧v.oneCell'=true ∧ ∀ u, cs.at j=some u->As ρ φ u v := by
    intro m
    induction m with
    | zero => exact fun _ => ⟨[], rfl, fun j v hv => by simp at hv⟩
    | succ m ih =>
      intro hm
      obtain ⟨vs, h1, h2⟩ := ih (by omega)
      obtain ⟨u, hu⟩ := Cs.at_lt (cs := cs) (i := m) (by omega)
      obtain ⟨x, hx, hr, ho⟩ := h m u hu
      refine ⟨vs++[x], by simp [h1], fun j v hv => ?_⟩
      by_cases hj:j<m
      · rw [List.getElem?_append_left (by omega)] at hv; exact h2 j v hv
      · rw [List.getElem?_append_right (by omega), h1] at hv
        have hjm:j=m := by
          rcases Nat.eq_or_lt_of_le (Nat.le_of_not_lt hj) with e | e
          · exact e.symm
          · rw [List.getElem?_eq_none (by simp; omega)] at hv; cases hv
        subst hjm
        simp at hv; subst hv
        exact ⟨hx, ho, fun u' hu' => by rw [hu] at hu'; cases hu'; exact hr⟩
  obtain ⟨vs, h1, h2⟩ := key cs.len (Nat.le_refl _)
  refine ⟨vs, h1, fun j v hv => (h2 j v hv).1, fun v hv => ?_, fun l hl hla => ?_⟩
  · obtain ⟨j, hj, rfl⟩ := List.getElem_of_mem hv
    exact (h2 j _ (List.getElem?_eq_getElem hj)).2.1
  · refine Cr.2 ⟨by omega, fun i u hu => ?_⟩
    have hi:i<vs.length := by
      rcases Nat.lt_or_ge i vs.length with h' | h'
      · exact h'
      · rw [List.getElem?_eq_none (by omega)] at hu; cases hu
    exact ⟨vs[i], List.getElem?_eq_getElem hi, (h2 i _ (List.getElem?_eq_getElem hi)).2.2 u (by rw [←hla i]; exact hu)⟩
theorem He {cs y:Cs} {off m:Nat} {f:Nat->Option Value} (h:EV ρ φ cs f) (hl:y.len=m) (ha:∀ i, i<m->y.at i=cs.at (off+i)):EV ρ φ y fun i => f (off+i) := fun i v hv => by
  have hi := Cs.lt_of_at hv
  rw [ha i (by omega)] at hv
  exact h (off+i) v hv
end
structure TR (ρ:Env) (N:Nat) (φ:AT) (t:Regs) (a:Act):Prop where
  size:a.tmps.size=N
  defers:a.defers=[]
  at_:∀ s p, s<N->K2.ofN s=some p->As ρ φ (Bg p t) (a.tmps.getD s undef)
theorem TR.mono {ρ:Env} {N:Nat} {φ φ':AT} {t:Regs} {a:Act} (h:TR ρ N φ t a) (hle:AT.le φ φ'):TR ρ N φ' t a :=
  ⟨h.size, h.defers, fun s p h1 h2 => Fa hle (h.at_ s p h1 h2)⟩
section
variable (P:Program) (ρ:Env) (B N:Nat)
/-- One operation's step: whatever world the abstract state tells of, it comes to one that the new abstract state tells of. -/
def Hb (o:Oper) (t:Regs) (h:Heap) (n:K4) (v:V) (h1:Heap) (n1:K4):Prop :=
  ∀ (φ:AT) (a:Act) (w:World), TR ρ N φ t a->Gam ρ B h n φ w->∀ (K:Act->World->Prop) (Q:Exit->Act->World->Prop),
    (∀ φ' x w', Fr h h1 φ φ' n n1 w w'->Gam ρ B h1 n1 φ' w'->As ρ φ' v x->K (a.put o.dst x) w')->o.wp P a w K Q
/-- All ways that begin well end well. -/
def CX (o:Oper) (f:KV->R) (t:Regs) (h:Heap) (n:K4):Prop :=
  ∀ κ:KV, (f κ).good->∃ v h1 n1, f κ=κ v h1 n1∧Hb P ρ B N o t h n v h1 n1
/-- An operation that leaves the world as it is. -/
def Sh (o:Oper) (t:Regs) (h:Heap) (n:K4) (v:V):Prop :=
  ∀ φ a w, TR ρ N φ t a->Gam ρ B h n φ w->∃ x, (execOp a.eval o).run P w = .ok (.value x) w∧As ρ φ v x
def Bf (o:Oper) (f:KV->R) (t:Regs) (h:Heap) (n:K4):Prop :=
  ∀ κ:KV, (f κ).good->∃ v, f κ=κ v h n∧Sh P ρ B N o t h n v
end
section
variable {P:Program} {ρ:Env} {B N:Nat}
theorem Hb.value {o:Oper} {t:Regs} {h h1:Heap} {n n1:K4} {v:V}
    (H:∀ φ a w, TR ρ N φ t a->Gam ρ B h n φ w->∃ φ' x w', (execOp a.eval o).run P w = .ok (.value x) w'∧Fr h h1 φ φ' n n1 w w'∧Gam ρ B h1 n1 φ' w'∧As ρ φ' v x):Hb P ρ B N o t h n v h1 n1 := by
  intro φ a w ht hg K Q hK
  obtain ⟨φ', x, w', e, h1, h2, h3⟩ := H φ a w ht hg
  unfold Oper.wp
  rw [e]
  exact hK φ' x w' h1 h2 h3
theorem Hb.skip {o:Oper} {t:Regs} {h h1:Heap} {n n1:K4}
    (H:∀ φ a w, TR ρ N φ t a->Gam ρ B h n φ w->∃ φ' w', (execOp a.eval o).run P w = .ok .skip w'∧Fr h h1 φ φ' n n1 w w'∧Gam ρ B h1 n1 φ' w'):Hb P ρ B N o t h n Ay h1 n1 := by
  intro φ a w ht hg K Q hK
  obtain ⟨φ', w', e, h1, h2⟩ := H φ a w ht hg
  unfold Oper.wp
  rw [e]
  exact hK φ' undef w' h1 h2 (by simp only [Ay, As, undef]; exact ⟨#[], rfl, by simp only [By]⟩)
/-- Nothing of the world turns. -/
theorem Hb.pure {o:Oper} {t:Regs} {h:Heap} {n:K4} {v:V}
    (H:∀ φ a w, TR ρ N φ t a->Gam ρ B h n φ w->∃ x, (execOp a.eval o).run P w = .ok (.value x) w∧As ρ φ v x):Hb P ρ B N o t h n v h n :=
  .value fun φ a w ht hg => let ⟨x, e, hr⟩ := H φ a w ht hg; ⟨φ, x, w, e, .refl h φ n w, hg, hr⟩
theorem Bf.sound {o:Oper} {f:KV->R} {t:Regs} {h:Heap} {n:K4} (H:Bf P ρ B N o f t h n):CX P ρ B N o f t h n := fun κ hg =>
  let ⟨v, e, hp⟩ := H κ hg
  ⟨v, h, n, e, .pure hp⟩
theorem Jq {v:Value} {c:V} (h:JO v=some c) (φ:AT):As ρ φ c v∧v.oneCell'=true := by
  unfold JO at h
  split at h
  · cases h; exact ⟨by simp only [As], rfl⟩
  · rename_i k n
    split at h
    · split at h
      · rename_i m hm
        cases h
        have := Bq hm
        refine ⟨?_, rfl⟩
        simp only [As]
        exact ⟨Nat.lt_of_lt_of_le this (GP k), by rw [Ao this]; rfl⟩
      · cases h
    · split at h
      · rename_i m hm
        cases h
        have := Aa.1 hm
        simp only [Nat.add_eq] at this
        refine ⟨?_, rfl⟩
        simp only [As]
        have hH := DS k
        refine ⟨by show Mk k - (m+1)<Mk k; omega, ?_⟩
        rw [show Nat.sub (Mk k) (Nat.succ m)=Mk k - (m+1) from rfl, CA (by omega)]
        congr 1
        omega
      · cases h
  all_goals first
    | (cases h; exact ⟨Q5 _ ρ φ, rfl⟩)
    | (cases h; exact ⟨by simp only [As, Ci], rfl⟩)
    | (simp at h)
theorem EY:∀ {vs:List Value} {l:List V}, HQ vs=some l->∀ φ:AT, By ρ φ l vs ∧ ∀ v∈vs, v.oneCell'=true
  | [], l, h, φ => by simp only [HQ, Option.some.injEq] at h; subst h; exact ⟨AF.2 rfl, by simp⟩
  | v::vs, l, h, φ => by
    simp only [HQ] at h
    split at h
    · rename_i x xs hx hxs
      cases h
      obtain ⟨h1, h2⟩ := EY hxs φ
      obtain ⟨h3, h4⟩ := Jq (ρ := ρ) hx φ
      exact ⟨Aw.2 ⟨v, vs, rfl, h3, h1⟩, by simpa using ⟨h4, h2⟩⟩
    · cases h
theorem Kh {v:Value} {c:V} (h:J0 v=some c) (φ:AT):As ρ φ c v := by
  unfold J0 at h
  split at h
  · rename_i cs
    cases hl:HQ cs.toList with
    | none => rw [hl] at h; cases h
    | some l =>
      rw [hl] at h; cases h
      simp only [As]
      exact ⟨cs, rfl, (EY hl φ).1, (EY (ρ := ρ) hl φ).2⟩
  · rename_i cs
    split at h
    · cases h
      rename_i he
      simp only [As]
      exact ⟨cs, rfl, AF.2 (by simpa using he)⟩
    · cases h
  · rename_i f first caps
    split at h
    · cases h
      rename_i he
      simp at he
      simp only [As]
      exact ⟨#[], by rw [he.1, he.2], by simp only [By]⟩
    · cases h
  · exact (Jq h φ).1
theorem Ad {o:Operand} {x:Opd} (h:AH N o=some x) {φ:AT} {t:Regs} {a:Act} (ht:TR ρ N φ t a):As ρ φ (ev x t) (a.eval o) := by
  unfold AH at h
  split at h
  · rename_i s
    unfold GL at h
    split at h
    · rename_i hs
      cases hk:K2.ofN s with
      | none => rw [hk] at h; cases h
      | some p => rw [hk] at h; cases h; exact ht.at_ s p hs hk
    · cases h
  · rename_i v
    cases hc:J0 v with
    | none => rw [hc] at h; cases h
    | some c => rw [hc] at h; cases h; exact Kh hc φ
  · cases h
    simp only [ev, Act.eval, As]
    exact ⟨#[], rfl, by simp only [By]⟩
  · cases h
theorem F0:∀ {os:List Operand} {xs:List Opd}, Bw N os=some xs->∀ {φ:AT} {t:Regs} {a:Act}, TR ρ N φ t a->By ρ φ (xs.map (ev · t)) (os.map a.eval)
  | [], xs, h, φ, t, a, ht => by simp only [Bw, Option.some.injEq] at h; subst h; exact AF.2 rfl
  | o::os, xs, h, φ, t, a, ht => by
    simp only [Bw] at h
    split at h
    · rename_i x ys hx hys
      cases h
      exact Aw.2 ⟨_, _, rfl, Ad hx ht, F0 hys ht⟩
    · cases h
theorem AM {t:TypeId} {s:Nat} (h:Bj P t=some s) (w:World):(sizeOf t).run P w = .ok s w := by
  unfold Bj at h
  cases hi:P.info? t with
  | none => rw [hi] at h; cases h
  | some i => rw [hi] at h; cases h; simp [sizeOf, typeInfo, hi]
theorem Cq {t:TypeId} {b:Bool} (h:KO P t=some b) (w:World):(isAgg t).run P w = .ok b w := by
  unfold KO at h
  cases hi:P.underlying t with
  | none => rw [hi] at h; cases h
  | some d =>
    rw [hi] at h; cases h
    unfold isAgg
    cases d <;> simp [run_underlying hi]
theorem Dx {t:TypeId} {z:Value} (h:(P.info? t).bind (·.zero)=some z) (w:World):(zeroValue t).run P w = .ok z w := by
  cases hi:P.info? t with
  | none => rw [hi] at h; cases h
  | some i =>
    rw [hi] at h
    simp only [Option.bind_some] at h
    simp [zeroValue, typeInfo, hi, h]
end
end Go.Ev
