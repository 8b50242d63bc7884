/- AN EVALUATOR OF THE MODEL OF Go, PROVED SOUND, PART 1: what it says of a call holds in every world, on every tape. Conditions: none of its own; each theorem bears its premises. -/
import Derived.Below
import Derived.Laws.Append
import Derived.Laws.Bits
import Derived.Laws.Cells
import Derived.Laws.Entries
import Derived.Laws.Sem
import Derived.Laws.Strings
import Derived.Laws.StructEq
import Derived.Laws.Tables
import Derived.Laws.World
import Derived.Orders
noncomputable section
set_option linter.unusedSimpArgs false
set_option linter.unusedVariables false
namespace Go.Ev
set_option linter.unusedVariables false
inductive D where
  | d0 | d1 | d2 | d3 | d4 | d5 | d6 | d7 | d8 | d9 | d10 | d11 | d12 | d13 | d14 | d15
def D.toN (d : D) : Nat := @D.rec (fun _ => Nat) 0 1 2 3 4 5 6 7 8 9 10 11 12 13 14 15 d
theorem D.toN_lt (d : D) : d.toN < 16 := by cases d <;> decide
theorem D.toN_inj {a b : D} (h : a.toN = b.toN) : a = b := by
  cases a <;> cases b <;> first | rfl | exact absurd h (by decide)
/-- The next digit, or the other way. -/
def D.nx {β : Type} (d : D) : (D → β) → β → β :=
  @D.rec (fun _ => (D → β) → β → β) (fun k _ => k .d1) (fun k _ => k .d2) (fun k _ => k .d3) (fun k _ => k .d4) (fun k _ => k .d5) (fun k _ => k .d6) (fun k _ => k .d7) (fun k _ => k .d8) (fun k _ => k .d9) (fun k _ => k .d10) (fun k _ => k .d11) (fun k _ => k .d12) (fun k _ => k .d13) (fun k _ => k .d14) (fun k _ => k .d15) (fun _ c => c) d
theorem D.nx_eq {β : Type} (d : D) (k : D → β) (c : β) : (d.nx k c = c ∧ d.toN = 15) ∨ (∃ e : D, e.toN = d.toN + 1 ∧ d.nx k c = k e) := by
  cases d
  case d0 => exact .inr ⟨.d1, rfl, rfl⟩
  case d1 => exact .inr ⟨.d2, rfl, rfl⟩
  case d2 => exact .inr ⟨.d3, rfl, rfl⟩
  case d3 => exact .inr ⟨.d4, rfl, rfl⟩
  case d4 => exact .inr ⟨.d5, rfl, rfl⟩
  case d5 => exact .inr ⟨.d6, rfl, rfl⟩
  case d6 => exact .inr ⟨.d7, rfl, rfl⟩
  case d7 => exact .inr ⟨.d8, rfl, rfl⟩
  case d8 => exact .inr ⟨.d9, rfl, rfl⟩
  case d9 => exact .inr ⟨.d10, rfl, rfl⟩
  case d10 => exact .inr ⟨.d11, rfl, rfl⟩
  case d11 => exact .inr ⟨.d12, rfl, rfl⟩
  case d12 => exact .inr ⟨.d13, rfl, rfl⟩
  case d13 => exact .inr ⟨.d14, rfl, rfl⟩
  case d14 => exact .inr ⟨.d15, rfl, rfl⟩
  case d15 => exact .inl ⟨rfl, rfl⟩
def D.ofN : Nat → D
  | 0 => .d0 | 1 => .d1 | 2 => .d2 | 3 => .d3 | 4 => .d4 | 5 => .d5 | 6 => .d6 | 7 => .d7 | 8 => .d8 | 9 => .d9 | 10 => .d10 | 11 => .d11 | 12 => .d12 | 13 => .d13 | 14 => .d14 | _ => .d15
theorem D.toN_ofN : ∀ n, n < 16 → (D.ofN n).toN = n
  | 0, _ => rfl | 1, _ => rfl | 2, _ => rfl | 3, _ => rfl | 4, _ => rfl | 5, _ => rfl | 6, _ => rfl | 7, _ => rfl | 8, _ => rfl | 9, _ => rfl | 10, _ => rfl | 11, _ => rfl | 12, _ => rfl | 13, _ => rfl | 14, _ => rfl | 15, _ => rfl
  | n + 16, h => by omega
def D.beq (a b : D) : Bool := Nat.beq a.toN b.toN
theorem D.beq_iff {a b : D} : a.beq b = true ↔ a = b := by
  unfold D.beq
  exact ⟨fun h => D.toN_inj (Nat.eq_of_beq_eq_true h), fun h => by subst h; exact Nat.beq_refl _⟩
/-- A place of the heap: four digits, the first leads. -/
structure K4 where
  a : D
  b : D
  c : D
  d : D
/-- The nil values. -/
inductive Nl where
  | ptr
  | sl
  | map
  | fn
  | iface
/-- (as, ap: a slice of memory that stays, its first cell's symbol (0: bools), its length by bounds, its elements' size; a pointer to one of its cells. sy: an integer that is a symbol.) What is not looked into: anything at all; a symbol. The function that a range over a function hands on (the place of its record). What no value is. An integer whose residue lies between two others. A slice that is not looked into, its length between two numbers. One of the two truths. An integer whose amount leaves a remainder. A text, its length between two numbers, unlike one text. -/
inductive Ot where
  | any
  | sym (i : Nat)
  | yl (p : K4)
  | no
  | iv (k : IntKind) (lo hi : Nat)
  | os (lo hi : Nat)
  | bl
  | rs (m j : Nat)
  | ss (lo hi n c : Nat)
  | ro (i lo hi z : Nat)
  | ap (i j m : Nat)
  | sy (k : IntKind) (i : Nat)
/-- Abstract values. An integer is told by its residue. A string is told by its length and its bytes as one number, the first byte lowest. -/
inductive V where
  | int (k : IntKind) (r : Nat)
  | bool (b : Bool)
  | ptr (p : K4) (off : Nat)
  | sl (p : K4) (off len cap : Nat) (ex : Bool) (esz : Nat)
  | str (n c : Nat)
  | agg (l : List V)
  | nil (w : Nl)
  | map (p : K4)
  | fn (f : Nat) (caps : List V)
  | tup (l : List V)
  | oth (o : Ot)
/-- Cells: a list, or bytes packed in one number. -/
inductive Cs where
  | l (xs : List V)
  | b (n c : Nat)
/-- An object: cells (may they be written? which older object may share their memory?), or a map (its entries, their stamps, its clock), or an iterator over a map (the map's place, the clock at its beginning, the stamps it has shown, the latest first, the clock at the last step), or one over nil; or the record of a range over a function (whose; the place of its box). -/
inductive Ob where
  | c (cs : Cs) (sup : Bool) (prev : Option K4)
  | m (es : List (V × V)) (bs : List Nat) (clk : Nat)
  | it (p : K4) (since : Nat) (seen : List Nat) (c : Nat)
  | it0
  | lp (f : Nat) (box : K4)
abbrev OOb := Option Ob
/-- Sixteen values. -/
inductive VP where
  | mk (c0 c1 c2 c3 c4 c5 c6 c7 c8 c9 ca cb cc cd ce cf : V)
def VP.all (x : V) : VP := .mk x x x x x x x x x x x x x x x x
def VP.sel (d : D) (p : VP) : V :=
  @VP.rec (fun _ => V) (fun c0 c1 c2 c3 c4 c5 c6 c7 c8 c9 ca cb cc cd ce cf => @D.rec (fun _ => V) c0 c1 c2 c3 c4 c5 c6 c7 c8 c9 ca cb cc cd ce cf d) p
def vs0 {β : Type} (p : VP) (v : V) (k : VP → β) : β := @VP.rec (fun _ => β) (fun c0 c1 c2 c3 c4 c5 c6 c7 c8 c9 ca cb cc cd ce cf => k (.mk v c1 c2 c3 c4 c5 c6 c7 c8 c9 ca cb cc cd ce cf)) p
def vs1 {β : Type} (p : VP) (v : V) (k : VP → β) : β := @VP.rec (fun _ => β) (fun c0 c1 c2 c3 c4 c5 c6 c7 c8 c9 ca cb cc cd ce cf => k (.mk c0 v c2 c3 c4 c5 c6 c7 c8 c9 ca cb cc cd ce cf)) p
def vs2 {β : Type} (p : VP) (v : V) (k : VP → β) : β := @VP.rec (fun _ => β) (fun c0 c1 c2 c3 c4 c5 c6 c7 c8 c9 ca cb cc cd ce cf => k (.mk c0 c1 v c3 c4 c5 c6 c7 c8 c9 ca cb cc cd ce cf)) p
def vs3 {β : Type} (p : VP) (v : V) (k : VP → β) : β := @VP.rec (fun _ => β) (fun c0 c1 c2 c3 c4 c5 c6 c7 c8 c9 ca cb cc cd ce cf => k (.mk c0 c1 c2 v c4 c5 c6 c7 c8 c9 ca cb cc cd ce cf)) p
def vs4 {β : Type} (p : VP) (v : V) (k : VP → β) : β := @VP.rec (fun _ => β) (fun c0 c1 c2 c3 c4 c5 c6 c7 c8 c9 ca cb cc cd ce cf => k (.mk c0 c1 c2 c3 v c5 c6 c7 c8 c9 ca cb cc cd ce cf)) p
def vs5 {β : Type} (p : VP) (v : V) (k : VP → β) : β := @VP.rec (fun _ => β) (fun c0 c1 c2 c3 c4 c5 c6 c7 c8 c9 ca cb cc cd ce cf => k (.mk c0 c1 c2 c3 c4 v c6 c7 c8 c9 ca cb cc cd ce cf)) p
def vs6 {β : Type} (p : VP) (v : V) (k : VP → β) : β := @VP.rec (fun _ => β) (fun c0 c1 c2 c3 c4 c5 c6 c7 c8 c9 ca cb cc cd ce cf => k (.mk c0 c1 c2 c3 c4 c5 v c7 c8 c9 ca cb cc cd ce cf)) p
def vs7 {β : Type} (p : VP) (v : V) (k : VP → β) : β := @VP.rec (fun _ => β) (fun c0 c1 c2 c3 c4 c5 c6 c7 c8 c9 ca cb cc cd ce cf => k (.mk c0 c1 c2 c3 c4 c5 c6 v c8 c9 ca cb cc cd ce cf)) p
def vs8 {β : Type} (p : VP) (v : V) (k : VP → β) : β := @VP.rec (fun _ => β) (fun c0 c1 c2 c3 c4 c5 c6 c7 c8 c9 ca cb cc cd ce cf => k (.mk c0 c1 c2 c3 c4 c5 c6 c7 v c9 ca cb cc cd ce cf)) p
def vs9 {β : Type} (p : VP) (v : V) (k : VP → β) : β := @VP.rec (fun _ => β) (fun c0 c1 c2 c3 c4 c5 c6 c7 c8 c9 ca cb cc cd ce cf => k (.mk c0 c1 c2 c3 c4 c5 c6 c7 c8 v ca cb cc cd ce cf)) p
def vs10 {β : Type} (p : VP) (v : V) (k : VP → β) : β := @VP.rec (fun _ => β) (fun c0 c1 c2 c3 c4 c5 c6 c7 c8 c9 ca cb cc cd ce cf => k (.mk c0 c1 c2 c3 c4 c5 c6 c7 c8 c9 v cb cc cd ce cf)) p
def vs11 {β : Type} (p : VP) (v : V) (k : VP → β) : β := @VP.rec (fun _ => β) (fun c0 c1 c2 c3 c4 c5 c6 c7 c8 c9 ca cb cc cd ce cf => k (.mk c0 c1 c2 c3 c4 c5 c6 c7 c8 c9 ca v cc cd ce cf)) p
def vs12 {β : Type} (p : VP) (v : V) (k : VP → β) : β := @VP.rec (fun _ => β) (fun c0 c1 c2 c3 c4 c5 c6 c7 c8 c9 ca cb cc cd ce cf => k (.mk c0 c1 c2 c3 c4 c5 c6 c7 c8 c9 ca cb v cd ce cf)) p
def vs13 {β : Type} (p : VP) (v : V) (k : VP → β) : β := @VP.rec (fun _ => β) (fun c0 c1 c2 c3 c4 c5 c6 c7 c8 c9 ca cb cc cd ce cf => k (.mk c0 c1 c2 c3 c4 c5 c6 c7 c8 c9 ca cb cc v ce cf)) p
def vs14 {β : Type} (p : VP) (v : V) (k : VP → β) : β := @VP.rec (fun _ => β) (fun c0 c1 c2 c3 c4 c5 c6 c7 c8 c9 ca cb cc cd ce cf => k (.mk c0 c1 c2 c3 c4 c5 c6 c7 c8 c9 ca cb cc cd v cf)) p
def vs15 {β : Type} (p : VP) (v : V) (k : VP → β) : β := @VP.rec (fun _ => β) (fun c0 c1 c2 c3 c4 c5 c6 c7 c8 c9 ca cb cc cd ce cf => k (.mk c0 c1 c2 c3 c4 c5 c6 c7 c8 c9 ca cb cc cd ce v)) p
def vg0 {β : Type} (p : VP) (k : V → β) : β := @VP.rec (fun _ => β) (fun c0 c1 c2 c3 c4 c5 c6 c7 c8 c9 ca cb cc cd ce cf => k c0) p
def vg1 {β : Type} (p : VP) (k : V → β) : β := @VP.rec (fun _ => β) (fun c0 c1 c2 c3 c4 c5 c6 c7 c8 c9 ca cb cc cd ce cf => k c1) p
def vg2 {β : Type} (p : VP) (k : V → β) : β := @VP.rec (fun _ => β) (fun c0 c1 c2 c3 c4 c5 c6 c7 c8 c9 ca cb cc cd ce cf => k c2) p
def vg3 {β : Type} (p : VP) (k : V → β) : β := @VP.rec (fun _ => β) (fun c0 c1 c2 c3 c4 c5 c6 c7 c8 c9 ca cb cc cd ce cf => k c3) p
def vg4 {β : Type} (p : VP) (k : V → β) : β := @VP.rec (fun _ => β) (fun c0 c1 c2 c3 c4 c5 c6 c7 c8 c9 ca cb cc cd ce cf => k c4) p
def vg5 {β : Type} (p : VP) (k : V → β) : β := @VP.rec (fun _ => β) (fun c0 c1 c2 c3 c4 c5 c6 c7 c8 c9 ca cb cc cd ce cf => k c5) p
def vg6 {β : Type} (p : VP) (k : V → β) : β := @VP.rec (fun _ => β) (fun c0 c1 c2 c3 c4 c5 c6 c7 c8 c9 ca cb cc cd ce cf => k c6) p
def vg7 {β : Type} (p : VP) (k : V → β) : β := @VP.rec (fun _ => β) (fun c0 c1 c2 c3 c4 c5 c6 c7 c8 c9 ca cb cc cd ce cf => k c7) p
def vg8 {β : Type} (p : VP) (k : V → β) : β := @VP.rec (fun _ => β) (fun c0 c1 c2 c3 c4 c5 c6 c7 c8 c9 ca cb cc cd ce cf => k c8) p
def vg9 {β : Type} (p : VP) (k : V → β) : β := @VP.rec (fun _ => β) (fun c0 c1 c2 c3 c4 c5 c6 c7 c8 c9 ca cb cc cd ce cf => k c9) p
def vg10 {β : Type} (p : VP) (k : V → β) : β := @VP.rec (fun _ => β) (fun c0 c1 c2 c3 c4 c5 c6 c7 c8 c9 ca cb cc cd ce cf => k ca) p
def vg11 {β : Type} (p : VP) (k : V → β) : β := @VP.rec (fun _ => β) (fun c0 c1 c2 c3 c4 c5 c6 c7 c8 c9 ca cb cc cd ce cf => k cb) p
def vg12 {β : Type} (p : VP) (k : V → β) : β := @VP.rec (fun _ => β) (fun c0 c1 c2 c3 c4 c5 c6 c7 c8 c9 ca cb cc cd ce cf => k cc) p
def vg13 {β : Type} (p : VP) (k : V → β) : β := @VP.rec (fun _ => β) (fun c0 c1 c2 c3 c4 c5 c6 c7 c8 c9 ca cb cc cd ce cf => k cd) p
def vg14 {β : Type} (p : VP) (k : V → β) : β := @VP.rec (fun _ => β) (fun c0 c1 c2 c3 c4 c5 c6 c7 c8 c9 ca cb cc cd ce cf => k ce) p
def vg15 {β : Type} (p : VP) (k : V → β) : β := @VP.rec (fun _ => β) (fun c0 c1 c2 c3 c4 c5 c6 c7 c8 c9 ca cb cc cd ce cf => k cf) p
def VP.selK {β : Type} (d : D) : VP → (V → β) → β :=
  @D.rec (fun _ => VP → (V → β) → β) vg0 vg1 vg2 vg3 vg4 vg5 vg6 vg7 vg8 vg9 vg10 vg11 vg12 vg13 vg14 vg15 d
theorem VP.selK_eq {β : Type} (d : D) (p : VP) (k : V → β) : VP.selK d p k = k (VP.sel d p) := by
  cases d <;> cases p <;> rfl
def VP.setK {β : Type} (d : D) : VP → V → (VP → β) → β :=
  @D.rec (fun _ => VP → V → (VP → β) → β) vs0 vs1 vs2 vs3 vs4 vs5 vs6 vs7 vs8 vs9 vs10 vs11 vs12 vs13 vs14 vs15 d
def VP.setS (d : D) (p : VP) (v : V) : VP := VP.setK d p v id
theorem VP.setK_eq {β : Type} (d : D) (p : VP) (v : V) (k : VP → β) : VP.setK d p v k = k (VP.setS d p v) := by
  cases d <;> cases p <;> rfl
theorem VP.sel_setS_same (d : D) (p : VP) (v : V) : VP.sel d (VP.setS d p v) = v := by
  cases d <;> cases p <;> rfl
theorem VP.sel_setS_ne {d e : D} (p : VP) (v : V) (h : d ≠ e) : VP.sel e (VP.setS d p v) = VP.sel e p := by
  cases p; cases d <;> cases e <;> first | rfl | exact absurd rfl h
theorem VP.sel_all (d : D) (x : V) : VP.sel d (VP.all x) = x := by cases d <;> rfl
/-- The registers. -/
inductive Regs where
  | mk (c0 c1 c2 c3 c4 c5 c6 c7 c8 c9 ca cb cc cd ce cf : VP)
def Regs.all (x : VP) : Regs := .mk x x x x x x x x x x x x x x x x
def Regs.sel (d : D) (p : Regs) : VP :=
  @Regs.rec (fun _ => VP) (fun c0 c1 c2 c3 c4 c5 c6 c7 c8 c9 ca cb cc cd ce cf => @D.rec (fun _ => VP) c0 c1 c2 c3 c4 c5 c6 c7 c8 c9 ca cb cc cd ce cf d) p
def qs0 {β : Type} (p : Regs) (v : VP) (k : Regs → β) : β := @Regs.rec (fun _ => β) (fun c0 c1 c2 c3 c4 c5 c6 c7 c8 c9 ca cb cc cd ce cf => k (.mk v c1 c2 c3 c4 c5 c6 c7 c8 c9 ca cb cc cd ce cf)) p
def qs1 {β : Type} (p : Regs) (v : VP) (k : Regs → β) : β := @Regs.rec (fun _ => β) (fun c0 c1 c2 c3 c4 c5 c6 c7 c8 c9 ca cb cc cd ce cf => k (.mk c0 v c2 c3 c4 c5 c6 c7 c8 c9 ca cb cc cd ce cf)) p
def qs2 {β : Type} (p : Regs) (v : VP) (k : Regs → β) : β := @Regs.rec (fun _ => β) (fun c0 c1 c2 c3 c4 c5 c6 c7 c8 c9 ca cb cc cd ce cf => k (.mk c0 c1 v c3 c4 c5 c6 c7 c8 c9 ca cb cc cd ce cf)) p
def qs3 {β : Type} (p : Regs) (v : VP) (k : Regs → β) : β := @Regs.rec (fun _ => β) (fun c0 c1 c2 c3 c4 c5 c6 c7 c8 c9 ca cb cc cd ce cf => k (.mk c0 c1 c2 v c4 c5 c6 c7 c8 c9 ca cb cc cd ce cf)) p
def qs4 {β : Type} (p : Regs) (v : VP) (k : Regs → β) : β := @Regs.rec (fun _ => β) (fun c0 c1 c2 c3 c4 c5 c6 c7 c8 c9 ca cb cc cd ce cf => k (.mk c0 c1 c2 c3 v c5 c6 c7 c8 c9 ca cb cc cd ce cf)) p
def qs5 {β : Type} (p : Regs) (v : VP) (k : Regs → β) : β := @Regs.rec (fun _ => β) (fun c0 c1 c2 c3 c4 c5 c6 c7 c8 c9 ca cb cc cd ce cf => k (.mk c0 c1 c2 c3 c4 v c6 c7 c8 c9 ca cb cc cd ce cf)) p
def qs6 {β : Type} (p : Regs) (v : VP) (k : Regs → β) : β := @Regs.rec (fun _ => β) (fun c0 c1 c2 c3 c4 c5 c6 c7 c8 c9 ca cb cc cd ce cf => k (.mk c0 c1 c2 c3 c4 c5 v c7 c8 c9 ca cb cc cd ce cf)) p
def qs7 {β : Type} (p : Regs) (v : VP) (k : Regs → β) : β := @Regs.rec (fun _ => β) (fun c0 c1 c2 c3 c4 c5 c6 c7 c8 c9 ca cb cc cd ce cf => k (.mk c0 c1 c2 c3 c4 c5 c6 v c8 c9 ca cb cc cd ce cf)) p
def qs8 {β : Type} (p : Regs) (v : VP) (k : Regs → β) : β := @Regs.rec (fun _ => β) (fun c0 c1 c2 c3 c4 c5 c6 c7 c8 c9 ca cb cc cd ce cf => k (.mk c0 c1 c2 c3 c4 c5 c6 c7 v c9 ca cb cc cd ce cf)) p
def qs9 {β : Type} (p : Regs) (v : VP) (k : Regs → β) : β := @Regs.rec (fun _ => β) (fun c0 c1 c2 c3 c4 c5 c6 c7 c8 c9 ca cb cc cd ce cf => k (.mk c0 c1 c2 c3 c4 c5 c6 c7 c8 v ca cb cc cd ce cf)) p
def qs10 {β : Type} (p : Regs) (v : VP) (k : Regs → β) : β := @Regs.rec (fun _ => β) (fun c0 c1 c2 c3 c4 c5 c6 c7 c8 c9 ca cb cc cd ce cf => k (.mk c0 c1 c2 c3 c4 c5 c6 c7 c8 c9 v cb cc cd ce cf)) p
def qs11 {β : Type} (p : Regs) (v : VP) (k : Regs → β) : β := @Regs.rec (fun _ => β) (fun c0 c1 c2 c3 c4 c5 c6 c7 c8 c9 ca cb cc cd ce cf => k (.mk c0 c1 c2 c3 c4 c5 c6 c7 c8 c9 ca v cc cd ce cf)) p
def qs12 {β : Type} (p : Regs) (v : VP) (k : Regs → β) : β := @Regs.rec (fun _ => β) (fun c0 c1 c2 c3 c4 c5 c6 c7 c8 c9 ca cb cc cd ce cf => k (.mk c0 c1 c2 c3 c4 c5 c6 c7 c8 c9 ca cb v cd ce cf)) p
def qs13 {β : Type} (p : Regs) (v : VP) (k : Regs → β) : β := @Regs.rec (fun _ => β) (fun c0 c1 c2 c3 c4 c5 c6 c7 c8 c9 ca cb cc cd ce cf => k (.mk c0 c1 c2 c3 c4 c5 c6 c7 c8 c9 ca cb cc v ce cf)) p
def qs14 {β : Type} (p : Regs) (v : VP) (k : Regs → β) : β := @Regs.rec (fun _ => β) (fun c0 c1 c2 c3 c4 c5 c6 c7 c8 c9 ca cb cc cd ce cf => k (.mk c0 c1 c2 c3 c4 c5 c6 c7 c8 c9 ca cb cc cd v cf)) p
def qs15 {β : Type} (p : Regs) (v : VP) (k : Regs → β) : β := @Regs.rec (fun _ => β) (fun c0 c1 c2 c3 c4 c5 c6 c7 c8 c9 ca cb cc cd ce cf => k (.mk c0 c1 c2 c3 c4 c5 c6 c7 c8 c9 ca cb cc cd ce v)) p
def qg0 {β : Type} (p : Regs) (k : VP → β) : β := @Regs.rec (fun _ => β) (fun c0 c1 c2 c3 c4 c5 c6 c7 c8 c9 ca cb cc cd ce cf => k c0) p
def qg1 {β : Type} (p : Regs) (k : VP → β) : β := @Regs.rec (fun _ => β) (fun c0 c1 c2 c3 c4 c5 c6 c7 c8 c9 ca cb cc cd ce cf => k c1) p
def qg2 {β : Type} (p : Regs) (k : VP → β) : β := @Regs.rec (fun _ => β) (fun c0 c1 c2 c3 c4 c5 c6 c7 c8 c9 ca cb cc cd ce cf => k c2) p
def qg3 {β : Type} (p : Regs) (k : VP → β) : β := @Regs.rec (fun _ => β) (fun c0 c1 c2 c3 c4 c5 c6 c7 c8 c9 ca cb cc cd ce cf => k c3) p
def qg4 {β : Type} (p : Regs) (k : VP → β) : β := @Regs.rec (fun _ => β) (fun c0 c1 c2 c3 c4 c5 c6 c7 c8 c9 ca cb cc cd ce cf => k c4) p
def qg5 {β : Type} (p : Regs) (k : VP → β) : β := @Regs.rec (fun _ => β) (fun c0 c1 c2 c3 c4 c5 c6 c7 c8 c9 ca cb cc cd ce cf => k c5) p
def qg6 {β : Type} (p : Regs) (k : VP → β) : β := @Regs.rec (fun _ => β) (fun c0 c1 c2 c3 c4 c5 c6 c7 c8 c9 ca cb cc cd ce cf => k c6) p
def qg7 {β : Type} (p : Regs) (k : VP → β) : β := @Regs.rec (fun _ => β) (fun c0 c1 c2 c3 c4 c5 c6 c7 c8 c9 ca cb cc cd ce cf => k c7) p
def qg8 {β : Type} (p : Regs) (k : VP → β) : β := @Regs.rec (fun _ => β) (fun c0 c1 c2 c3 c4 c5 c6 c7 c8 c9 ca cb cc cd ce cf => k c8) p
def qg9 {β : Type} (p : Regs) (k : VP → β) : β := @Regs.rec (fun _ => β) (fun c0 c1 c2 c3 c4 c5 c6 c7 c8 c9 ca cb cc cd ce cf => k c9) p
def qg10 {β : Type} (p : Regs) (k : VP → β) : β := @Regs.rec (fun _ => β) (fun c0 c1 c2 c3 c4 c5 c6 c7 c8 c9 ca cb cc cd ce cf => k ca) p
def qg11 {β : Type} (p : Regs) (k : VP → β) : β := @Regs.rec (fun _ => β) (fun c0 c1 c2 c3 c4 c5 c6 c7 c8 c9 ca cb cc cd ce cf => k cb) p
def qg12 {β : Type} (p : Regs) (k : VP → β) : β := @Regs.rec (fun _ => β) (fun c0 c1 c2 c3 c4 c5 c6 c7 c8 c9 ca cb cc cd ce cf => k cc) p
def qg13 {β : Type} (p : Regs) (k : VP → β) : β := @Regs.rec (fun _ => β) (fun c0 c1 c2 c3 c4 c5 c6 c7 c8 c9 ca cb cc cd ce cf => k cd) p
def qg14 {β : Type} (p : Regs) (k : VP → β) : β := @Regs.rec (fun _ => β) (fun c0 c1 c2 c3 c4 c5 c6 c7 c8 c9 ca cb cc cd ce cf => k ce) p
def qg15 {β : Type} (p : Regs) (k : VP → β) : β := @Regs.rec (fun _ => β) (fun c0 c1 c2 c3 c4 c5 c6 c7 c8 c9 ca cb cc cd ce cf => k cf) p
def Regs.selK {β : Type} (d : D) : Regs → (VP → β) → β :=
  @D.rec (fun _ => Regs → (VP → β) → β) qg0 qg1 qg2 qg3 qg4 qg5 qg6 qg7 qg8 qg9 qg10 qg11 qg12 qg13 qg14 qg15 d
theorem Regs.selK_eq {β : Type} (d : D) (p : Regs) (k : VP → β) : Regs.selK d p k = k (Regs.sel d p) := by
  cases d <;> cases p <;> rfl
def Regs.setK {β : Type} (d : D) : Regs → VP → (Regs → β) → β :=
  @D.rec (fun _ => Regs → VP → (Regs → β) → β) qs0 qs1 qs2 qs3 qs4 qs5 qs6 qs7 qs8 qs9 qs10 qs11 qs12 qs13 qs14 qs15 d
def Regs.setS (d : D) (p : Regs) (v : VP) : Regs := Regs.setK d p v id
theorem Regs.setK_eq {β : Type} (d : D) (p : Regs) (v : VP) (k : Regs → β) : Regs.setK d p v k = k (Regs.setS d p v) := by
  cases d <;> cases p <;> rfl
theorem Regs.sel_setS_same (d : D) (p : Regs) (v : VP) : Regs.sel d (Regs.setS d p v) = v := by
  cases d <;> cases p <;> rfl
theorem Regs.sel_setS_ne {d e : D} (p : Regs) (v : VP) (h : d ≠ e) : Regs.sel e (Regs.setS d p v) = Regs.sel e p := by
  cases p; cases d <;> cases e <;> first | rfl | exact absurd rfl h
theorem Regs.sel_all (d : D) (x : VP) : Regs.sel d (Regs.all x) = x := by cases d <;> rfl
/-- Sixteen places. -/
inductive HA where
  | mk (c0 c1 c2 c3 c4 c5 c6 c7 c8 c9 ca cb cc cd ce cf : OOb)
def HA.all (x : OOb) : HA := .mk x x x x x x x x x x x x x x x x
def HA.sel (d : D) (p : HA) : OOb :=
  @HA.rec (fun _ => OOb) (fun c0 c1 c2 c3 c4 c5 c6 c7 c8 c9 ca cb cc cd ce cf => @D.rec (fun _ => OOb) c0 c1 c2 c3 c4 c5 c6 c7 c8 c9 ca cb cc cd ce cf d) p
def has0 {β : Type} (p : HA) (v : OOb) (k : HA → β) : β := @HA.rec (fun _ => β) (fun c0 c1 c2 c3 c4 c5 c6 c7 c8 c9 ca cb cc cd ce cf => k (.mk v c1 c2 c3 c4 c5 c6 c7 c8 c9 ca cb cc cd ce cf)) p
def has1 {β : Type} (p : HA) (v : OOb) (k : HA → β) : β := @HA.rec (fun _ => β) (fun c0 c1 c2 c3 c4 c5 c6 c7 c8 c9 ca cb cc cd ce cf => k (.mk c0 v c2 c3 c4 c5 c6 c7 c8 c9 ca cb cc cd ce cf)) p
def has2 {β : Type} (p : HA) (v : OOb) (k : HA → β) : β := @HA.rec (fun _ => β) (fun c0 c1 c2 c3 c4 c5 c6 c7 c8 c9 ca cb cc cd ce cf => k (.mk c0 c1 v c3 c4 c5 c6 c7 c8 c9 ca cb cc cd ce cf)) p
def has3 {β : Type} (p : HA) (v : OOb) (k : HA → β) : β := @HA.rec (fun _ => β) (fun c0 c1 c2 c3 c4 c5 c6 c7 c8 c9 ca cb cc cd ce cf => k (.mk c0 c1 c2 v c4 c5 c6 c7 c8 c9 ca cb cc cd ce cf)) p
def has4 {β : Type} (p : HA) (v : OOb) (k : HA → β) : β := @HA.rec (fun _ => β) (fun c0 c1 c2 c3 c4 c5 c6 c7 c8 c9 ca cb cc cd ce cf => k (.mk c0 c1 c2 c3 v c5 c6 c7 c8 c9 ca cb cc cd ce cf)) p
def has5 {β : Type} (p : HA) (v : OOb) (k : HA → β) : β := @HA.rec (fun _ => β) (fun c0 c1 c2 c3 c4 c5 c6 c7 c8 c9 ca cb cc cd ce cf => k (.mk c0 c1 c2 c3 c4 v c6 c7 c8 c9 ca cb cc cd ce cf)) p
def has6 {β : Type} (p : HA) (v : OOb) (k : HA → β) : β := @HA.rec (fun _ => β) (fun c0 c1 c2 c3 c4 c5 c6 c7 c8 c9 ca cb cc cd ce cf => k (.mk c0 c1 c2 c3 c4 c5 v c7 c8 c9 ca cb cc cd ce cf)) p
def has7 {β : Type} (p : HA) (v : OOb) (k : HA → β) : β := @HA.rec (fun _ => β) (fun c0 c1 c2 c3 c4 c5 c6 c7 c8 c9 ca cb cc cd ce cf => k (.mk c0 c1 c2 c3 c4 c5 c6 v c8 c9 ca cb cc cd ce cf)) p
def has8 {β : Type} (p : HA) (v : OOb) (k : HA → β) : β := @HA.rec (fun _ => β) (fun c0 c1 c2 c3 c4 c5 c6 c7 c8 c9 ca cb cc cd ce cf => k (.mk c0 c1 c2 c3 c4 c5 c6 c7 v c9 ca cb cc cd ce cf)) p
def has9 {β : Type} (p : HA) (v : OOb) (k : HA → β) : β := @HA.rec (fun _ => β) (fun c0 c1 c2 c3 c4 c5 c6 c7 c8 c9 ca cb cc cd ce cf => k (.mk c0 c1 c2 c3 c4 c5 c6 c7 c8 v ca cb cc cd ce cf)) p
def has10 {β : Type} (p : HA) (v : OOb) (k : HA → β) : β := @HA.rec (fun _ => β) (fun c0 c1 c2 c3 c4 c5 c6 c7 c8 c9 ca cb cc cd ce cf => k (.mk c0 c1 c2 c3 c4 c5 c6 c7 c8 c9 v cb cc cd ce cf)) p
def has11 {β : Type} (p : HA) (v : OOb) (k : HA → β) : β := @HA.rec (fun _ => β) (fun c0 c1 c2 c3 c4 c5 c6 c7 c8 c9 ca cb cc cd ce cf => k (.mk c0 c1 c2 c3 c4 c5 c6 c7 c8 c9 ca v cc cd ce cf)) p
def has12 {β : Type} (p : HA) (v : OOb) (k : HA → β) : β := @HA.rec (fun _ => β) (fun c0 c1 c2 c3 c4 c5 c6 c7 c8 c9 ca cb cc cd ce cf => k (.mk c0 c1 c2 c3 c4 c5 c6 c7 c8 c9 ca cb v cd ce cf)) p
def has13 {β : Type} (p : HA) (v : OOb) (k : HA → β) : β := @HA.rec (fun _ => β) (fun c0 c1 c2 c3 c4 c5 c6 c7 c8 c9 ca cb cc cd ce cf => k (.mk c0 c1 c2 c3 c4 c5 c6 c7 c8 c9 ca cb cc v ce cf)) p
def has14 {β : Type} (p : HA) (v : OOb) (k : HA → β) : β := @HA.rec (fun _ => β) (fun c0 c1 c2 c3 c4 c5 c6 c7 c8 c9 ca cb cc cd ce cf => k (.mk c0 c1 c2 c3 c4 c5 c6 c7 c8 c9 ca cb cc cd v cf)) p
def has15 {β : Type} (p : HA) (v : OOb) (k : HA → β) : β := @HA.rec (fun _ => β) (fun c0 c1 c2 c3 c4 c5 c6 c7 c8 c9 ca cb cc cd ce cf => k (.mk c0 c1 c2 c3 c4 c5 c6 c7 c8 c9 ca cb cc cd ce v)) p
def hag0 {β : Type} (p : HA) (k : OOb → β) : β := @HA.rec (fun _ => β) (fun c0 c1 c2 c3 c4 c5 c6 c7 c8 c9 ca cb cc cd ce cf => k c0) p
def hag1 {β : Type} (p : HA) (k : OOb → β) : β := @HA.rec (fun _ => β) (fun c0 c1 c2 c3 c4 c5 c6 c7 c8 c9 ca cb cc cd ce cf => k c1) p
def hag2 {β : Type} (p : HA) (k : OOb → β) : β := @HA.rec (fun _ => β) (fun c0 c1 c2 c3 c4 c5 c6 c7 c8 c9 ca cb cc cd ce cf => k c2) p
def hag3 {β : Type} (p : HA) (k : OOb → β) : β := @HA.rec (fun _ => β) (fun c0 c1 c2 c3 c4 c5 c6 c7 c8 c9 ca cb cc cd ce cf => k c3) p
def hag4 {β : Type} (p : HA) (k : OOb → β) : β := @HA.rec (fun _ => β) (fun c0 c1 c2 c3 c4 c5 c6 c7 c8 c9 ca cb cc cd ce cf => k c4) p
def hag5 {β : Type} (p : HA) (k : OOb → β) : β := @HA.rec (fun _ => β) (fun c0 c1 c2 c3 c4 c5 c6 c7 c8 c9 ca cb cc cd ce cf => k c5) p
def hag6 {β : Type} (p : HA) (k : OOb → β) : β := @HA.rec (fun _ => β) (fun c0 c1 c2 c3 c4 c5 c6 c7 c8 c9 ca cb cc cd ce cf => k c6) p
def hag7 {β : Type} (p : HA) (k : OOb → β) : β := @HA.rec (fun _ => β) (fun c0 c1 c2 c3 c4 c5 c6 c7 c8 c9 ca cb cc cd ce cf => k c7) p
def hag8 {β : Type} (p : HA) (k : OOb → β) : β := @HA.rec (fun _ => β) (fun c0 c1 c2 c3 c4 c5 c6 c7 c8 c9 ca cb cc cd ce cf => k c8) p
def hag9 {β : Type} (p : HA) (k : OOb → β) : β := @HA.rec (fun _ => β) (fun c0 c1 c2 c3 c4 c5 c6 c7 c8 c9 ca cb cc cd ce cf => k c9) p
def hag10 {β : Type} (p : HA) (k : OOb → β) : β := @HA.rec (fun _ => β) (fun c0 c1 c2 c3 c4 c5 c6 c7 c8 c9 ca cb cc cd ce cf => k ca) p
def hag11 {β : Type} (p : HA) (k : OOb → β) : β := @HA.rec (fun _ => β) (fun c0 c1 c2 c3 c4 c5 c6 c7 c8 c9 ca cb cc cd ce cf => k cb) p
def hag12 {β : Type} (p : HA) (k : OOb → β) : β := @HA.rec (fun _ => β) (fun c0 c1 c2 c3 c4 c5 c6 c7 c8 c9 ca cb cc cd ce cf => k cc) p
def hag13 {β : Type} (p : HA) (k : OOb → β) : β := @HA.rec (fun _ => β) (fun c0 c1 c2 c3 c4 c5 c6 c7 c8 c9 ca cb cc cd ce cf => k cd) p
def hag14 {β : Type} (p : HA) (k : OOb → β) : β := @HA.rec (fun _ => β) (fun c0 c1 c2 c3 c4 c5 c6 c7 c8 c9 ca cb cc cd ce cf => k ce) p
def hag15 {β : Type} (p : HA) (k : OOb → β) : β := @HA.rec (fun _ => β) (fun c0 c1 c2 c3 c4 c5 c6 c7 c8 c9 ca cb cc cd ce cf => k cf) p
def HA.selK {β : Type} (d : D) : HA → (OOb → β) → β :=
  @D.rec (fun _ => HA → (OOb → β) → β) hag0 hag1 hag2 hag3 hag4 hag5 hag6 hag7 hag8 hag9 hag10 hag11 hag12 hag13 hag14 hag15 d
theorem HA.selK_eq {β : Type} (d : D) (p : HA) (k : OOb → β) : HA.selK d p k = k (HA.sel d p) := by
  cases d <;> cases p <;> rfl
def HA.setK {β : Type} (d : D) : HA → OOb → (HA → β) → β :=
  @D.rec (fun _ => HA → OOb → (HA → β) → β) has0 has1 has2 has3 has4 has5 has6 has7 has8 has9 has10 has11 has12 has13 has14 has15 d
def HA.setS (d : D) (p : HA) (v : OOb) : HA := HA.setK d p v id
theorem HA.setK_eq {β : Type} (d : D) (p : HA) (v : OOb) (k : HA → β) : HA.setK d p v k = k (HA.setS d p v) := by
  cases d <;> cases p <;> rfl
theorem HA.sel_setS_same (d : D) (p : HA) (v : OOb) : HA.sel d (HA.setS d p v) = v := by
  cases d <;> cases p <;> rfl
theorem HA.sel_setS_ne {d e : D} (p : HA) (v : OOb) (h : d ≠ e) : HA.sel e (HA.setS d p v) = HA.sel e p := by
  cases p; cases d <;> cases e <;> first | rfl | exact absurd rfl h
theorem HA.sel_all (d : D) (x : OOb) : HA.sel d (HA.all x) = x := by cases d <;> rfl
/-- Of those sixteen. -/
inductive HB where
  | mk (c0 c1 c2 c3 c4 c5 c6 c7 c8 c9 ca cb cc cd ce cf : HA)
def HB.all (x : HA) : HB := .mk x x x x x x x x x x x x x x x x
def HB.sel (d : D) (p : HB) : HA :=
  @HB.rec (fun _ => HA) (fun c0 c1 c2 c3 c4 c5 c6 c7 c8 c9 ca cb cc cd ce cf => @D.rec (fun _ => HA) c0 c1 c2 c3 c4 c5 c6 c7 c8 c9 ca cb cc cd ce cf d) p
def hbs0 {β : Type} (p : HB) (v : HA) (k : HB → β) : β := @HB.rec (fun _ => β) (fun c0 c1 c2 c3 c4 c5 c6 c7 c8 c9 ca cb cc cd ce cf => k (.mk v c1 c2 c3 c4 c5 c6 c7 c8 c9 ca cb cc cd ce cf)) p
def hbs1 {β : Type} (p : HB) (v : HA) (k : HB → β) : β := @HB.rec (fun _ => β) (fun c0 c1 c2 c3 c4 c5 c6 c7 c8 c9 ca cb cc cd ce cf => k (.mk c0 v c2 c3 c4 c5 c6 c7 c8 c9 ca cb cc cd ce cf)) p
def hbs2 {β : Type} (p : HB) (v : HA) (k : HB → β) : β := @HB.rec (fun _ => β) (fun c0 c1 c2 c3 c4 c5 c6 c7 c8 c9 ca cb cc cd ce cf => k (.mk c0 c1 v c3 c4 c5 c6 c7 c8 c9 ca cb cc cd ce cf)) p
def hbs3 {β : Type} (p : HB) (v : HA) (k : HB → β) : β := @HB.rec (fun _ => β) (fun c0 c1 c2 c3 c4 c5 c6 c7 c8 c9 ca cb cc cd ce cf => k (.mk c0 c1 c2 v c4 c5 c6 c7 c8 c9 ca cb cc cd ce cf)) p
def hbs4 {β : Type} (p : HB) (v : HA) (k : HB → β) : β := @HB.rec (fun _ => β) (fun c0 c1 c2 c3 c4 c5 c6 c7 c8 c9 ca cb cc cd ce cf => k (.mk c0 c1 c2 c3 v c5 c6 c7 c8 c9 ca cb cc cd ce cf)) p
def hbs5 {β : Type} (p : HB) (v : HA) (k : HB → β) : β := @HB.rec (fun _ => β) (fun c0 c1 c2 c3 c4 c5 c6 c7 c8 c9 ca cb cc cd ce cf => k (.mk c0 c1 c2 c3 c4 v c6 c7 c8 c9 ca cb cc cd ce cf)) p
def hbs6 {β : Type} (p : HB) (v : HA) (k : HB → β) : β := @HB.rec (fun _ => β) (fun c0 c1 c2 c3 c4 c5 c6 c7 c8 c9 ca cb cc cd ce cf => k (.mk c0 c1 c2 c3 c4 c5 v c7 c8 c9 ca cb cc cd ce cf)) p
def hbs7 {β : Type} (p : HB) (v : HA) (k : HB → β) : β := @HB.rec (fun _ => β) (fun c0 c1 c2 c3 c4 c5 c6 c7 c8 c9 ca cb cc cd ce cf => k (.mk c0 c1 c2 c3 c4 c5 c6 v c8 c9 ca cb cc cd ce cf)) p
def hbs8 {β : Type} (p : HB) (v : HA) (k : HB → β) : β := @HB.rec (fun _ => β) (fun c0 c1 c2 c3 c4 c5 c6 c7 c8 c9 ca cb cc cd ce cf => k (.mk c0 c1 c2 c3 c4 c5 c6 c7 v c9 ca cb cc cd ce cf)) p
def hbs9 {β : Type} (p : HB) (v : HA) (k : HB → β) : β := @HB.rec (fun _ => β) (fun c0 c1 c2 c3 c4 c5 c6 c7 c8 c9 ca cb cc cd ce cf => k (.mk c0 c1 c2 c3 c4 c5 c6 c7 c8 v ca cb cc cd ce cf)) p
def hbs10 {β : Type} (p : HB) (v : HA) (k : HB → β) : β := @HB.rec (fun _ => β) (fun c0 c1 c2 c3 c4 c5 c6 c7 c8 c9 ca cb cc cd ce cf => k (.mk c0 c1 c2 c3 c4 c5 c6 c7 c8 c9 v cb cc cd ce cf)) p
def hbs11 {β : Type} (p : HB) (v : HA) (k : HB → β) : β := @HB.rec (fun _ => β) (fun c0 c1 c2 c3 c4 c5 c6 c7 c8 c9 ca cb cc cd ce cf => k (.mk c0 c1 c2 c3 c4 c5 c6 c7 c8 c9 ca v cc cd ce cf)) p
def hbs12 {β : Type} (p : HB) (v : HA) (k : HB → β) : β := @HB.rec (fun _ => β) (fun c0 c1 c2 c3 c4 c5 c6 c7 c8 c9 ca cb cc cd ce cf => k (.mk c0 c1 c2 c3 c4 c5 c6 c7 c8 c9 ca cb v cd ce cf)) p
def hbs13 {β : Type} (p : HB) (v : HA) (k : HB → β) : β := @HB.rec (fun _ => β) (fun c0 c1 c2 c3 c4 c5 c6 c7 c8 c9 ca cb cc cd ce cf => k (.mk c0 c1 c2 c3 c4 c5 c6 c7 c8 c9 ca cb cc v ce cf)) p
def hbs14 {β : Type} (p : HB) (v : HA) (k : HB → β) : β := @HB.rec (fun _ => β) (fun c0 c1 c2 c3 c4 c5 c6 c7 c8 c9 ca cb cc cd ce cf => k (.mk c0 c1 c2 c3 c4 c5 c6 c7 c8 c9 ca cb cc cd v cf)) p
def hbs15 {β : Type} (p : HB) (v : HA) (k : HB → β) : β := @HB.rec (fun _ => β) (fun c0 c1 c2 c3 c4 c5 c6 c7 c8 c9 ca cb cc cd ce cf => k (.mk c0 c1 c2 c3 c4 c5 c6 c7 c8 c9 ca cb cc cd ce v)) p
def hbg0 {β : Type} (p : HB) (k : HA → β) : β := @HB.rec (fun _ => β) (fun c0 c1 c2 c3 c4 c5 c6 c7 c8 c9 ca cb cc cd ce cf => k c0) p
def hbg1 {β : Type} (p : HB) (k : HA → β) : β := @HB.rec (fun _ => β) (fun c0 c1 c2 c3 c4 c5 c6 c7 c8 c9 ca cb cc cd ce cf => k c1) p
def hbg2 {β : Type} (p : HB) (k : HA → β) : β := @HB.rec (fun _ => β) (fun c0 c1 c2 c3 c4 c5 c6 c7 c8 c9 ca cb cc cd ce cf => k c2) p
def hbg3 {β : Type} (p : HB) (k : HA → β) : β := @HB.rec (fun _ => β) (fun c0 c1 c2 c3 c4 c5 c6 c7 c8 c9 ca cb cc cd ce cf => k c3) p
def hbg4 {β : Type} (p : HB) (k : HA → β) : β := @HB.rec (fun _ => β) (fun c0 c1 c2 c3 c4 c5 c6 c7 c8 c9 ca cb cc cd ce cf => k c4) p
def hbg5 {β : Type} (p : HB) (k : HA → β) : β := @HB.rec (fun _ => β) (fun c0 c1 c2 c3 c4 c5 c6 c7 c8 c9 ca cb cc cd ce cf => k c5) p
def hbg6 {β : Type} (p : HB) (k : HA → β) : β := @HB.rec (fun _ => β) (fun c0 c1 c2 c3 c4 c5 c6 c7 c8 c9 ca cb cc cd ce cf => k c6) p
def hbg7 {β : Type} (p : HB) (k : HA → β) : β := @HB.rec (fun _ => β) (fun c0 c1 c2 c3 c4 c5 c6 c7 c8 c9 ca cb cc cd ce cf => k c7) p
def hbg8 {β : Type} (p : HB) (k : HA → β) : β := @HB.rec (fun _ => β) (fun c0 c1 c2 c3 c4 c5 c6 c7 c8 c9 ca cb cc cd ce cf => k c8) p
def hbg9 {β : Type} (p : HB) (k : HA → β) : β := @HB.rec (fun _ => β) (fun c0 c1 c2 c3 c4 c5 c6 c7 c8 c9 ca cb cc cd ce cf => k c9) p
def hbg10 {β : Type} (p : HB) (k : HA → β) : β := @HB.rec (fun _ => β) (fun c0 c1 c2 c3 c4 c5 c6 c7 c8 c9 ca cb cc cd ce cf => k ca) p
def hbg11 {β : Type} (p : HB) (k : HA → β) : β := @HB.rec (fun _ => β) (fun c0 c1 c2 c3 c4 c5 c6 c7 c8 c9 ca cb cc cd ce cf => k cb) p
def hbg12 {β : Type} (p : HB) (k : HA → β) : β := @HB.rec (fun _ => β) (fun c0 c1 c2 c3 c4 c5 c6 c7 c8 c9 ca cb cc cd ce cf => k cc) p
def hbg13 {β : Type} (p : HB) (k : HA → β) : β := @HB.rec (fun _ => β) (fun c0 c1 c2 c3 c4 c5 c6 c7 c8 c9 ca cb cc cd ce cf => k cd) p
def hbg14 {β : Type} (p : HB) (k : HA → β) : β := @HB.rec (fun _ => β) (fun c0 c1 c2 c3 c4 c5 c6 c7 c8 c9 ca cb cc cd ce cf => k ce) p
def hbg15 {β : Type} (p : HB) (k : HA → β) : β := @HB.rec (fun _ => β) (fun c0 c1 c2 c3 c4 c5 c6 c7 c8 c9 ca cb cc cd ce cf => k cf) p
def HB.selK {β : Type} (d : D) : HB → (HA → β) → β :=
  @D.rec (fun _ => HB → (HA → β) → β) hbg0 hbg1 hbg2 hbg3 hbg4 hbg5 hbg6 hbg7 hbg8 hbg9 hbg10 hbg11 hbg12 hbg13 hbg14 hbg15 d
theorem HB.selK_eq {β : Type} (d : D) (p : HB) (k : HA → β) : HB.selK d p k = k (HB.sel d p) := by
  cases d <;> cases p <;> rfl
def HB.setK {β : Type} (d : D) : HB → HA → (HB → β) → β :=
  @D.rec (fun _ => HB → HA → (HB → β) → β) hbs0 hbs1 hbs2 hbs3 hbs4 hbs5 hbs6 hbs7 hbs8 hbs9 hbs10 hbs11 hbs12 hbs13 hbs14 hbs15 d
def HB.setS (d : D) (p : HB) (v : HA) : HB := HB.setK d p v id
theorem HB.setK_eq {β : Type} (d : D) (p : HB) (v : HA) (k : HB → β) : HB.setK d p v k = k (HB.setS d p v) := by
  cases d <;> cases p <;> rfl
theorem HB.sel_setS_same (d : D) (p : HB) (v : HA) : HB.sel d (HB.setS d p v) = v := by
  cases d <;> cases p <;> rfl
theorem HB.sel_setS_ne {d e : D} (p : HB) (v : HA) (h : d ≠ e) : HB.sel e (HB.setS d p v) = HB.sel e p := by
  cases p; cases d <;> cases e <;> first | rfl | exact absurd rfl h
theorem HB.sel_all (d : D) (x : HA) : HB.sel d (HB.all x) = x := by cases d <;> rfl
/-- Of those sixteen. -/
inductive HC where
  | mk (c0 c1 c2 c3 c4 c5 c6 c7 c8 c9 ca cb cc cd ce cf : HB)
def HC.all (x : HB) : HC := .mk x x x x x x x x x x x x x x x x
def HC.sel (d : D) (p : HC) : HB :=
  @HC.rec (fun _ => HB) (fun c0 c1 c2 c3 c4 c5 c6 c7 c8 c9 ca cb cc cd ce cf => @D.rec (fun _ => HB) c0 c1 c2 c3 c4 c5 c6 c7 c8 c9 ca cb cc cd ce cf d) p
def hcs0 {β : Type} (p : HC) (v : HB) (k : HC → β) : β := @HC.rec (fun _ => β) (fun c0 c1 c2 c3 c4 c5 c6 c7 c8 c9 ca cb cc cd ce cf => k (.mk v c1 c2 c3 c4 c5 c6 c7 c8 c9 ca cb cc cd ce cf)) p
def hcs1 {β : Type} (p : HC) (v : HB) (k : HC → β) : β := @HC.rec (fun _ => β) (fun c0 c1 c2 c3 c4 c5 c6 c7 c8 c9 ca cb cc cd ce cf => k (.mk c0 v c2 c3 c4 c5 c6 c7 c8 c9 ca cb cc cd ce cf)) p
def hcs2 {β : Type} (p : HC) (v : HB) (k : HC → β) : β := @HC.rec (fun _ => β) (fun c0 c1 c2 c3 c4 c5 c6 c7 c8 c9 ca cb cc cd ce cf => k (.mk c0 c1 v c3 c4 c5 c6 c7 c8 c9 ca cb cc cd ce cf)) p
def hcs3 {β : Type} (p : HC) (v : HB) (k : HC → β) : β := @HC.rec (fun _ => β) (fun c0 c1 c2 c3 c4 c5 c6 c7 c8 c9 ca cb cc cd ce cf => k (.mk c0 c1 c2 v c4 c5 c6 c7 c8 c9 ca cb cc cd ce cf)) p
def hcs4 {β : Type} (p : HC) (v : HB) (k : HC → β) : β := @HC.rec (fun _ => β) (fun c0 c1 c2 c3 c4 c5 c6 c7 c8 c9 ca cb cc cd ce cf => k (.mk c0 c1 c2 c3 v c5 c6 c7 c8 c9 ca cb cc cd ce cf)) p
def hcs5 {β : Type} (p : HC) (v : HB) (k : HC → β) : β := @HC.rec (fun _ => β) (fun c0 c1 c2 c3 c4 c5 c6 c7 c8 c9 ca cb cc cd ce cf => k (.mk c0 c1 c2 c3 c4 v c6 c7 c8 c9 ca cb cc cd ce cf)) p
def hcs6 {β : Type} (p : HC) (v : HB) (k : HC → β) : β := @HC.rec (fun _ => β) (fun c0 c1 c2 c3 c4 c5 c6 c7 c8 c9 ca cb cc cd ce cf => k (.mk c0 c1 c2 c3 c4 c5 v c7 c8 c9 ca cb cc cd ce cf)) p
def hcs7 {β : Type} (p : HC) (v : HB) (k : HC → β) : β := @HC.rec (fun _ => β) (fun c0 c1 c2 c3 c4 c5 c6 c7 c8 c9 ca cb cc cd ce cf => k (.mk c0 c1 c2 c3 c4 c5 c6 v c8 c9 ca cb cc cd ce cf)) p
def hcs8 {β : Type} (p : HC) (v : HB) (k : HC → β) : β := @HC.rec (fun _ => β) (fun c0 c1 c2 c3 c4 c5 c6 c7 c8 c9 ca cb cc cd ce cf => k (.mk c0 c1 c2 c3 c4 c5 c6 c7 v c9 ca cb cc cd ce cf)) p
def hcs9 {β : Type} (p : HC) (v : HB) (k : HC → β) : β := @HC.rec (fun _ => β) (fun c0 c1 c2 c3 c4 c5 c6 c7 c8 c9 ca cb cc cd ce cf => k (.mk c0 c1 c2 c3 c4 c5 c6 c7 c8 v ca cb cc cd ce cf)) p
def hcs10 {β : Type} (p : HC) (v : HB) (k : HC → β) : β := @HC.rec (fun _ => β) (fun c0 c1 c2 c3 c4 c5 c6 c7 c8 c9 ca cb cc cd ce cf => k (.mk c0 c1 c2 c3 c4 c5 c6 c7 c8 c9 v cb cc cd ce cf)) p
def hcs11 {β : Type} (p : HC) (v : HB) (k : HC → β) : β := @HC.rec (fun _ => β) (fun c0 c1 c2 c3 c4 c5 c6 c7 c8 c9 ca cb cc cd ce cf => k (.mk c0 c1 c2 c3 c4 c5 c6 c7 c8 c9 ca v cc cd ce cf)) p
def hcs12 {β : Type} (p : HC) (v : HB) (k : HC → β) : β := @HC.rec (fun _ => β) (fun c0 c1 c2 c3 c4 c5 c6 c7 c8 c9 ca cb cc cd ce cf => k (.mk c0 c1 c2 c3 c4 c5 c6 c7 c8 c9 ca cb v cd ce cf)) p
def hcs13 {β : Type} (p : HC) (v : HB) (k : HC → β) : β := @HC.rec (fun _ => β) (fun c0 c1 c2 c3 c4 c5 c6 c7 c8 c9 ca cb cc cd ce cf => k (.mk c0 c1 c2 c3 c4 c5 c6 c7 c8 c9 ca cb cc v ce cf)) p
def hcs14 {β : Type} (p : HC) (v : HB) (k : HC → β) : β := @HC.rec (fun _ => β) (fun c0 c1 c2 c3 c4 c5 c6 c7 c8 c9 ca cb cc cd ce cf => k (.mk c0 c1 c2 c3 c4 c5 c6 c7 c8 c9 ca cb cc cd v cf)) p
def hcs15 {β : Type} (p : HC) (v : HB) (k : HC → β) : β := @HC.rec (fun _ => β) (fun c0 c1 c2 c3 c4 c5 c6 c7 c8 c9 ca cb cc cd ce cf => k (.mk c0 c1 c2 c3 c4 c5 c6 c7 c8 c9 ca cb cc cd ce v)) p
def hcg0 {β : Type} (p : HC) (k : HB → β) : β := @HC.rec (fun _ => β) (fun c0 c1 c2 c3 c4 c5 c6 c7 c8 c9 ca cb cc cd ce cf => k c0) p
def hcg1 {β : Type} (p : HC) (k : HB → β) : β := @HC.rec (fun _ => β) (fun c0 c1 c2 c3 c4 c5 c6 c7 c8 c9 ca cb cc cd ce cf => k c1) p
def hcg2 {β : Type} (p : HC) (k : HB → β) : β := @HC.rec (fun _ => β) (fun c0 c1 c2 c3 c4 c5 c6 c7 c8 c9 ca cb cc cd ce cf => k c2) p
def hcg3 {β : Type} (p : HC) (k : HB → β) : β := @HC.rec (fun _ => β) (fun c0 c1 c2 c3 c4 c5 c6 c7 c8 c9 ca cb cc cd ce cf => k c3) p
def hcg4 {β : Type} (p : HC) (k : HB → β) : β := @HC.rec (fun _ => β) (fun c0 c1 c2 c3 c4 c5 c6 c7 c8 c9 ca cb cc cd ce cf => k c4) p
def hcg5 {β : Type} (p : HC) (k : HB → β) : β := @HC.rec (fun _ => β) (fun c0 c1 c2 c3 c4 c5 c6 c7 c8 c9 ca cb cc cd ce cf => k c5) p
def hcg6 {β : Type} (p : HC) (k : HB → β) : β := @HC.rec (fun _ => β) (fun c0 c1 c2 c3 c4 c5 c6 c7 c8 c9 ca cb cc cd ce cf => k c6) p
def hcg7 {β : Type} (p : HC) (k : HB → β) : β := @HC.rec (fun _ => β) (fun c0 c1 c2 c3 c4 c5 c6 c7 c8 c9 ca cb cc cd ce cf => k c7) p
def hcg8 {β : Type} (p : HC) (k : HB → β) : β := @HC.rec (fun _ => β) (fun c0 c1 c2 c3 c4 c5 c6 c7 c8 c9 ca cb cc cd ce cf => k c8) p
def hcg9 {β : Type} (p : HC) (k : HB → β) : β := @HC.rec (fun _ => β) (fun c0 c1 c2 c3 c4 c5 c6 c7 c8 c9 ca cb cc cd ce cf => k c9) p
def hcg10 {β : Type} (p : HC) (k : HB → β) : β := @HC.rec (fun _ => β) (fun c0 c1 c2 c3 c4 c5 c6 c7 c8 c9 ca cb cc cd ce cf => k ca) p
def hcg11 {β : Type} (p : HC) (k : HB → β) : β := @HC.rec (fun _ => β) (fun c0 c1 c2 c3 c4 c5 c6 c7 c8 c9 ca cb cc cd ce cf => k cb) p
def hcg12 {β : Type} (p : HC) (k : HB → β) : β := @HC.rec (fun _ => β) (fun c0 c1 c2 c3 c4 c5 c6 c7 c8 c9 ca cb cc cd ce cf => k cc) p
def hcg13 {β : Type} (p : HC) (k : HB → β) : β := @HC.rec (fun _ => β) (fun c0 c1 c2 c3 c4 c5 c6 c7 c8 c9 ca cb cc cd ce cf => k cd) p
def hcg14 {β : Type} (p : HC) (k : HB → β) : β := @HC.rec (fun _ => β) (fun c0 c1 c2 c3 c4 c5 c6 c7 c8 c9 ca cb cc cd ce cf => k ce) p
def hcg15 {β : Type} (p : HC) (k : HB → β) : β := @HC.rec (fun _ => β) (fun c0 c1 c2 c3 c4 c5 c6 c7 c8 c9 ca cb cc cd ce cf => k cf) p
def HC.selK {β : Type} (d : D) : HC → (HB → β) → β :=
  @D.rec (fun _ => HC → (HB → β) → β) hcg0 hcg1 hcg2 hcg3 hcg4 hcg5 hcg6 hcg7 hcg8 hcg9 hcg10 hcg11 hcg12 hcg13 hcg14 hcg15 d
theorem HC.selK_eq {β : Type} (d : D) (p : HC) (k : HB → β) : HC.selK d p k = k (HC.sel d p) := by
  cases d <;> cases p <;> rfl
def HC.setK {β : Type} (d : D) : HC → HB → (HC → β) → β :=
  @D.rec (fun _ => HC → HB → (HC → β) → β) hcs0 hcs1 hcs2 hcs3 hcs4 hcs5 hcs6 hcs7 hcs8 hcs9 hcs10 hcs11 hcs12 hcs13 hcs14 hcs15 d
def HC.setS (d : D) (p : HC) (v : HB) : HC := HC.setK d p v id
theorem HC.setK_eq {β : Type} (d : D) (p : HC) (v : HB) (k : HC → β) : HC.setK d p v k = k (HC.setS d p v) := by
  cases d <;> cases p <;> rfl
theorem HC.sel_setS_same (d : D) (p : HC) (v : HB) : HC.sel d (HC.setS d p v) = v := by
  cases d <;> cases p <;> rfl
theorem HC.sel_setS_ne {d e : D} (p : HC) (v : HB) (h : d ≠ e) : HC.sel e (HC.setS d p v) = HC.sel e p := by
  cases p; cases d <;> cases e <;> first | rfl | exact absurd rfl h
theorem HC.sel_all (d : D) (x : HB) : HC.sel d (HC.all x) = x := by cases d <;> rfl
/-- The heap. -/
inductive Heap where
  | mk (c0 c1 c2 c3 c4 c5 c6 c7 c8 c9 ca cb cc cd ce cf : HC)
def Heap.all (x : HC) : Heap := .mk x x x x x x x x x x x x x x x x
def Heap.sel (d : D) (p : Heap) : HC :=
  @Heap.rec (fun _ => HC) (fun c0 c1 c2 c3 c4 c5 c6 c7 c8 c9 ca cb cc cd ce cf => @D.rec (fun _ => HC) c0 c1 c2 c3 c4 c5 c6 c7 c8 c9 ca cb cc cd ce cf d) p
def hds0 {β : Type} (p : Heap) (v : HC) (k : Heap → β) : β := @Heap.rec (fun _ => β) (fun c0 c1 c2 c3 c4 c5 c6 c7 c8 c9 ca cb cc cd ce cf => k (.mk v c1 c2 c3 c4 c5 c6 c7 c8 c9 ca cb cc cd ce cf)) p
def hds1 {β : Type} (p : Heap) (v : HC) (k : Heap → β) : β := @Heap.rec (fun _ => β) (fun c0 c1 c2 c3 c4 c5 c6 c7 c8 c9 ca cb cc cd ce cf => k (.mk c0 v c2 c3 c4 c5 c6 c7 c8 c9 ca cb cc cd ce cf)) p
def hds2 {β : Type} (p : Heap) (v : HC) (k : Heap → β) : β := @Heap.rec (fun _ => β) (fun c0 c1 c2 c3 c4 c5 c6 c7 c8 c9 ca cb cc cd ce cf => k (.mk c0 c1 v c3 c4 c5 c6 c7 c8 c9 ca cb cc cd ce cf)) p
def hds3 {β : Type} (p : Heap) (v : HC) (k : Heap → β) : β := @Heap.rec (fun _ => β) (fun c0 c1 c2 c3 c4 c5 c6 c7 c8 c9 ca cb cc cd ce cf => k (.mk c0 c1 c2 v c4 c5 c6 c7 c8 c9 ca cb cc cd ce cf)) p
def hds4 {β : Type} (p : Heap) (v : HC) (k : Heap → β) : β := @Heap.rec (fun _ => β) (fun c0 c1 c2 c3 c4 c5 c6 c7 c8 c9 ca cb cc cd ce cf => k (.mk c0 c1 c2 c3 v c5 c6 c7 c8 c9 ca cb cc cd ce cf)) p
def hds5 {β : Type} (p : Heap) (v : HC) (k : Heap → β) : β := @Heap.rec (fun _ => β) (fun c0 c1 c2 c3 c4 c5 c6 c7 c8 c9 ca cb cc cd ce cf => k (.mk c0 c1 c2 c3 c4 v c6 c7 c8 c9 ca cb cc cd ce cf)) p
def hds6 {β : Type} (p : Heap) (v : HC) (k : Heap → β) : β := @Heap.rec (fun _ => β) (fun c0 c1 c2 c3 c4 c5 c6 c7 c8 c9 ca cb cc cd ce cf => k (.mk c0 c1 c2 c3 c4 c5 v c7 c8 c9 ca cb cc cd ce cf)) p
def hds7 {β : Type} (p : Heap) (v : HC) (k : Heap → β) : β := @Heap.rec (fun _ => β) (fun c0 c1 c2 c3 c4 c5 c6 c7 c8 c9 ca cb cc cd ce cf => k (.mk c0 c1 c2 c3 c4 c5 c6 v c8 c9 ca cb cc cd ce cf)) p
def hds8 {β : Type} (p : Heap) (v : HC) (k : Heap → β) : β := @Heap.rec (fun _ => β) (fun c0 c1 c2 c3 c4 c5 c6 c7 c8 c9 ca cb cc cd ce cf => k (.mk c0 c1 c2 c3 c4 c5 c6 c7 v c9 ca cb cc cd ce cf)) p
def hds9 {β : Type} (p : Heap) (v : HC) (k : Heap → β) : β := @Heap.rec (fun _ => β) (fun c0 c1 c2 c3 c4 c5 c6 c7 c8 c9 ca cb cc cd ce cf => k (.mk c0 c1 c2 c3 c4 c5 c6 c7 c8 v ca cb cc cd ce cf)) p
def hds10 {β : Type} (p : Heap) (v : HC) (k : Heap → β) : β := @Heap.rec (fun _ => β) (fun c0 c1 c2 c3 c4 c5 c6 c7 c8 c9 ca cb cc cd ce cf => k (.mk c0 c1 c2 c3 c4 c5 c6 c7 c8 c9 v cb cc cd ce cf)) p
def hds11 {β : Type} (p : Heap) (v : HC) (k : Heap → β) : β := @Heap.rec (fun _ => β) (fun c0 c1 c2 c3 c4 c5 c6 c7 c8 c9 ca cb cc cd ce cf => k (.mk c0 c1 c2 c3 c4 c5 c6 c7 c8 c9 ca v cc cd ce cf)) p
def hds12 {β : Type} (p : Heap) (v : HC) (k : Heap → β) : β := @Heap.rec (fun _ => β) (fun c0 c1 c2 c3 c4 c5 c6 c7 c8 c9 ca cb cc cd ce cf => k (.mk c0 c1 c2 c3 c4 c5 c6 c7 c8 c9 ca cb v cd ce cf)) p
def hds13 {β : Type} (p : Heap) (v : HC) (k : Heap → β) : β := @Heap.rec (fun _ => β) (fun c0 c1 c2 c3 c4 c5 c6 c7 c8 c9 ca cb cc cd ce cf => k (.mk c0 c1 c2 c3 c4 c5 c6 c7 c8 c9 ca cb cc v ce cf)) p
def hds14 {β : Type} (p : Heap) (v : HC) (k : Heap → β) : β := @Heap.rec (fun _ => β) (fun c0 c1 c2 c3 c4 c5 c6 c7 c8 c9 ca cb cc cd ce cf => k (.mk c0 c1 c2 c3 c4 c5 c6 c7 c8 c9 ca cb cc cd v cf)) p
def hds15 {β : Type} (p : Heap) (v : HC) (k : Heap → β) : β := @Heap.rec (fun _ => β) (fun c0 c1 c2 c3 c4 c5 c6 c7 c8 c9 ca cb cc cd ce cf => k (.mk c0 c1 c2 c3 c4 c5 c6 c7 c8 c9 ca cb cc cd ce v)) p
def hdg0 {β : Type} (p : Heap) (k : HC → β) : β := @Heap.rec (fun _ => β) (fun c0 c1 c2 c3 c4 c5 c6 c7 c8 c9 ca cb cc cd ce cf => k c0) p
def hdg1 {β : Type} (p : Heap) (k : HC → β) : β := @Heap.rec (fun _ => β) (fun c0 c1 c2 c3 c4 c5 c6 c7 c8 c9 ca cb cc cd ce cf => k c1) p
def hdg2 {β : Type} (p : Heap) (k : HC → β) : β := @Heap.rec (fun _ => β) (fun c0 c1 c2 c3 c4 c5 c6 c7 c8 c9 ca cb cc cd ce cf => k c2) p
def hdg3 {β : Type} (p : Heap) (k : HC → β) : β := @Heap.rec (fun _ => β) (fun c0 c1 c2 c3 c4 c5 c6 c7 c8 c9 ca cb cc cd ce cf => k c3) p
def hdg4 {β : Type} (p : Heap) (k : HC → β) : β := @Heap.rec (fun _ => β) (fun c0 c1 c2 c3 c4 c5 c6 c7 c8 c9 ca cb cc cd ce cf => k c4) p
def hdg5 {β : Type} (p : Heap) (k : HC → β) : β := @Heap.rec (fun _ => β) (fun c0 c1 c2 c3 c4 c5 c6 c7 c8 c9 ca cb cc cd ce cf => k c5) p
def hdg6 {β : Type} (p : Heap) (k : HC → β) : β := @Heap.rec (fun _ => β) (fun c0 c1 c2 c3 c4 c5 c6 c7 c8 c9 ca cb cc cd ce cf => k c6) p
def hdg7 {β : Type} (p : Heap) (k : HC → β) : β := @Heap.rec (fun _ => β) (fun c0 c1 c2 c3 c4 c5 c6 c7 c8 c9 ca cb cc cd ce cf => k c7) p
def hdg8 {β : Type} (p : Heap) (k : HC → β) : β := @Heap.rec (fun _ => β) (fun c0 c1 c2 c3 c4 c5 c6 c7 c8 c9 ca cb cc cd ce cf => k c8) p
def hdg9 {β : Type} (p : Heap) (k : HC → β) : β := @Heap.rec (fun _ => β) (fun c0 c1 c2 c3 c4 c5 c6 c7 c8 c9 ca cb cc cd ce cf => k c9) p
def hdg10 {β : Type} (p : Heap) (k : HC → β) : β := @Heap.rec (fun _ => β) (fun c0 c1 c2 c3 c4 c5 c6 c7 c8 c9 ca cb cc cd ce cf => k ca) p
def hdg11 {β : Type} (p : Heap) (k : HC → β) : β := @Heap.rec (fun _ => β) (fun c0 c1 c2 c3 c4 c5 c6 c7 c8 c9 ca cb cc cd ce cf => k cb) p
def hdg12 {β : Type} (p : Heap) (k : HC → β) : β := @Heap.rec (fun _ => β) (fun c0 c1 c2 c3 c4 c5 c6 c7 c8 c9 ca cb cc cd ce cf => k cc) p
def hdg13 {β : Type} (p : Heap) (k : HC → β) : β := @Heap.rec (fun _ => β) (fun c0 c1 c2 c3 c4 c5 c6 c7 c8 c9 ca cb cc cd ce cf => k cd) p
def hdg14 {β : Type} (p : Heap) (k : HC → β) : β := @Heap.rec (fun _ => β) (fun c0 c1 c2 c3 c4 c5 c6 c7 c8 c9 ca cb cc cd ce cf => k ce) p
def hdg15 {β : Type} (p : Heap) (k : HC → β) : β := @Heap.rec (fun _ => β) (fun c0 c1 c2 c3 c4 c5 c6 c7 c8 c9 ca cb cc cd ce cf => k cf) p
def Heap.selK {β : Type} (d : D) : Heap → (HC → β) → β :=
  @D.rec (fun _ => Heap → (HC → β) → β) hdg0 hdg1 hdg2 hdg3 hdg4 hdg5 hdg6 hdg7 hdg8 hdg9 hdg10 hdg11 hdg12 hdg13 hdg14 hdg15 d
theorem Heap.selK_eq {β : Type} (d : D) (p : Heap) (k : HC → β) : Heap.selK d p k = k (Heap.sel d p) := by
  cases d <;> cases p <;> rfl
def Heap.setK {β : Type} (d : D) : Heap → HC → (Heap → β) → β :=
  @D.rec (fun _ => Heap → HC → (Heap → β) → β) hds0 hds1 hds2 hds3 hds4 hds5 hds6 hds7 hds8 hds9 hds10 hds11 hds12 hds13 hds14 hds15 d
def Heap.setS (d : D) (p : Heap) (v : HC) : Heap := Heap.setK d p v id
theorem Heap.setK_eq {β : Type} (d : D) (p : Heap) (v : HC) (k : Heap → β) : Heap.setK d p v k = k (Heap.setS d p v) := by
  cases d <;> cases p <;> rfl
theorem Heap.sel_setS_same (d : D) (p : Heap) (v : HC) : Heap.sel d (Heap.setS d p v) = v := by
  cases d <;> cases p <;> rfl
theorem Heap.sel_setS_ne {d e : D} (p : Heap) (v : HC) (h : d ≠ e) : Heap.sel e (Heap.setS d p v) = Heap.sel e p := by
  cases p; cases d <;> cases e <;> first | rfl | exact absurd rfl h
theorem Heap.sel_all (d : D) (x : HC) : Heap.sel d (Heap.all x) = x := by cases d <;> rfl
inductive O8 where
  | d0 | d1 | d2 | d3 | d4 | d5 | d6 | d7
inductive O4 where
  | d0 | d1 | d2 | d3
/-- Four values. -/
inductive SQ where
  | mk (c0 c1 c2 c3 : V)
def SQ.all (x : V) : SQ := .mk x x x x
def SQ.sel (d : O4) (p : SQ) : V :=
  @SQ.rec (fun _ => V) (fun c0 c1 c2 c3 => @O4.rec (fun _ => V) c0 c1 c2 c3 d) p
def sqs0 {β : Type} (p : SQ) (v : V) (k : SQ → β) : β := @SQ.rec (fun _ => β) (fun c0 c1 c2 c3 => k (.mk v c1 c2 c3)) p
def sqs1 {β : Type} (p : SQ) (v : V) (k : SQ → β) : β := @SQ.rec (fun _ => β) (fun c0 c1 c2 c3 => k (.mk c0 v c2 c3)) p
def sqs2 {β : Type} (p : SQ) (v : V) (k : SQ → β) : β := @SQ.rec (fun _ => β) (fun c0 c1 c2 c3 => k (.mk c0 c1 v c3)) p
def sqs3 {β : Type} (p : SQ) (v : V) (k : SQ → β) : β := @SQ.rec (fun _ => β) (fun c0 c1 c2 c3 => k (.mk c0 c1 c2 v)) p
def sqg0 {β : Type} (p : SQ) (k : V → β) : β := @SQ.rec (fun _ => β) (fun c0 c1 c2 c3 => k c0) p
def sqg1 {β : Type} (p : SQ) (k : V → β) : β := @SQ.rec (fun _ => β) (fun c0 c1 c2 c3 => k c1) p
def sqg2 {β : Type} (p : SQ) (k : V → β) : β := @SQ.rec (fun _ => β) (fun c0 c1 c2 c3 => k c2) p
def sqg3 {β : Type} (p : SQ) (k : V → β) : β := @SQ.rec (fun _ => β) (fun c0 c1 c2 c3 => k c3) p
def SQ.selK {β : Type} (d : O4) : SQ → (V → β) → β :=
  @O4.rec (fun _ => SQ → (V → β) → β) sqg0 sqg1 sqg2 sqg3 d
theorem SQ.selK_eq {β : Type} (d : O4) (p : SQ) (k : V → β) : SQ.selK d p k = k (SQ.sel d p) := by
  cases d <;> cases p <;> rfl
def SQ.setK {β : Type} (d : O4) : SQ → V → (SQ → β) → β :=
  @O4.rec (fun _ => SQ → V → (SQ → β) → β) sqs0 sqs1 sqs2 sqs3 d
def SQ.setS (d : O4) (p : SQ) (v : V) : SQ := SQ.setK d p v id
theorem SQ.setK_eq {β : Type} (d : O4) (p : SQ) (v : V) (k : SQ → β) : SQ.setK d p v k = k (SQ.setS d p v) := by
  cases d <;> cases p <;> rfl
theorem SQ.sel_setS_same (d : O4) (p : SQ) (v : V) : SQ.sel d (SQ.setS d p v) = v := by
  cases d <;> cases p <;> rfl
theorem SQ.sel_setS_ne {d e : O4} (p : SQ) (v : V) (h : d ≠ e) : SQ.sel e (SQ.setS d p v) = SQ.sel e p := by
  cases p; cases d <;> cases e <;> first | rfl | exact absurd rfl h
theorem SQ.sel_all (d : O4) (x : V) : SQ.sel d (SQ.all x) = x := by cases d <;> rfl
/-- The registers that are kept when code is run. -/
inductive S where
  | mk (c0 c1 c2 c3 c4 c5 c6 c7 : SQ)
def S.all (x : SQ) : S := .mk x x x x x x x x
def S.sel (d : O8) (p : S) : SQ :=
  @S.rec (fun _ => SQ) (fun c0 c1 c2 c3 c4 c5 c6 c7 => @O8.rec (fun _ => SQ) c0 c1 c2 c3 c4 c5 c6 c7 d) p
def sts0 {β : Type} (p : S) (v : SQ) (k : S → β) : β := @S.rec (fun _ => β) (fun c0 c1 c2 c3 c4 c5 c6 c7 => k (.mk v c1 c2 c3 c4 c5 c6 c7)) p
def sts1 {β : Type} (p : S) (v : SQ) (k : S → β) : β := @S.rec (fun _ => β) (fun c0 c1 c2 c3 c4 c5 c6 c7 => k (.mk c0 v c2 c3 c4 c5 c6 c7)) p
def sts2 {β : Type} (p : S) (v : SQ) (k : S → β) : β := @S.rec (fun _ => β) (fun c0 c1 c2 c3 c4 c5 c6 c7 => k (.mk c0 c1 v c3 c4 c5 c6 c7)) p
def sts3 {β : Type} (p : S) (v : SQ) (k : S → β) : β := @S.rec (fun _ => β) (fun c0 c1 c2 c3 c4 c5 c6 c7 => k (.mk c0 c1 c2 v c4 c5 c6 c7)) p
def sts4 {β : Type} (p : S) (v : SQ) (k : S → β) : β := @S.rec (fun _ => β) (fun c0 c1 c2 c3 c4 c5 c6 c7 => k (.mk c0 c1 c2 c3 v c5 c6 c7)) p
def sts5 {β : Type} (p : S) (v : SQ) (k : S → β) : β := @S.rec (fun _ => β) (fun c0 c1 c2 c3 c4 c5 c6 c7 => k (.mk c0 c1 c2 c3 c4 v c6 c7)) p
def sts6 {β : Type} (p : S) (v : SQ) (k : S → β) : β := @S.rec (fun _ => β) (fun c0 c1 c2 c3 c4 c5 c6 c7 => k (.mk c0 c1 c2 c3 c4 c5 v c7)) p
def sts7 {β : Type} (p : S) (v : SQ) (k : S → β) : β := @S.rec (fun _ => β) (fun c0 c1 c2 c3 c4 c5 c6 c7 => k (.mk c0 c1 c2 c3 c4 c5 c6 v)) p
def stg0 {β : Type} (p : S) (k : SQ → β) : β := @S.rec (fun _ => β) (fun c0 c1 c2 c3 c4 c5 c6 c7 => k c0) p
def stg1 {β : Type} (p : S) (k : SQ → β) : β := @S.rec (fun _ => β) (fun c0 c1 c2 c3 c4 c5 c6 c7 => k c1) p
def stg2 {β : Type} (p : S) (k : SQ → β) : β := @S.rec (fun _ => β) (fun c0 c1 c2 c3 c4 c5 c6 c7 => k c2) p
def stg3 {β : Type} (p : S) (k : SQ → β) : β := @S.rec (fun _ => β) (fun c0 c1 c2 c3 c4 c5 c6 c7 => k c3) p
def stg4 {β : Type} (p : S) (k : SQ → β) : β := @S.rec (fun _ => β) (fun c0 c1 c2 c3 c4 c5 c6 c7 => k c4) p
def stg5 {β : Type} (p : S) (k : SQ → β) : β := @S.rec (fun _ => β) (fun c0 c1 c2 c3 c4 c5 c6 c7 => k c5) p
def stg6 {β : Type} (p : S) (k : SQ → β) : β := @S.rec (fun _ => β) (fun c0 c1 c2 c3 c4 c5 c6 c7 => k c6) p
def stg7 {β : Type} (p : S) (k : SQ → β) : β := @S.rec (fun _ => β) (fun c0 c1 c2 c3 c4 c5 c6 c7 => k c7) p
def S.selK {β : Type} (d : O8) : S → (SQ → β) → β :=
  @O8.rec (fun _ => S → (SQ → β) → β) stg0 stg1 stg2 stg3 stg4 stg5 stg6 stg7 d
theorem S.selK_eq {β : Type} (d : O8) (p : S) (k : SQ → β) : S.selK d p k = k (S.sel d p) := by
  cases d <;> cases p <;> rfl
def S.setK {β : Type} (d : O8) : S → SQ → (S → β) → β :=
  @O8.rec (fun _ => S → SQ → (S → β) → β) sts0 sts1 sts2 sts3 sts4 sts5 sts6 sts7 d
def S.setS (d : O8) (p : S) (v : SQ) : S := S.setK d p v id
theorem S.setK_eq {β : Type} (d : O8) (p : S) (v : SQ) (k : S → β) : S.setK d p v k = k (S.setS d p v) := by
  cases d <;> cases p <;> rfl
theorem S.sel_setS_same (d : O8) (p : S) (v : SQ) : S.sel d (S.setS d p v) = v := by
  cases d <;> cases p <;> rfl
theorem S.sel_setS_ne {d e : O8} (p : S) (v : SQ) (h : d ≠ e) : S.sel e (S.setS d p v) = S.sel e p := by
  cases p; cases d <;> cases e <;> first | rfl | exact absurd rfl h
theorem S.sel_all (d : O8) (x : SQ) : S.sel d (S.all x) = x := by cases d <;> rfl
end Go.Ev

namespace Go.Ev
set_option linter.unusedVariables false
def K4.toN (p : K4) : Nat := p.a.toN * 4096 + p.b.toN * 256 + p.c.toN * 16 + p.d.toN
theorem K4.toN_inj {p q : K4} (h : p.toN = q.toN) : p = q := by
  obtain ⟨a, b, c, d⟩ := p
  obtain ⟨a', b', c', d'⟩ := q
  simp only [K4.toN] at h
  have := a.toN_lt; have := b.toN_lt; have := c.toN_lt; have := d.toN_lt
  have := a'.toN_lt; have := b'.toN_lt; have := c'.toN_lt; have := d'.toN_lt
  have ha : a = a' := D.toN_inj (by omega)
  have hb : b = b' := D.toN_inj (by omega)
  have hc : c = c' := D.toN_inj (by omega)
  have hd : d = d' := D.toN_inj (by omega)
  subst ha hb hc hd; rfl
def K4.beq (p q : K4) : Bool := and (p.d.beq q.d) (and (p.c.beq q.c) (and (p.b.beq q.b) (p.a.beq q.a)))
theorem K4.beq_iff {p q : K4} : p.beq q = true ↔ p = q := by
  obtain ⟨a, b, c, d⟩ := p
  obtain ⟨a', b', c', d'⟩ := q
  simp only [K4.beq, Bool.and_eq_true, D.beq_iff, K4.mk.injEq]
  constructor
  · rintro ⟨rfl, rfl, rfl, rfl⟩; exact ⟨rfl, rfl, rfl, rfl⟩
  · rintro ⟨rfl, rfl, rfl, rfl⟩; exact ⟨rfl, rfl, rfl, rfl⟩
inductive Ex where
  | nrm
  | exit (id : Nat)
  | ret
/-- What a piece of the run comes to: an exit with its registers, heap and next place; a value of a call; or nothing that is known. -/
inductive R where
  | ok (e : Ex) (t : S) (h : Heap) (n : K4)
  | rv (v : V) (h : Heap) (n : K4)
  | fail (why : String)
  | both (a b : R)
abbrev KV := V → Heap → K4 → R
def hget (p : K4) (h : Heap) : Option Ob := HA.sel p.d (HB.sel p.c (HC.sel p.b (Heap.sel p.a h)))
def hgetK {β : Type} (p : K4) (h : Heap) (κ : Option Ob → β) : β :=
  @K4.rec (fun _ => β) (fun a b c d => Heap.selK a h fun x => HC.selK b x fun y => HB.selK c y fun z => HA.selK d z κ) p
theorem hgetK_eq {β : Type} (p : K4) (h : Heap) (κ : Option Ob → β) : hgetK p h κ = κ (hget p h) := by
  cases p; simp only [hgetK, Heap.selK_eq, HC.selK_eq, HB.selK_eq, HA.selK_eq, hget]
def hput {β : Type} (p : K4) (h : Heap) (o : Option Ob) (k : Heap → β) : β :=
  @K4.rec (fun _ => β) (fun a b c d => Heap.selK a h fun x => HC.selK b x fun y => HB.selK c y fun z =>
    HA.setK d z o fun z => HB.setK c y z fun y => HC.setK b x y fun x => Heap.setK a h x k) p
def hputS (p : K4) (h : Heap) (o : Option Ob) : Heap := hput p h o id
theorem hput_eq {β : Type} (p : K4) (h : Heap) (o : Option Ob) (k : Heap → β) : hput p h o k = k (hputS p h o) := by
  cases p; simp only [hput, hputS, Heap.setK_eq, HC.setK_eq, HB.setK_eq, HA.setK_eq, Heap.selK_eq, HC.selK_eq, HB.selK_eq]; rfl
theorem hget_hputS_same (p : K4) (h : Heap) (o : Option Ob) : hget p (hputS p h o) = o := by
  cases p; simp only [hget, hputS, hput, Heap.setK_eq, HC.setK_eq, HB.setK_eq, HA.setK_eq, Heap.selK_eq, HC.selK_eq, HB.selK_eq, HA.selK_eq, id, Heap.sel_setS_same, HC.sel_setS_same, HB.sel_setS_same, HA.sel_setS_same]
theorem hget_hputS_ne {p q : K4} (h : Heap) (o : Option Ob) (hne : p ≠ q) : hget q (hputS p h o) = hget q h := by
  obtain ⟨a, b, c, d⟩ := p
  obtain ⟨a', b', c', d'⟩ := q
  simp only [hget, hputS, hput, Heap.setK_eq, HC.setK_eq, HB.setK_eq, HA.setK_eq, Heap.selK_eq, HC.selK_eq, HB.selK_eq, HA.selK_eq, id]
  by_cases ha : a = a'
  · subst ha
    rw [Heap.sel_setS_same]
    by_cases hb : b = b'
    · subst hb
      rw [HC.sel_setS_same]
      by_cases hc : c = c'
      · subst hc
        rw [HB.sel_setS_same]
        by_cases hd : d = d'
        · subst hd; exact absurd rfl hne
        · rw [HA.sel_setS_ne _ _ hd]
      · rw [HB.sel_setS_ne _ _ hc]
    · rw [HC.sel_setS_ne _ _ hb]
  · rw [Heap.sel_setS_ne _ _ ha]
def hempty : Heap := Heap.all (HC.all (HB.all (HA.all none)))
theorem hget_hempty (p : K4) : hget p hempty = none := by simp only [hget, hempty, Heap.sel_all, HC.sel_all, HB.sel_all, HA.sel_all]
/-- The next place. -/
def K4.nx (p : K4) (k : K4 → R) : R :=
  @K4.rec (fun _ => R) (fun a b c d => d.nx (fun d => k ⟨a, b, c, d⟩)
    (c.nx (fun c => k ⟨a, b, c, .d0⟩)
      (b.nx (fun b => k ⟨a, b, .d0, .d0⟩)
        (a.nx (fun a => k ⟨a, .d0, .d0, .d0⟩) (.fail "no more places"))))) p
theorem K4.nx_eq (p : K4) (k : K4 → R) : (∃ w, p.nx k = .fail w) ∨ ∃ q : K4, q.toN = p.toN + 1 ∧ p.nx k = k q := by
  obtain ⟨a, b, c, d⟩ := p
  simp only [K4.nx, K4.toN]
  have hd0 : D.d0.toN = 0 := rfl
  rcases d.nx_eq (fun d => k ⟨a, b, c, d⟩) (c.nx (fun c => k ⟨a, b, c, .d0⟩) (b.nx (fun b => k ⟨a, b, .d0, .d0⟩) (a.nx (fun a => k ⟨a, .d0, .d0, .d0⟩) (.fail "no more places")))) with ⟨h, hd⟩ | ⟨e, he, h⟩
  · rw [h]
    rcases c.nx_eq (fun c => k ⟨a, b, c, .d0⟩) (b.nx (fun b => k ⟨a, b, .d0, .d0⟩) (a.nx (fun a => k ⟨a, .d0, .d0, .d0⟩) (.fail "no more places"))) with ⟨h, hc⟩ | ⟨e, he, h⟩
    · rw [h]
      rcases b.nx_eq (fun b => k ⟨a, b, .d0, .d0⟩) (a.nx (fun a => k ⟨a, .d0, .d0, .d0⟩) (.fail "no more places")) with ⟨h, hb⟩ | ⟨e, he, h⟩
      · rw [h]
        rcases a.nx_eq (fun a => k ⟨a, .d0, .d0, .d0⟩) (.fail "no more places") with ⟨h, ha⟩ | ⟨e, he, h⟩
        · exact .inl ⟨_, h⟩
        · exact .inr ⟨⟨e, .d0, .d0, .d0⟩, by simp only [he]; omega, h⟩
      · exact .inr ⟨⟨a, e, .d0, .d0⟩, by simp only [he]; omega, h⟩
    · exact .inr ⟨⟨a, b, e, .d0⟩, by simp only [he]; omega, h⟩
  · exact .inr ⟨⟨a, b, c, e⟩, by simp only [he]; omega, h⟩
/-- Sixteen places are passed by: the place behind them begins a sixteen. -/
def K4.nx16 (p : K4) (k : K4 → R) : R :=
  @K4.rec (fun _ => R) (fun a b c d => c.nx (fun c => k ⟨a, b, c, .d0⟩)
    (b.nx (fun b => k ⟨a, b, .d0, .d0⟩)
      (a.nx (fun a => k ⟨a, .d0, .d0, .d0⟩) (.fail "no more places")))) p
/-- The place in its sixteen. -/
def K4.at (p : K4) (j : D) (k : K4 → R) : R := @K4.rec (fun _ => R) (fun a b c _ => k ⟨a, b, c, j⟩) p
theorem K4.at_eq (p : K4) (j : D) (k : K4 → R) : p.at j k = k ⟨p.a, p.b, p.c, j⟩ := by cases p; rfl
theorem K4.nx16_eq (p : K4) (k : K4 → R) : (∃ w, p.nx16 k = .fail w) ∨ ∃ q : K4, q.toN = (p.a.toN * 256 + p.b.toN * 16 + p.c.toN + 1) * 16 ∧ q.d = .d0 ∧ p.nx16 k = k q := by
  obtain ⟨a, b, c, d⟩ := p
  simp only [K4.nx16, K4.toN]
  have hd0 : D.d0.toN = 0 := rfl
  rcases c.nx_eq (fun c => k ⟨a, b, c, .d0⟩) (b.nx (fun b => k ⟨a, b, .d0, .d0⟩) (a.nx (fun a => k ⟨a, .d0, .d0, .d0⟩) (.fail "no more places"))) with ⟨h, hc⟩ | ⟨e, he, h⟩
  · rw [h]
    rcases b.nx_eq (fun b => k ⟨a, b, .d0, .d0⟩) (a.nx (fun a => k ⟨a, .d0, .d0, .d0⟩) (.fail "no more places")) with ⟨h, hb⟩ | ⟨e, he, h⟩
    · rw [h]
      rcases a.nx_eq (fun a => k ⟨a, .d0, .d0, .d0⟩) (.fail "no more places") with ⟨h, ha⟩ | ⟨e, he, h⟩
      · exact .inl ⟨_, h⟩
      · exact .inr ⟨⟨e, .d0, .d0, .d0⟩, by simp only [he]; omega, rfl, h⟩
    · exact .inr ⟨⟨a, e, .d0, .d0⟩, by simp only [he]; omega, rfl, h⟩
  · exact .inr ⟨⟨a, b, e, .d0⟩, by simp only [he]; omega, rfl, h⟩
structure K2 where
  a : D
  b : D
def undV : V := .tup []
def sempty : S := S.all (SQ.all undV)
def rget (p : K2) (t : Regs) : V := VP.sel p.b (Regs.sel p.a t)
def rgetK {β : Type} (p : K2) (t : Regs) (κ : V → β) : β :=
  @K2.rec (fun _ => β) (fun a b => Regs.selK a t fun x => VP.selK b x κ) p
theorem rgetK_eq {β : Type} (p : K2) (t : Regs) (κ : V → β) : rgetK p t κ = κ (rget p t) := by
  cases p; simp only [rgetK, Regs.selK_eq, VP.selK_eq, rget]
def rput {β : Type} (p : K2) (t : Regs) (v : V) (k : Regs → β) : β :=
  @K2.rec (fun _ => β) (fun a b => Regs.selK a t fun x => VP.setK b x v fun x => Regs.setK a t x k) p
def rputS (p : K2) (t : Regs) (v : V) : Regs := rput p t v id
theorem rput_eq {β : Type} (p : K2) (t : Regs) (v : V) (k : Regs → β) : rput p t v k = k (rputS p t v) := by
  cases p; simp only [rput, rputS, Regs.setK_eq, VP.setK_eq, Regs.selK_eq, VP.selK_eq]; rfl
theorem rget_rputS_same (p : K2) (t : Regs) (v : V) : rget p (rputS p t v) = v := by
  cases p; simp only [rget, rputS, rput, Regs.setK_eq, VP.setK_eq, Regs.selK_eq, VP.selK_eq, id, Regs.sel_setS_same, VP.sel_setS_same]
theorem rget_rputS_ne {p q : K2} (t : Regs) (v : V) (hne : p ≠ q) : rget q (rputS p t v) = rget q t := by
  obtain ⟨a, b⟩ := p
  obtain ⟨a', b'⟩ := q
  simp only [rget, rputS, rput, Regs.setK_eq, VP.setK_eq, Regs.selK_eq, VP.selK_eq, id]
  by_cases ha : a = a'
  · subst ha
    rw [Regs.sel_setS_same]
    by_cases hb : b = b'
    · subst hb; exact absurd rfl hne
    · rw [VP.sel_setS_ne _ _ hb]
  · rw [Regs.sel_setS_ne _ _ ha]
def rempty : Regs := Regs.all (VP.all undV)
theorem rget_rempty (p : K2) : rget p rempty = undV := by simp only [rget, rempty, Regs.sel_all, VP.sel_all]
/-- The place of a register's number. -/
def K2.ofN (n : Nat) : Option K2 := if n < 256 then some ⟨D.ofN (n / 16), D.ofN (n % 16)⟩ else none
theorem K2.ofN_inj {m n : Nat} {p : K2} (h : K2.ofN m = some p) (h' : K2.ofN n = some p) : m = n := by
  unfold K2.ofN at h h'
  split at h
  · split at h'
    · simp only [Option.some.injEq] at h h'
      rw [← h] at h'
      simp only [K2.mk.injEq] at h'
      have h1 := congrArg D.toN h'.1
      have h2 := congrArg D.toN h'.2
      rw [D.toN_ofN _ (by omega), D.toN_ofN _ (by omega)] at h1
      rw [D.toN_ofN _ (by omega), D.toN_ofN _ (by omega)] at h2
      omega
    · simp at h'
  · simp at h
theorem K2.ofN_lt {n : Nat} {p : K2} (h : K2.ofN n = some p) : n < 256 := by
  unfold K2.ofN at h; split at h
  · assumption
  · simp at h
end Go.Ev

namespace Go.Ev
set_option linter.unusedVariables false
def br {β : Type} (c : Bool) (t f : β) : β := @Bool.rec (fun _ => β) f t c
theorem br_true {β : Type} (t f : β) : br true t f = t := rfl
theorem br_false {β : Type} (t f : β) : br false t f = f := rfl
def forceN {β : Type} (n : Nat) (k : Nat → β) : β := @Nat.rec (fun _ => β) (k 0) (fun m _ => k (Nat.succ m)) n
theorem forceN_eq {β : Type} (n : Nat) (k : Nat → β) : forceN n k = k n := by cases n <;> rfl
def forceB {β : Type} (b : Bool) (k : Bool → β) : β := @Bool.rec (fun _ => β) (k false) (k true) b
theorem forceB_eq {β : Type} (b : Bool) (k : Bool → β) : forceB b k = k b := by cases b <;> rfl
/-- A result that is known. -/
def R.good : R → Prop
  | .fail _ => False
  | _ => True
theorem br_good {c : Bool} {t : R} {s : String} (h : (br c t (.fail s)).good) : c = true ∧ br c t (.fail s) = t := by
  cases c
  · exact h.elim
  · exact ⟨rfl, rfl⟩
theorem br_good' {c : Bool} {t : R} {s : String} (h : (br c (.fail s) t).good) : c = false ∧ br c (.fail s) t = t := by
  cases c
  · exact ⟨rfl, rfl⟩
  · exact h.elim
def Mk (k : IntKind) : Nat := @IntKind.rec (fun _ => Nat) 256 65536 4294967296 18446744073709551616 256 65536 4294967296 18446744073709551616 k
def Hk (k : IntKind) : Nat := @IntKind.rec (fun _ => Nat) 128 32768 2147483648 9223372036854775808 256 65536 4294967296 18446744073709551616 k
def kix (k : IntKind) : Nat := @IntKind.rec (fun _ => Nat) 0 1 2 3 4 5 6 7 k
def dec (k : IntKind) (r : Nat) : Int := if r < Hk k then (r : Int) else (r : Int) - (Mk k : Int)
def kbeq (k j : IntKind) : Bool := Nat.beq (kix k) (kix j)
theorem kbeq_iff {k j : IntKind} : kbeq k j = true ↔ k = j := by
  cases k <;> cases j <;> simp [kbeq, kix]
theorem Mk_pos (k : IntKind) : 0 < Mk k := by cases k <;> simp [Mk]
theorem Hk_le (k : IntKind) : Hk k ≤ Mk k := by cases k <;> simp [Mk, Hk]
theorem bits_Mk (k : IntKind) : Mk k = 2 ^ k.bits := by cases k <;> rfl
theorem wrap_eq {k : IntKind} {z : Int} {r : Nat} (h : z % (Mk k : Int) = r) : k.wrap z = dec k r := by
  cases k <;> simp [Mk, dec, Hk, IntKind.wrap, IntKind.bits, IntKind.signed] at h ⊢ <;> (repeat' split) <;> omega
theorem dec_emod (k : IntKind) (a : Nat) : dec k a % (Mk k : Int) = ((a % Mk k : Nat) : Int) := by
  unfold dec
  split
  · exact (Int.natCast_emod a (Mk k)).symm
  · rw [Int.sub_emod_right]; exact (Int.natCast_emod a (Mk k)).symm
theorem dec_nonneg {k : IntKind} {a : Nat} (h : a < Hk k) : dec k a = a := by unfold dec; rw [if_pos h]
theorem dec_neg {k : IntKind} {a : Nat} (h : ¬ a < Hk k) : dec k a = a - Mk k := by unfold dec; rw [if_neg h]
theorem dec_inj {k : IntKind} {a b : Nat} (ha : a < Mk k) (hb : b < Mk k) (h : dec k a = dec k b) : a = b := by
  have h1 := dec_emod k a
  have h2 := dec_emod k b
  rw [h, h2, Nat.mod_eq_of_lt ha, Nat.mod_eq_of_lt hb] at h1
  omega
def ltI (k : IntKind) (a b : Nat) : Bool :=
  br (Nat.ble (Hk k) a) (br (Nat.ble (Hk k) b) (Nat.ble (Nat.succ a) b) true) (br (Nat.ble (Hk k) b) false (Nat.ble (Nat.succ a) b))
theorem ble_iff {a b : Nat} : Nat.ble a b = true ↔ a ≤ b := ⟨Nat.le_of_ble_eq_true, Nat.ble_eq_true_of_le⟩
theorem ble_false {a b : Nat} (h : b < a) : Nat.ble a b = false := Bool.eq_false_iff.2 (fun e => by have := ble_iff.1 e; omega)
theorem ble_decide (a b : Nat) : Nat.ble a b = decide (a ≤ b) := by rw [Bool.eq_iff_iff, ble_iff]; simp
theorem ltI_iff {k : IntKind} {a b : Nat} (ha : a < Mk k) (hb : b < Mk k) : ltI k a b = decide (dec k a < dec k b) := by
  have hH := Hk_le k
  unfold ltI
  by_cases h1 : Hk k ≤ a
  · rw [ble_iff.2 h1, br_true, dec_neg (by omega)]
    by_cases h2 : Hk k ≤ b
    · rw [ble_iff.2 h2, br_true, dec_neg (by omega), ble_decide]; apply decide_eq_decide.2; omega
    · rw [ble_false (by omega), br_false, dec_nonneg (by omega)]; symm; apply decide_eq_true; omega
  · rw [ble_false (by omega), br_false, dec_nonneg (by omega)]
    by_cases h2 : Hk k ≤ b
    · rw [ble_iff.2 h2, br_true, dec_neg (by omega)]; symm; apply decide_eq_false; omega
    · rw [ble_false (by omega), br_false, dec_nonneg (by omega), ble_decide]; apply decide_eq_decide.2; omega
def encL : List UInt8 → Nat
  | [] => 0
  | b :: l => b.toNat + 256 * encL l
theorem encL_lt (l : List UInt8) : encL l < 256 ^ l.length := by
  induction l with
  | nil => simp [encL]
  | cons b l ih =>
    have := b.toNat_lt
    simp only [encL, List.length_cons, Nat.pow_succ]
    omega
theorem encL_append (a b : List UInt8) : encL (a ++ b) = encL a + 256 ^ a.length * encL b := by
  induction a with
  | nil => simp [encL]
  | cons x a ih => simp only [List.cons_append, encL, ih, List.length_cons, Nat.pow_succ, Nat.mul_add, Nat.mul_assoc, Nat.add_assoc]; rw [Nat.mul_left_comm]
theorem encL_inj {a b : List UInt8} (hl : a.length = b.length) (h : encL a = encL b) : a = b := by
  induction a generalizing b with
  | nil => cases b with
    | nil => rfl
    | cons => simp at hl
  | cons x a ih =>
    cases b with
    | nil => simp at hl
    | cons y b =>
      simp only [encL] at h
      have hx := x.toNat_lt; have hy := y.toNat_lt
      have h1 : x.toNat = y.toNat := by omega
      have h2 : encL a = encL b := by omega
      rw [ih (by simpa using hl) h2, UInt8.toNat_inj.1 h1]
theorem encL_div (l : List UInt8) : ∀ n, encL l / 256 ^ n = encL (l.drop n) := by
  intro n
  induction n generalizing l with
  | zero => simp
  | succ n ih =>
    cases l with
    | nil => simp [encL]
    | cons b l =>
      have := b.toNat_lt
      rw [Nat.pow_succ, Nat.mul_comm, ← Nat.div_div_eq_div_mul]
      have : encL (b :: l) / 256 = encL l := by simp only [encL]; omega
      rw [this, ih, List.drop_succ_cons]
theorem encL_mod (l : List UInt8) : ∀ n, encL l % 256 ^ n = encL (l.take n) := by
  intro n
  have h := encL_append (l.take n) (l.drop n)
  rw [List.take_append_drop] at h
  have hlt := encL_lt (l.take n)
  by_cases hn : n ≤ l.length
  · have hlen : (l.take n).length = n := by simp [hn]
    rw [hlen] at h hlt
    rw [h, Nat.add_mul_mod_self_left, Nat.mod_eq_of_lt hlt]
  · rw [List.take_of_length_le (by omega)] at hlt ⊢
    exact Nat.mod_eq_of_lt (Nat.lt_of_lt_of_le hlt (Nat.pow_le_pow_right (by omega) (by omega)))
theorem encL_get (l : List UInt8) (i : Nat) (h : i < l.length) : (encL l / 256 ^ i) % 256 = l[i].toNat := by
  rw [encL_div, List.drop_eq_getElem_cons h]
  have := l[i].toNat_lt
  simp only [encL]; omega
/-- c without its first i bytes. -/
def sh (c i : Nat) : Nat := Nat.shiftRight c (Nat.mul 8 i)
theorem sh_eq (c i : Nat) : sh c i = c / 256 ^ i := by
  show c >>> (8 * i) = _
  rw [Nat.shiftRight_eq_div_pow, Nat.pow_mul]
/-- Its first i bytes. -/
def lo (c i : Nat) : Nat := Nat.mod c (Nat.pow 256 i)
theorem lo_eq (c i : Nat) : lo c i = c % 256 ^ i := rfl
/-- i bytes further on. -/
def up (c i : Nat) : Nat := Nat.shiftLeft c (Nat.mul 8 i)
theorem up_eq (c i : Nat) : up c i = 256 ^ i * c := by
  show c <<< (8 * i) = _
  rw [Nat.shiftLeft_eq, Nat.pow_mul, Nat.mul_comm]
/-- The code of a function that ranges over a function and appends what comes: the round's parameter, the box of its slice, how many registers. -/
structure ApC where
  asg : Code
  bod : Code
  par : Nat
  box : Nat
  ntm : Nat
/-- What the symbols stand for; the functions that range over a function; blocks that stay as they are. -/
structure Env where
  v : Nat → Value
  ap : Nat → Option ApC
  gl : Nat → Option (Array Value × TypeId × (Nat × Nat)) := fun _ => none
abbrev Emb := K4 → Option (Nat × Nat × Nat)
def nilOf : Nl → Value
  | .ptr => .pointer none
  | .sl => .slice none 0 0
  | .map => .map none
  | .fn => .nilFunc
  | .iface => .nilIface
/-- A bool that is told: the bit j of i's lowest 32. -/
def toldB (i j : Nat) : Bool := Nat.beq (Nat.mod (Nat.div (Nat.mod i 4294967296) (Nat.pow 2 j)) 2) 1
def tdM (i : Nat) : Nat := Nat.div (Nat.sub i 73786976294838206464) 281474976710656
def tdN (i : Nat) : Nat := Nat.mod (Nat.div (Nat.sub i 73786976294838206464) 1099511627776) 256
def tdD (i j : Nat) : Nat := Nat.mod (Nat.div (Nat.mod (Nat.sub i 73786976294838206464) 1099511627776) (Nat.pow (tdM i) j)) (tdM i)
def tcM (i : Nat) : Nat := Nat.mod (Nat.div (Nat.sub i 36893488147419103233) 65536) 65536
def tcQ (i : Nat) : Nat := Nat.div (Nat.sub i 36893488147419103233) 4294967296
def tcT (i : Nat) : Nat := Nat.mod (Nat.sub i 36893488147419103233) 65536
/-- A cell that stays: some bool (i = 0), a symbol, a bool of which the first ones are told (2^64 + their number * 2^32 + their bits), some integer (from 2^65), an integer told by its remainder (from 2^66). -/
def CkOK (ρ : Env) (i j : Nat) (y : Value) : Prop := (i = 0 ∧ ∃ b, y = .bool b) ∨ (1 ≤ i ∧ i < 18446744073709551616 ∧ y = ρ.v (i + j) ∧ ∃ r, r < Mk .i64 ∧ y = .int .i64 (dec .i64 r)) ∨
  (18446744073709551616 ≤ i ∧ i < 36893488147419103232 ∧ ∃ b, y = .bool b ∧ (j < (i - 18446744073709551616) / 4294967296 → b = toldB i j)) ∨ (36893488147419103232 ≤ i ∧ i < 73786976294838206464 ∧ ∃ r, r < Mk .i64 ∧ y = .int .i64 (dec .i64 r) ∧ (36893488147419103232 < i → j = tcQ i → (dec .i64 r).tmod (tcM i : Nat) + (tcM i : Nat) = (tcT i : Nat))) ∨
  (73786976294838206464 ≤ i ∧ ∃ z : Int, y = .int .i64 z ∧ -9223372036854775808 ≤ z ∧ z < 9223372036854775808 ∧ (j < tdN i → z.natAbs % tdM i = tdD i j))
section
variable (ρ : Env) (φ : Emb)
mutual
def rel : V → Value → Prop
  | .int k r, x => r < Mk k ∧ x = .int k (dec k r)
  | .bool b, x => x = .bool b
  | .ptr p off, x => ∃ b s tot, φ p = some (b, s, tot) ∧ x = .pointer (some ⟨b, s + off, none⟩)
  | .sl p off len cap ex esz, x => ∃ b s tot o cap', φ p = some (b, s, tot) ∧ x = .slice (some ⟨b, o, none⟩) len cap' ∧ len ≤ cap ∧ cap ≤ cap' ∧
      (ex = true → cap' = cap) ∧ (0 < cap' → o = s + off ∧ o + cap' * esz ≤ tot)
  | .str n c, x => ∃ s : ByteArray, x = .string s ∧ s.size = n ∧ encL s.data.toList = c
  | .agg l, x => ∃ cs : Array Value, x = .agg cs ∧ rels l cs.toList ∧ ∀ y ∈ cs.toList, y.oneCell' = true
  | .nil w, x => x = nilOf w
  | .map p, x => ∃ b s tot, φ p = some (b, s, tot) ∧ x = .map (some b)
  | .fn f caps, x => ∃ cs : Array Value, x = .func (.func f) #[] cs ∧ rels caps cs.toList
  | .tup l, x => ∃ cs : Array Value, x = .tuple cs ∧ rels l cs.toList
  | .oth o, x => match o with | .any => True | .sym i => x = ρ.v i | .yl p => (∃ b s tot, φ p = some (b, s, tot) ∧ x = .func (.yield b) #[] #[]) | .no => False | .iv k lo hi => ∃ r, lo ≤ r ∧ r ≤ hi ∧ r < Mk k ∧ x = .int k (dec k r) | .os lo hi => ∃ p len cap, x = .slice p len cap ∧ lo ≤ len ∧ len ≤ hi ∧ len ≤ cap | .bl => ∃ b, x = .bool b | .rs m j => ∃ z : Int, x = .int .i64 z ∧ -9223372036854775808 ≤ z ∧ z < 9223372036854775808 ∧ (m < 36893488147419103232 ∧ z.natAbs % (m % 18446744073709551616) = j ∨ (36893488147419103232 ≤ m ∧ j % 18446744073709551616 ≤ z.natAbs % (m % 18446744073709551616) ∧ z.natAbs % (m % 18446744073709551616) ≤ j / 18446744073709551616)) ∧ (18446744073709551616 ≤ m → m < 36893488147419103232 → 0 ≤ z) ∧ (73786976294838206464 ≤ m → z < 0) | .ss lo hi n c => ∃ s : ByteArray, x = .string s ∧ lo ≤ s.size ∧ s.size ≤ hi ∧ ¬ (s.size = n ∧ encL s.data.toList = c) | .ro i lo hi z => ∃ b o len cap c e fr, x = .slice (some ⟨b, o, none⟩) len cap ∧ lo ≤ len ∧ len ≤ hi ∧ len ≤ cap ∧ ρ.gl b = some (c, e, fr) ∧ ∀ j, j < len * z → ∃ y, c[o + j]? = some y ∧ CkOK ρ i j y | .ap i j m => ∃ b o c e fr, x = .pointer (some ⟨b, o, none⟩) ∧ ρ.gl b = some (c, e, fr) ∧ ∀ q, q < m → ∃ y, c[o + q]? = some y ∧ CkOK ρ i (j + q) y | .sy k i => x = ρ.v i ∧ ∃ r, r < Mk k ∧ x = .int k (dec k r)
def rels : List V → List Value → Prop
  | [], l => l = []
  | v :: vs, l => ∃ y ys, l = y :: ys ∧ rel v y ∧ rels vs ys
end
end
end Go.Ev

namespace Go.Ev
abbrev fF1 {A0 : Sort _} (s : String) : A0 → R := fun _ => .fail s
abbrev fF2 {A0 A1 : Sort _} (s : String) : A0 → A1 → R := fun _ _ => .fail s
abbrev fF3 {A0 A1 A2 : Sort _} (s : String) : A0 → A1 → A2 → R := fun _ _ _ => .fail s
abbrev fF4 {A0 A1 A2 A3 : Sort _} (s : String) : A0 → A1 → A2 → A3 → R := fun _ _ _ _ => .fail s
abbrev fF5 {A0 A1 A2 A3 A4 : Sort _} (s : String) : A0 → A1 → A2 → A3 → A4 → R := fun _ _ _ _ _ => .fail s
abbrev fF6 {A0 A1 A2 A3 A4 A5 : Sort _} (s : String) : A0 → A1 → A2 → A3 → A4 → A5 → R := fun _ _ _ _ _ _ => .fail s
set_option linter.unusedVariables false
def takeK (m : Nat) : List V → (List V → R) → R :=
  @Nat.rec (fun _ => List V → (List V → R) → R) (fun _ k => k [])
    (fun _ ih xs k => @List.rec V (fun _ => R) (.fail "take") (fun x ys _ => ih ys fun zs => k (x :: zs)) xs) m
def dropK (m : Nat) : List V → (List V → R) → R :=
  @Nat.rec (fun _ => List V → (List V → R) → R) (fun xs k => k xs)
    (fun _ ih xs k => @List.rec V (fun _ => R) (.fail "drop") (fun _ ys _ => ih ys k) xs) m
def nthK (m : Nat) : List V → (V → R) → R :=
  @Nat.rec (fun _ => List V → (V → R) → R) (fun xs k => @List.rec V (fun _ => R) (.fail "nth") (fun x _ _ => k x) xs)
    (fun _ ih xs k => @List.rec V (fun _ => R) (.fail "nth") (fun _ ys _ => ih ys k) xs) m
def appK (xs ys : List V) : (List V → R) → R :=
  @List.rec V (fun _ => (List V → R) → R) (fun k => k ys) (fun x _ ih k => ih fun zs => k (x :: zs)) xs
def lenK (xs : List V) : (Nat → R) → R :=
  @List.rec V (fun _ => (Nat → R) → R) (fun k => k 0) (fun _ _ ih k => ih fun n => forceN (Nat.succ n) k) xs
theorem takeK_good {m : Nat} {xs : List V} {k : List V → R} (h : (takeK m xs k).good) : m ≤ xs.length ∧ takeK m xs k = k (xs.take m) := by
  induction m generalizing xs k with
  | zero => exact ⟨Nat.zero_le _, rfl⟩
  | succ m ih =>
    cases xs with
    | nil => exact h.elim
    | cons x xs =>
      have := ih (xs := xs) (k := fun zs => k (x :: zs)) h
      exact ⟨by simpa using this.1, this.2⟩
theorem dropK_good {m : Nat} {xs : List V} {k : List V → R} (h : (dropK m xs k).good) : m ≤ xs.length ∧ dropK m xs k = k (xs.drop m) := by
  induction m generalizing xs with
  | zero => exact ⟨Nat.zero_le _, rfl⟩
  | succ m ih =>
    cases xs with
    | nil => exact h.elim
    | cons x xs =>
      have := ih (xs := xs) h
      exact ⟨by simpa using this.1, this.2⟩
theorem nthK_good {m : Nat} {xs : List V} {k : V → R} (h : (nthK m xs k).good) : ∃ v, xs[m]? = some v ∧ nthK m xs k = k v := by
  induction m generalizing xs with
  | zero =>
    cases xs with
    | nil => exact h.elim
    | cons x xs => exact ⟨x, rfl, rfl⟩
  | succ m ih =>
    cases xs with
    | nil => exact h.elim
    | cons x xs =>
      obtain ⟨v, h1, h2⟩ := ih (xs := xs) h
      exact ⟨v, by simpa using h1, h2⟩
theorem appK_eq (xs ys : List V) (k : List V → R) : appK xs ys k = k (xs ++ ys) := by
  induction xs generalizing k with
  | nil => rfl
  | cons x xs ih => exact ih fun zs => k (x :: zs)
theorem lenK_eq (xs : List V) (k : Nat → R) : lenK xs k = k xs.length := by
  induction xs generalizing k with
  | nil => rfl
  | cons x xs ih => exact (ih fun n => forceN (Nat.succ n) k).trans (forceN_eq _ _)
def asI (v : V) (κ : IntKind → Nat → R) : R :=
  @V.rec (fun _ => R) (fun _ => Unit) (fun k r => κ k r) (fF1 "int expected") (fF2 "int expected") (fF6 "int expected") (fF2 "int expected") (fF2 "int expected") (fF1 "int expected") (fF1 "int expected") (fF3 "int expected") (fF2 "int expected") (fF1 "int expected") () (fun _ _ _ _ => ()) v
def asB (v : V) (κ : Bool → R) : R :=
  @V.rec (fun _ => R) (fun _ => Unit) (fF2 "bool expected") (fun b => κ b) (fF2 "bool expected") (fF6 "bool expected") (fF2 "bool expected") (fF2 "bool expected") (fF1 "bool expected") (fF1 "bool expected") (fF3 "bool expected") (fF2 "bool expected") (fF1 "bool expected") () (fun _ _ _ _ => ()) v
def asP (v : V) (κ : K4 → Nat → R) : R :=
  @V.rec (fun _ => R) (fun _ => Unit) (fF2 "pointer expected") (fF1 "pointer expected") (fun p off => κ p off) (fF6 "pointer expected") (fF2 "pointer expected") (fF2 "pointer expected") (fF1 "pointer expected") (fF1 "pointer expected") (fF3 "pointer expected") (fF2 "pointer expected") (fF1 "pointer expected") () (fun _ _ _ _ => ()) v
def asSl (v : V) (κn : R) (κ : K4 → Nat → Nat → Nat → Bool → Nat → R) : R :=
  @V.rec (fun _ => R) (fun _ => Unit) (fF2 "slice expected") (fF1 "slice expected") (fF2 "slice expected") (fun p off len cap ex esz => κ p off len cap ex esz) (fF2 "slice expected") (fF2 "slice expected") (fun w => @Nl.rec (fun _ => R) (.fail "slice expected") κn (.fail "slice expected") (.fail "slice expected") (.fail "slice expected") w) (fF1 "slice expected") (fF3 "slice expected") (fF2 "slice expected") (fF1 "slice expected") () (fun _ _ _ _ => ()) v
def asStr (v : V) (κ : Nat → Nat → R) : R :=
  @V.rec (fun _ => R) (fun _ => Unit) (fF2 "string expected") (fF1 "string expected") (fF2 "string expected") (fF6 "string expected") (fun n c => κ n c) (fF2 "string expected") (fF1 "string expected") (fF1 "string expected") (fF3 "string expected") (fF2 "string expected") (fF1 "string expected") () (fun _ _ _ _ => ()) v
def asAgg (v : V) (κ : List V → R) : R :=
  @V.rec (fun _ => R) (fun _ => Unit) (fF2 "aggregate expected") (fF1 "aggregate expected") (fF2 "aggregate expected") (fF6 "aggregate expected") (fF2 "aggregate expected") (fun l _i => κ l) (fF1 "aggregate expected") (fF1 "aggregate expected") (fF3 "aggregate expected") (fF2 "aggregate expected") (fF1 "aggregate expected") () (fun _ _ _ _ => ()) v
def asTup (v : V) (κ : List V → R) : R :=
  @V.rec (fun _ => R) (fun _ => Unit) (fF2 "tuple expected") (fF1 "tuple expected") (fF2 "tuple expected") (fF6 "tuple expected") (fF2 "tuple expected") (fF2 "tuple expected") (fF1 "tuple expected") (fF1 "tuple expected") (fF3 "tuple expected") (fun l _i => κ l) (fF1 "tuple expected") () (fun _ _ _ _ => ()) v
def asMap (v : V) (κn : R) (κ : K4 → R) : R :=
  @V.rec (fun _ => R) (fun _ => Unit) (fF2 "map expected") (fF1 "map expected") (fF2 "map expected") (fF6 "map expected") (fF2 "map expected") (fF2 "map expected") (fun w => @Nl.rec (fun _ => R) (.fail "map expected") (.fail "map expected") κn (.fail "map expected") (.fail "map expected") w) (fun p => κ p) (fF3 "map expected") (fF2 "map expected") (fF1 "map expected") () (fun _ _ _ _ => ()) v
def asFn (v : V) (κ : Nat → List V → R) : R :=
  @V.rec (fun _ => R) (fun _ => Unit) (fF2 "function expected") (fF1 "function expected") (fF2 "function expected") (fF6 "function expected") (fF2 "function expected") (fF2 "function expected") (fF1 "function expected") (fF1 "function expected") (fun f caps _i => κ f caps) (fF2 "function expected") (fF1 "function expected") () (fun _ _ _ _ => ()) v
def cellsK (v : V) (κ : List V → R) : R :=
  @V.rec (fun _ => R) (fun _ => Unit) (fun _ _ => κ [v]) (fun _ => κ [v]) (fun _ _ => κ [v]) (fun _ _ _ _ _ _ => κ [v]) (fun _ _ => κ [v]) (fun l _i => κ l) (fun _ => κ [v]) (fun _ => κ [v]) (fun _ _ _ => κ [v]) (fun l _i => .fail "no cell") (fun o => @Ot.rec (fun _ => R) (.fail "no cell") (fun _ => κ [v]) (fF1 "no cell") (.fail "no cell") (fun _ _ _ => κ [v]) (fun _ _ => κ [v]) (κ [v]) (fun _ _ => κ [v]) (fun _ _ _ _ => κ [v]) (fun _ _ _ _ => κ [v]) (fun _ _ _ => κ [v]) (fun _ _ => κ [v]) o) () (fun _ _ _ _ => ()) v
/-- Is it a slice that is not looked into? -/
def osK (v : V) (κ : Nat → Nat → R) (e : R) : R :=
  @V.rec (fun _ => R) (fun _ => Unit) (fun _ _ => e) (fun _ => e) (fun _ _ => e) (fun _ _ _ _ _ _ => e) (fun _ _ => e) (fun _ _ => e) (fun _ => e) (fun _ => e) (fun _ _ _ => e) (fun _ _ => e) (fun o => @Ot.rec (fun _ => R) e (fun _ => e) (fun _ => e) e (fun _ _ _ => e) (fun lo hi => κ lo hi) e (fun _ _ => e) (fun _ _ _ _ => e) (fun _ _ _ _ => e) (fun _ _ _ => e) (fun _ _ => e) o) () (fun _ _ _ _ => ()) v
theorem osK_cases (v : V) (κ : Nat → Nat → R) (e : R) : (∃ lo hi, v = .oth (.os lo hi) ∧ osK v κ e = κ lo hi) ∨ osK v κ e = e := by
  cases v with
  | oth o => cases o with
    | os lo hi => exact .inl ⟨lo, hi, rfl, rfl⟩
    | _ => exact .inr rfl
  | _ => exact .inr rfl
/-- Is it an integer known by a remainder? -/
def rsK (v : V) (κ : Nat → Nat → R) (e : R) : R :=
  @V.rec (fun _ => R) (fun _ => Unit) (fun _ _ => e) (fun _ => e) (fun _ _ => e) (fun _ _ _ _ _ _ => e) (fun _ _ => e) (fun _ _ => e) (fun _ => e) (fun _ => e) (fun _ _ _ => e) (fun _ _ => e) (fun o => @Ot.rec (fun _ => R) e (fun _ => e) (fun _ => e) e (fun _ _ _ => e) (fun _ _ => e) e (fun m j => κ m j) (fun _ _ _ _ => e) (fun _ _ _ _ => e) (fun _ _ _ => e) (fun _ _ => e) o) () (fun _ _ _ _ => ()) v
theorem rsK_cases (v : V) (κ : Nat → Nat → R) (e : R) : (∃ m j, v = .oth (.rs m j) ∧ rsK v κ e = κ m j) ∨ rsK v κ e = e := by
  cases v with
  | oth o => cases o with
    | rs m j => exact .inl ⟨m, j, rfl, rfl⟩
    | _ => exact .inr rfl
  | _ => exact .inr rfl
/-- Is it a text that is not looked into? -/
def ssK (v : V) (κ : Nat → Nat → Nat → Nat → R) (e : R) : R :=
  @V.rec (fun _ => R) (fun _ => Unit) (fun _ _ => e) (fun _ => e) (fun _ _ => e) (fun _ _ _ _ _ _ => e) (fun _ _ => e) (fun _ _ => e) (fun _ => e) (fun _ => e) (fun _ _ _ => e) (fun _ _ => e) (fun o => @Ot.rec (fun _ => R) e (fun _ => e) (fun _ => e) e (fun _ _ _ => e) (fun _ _ => e) e (fun _ _ => e) (fun lo hi n c => κ lo hi n c) (fun _ _ _ _ => e) (fun _ _ _ => e) (fun _ _ => e) o) () (fun _ _ _ _ => ()) v
theorem ssK_cases (v : V) (κ : Nat → Nat → Nat → Nat → R) (e : R) : (∃ lo hi n c, v = .oth (.ss lo hi n c) ∧ ssK v κ e = κ lo hi n c) ∨ ssK v κ e = e := by
  cases v with
  | oth o => cases o with
    | ss lo hi n c => exact .inl ⟨lo, hi, n, c, rfl, rfl⟩
    | _ => exact .inr rfl
  | _ => exact .inr rfl
/-- A pointer, or what is not looked into. -/
def asPo (v : V) (κ : K4 → Nat → R) (κo : Ot → R) : R :=
  @V.rec (fun _ => R) (fun _ => Unit) (fF2 "pointer expected") (fF1 "pointer expected") (fun p off => κ p off) (fF6 "pointer expected") (fF2 "pointer expected") (fF2 "pointer expected") (fF1 "pointer expected") (fF1 "pointer expected") (fF3 "pointer expected") (fF2 "pointer expected") (fun o => κo o) () (fun _ _ _ _ => ()) v
/-- A slice, or what is not looked into. -/
def asSlo (v : V) (κn : R) (κ : K4 → Nat → Nat → Nat → Bool → Nat → R) (κo : Ot → R) : R :=
  @V.rec (fun _ => R) (fun _ => Unit) (fF2 "slice expected") (fF1 "slice expected") (fF2 "slice expected") (fun p off len cap ex esz => κ p off len cap ex esz) (fF2 "slice expected") (fF2 "slice expected") (fun w => @Nl.rec (fun _ => R) (.fail "slice expected") κn (.fail "slice expected") (.fail "slice expected") (.fail "slice expected") w) (fF1 "slice expected") (fF3 "slice expected") (fF2 "slice expected") (fun o => κo o) () (fun _ _ _ _ => ()) v
theorem asPo_cases {v : V} {κ : K4 → Nat → R} {κo : Ot → R} (h : (asPo v κ κo).good) : (∃ p off, v = .ptr p off ∧ asPo v κ κo = κ p off) ∨ (∃ o, v = .oth o ∧ asPo v κ κo = κo o) := by
  cases v with
  | ptr p off => exact .inl ⟨p, off, rfl, rfl⟩
  | oth o => exact .inr ⟨o, rfl, rfl⟩
  | _ => exact h.elim
theorem asSlo_cases {v : V} {κn : R} {κ : K4 → Nat → Nat → Nat → Bool → Nat → R} {κo : Ot → R} (h : (asSlo v κn κ κo).good) :
    (v = .nil .sl ∧ asSlo v κn κ κo = κn) ∨ (∃ p off len cap ex esz, v = .sl p off len cap ex esz ∧ asSlo v κn κ κo = κ p off len cap ex esz) ∨ (∃ o, v = .oth o ∧ asSlo v κn κ κo = κo o) := by
  cases v with
  | sl p off len cap ex esz => exact .inr (.inl ⟨p, off, len, cap, ex, esz, rfl, rfl⟩)
  | nil w => cases w with
    | sl => exact .inl ⟨rfl, rfl⟩
    | _ => exact h.elim
  | oth o => exact .inr (.inr ⟨o, rfl, rfl⟩)
  | _ => exact h.elim
def otOs (o : Ot) (κ : Nat → Nat → R) (e : R) : R :=
  @Ot.rec (fun _ => R) e (fun _ => e) (fun _ => e) e (fun _ _ _ => e) (fun lo hi => κ lo hi) e (fun _ _ => e) (fun _ _ _ _ => e) (fun _ _ _ _ => e) (fun _ _ _ => e) (fun _ _ => e) o
def otAs (o : Ot) (κ : Nat → Nat → Nat → Nat → R) (e : R) : R :=
  @Ot.rec (fun _ => R) e (fun _ => e) (fun _ => e) e (fun _ _ _ => e) (fun _ _ => e) e (fun _ _ => e) (fun _ _ _ _ => e) (fun i lo hi z => κ i lo hi z) (fun _ _ _ => e) (fun _ _ => e) o
def otAp (o : Ot) (κ : Nat → Nat → Nat → R) (e : R) : R :=
  @Ot.rec (fun _ => R) e (fun _ => e) (fun _ => e) e (fun _ _ _ => e) (fun _ _ => e) e (fun _ _ => e) (fun _ _ _ _ => e) (fun _ _ _ _ => e) (fun i j m => κ i j m) (fun _ _ => e) o
def otSy (o : Ot) (κ : IntKind → Nat → R) (e : R) : R :=
  @Ot.rec (fun _ => R) e (fun _ => e) (fun _ => e) e (fun _ _ _ => e) (fun _ _ => e) e (fun _ _ => e) (fun _ _ _ _ => e) (fun _ _ _ _ => e) (fun _ _ _ => e) (fun k i => κ k i) o
theorem otSy_cases (o : Ot) (κ : IntKind → Nat → R) (e : R) : (∃ k i, o = .sy k i ∧ otSy o κ e = κ k i) ∨ otSy o κ e = e := by
  cases o with
  | sy k i => exact .inl ⟨k, i, rfl, rfl⟩
  | _ => exact .inr rfl
def isSomeO {α : Type} (o : Option α) : Bool := @Option.rec α (fun _ => Bool) false (fun _ => true) o
theorem asI_good {v : V} {κ : IntKind → Nat → R} (h : (asI v κ).good) : ∃ k r, v = .int k r ∧ asI v κ = κ k r := by
  cases v with
  | int k r => exact ⟨k, r, rfl, rfl⟩
  | _ => exact h.elim
theorem asB_good {v : V} {κ : Bool → R} (h : (asB v κ).good) : ∃ b, v = .bool b ∧ asB v κ = κ b := by
  cases v with
  | bool b => exact ⟨b, rfl, rfl⟩
  | _ => exact h.elim
theorem asP_good {v : V} {κ : K4 → Nat → R} (h : (asP v κ).good) : ∃ p off, v = .ptr p off ∧ asP v κ = κ p off := by
  cases v with
  | ptr p off => exact ⟨p, off, rfl, rfl⟩
  | _ => exact h.elim
theorem asSl_good {v : V} {κn : R} {κ : K4 → Nat → Nat → Nat → Bool → Nat → R} (h : (asSl v κn κ).good) :
    (v = .nil .sl ∧ asSl v κn κ = κn) ∨ ∃ p off len cap ex esz, v = .sl p off len cap ex esz ∧ asSl v κn κ = κ p off len cap ex esz := by
  cases v with
  | sl p off len cap ex esz => exact .inr ⟨p, off, len, cap, ex, esz, rfl, rfl⟩
  | nil w => cases w with
    | sl => exact .inl ⟨rfl, rfl⟩
    | _ => exact h.elim
  | _ => exact h.elim
theorem asStr_good {v : V} {κ : Nat → Nat → R} (h : (asStr v κ).good) : ∃ n c, v = .str n c ∧ asStr v κ = κ n c := by
  cases v with
  | str n c => exact ⟨n, c, rfl, rfl⟩
  | _ => exact h.elim
theorem asAgg_good {v : V} {κ : List V → R} (h : (asAgg v κ).good) : ∃ l, v = .agg l ∧ asAgg v κ = κ l := by
  cases v with
  | agg l => exact ⟨l, rfl, rfl⟩
  | _ => exact h.elim
theorem asTup_good {v : V} {κ : List V → R} (h : (asTup v κ).good) : ∃ l, v = .tup l ∧ asTup v κ = κ l := by
  cases v with
  | tup l => exact ⟨l, rfl, rfl⟩
  | _ => exact h.elim
theorem asMap_good {v : V} {κn : R} {κ : K4 → R} (h : (asMap v κn κ).good) :
    (v = .nil .map ∧ asMap v κn κ = κn) ∨ ∃ p, v = .map p ∧ asMap v κn κ = κ p := by
  cases v with
  | map p => exact .inr ⟨p, rfl, rfl⟩
  | nil w => cases w with
    | map => exact .inl ⟨rfl, rfl⟩
    | _ => exact h.elim
  | _ => exact h.elim
theorem asFn_good {v : V} {κ : Nat → List V → R} (h : (asFn v κ).good) : ∃ f caps, v = .fn f caps ∧ asFn v κ = κ f caps := by
  cases v with
  | fn f caps => exact ⟨f, caps, rfl, rfl⟩
  | _ => exact h.elim
/-- The cells of an abstract value. -/
def V.cl : V → List V
  | .agg l => l
  | v => [v]
/-- A value of one cell, or an aggregate. -/
def V.celled : V → Prop
  | .tup _ => False
  | .oth .any => False
  | .oth (.yl _) => False
  | .oth .no => False
  | _ => True
theorem cellsK_good {v : V} {κ : List V → R} (h : (cellsK v κ).good) : v.celled ∧ cellsK v κ = κ v.cl := by
  cases v with
  | tup l => exact h.elim
  | oth o => cases o with
    | any => exact h.elim
    | yl p => exact h.elim
    | no => exact h.elim
    | _ => exact ⟨trivial, rfl⟩
  | _ => exact ⟨trivial, rfl⟩
def Cs.at (cs : Cs) (i : Nat) : Option V :=
  match cs with
  | .l xs => xs[i]?
  | .b n c => if i < n then some (.int .u8 (c / 256 ^ i % 256)) else none
def Cs.len : Cs → Nat
  | .l xs => xs.length
  | .b n _ => n
theorem Cs.at_lt {cs : Cs} {i : Nat} (h : i < cs.len) : ∃ v, cs.at i = some v := by
  cases cs with
  | l xs => exact ⟨xs[i], by simp [Cs.at, List.getElem?_eq_getElem h]⟩
  | b n c => exact ⟨_, if_pos h⟩
theorem Cs.at_none {cs : Cs} {i : Nat} (h : cs.len ≤ i) : cs.at i = none := by
  cases cs with
  | l xs => simp only [Cs.at]; exact List.getElem?_eq_none h
  | b n c => exact if_neg (Nat.not_lt.2 h)
theorem Cs.lt_of_at {cs : Cs} {i : Nat} {v : V} (h : cs.at i = some v) : i < cs.len := by
  rcases Nat.lt_or_ge i cs.len with h' | h'
  · exact h'
  · rw [Cs.at_none h'] at h; exact absurd h (by simp)
def getC (cs : Cs) (i : Nat) (κ : V → R) : R :=
  @Cs.rec (fun _ => R) (fun xs => nthK i xs κ) (fun n c => br (Nat.ble (Nat.succ i) n) (forceN (lo (sh c i) 1) fun r => κ (.int .u8 r)) (.fail "byte")) cs
theorem lo_sh (c i : Nat) : lo (sh c i) 1 = c / 256 ^ i % 256 := by rw [lo_eq, sh_eq]
theorem getC_good {cs : Cs} {i : Nat} {κ : V → R} (h : (getC cs i κ).good) : ∃ v, cs.at i = some v ∧ getC cs i κ = κ v := by
  cases cs with
  | l xs => exact nthK_good h
  | b n c =>
    obtain ⟨h1, h2⟩ := br_good (show R.good (br (Nat.ble (Nat.succ i) n) _ (.fail _)) from h)
    refine ⟨.int .u8 (c / 256 ^ i % 256), ?_, ?_⟩
    · exact if_pos (show i < n from ble_iff.1 h1)
    · show br (Nat.ble (Nat.succ i) n) _ _ = _
      rw [h2, forceN_eq, lo_sh]
theorem div_mod_pow (d i m : Nat) (hi : i < m) : d % 256 ^ m / 256 ^ i % 256 = d / 256 ^ i % 256 := by
  have hm : 256 ^ m = 256 ^ i * (256 * 256 ^ (m - i - 1)) := by
    rw [← Nat.pow_succ', ← Nat.pow_add]; congr 1; omega
  rw [hm, Nat.mod_mul_right_div_self, Nat.mod_mul_right_mod]
def rangeC (cs : Cs) (off m : Nat) (κ : Cs → R) : R :=
  @Cs.rec (fun _ => R) (fun xs => dropK off xs fun ys => takeK m ys fun zs => κ (.l zs))
    (fun n c => br (Nat.ble (Nat.add off m) n) (forceN (lo (sh c off) m) fun r => κ (.b m r)) (.fail "bytes")) cs
theorem rangeC_good {cs : Cs} {off m : Nat} {κ : Cs → R} (h : (rangeC cs off m κ).good) :
    off + m ≤ cs.len ∧ ∃ y : Cs, y.len = m ∧ (∀ i, i < m → y.at i = cs.at (off + i)) ∧ rangeC cs off m κ = κ y := by
  cases cs with
  | l xs =>
    obtain ⟨h1, e1⟩ := dropK_good (h : (dropK off xs _).good)
    have h' : (takeK m (xs.drop off) fun zs => κ (.l zs)).good := by rw [← e1]; exact h
    obtain ⟨h2, e2⟩ := takeK_good h'
    simp only [List.length_drop] at h2
    refine ⟨by simp only [Cs.len]; omega, .l ((xs.drop off).take m), by simp [Cs.len]; omega, fun i hi => ?_, e1.trans e2⟩
    simp [Cs.at, hi]
  | b n c =>
    obtain ⟨h1, h2⟩ := br_good (show R.good (br (Nat.ble (Nat.add off m) n) _ (.fail _)) from h)
    have h1 : off + m ≤ n := ble_iff.1 h1
    refine ⟨h1, .b m (c / 256 ^ off % 256 ^ m), rfl, fun i hi => ?_, ?_⟩
    · simp only [Cs.at]
      rw [if_pos hi, if_pos (by omega)]
      congr 2
      rw [Nat.pow_add, ← Nat.div_div_eq_div_mul]
      generalize c / 256 ^ off = d
      exact (div_mod_pow d i m hi)
    · show br (Nat.ble (Nat.add off m) n) _ _ = _
      rw [h2, forceN_eq, lo_eq, sh_eq]
end Go.Ev

namespace Go.Ev
set_option linter.unusedVariables false
theorem Cs.b_pos {n c i : Nat} (h : i < n) : (Cs.b n c).at i = some (.int .u8 (c / 256 ^ i % 256)) := if_pos h
theorem Cs.b_neg {n c i : Nat} (h : ¬ i < n) : (Cs.b n c).at i = none := if_neg h
def vByte (v : V) (κ : Nat → R) (e : R) : R :=
  @V.rec (fun _ => R) (fun _ => Unit) (fun k r => br (kbeq k .u8) (br (Nat.ble r 255) (κ r) e) e) (fun _ => e) (fun _ _ => e) (fun _ _ _ _ _ _ => e) (fun _ _ => e) (fun _ _ => e) (fun _ => e) (fun _ => e) (fun _ _ _ => e) (fun _ _ => e) (fun _ => e) () (fun _ _ _ _ => ()) v
theorem vByte_or (v : V) (κ : Nat → R) (e : R) : vByte v κ e = e ∨ ∃ r, v = .int .u8 r ∧ r < 256 ∧ vByte v κ e = κ r := by
  cases v with
  | int k r =>
    by_cases hk : kbeq k .u8 = true
    · have := kbeq_iff.1 hk
      subst this
      by_cases hr : Nat.ble r 255 = true
      · refine .inr ⟨r, rfl, by have := ble_iff.1 hr; omega, ?_⟩
        show br (kbeq .u8 .u8) (br (Nat.ble r 255) (κ r) e) e = _
        rw [hk, hr]; rfl
      · refine .inl ?_
        show br (kbeq .u8 .u8) (br (Nat.ble r 255) (κ r) e) e = _
        rw [hk, Bool.eq_false_iff.2 hr]; rfl
    · refine .inl ?_
      show br (kbeq k .u8) (br (Nat.ble r 255) (κ r) e) e = _
      rw [Bool.eq_false_iff.2 hk]; rfl
  | _ => exact .inl rfl
def packK (xs : List V) : (Nat → Nat → R) → R → R :=
  @List.rec V (fun _ => (Nat → Nat → R) → R → R) (fun κ _ => κ 0 0)
    (fun x _ ih κ e => vByte x (fun r => ih (fun n c => forceN (Nat.succ n) fun n => forceN (Nat.add r (Nat.mul 256 c)) fun c => κ n c) e) e) xs
theorem packK_or (xs : List V) : ∀ (κ : Nat → Nat → R) (e : R), packK xs κ e = e ∨ ∃ n c, packK xs κ e = κ n c ∧ (Cs.b n c).len = xs.length ∧ (∀ i, (Cs.b n c).at i = xs[i]?) ∧ c < 256 ^ n := by
  induction xs with
  | nil => exact fun κ e => .inr ⟨0, 0, rfl, rfl, fun i => by simp [Cs.at], by simp⟩
  | cons x xs ih =>
    intro κ e
    rcases vByte_or x (fun r => packK xs (fun n c => forceN (Nat.succ n) fun n => forceN (Nat.add r (Nat.mul 256 c)) fun c => κ n c) e) e with h | ⟨r, rfl, hr, h⟩
    · exact .inl h
    · rcases ih (fun n c => forceN (Nat.succ n) fun n => forceN (Nat.add r (Nat.mul 256 c)) fun c => κ n c) e with h' | ⟨n, c, h', hl, hc, hlt⟩
      · exact .inl (h.trans h')
      · refine .inr ⟨n + 1, r + 256 * c, ?_, ?_, fun i => ?_, by rw [Nat.pow_succ]; omega⟩
        · refine (h.trans h').trans ?_
          rw [forceN_eq, forceN_eq]; rfl
        · simp only [Cs.len] at hl ⊢; simp [hl]
        · cases i with
          | zero =>
            simp only [Cs.at, List.getElem?_cons_zero]
            rw [if_pos (by omega)]
            congr 2
            simp; omega
          | succ i =>
            rw [List.getElem?_cons_succ, ← hc i]
            simp only [Cs.at]
            by_cases hi : i < n
            · rw [if_pos (by omega), if_pos hi]
              congr 2
              rw [Nat.pow_succ, Nat.mul_comm (256 ^ i) 256, ← Nat.div_div_eq_div_mul]
              congr 2
              omega
            · rw [if_neg (by omega), if_neg hi]
def unpackK (n : Nat) : Nat → (List V → R) → R :=
  @Nat.rec (fun _ => Nat → (List V → R) → R) (fun _ κ => κ [])
    (fun _ ih c κ => forceN (lo c 1) fun r => forceN (sh c 1) fun d => ih d fun zs => κ (.int .u8 r :: zs)) n
theorem unpackK_eq (n : Nat) : ∀ (c : Nat) (κ : List V → R), ∃ zs, unpackK n c κ = κ zs ∧ zs.length = n ∧ ∀ i, zs[i]? = (Cs.b n c).at i := by
  induction n with
  | zero => exact fun c κ => ⟨[], rfl, rfl, fun i => by simp [Cs.at]⟩
  | succ n ih =>
    intro c κ
    obtain ⟨zs, h1, h2, h3⟩ := ih (sh c 1) (fun zs => κ (.int .u8 (lo c 1) :: zs))
    refine ⟨.int .u8 (lo c 1) :: zs, ?_, by simp [h2], fun i => ?_⟩
    · refine Eq.trans ?_ h1
      exact (forceN_eq (lo c 1) (fun r => forceN (sh c 1) fun d => unpackK n d fun zs => κ (.int .u8 r :: zs))).trans (forceN_eq (sh c 1) _)
    · cases i with
      | zero => simp [Cs.at, lo_eq]
      | succ i =>
        rw [List.getElem?_cons_succ, h3]
        simp only [Cs.at, sh_eq]
        by_cases hi : i < n
        · rw [if_pos hi, if_pos (show i + 1 < n + 1 by omega), Nat.div_div_eq_div_mul, ← Nat.pow_add, Nat.add_comm 1 i]
        · rw [if_neg hi, if_neg (show ¬ i + 1 < n + 1 by omega)]
def listC (cs : Cs) (κ : List V → R) : R := @Cs.rec (fun _ => R) (fun xs => κ xs) (fun n c => unpackK n c κ) cs
theorem listC_eq (cs : Cs) (κ : List V → R) : ∃ zs, listC cs κ = κ zs ∧ zs.length = cs.len ∧ ∀ i, zs[i]? = cs.at i := by
  cases cs with
  | l xs => exact ⟨xs, rfl, rfl, fun _ => rfl⟩
  | b n c => exact unpackK_eq n c κ
def lenC (cs : Cs) (κ : Nat → R) : R := @Cs.rec (fun _ => R) (fun xs => lenK xs κ) (fun n _ => κ n) cs
theorem lenC_eq (cs : Cs) (κ : Nat → R) : lenC cs κ = κ cs.len := by
  cases cs with
  | l xs => exact lenK_eq xs κ
  | b n c => rfl
def splB (n c off m d : Nat) (κ : Cs → R) : R :=
  br (Nat.ble (Nat.add off m) n) (forceN (Nat.add (lo c off) (up (Nat.add (lo d m) (up (sh c (Nat.add off m)) m)) off)) fun r => κ (.b n r)) (.fail "store behind the bytes")
def splC (cs : Cs) (off : Nat) (y : Cs) (κ : Cs → R) : R :=
  @Cs.rec (fun _ => R)
    (fun xs => listC y fun ys => takeK off xs fun a => lenK ys fun m => forceN (Nat.add off m) fun j => dropK j xs fun b => appK ys b fun t => appK a t fun zs => κ (.l zs))
    (fun n c => @Cs.rec (fun _ => R) (fun ys => packK ys (fun m d => splB n c off m d κ) (.fail "store of no bytes")) (fun m d => splB n c off m d κ) y) cs
def SplOf (cs : Cs) (off : Nat) (y z : Cs) : Prop :=
  off + y.len ≤ cs.len ∧ z.len = cs.len ∧ (∀ i, i < off → z.at i = cs.at i) ∧ (∀ i, i < y.len → z.at (off + i) = y.at i) ∧ (∀ i, off + y.len ≤ i → z.at i = cs.at i)
theorem byte_low (a b j i : Nat) (hi : i < j) : (a % 256 ^ j + 256 ^ j * b) / 256 ^ i % 256 = a / 256 ^ i % 256 := by
  have h : (a % 256 ^ j + 256 ^ j * b) % 256 ^ j = a % 256 ^ j := by rw [Nat.add_mul_mod_self_left, Nat.mod_mod]
  rw [← div_mod_pow _ i j hi, h, div_mod_pow _ i j hi]
theorem byte_high (a b j i : Nat) : (a % 256 ^ j + 256 ^ j * b) / 256 ^ (j + i) % 256 = b / 256 ^ i % 256 := by
  have hp : 0 < 256 ^ j := Nat.pow_pos (by omega)
  rw [Nat.pow_add, ← Nat.div_div_eq_div_mul, Nat.add_mul_div_left _ _ hp, Nat.div_eq_of_lt (Nat.mod_lt _ hp), Nat.zero_add]
theorem splB_good {n c off m d : Nat} {κ : Cs → R} (h : (splB n c off m d κ).good) : ∃ z, SplOf (.b n c) off (.b m d) z ∧ splB n c off m d κ = κ z := by
  obtain ⟨h1, h2⟩ := br_good (show R.good (br (Nat.ble (Nat.add off m) n) _ (.fail _)) from h)
  have h1 : off + m ≤ n := ble_iff.1 h1
  refine ⟨.b n (c % 256 ^ off + 256 ^ off * (d % 256 ^ m + 256 ^ m * (c / 256 ^ (off + m)))), ⟨h1, rfl, fun i hi => ?_, fun i hi => ?_, fun i hi => ?_⟩, ?_⟩
  · simp only [Cs.at]
    rw [byte_low _ _ _ _ hi]
  · simp only [Cs.len] at hi
    simp only [Cs.at]
    rw [if_pos (by omega), if_pos hi, byte_high, byte_low _ _ _ _ hi]
  · simp only [Cs.len] at hi
    simp only [Cs.at]
    obtain ⟨e, rfl⟩ : ∃ e, i = off + (m + e) := ⟨i - off - m, by omega⟩
    rw [byte_high, byte_high, Nat.div_div_eq_div_mul, ← Nat.pow_add, Nat.add_assoc]
  · show br (Nat.ble (Nat.add off m) n) _ _ = _
    rw [h2, forceN_eq]
    simp only [lo_eq, up_eq, sh_eq]
    rfl
theorem splC_good {cs : Cs} {off : Nat} {y : Cs} {κ : Cs → R} (h : (splC cs off y κ).good) : ∃ z, SplOf cs off y z ∧ splC cs off y κ = κ z := by
  cases cs with
  | l xs =>
    obtain ⟨ys, e0, hyl, hya⟩ := listC_eq y (fun ys => takeK off xs fun a => lenK ys fun m => forceN (Nat.add off m) fun j => dropK j xs fun b => appK ys b fun t => appK a t fun zs => κ (.l zs))
    have e0 : splC (.l xs) off y κ = _ := e0
    rw [e0] at h
    obtain ⟨h1, e1⟩ := takeK_good h
    rw [e1, lenK_eq, forceN_eq] at h
    obtain ⟨h2, e2⟩ := dropK_good h
    simp only [Nat.add_eq] at h2
    have hlen : ys.length = y.len := hyl
    refine ⟨.l (xs.take off ++ (ys ++ xs.drop (off + ys.length))), ⟨?_, ?_, fun i hi => ?_, fun i hi => ?_, fun i hi => ?_⟩, ?_⟩
    · show off + y.len ≤ xs.length
      omega
    · show (xs.take off ++ (ys ++ xs.drop (off + ys.length))).length = xs.length
      simp only [List.length_append, List.length_take, List.length_drop]; omega
    · simp only [Cs.at]
      rw [List.getElem?_append_left (by rw [List.length_take]; omega), List.getElem?_take, if_pos hi]
    · simp only [Cs.at]
      rw [List.getElem?_append_right (by rw [List.length_take]; omega), List.length_take, Nat.min_eq_left h1, Nat.add_sub_cancel_left,
        List.getElem?_append_left (by omega)]
      exact hya i
    · simp only [Cs.at]
      rw [List.getElem?_append_right (by rw [List.length_take]; omega), List.length_take, Nat.min_eq_left h1,
        List.getElem?_append_right (by omega), List.getElem?_drop]
      congr 1; omega
    · rw [e0, e1, lenK_eq, forceN_eq, e2, appK_eq, appK_eq]; rfl
  | b n c =>
    cases y with
    | l ys =>
      rcases packK_or ys (fun m d => splB n c off m d κ) (.fail "store of no bytes") with e | ⟨m, d, e, hl, ha, _⟩
      · have e : splC (.b n c) off (.l ys) κ = _ := e
        rw [e] at h; exact h.elim
      · have e : splC (.b n c) off (.l ys) κ = _ := e
        rw [e] at h
        obtain ⟨z, ⟨g1, g2, g3, g4, g5⟩, e'⟩ := splB_good h
        refine ⟨z, ⟨?_, g2, g3, fun i hi => ?_, fun i hi => g5 i ?_⟩, e.trans e'⟩
        · rw [hl] at g1; exact g1
        · rw [g4 i (by rw [hl]; exact hi)]; exact ha i
        · rw [hl]; exact hi
    | b m d => exact splB_good h
def appB (n c m d : Nat) (κ : Cs → R) : R :=
  forceN (Nat.add n m) fun l => forceN (Nat.add (lo c n) (up d n)) fun r => κ (.b l r)
def appC (x y : Cs) (κ : Cs → R) : R :=
  @Cs.rec (fun _ => R) (fun xs => listC y fun ys => appK xs ys fun zs => κ (.l zs))
    (fun n c => @Cs.rec (fun _ => R) (fun ys => packK ys (fun m d => appB n c m d κ) (unpackK n c fun xs => appK xs ys fun zs => κ (.l zs))) (fun m d => appB n c m d κ) y) x
def AppOf (x y z : Cs) : Prop := z.len = x.len + y.len ∧ (∀ i, i < x.len → z.at i = x.at i) ∧ (∀ i, z.at (x.len + i) = y.at i)
theorem appL (xs ys : List V) (x y : Cs) (hx : xs.length = x.len) (hxa : ∀ i, xs[i]? = x.at i) (hy : ys.length = y.len) (hya : ∀ i, ys[i]? = y.at i) : AppOf x y (.l (xs ++ ys)) := by
  refine ⟨by simp [Cs.len, hx, hy], fun i hi => ?_, fun i => ?_⟩
  · simp only [Cs.at]; rw [List.getElem?_append_left (by omega)]; exact hxa i
  · simp only [Cs.at]; rw [List.getElem?_append_right (by omega), hx, Nat.add_sub_cancel_left]; exact hya i
theorem appB_eq (n c m d : Nat) (κ : Cs → R) : ∃ z, AppOf (.b n c) (.b m d) z ∧ appB n c m d κ = κ z := by
  refine ⟨.b (n + m) (c % 256 ^ n + 256 ^ n * d), ⟨rfl, fun i hi => ?_, fun i => ?_⟩, ?_⟩
  · simp only [Cs.len] at hi
    simp only [Cs.at]
    rw [if_pos (by omega), if_pos hi, byte_low _ _ _ _ hi]
  · show (Cs.b (n + m) _).at (n + i) = (Cs.b m d).at i
    by_cases hi : i < m
    · rw [Cs.b_pos (by omega), Cs.b_pos hi, byte_high]
    · rw [Cs.b_neg (by omega), Cs.b_neg hi]
  · simp only [appB, forceN_eq, lo_eq, up_eq]; rfl
theorem appC_eq (x y : Cs) (κ : Cs → R) : ∃ z, AppOf x y z ∧ appC x y κ = κ z := by
  cases x with
  | l xs =>
    obtain ⟨ys, e0, hyl, hya⟩ := listC_eq y (fun ys => appK xs ys fun zs => κ (.l zs))
    exact ⟨_, appL xs ys (.l xs) y rfl (fun _ => rfl) hyl hya, e0.trans (appK_eq _ _ _)⟩
  | b n c =>
    cases y with
    | l ys =>
      rcases packK_or ys (fun m d => appB n c m d κ) (unpackK n c fun xs => appK xs ys fun zs => κ (.l zs)) with e | ⟨m, d, e, hl, ha, _⟩
      · obtain ⟨xs, e1, h2, h3⟩ := unpackK_eq n c (fun xs => appK xs ys fun zs => κ (.l zs))
        exact ⟨_, appL xs ys (.b n c) (.l ys) h2 h3 rfl (fun _ => rfl), (e.trans e1).trans (appK_eq _ _ _)⟩
      · obtain ⟨z, ⟨g1, g2, g3⟩, e'⟩ := appB_eq n c m d κ
        refine ⟨z, ⟨by rw [g1, hl]; rfl, g2, fun i => (g3 i).trans (ha i)⟩, e.trans e'⟩
    | b m d => exact appB_eq n c m d κ
def repK (m : Nat) : List V → (List V → R) → R :=
  @Nat.rec (fun _ => List V → (List V → R) → R) (fun _ κ => κ []) (fun _ ih z κ => ih z fun zs => appK z zs κ) m
theorem repK_eq (m : Nat) (z : List V) (κ : List V → R) : ∃ zs, repK m z κ = κ zs ∧ zs.length = m * z.length ∧ ∀ i, i < m * z.length → zs[i]? = z[i % z.length]? := by
  induction m generalizing κ with
  | zero => exact ⟨[], rfl, by simp, fun i hi => by simp at hi⟩
  | succ m ih =>
    obtain ⟨zs, h1, h2, h3⟩ := ih (fun zs => appK z zs κ)
    refine ⟨z ++ zs, h1.trans (appK_eq _ _ _), by rw [List.length_append, h2, Nat.succ_mul]; omega, fun i hi => ?_⟩
    by_cases hz : i < z.length
    · rw [List.getElem?_append_left hz, Nat.mod_eq_of_lt hz]
    · rw [List.getElem?_append_right (by omega), h3 _ (by rw [Nat.succ_mul] at hi; omega)]
      congr 1
      rw [← Nat.mod_eq_sub_mod (by omega)]
def zerosC (u8 : Bool) (z : List V) (m : Nat) (κ : Cs → R) : R :=
  br u8 (κ (.b m 0)) (repK m z fun zs => κ (.l zs))
theorem zerosC_eq (u8 : Bool) (z : List V) (m : Nat) (κ : Cs → R) (hu : u8 = true → z = [.int .u8 0]) :
    ∃ y : Cs, zerosC u8 z m κ = κ y ∧ y.len = m * z.length ∧ ∀ i, i < m * z.length → y.at i = z[i % z.length]? := by
  cases u8 with
  | true =>
    rw [hu rfl]
    refine ⟨.b m 0, rfl, by simp [Cs.len], fun i hi => ?_⟩
    simp only [Cs.at]
    rw [if_pos (by simpa using hi)]
    simp [Nat.mod_one]
  | false =>
    obtain ⟨zs, h1, h2, h3⟩ := repK_eq m z (fun zs => κ (.l zs))
    exact ⟨.l zs, h1, h2, h3⟩
end Go.Ev

namespace Go.Ev
set_option linter.unusedVariables false
inductive Opd where
  | t (p : K2)
  | c (v : V)
/-- Scalars: integers, strings, bools. -/
inductive Sc where
  | i
  | s
  | b
/-- How two values are held against each other: scalars; structs of scalars at these offsets; references. -/
inductive Plan where
  | sc (k : Sc)
  | st (fs : List (Nat × Sc))
  | ks (l : List Sc)
  | rf (w : Nl)
structure Part where
  off : Nat
  size : Nat
  x : Opd
def evK (o : Opd) (t : Regs) (κ : V → R) : R := @Opd.rec (fun _ => R) (fun p => rgetK p t κ) (fun v => κ v) o
def ev (o : Opd) (t : Regs) : V := match o with | .t p => rget p t | .c v => v
theorem evK_eq (o : Opd) (t : Regs) (κ : V → R) : evK o t κ = κ (ev o t) := by
  cases o with
  | t p => exact rgetK_eq p t κ
  | c v => rfl
def evsK (l : List Opd) (t : Regs) : (List V → R) → R :=
  @List.rec Opd (fun _ => (List V → R) → R) (fun κ => κ []) (fun o _ ih κ => evK o t fun v => ih fun vs => κ (v :: vs)) l
theorem evsK_eq (l : List Opd) (t : Regs) (κ : List V → R) : evsK l t κ = κ (l.map (ev · t)) := by
  induction l generalizing κ with
  | nil => rfl
  | cons o l ih =>
    show evK o t _ = _
    rw [evK_eq]
    exact ih _
inductive AK where
  | mv (x : Opd)
  | pick (c a b : Opd)
  | alc (cs : Cs)
  | box (x : Opd)
  | build (zero : List V) (parts : List Part)
  | bslice (u8 : Bool) (len esz : Nat) (zero : List V) (parts : List Part)
  | ld (x : Opd)
  | ldn (m : Nat) (x : Opd)
  | st (m : Nat) (a x : Opd)
  | nilck (x : Opd)
  | bin (op : BinOp) (x y : Opd)
  | eq (neg : Bool) (pl : Plan) (x y : Opd)
  | not (x : Opd)
  | neg (x : Opd)
  | com (x : Opd)
  | cvi (k : IntKind) (x : Opd)
  | b2s (x : Opd)
  | s2b (x : Opd)
  | idn (x : Opd)
  | bsl (x : Opd)
  | mkfn (f : Nat) (caps : List Opd)
  | mkmap 
  | mksl (eb : Nat) (u8 : Bool) (zero : List V) (l c : Opd)
  | slS (x : Opd) (lo hi : Option Opd)
  | slL (esz : Nat) (x : Opd) (lo hi : Option Opd)
  | slA (m esz : Nat) (x : Opd) (lo hi : Option Opd)
  | fad (off : Nat) (x : Opd)
  | fld (off size : Nat) (ag : Bool) (x : Opd)
  | ixS (esz : Nat) (x i : Opd)
  | ixA (m esz : Nat) (x i : Opd)
  | idS (x i : Opd)
  | idA (m esz : Nat) (ag : Bool) (x i : Opd)
  | lk (pl : Plan) (zero : V) (ok : Bool) (m k : Opd)
  | mu (pl : Plan) (m k v : Opd)
  | del (pl : Plan) (m k : Opd)
  | ext (i : Nat) (x : Opd)
  | call (f : Nat) (args : List Opd)
  | calld (x : Opd) (args : List Opd)
  | lnS (x : Opd)
  | lnL (x : Opd)
  | lnM (x : Opd)
  | min (x y : Opd)
  | max (x y : Opd)
  | app (esz eb : Nat) (x y : Opd)
  | appz (esz eb : Nat) (u8 : Bool) (zero : List V) (x c : Opd)
  | cpy (esz : Nat) (x y : Opd)
  | max3 (x y z : Opd)
  | cpL (x : Opd)
  | clr (u8 : Bool) (zero : List V) (x : Opd)
  | bad (why : String)
def iadd (k : IntKind) (a : Nat) (j : IntKind) (b : Nat) (κ : V → R) : R := br (kbeq k j) (forceN (Nat.mod (Nat.add a b) (Mk k)) fun r => κ (.int k r)) (.fail "kinds")
def isub (k : IntKind) (a : Nat) (j : IntKind) (b : Nat) (κ : V → R) : R := br (kbeq k j) (forceN (Nat.mod (Nat.add a (Nat.sub (Mk k) b)) (Mk k)) fun r => κ (.int k r)) (.fail "kinds")
def imul (k : IntKind) (a : Nat) (j : IntKind) (b : Nat) (κ : V → R) : R := br (kbeq k j) (forceN (Nat.mod (Nat.mul a b) (Mk k)) fun r => κ (.int k r)) (.fail "kinds")
/-- Both are not negative. -/
def pos2 (k : IntKind) (a : Nat) (j : IntKind) (b : Nat) (κ : R) : R :=
  br (kbeq k j) (br (Nat.ble (Nat.succ a) (Hk k)) (br (Nat.ble (Nat.succ b) (Hk k)) κ (.fail "negative")) (.fail "negative")) (.fail "kinds")
def iquo (k : IntKind) (a : Nat) (j : IntKind) (b : Nat) (κ : V → R) : R := pos2 k a j b (br (Nat.ble 1 b) (forceN (Nat.div a b) fun r => κ (.int k r)) (.fail "divide by zero"))
def irem (k : IntKind) (a : Nat) (j : IntKind) (b : Nat) (κ : V → R) : R := pos2 k a j b (br (Nat.ble 1 b) (forceN (Nat.mod a b) fun r => κ (.int k r)) (.fail "divide by zero"))
def iand (k : IntKind) (a : Nat) (j : IntKind) (b : Nat) (κ : V → R) : R := br (kbeq k j) (forceN (Nat.land a b) fun r => κ (.int k r)) (.fail "kinds")
def ior (k : IntKind) (a : Nat) (j : IntKind) (b : Nat) (κ : V → R) : R := br (kbeq k j) (forceN (Nat.lor a b) fun r => κ (.int k r)) (.fail "kinds")
def ixor (k : IntKind) (a : Nat) (j : IntKind) (b : Nat) (κ : V → R) : R := br (kbeq k j) (forceN (Nat.xor a b) fun r => κ (.int k r)) (.fail "kinds")
def iandn (k : IntKind) (a : Nat) (j : IntKind) (b : Nat) (κ : V → R) : R := br (kbeq k j) (forceN (Nat.land a (Nat.sub (Nat.sub (Mk k) 1) b)) fun r => κ (.int k r)) (.fail "kinds")
def ishl (k : IntKind) (a : Nat) (j : IntKind) (b : Nat) (κ : V → R) : R :=
  br (Nat.ble (Nat.succ b) (Hk j)) (br (Nat.ble b 64) (forceN (Nat.mod (Nat.shiftLeft a b) (Mk k)) fun r => κ (.int k r)) (κ (.int k 0))) (.fail "negative shift")
def ishr (k : IntKind) (a : Nat) (j : IntKind) (b : Nat) (κ : V → R) : R :=
  br (Nat.ble (Nat.succ b) (Hk j)) (br (Nat.ble (Nat.succ a) (Hk k)) (br (Nat.ble b 64) (forceN (Nat.shiftRight a b) fun r => κ (.int k r)) (κ (.int k 0))) (.fail "shift of a negative number")) (.fail "negative shift")
def ieq (k : IntKind) (a : Nat) (j : IntKind) (b : Nat) (κ : V → R) : R := br (kbeq k j) (forceB (Nat.beq a b) fun r => κ (.bool r)) (.fail "kinds")
def ine (k : IntKind) (a : Nat) (j : IntKind) (b : Nat) (κ : V → R) : R := br (kbeq k j) (br (Nat.beq a b) (κ (.bool false)) (κ (.bool true))) (.fail "kinds")
def ilt (k : IntKind) (a : Nat) (j : IntKind) (b : Nat) (κ : V → R) : R := br (kbeq k j) (forceB (ltI k a b) fun r => κ (.bool r)) (.fail "kinds")
def igt (k : IntKind) (a : Nat) (j : IntKind) (b : Nat) (κ : V → R) : R := br (kbeq k j) (forceB (ltI k b a) fun r => κ (.bool r)) (.fail "kinds")
def ile (k : IntKind) (a : Nat) (j : IntKind) (b : Nat) (κ : V → R) : R := br (kbeq k j) (br (ltI k b a) (κ (.bool false)) (κ (.bool true))) (.fail "kinds")
def ige (k : IntKind) (a : Nat) (j : IntKind) (b : Nat) (κ : V → R) : R := br (kbeq k j) (br (ltI k a b) (κ (.bool false)) (κ (.bool true))) (.fail "kinds")
def ibin (op : BinOp) : IntKind → Nat → IntKind → Nat → (V → R) → R :=
  @BinOp.rec (fun _ => IntKind → Nat → IntKind → Nat → (V → R) → R) iadd isub imul iquo irem iand ior ixor ishl ishr iandn ieq ine ilt ile igt ige op
def scat (n c m d : Nat) (κ : V → R) : R :=
  forceN (Nat.add n m) fun l => br (Nat.ble l 1000000000) (forceN (Nat.add c (up d n)) fun r => κ (.str l r)) (.fail "a long string")
def seqB (n c m d : Nat) : Bool := and (Nat.beq n m) (Nat.beq c d)
/-- Is the first of two texts the lesser, by its bytes? -/
def sltB (n : Nat) : Nat → Nat → Nat → Bool :=
  @Nat.rec (fun _ => Nat → Nat → Nat → Bool) (fun _ m _ => Nat.ble 1 m)
    (fun _ ih c m d => @Nat.rec (fun _ => Bool) false (fun m _ => br (Nat.beq (lo c 1) (lo d 1)) (ih (sh c 1) m (sh d 1)) (Nat.ble (Nat.succ (lo c 1)) (lo d 1))) m) n
def sbad (n c m d : Nat) (κ : V → R) : R := .fail "strings"
def seq' (n c m d : Nat) (κ : V → R) : R := forceB (seqB n c m d) fun r => κ (.bool r)
def sne (n c m d : Nat) (κ : V → R) : R := br (seqB n c m d) (κ (.bool false)) (κ (.bool true))
def slt (n c m d : Nat) (κ : V → R) : R := forceB (sltB n c m d) fun r => κ (.bool r)
def sgt (n c m d : Nat) (κ : V → R) : R := .fail "strings"
def sle (n c m d : Nat) (κ : V → R) : R := .fail "strings"
def sge (n c m d : Nat) (κ : V → R) : R := br (sltB n c m d) (κ (.bool false)) (κ (.bool true))
def sbin (op : BinOp) : Nat → Nat → Nat → Nat → (V → R) → R :=
  @BinOp.rec (fun _ => Nat → Nat → Nat → Nat → (V → R) → R) scat sbad sbad sbad sbad sbad sbad sbad sbad sbad sbad seq' sne slt sle sgt sge op
def asIv (v : V) (κ : IntKind → Nat → Nat → R) : R :=
  @V.rec (fun _ => R) (fun _ => Unit) (fun k r => κ k r r) (fF1 "int expected") (fF2 "int expected") (fF6 "int expected") (fF2 "int expected") (fF2 "int expected") (fF1 "int expected") (fF1 "int expected") (fF3 "int expected") (fF2 "int expected") (fun o => @Ot.rec (fun _ => R) (.fail "int expected") (fun _ => (.fail "int expected")) (fun _ => (.fail "int expected")) (.fail "int expected") (fun k lo hi => κ k lo hi) (fun _ _ => (.fail "int expected")) (.fail "int expected") (fun m _ => br (Nat.ble 18446744073709551616 m) (br (Nat.ble (Nat.succ m) 36893488147419103232) (κ .i64 0 9223372036854775807) (.fail "int expected")) (.fail "int expected")) (fun _ _ _ _ => (.fail "int expected")) (fun _ _ _ _ => (.fail "int expected")) (fun _ _ _ => (.fail "int expected")) (fun k _ => κ k 0 (Nat.sub (Mk k) 1)) o) () (fun _ _ _ _ => ()) v
def keyI (H M r : Nat) : Nat := br (Nat.ble H r) (Nat.sub r H) (Nat.add r (Nat.sub M H))
def onside (H lo hi : Nat) : Bool := br (Nat.ble (Nat.succ hi) H) true (Nat.ble H lo)
def ivLt (a b c d : Nat) (κ : V → R) : R := br (Nat.ble (Nat.succ b) c) (κ (.bool true)) (br (Nat.ble d a) (κ (.bool false)) (κ (.oth .bl)))
def ivGe (a b c d : Nat) (κ : V → R) : R := br (Nat.ble (Nat.succ b) c) (κ (.bool false)) (br (Nat.ble d a) (κ (.bool true)) (κ (.oth .bl)))
def ivOne (a b c d : Nat) : Bool := br (Nat.beq a b) (br (Nat.beq b c) (Nat.beq c d) false) false
def ivEq (a b c d : Nat) (κ : V → R) : R := br (Nat.ble (Nat.succ b) c) (κ (.bool false)) (br (Nat.ble (Nat.succ d) a) (κ (.bool false)) (br (ivOne a b c d) (κ (.bool true)) (κ (.oth .bl))))
def ivNe (a b c d : Nat) (κ : V → R) : R := br (Nat.ble (Nat.succ b) c) (κ (.bool true)) (br (Nat.ble (Nat.succ d) a) (κ (.bool true)) (br (ivOne a b c d) (κ (.bool false)) (κ (.oth .bl))))
def ivBad (a b c d : Nat) (κ : V → R) : R := .fail "bounds"
def ivOp (op : BinOp) : Nat → Nat → Nat → Nat → (V → R) → R :=
  @BinOp.rec (fun _ => Nat → Nat → Nat → Nat → (V → R) → R) ivBad ivBad ivBad ivBad ivBad ivBad ivBad ivBad ivBad ivBad ivBad ivEq ivNe ivLt (fun a b c d κ => ivGe c d a b κ) (fun a b c d κ => ivLt c d a b κ) ivGe op
def ivAny (op : BinOp) (κ : V → R) : R :=
  @BinOp.rec (fun _ => R) (.fail "bounds") (.fail "bounds") (.fail "bounds") (.fail "bounds") (.fail "bounds") (.fail "bounds") (.fail "bounds") (.fail "bounds") (.fail "bounds") (.fail "bounds") (.fail "bounds") (κ (.oth .bl)) (κ (.oth .bl)) (κ (.oth .bl)) (κ (.oth .bl)) (κ (.oth .bl)) (κ (.oth .bl)) op
/-- Alike or not, where the bounds are apart. -/
def apEq (op : BinOp) (κ : V → R) (e : R) : R := @BinOp.rec (fun _ => R) e e e e e e e e e e e (κ (.bool false)) (κ (.bool true)) e e e e op
def apOp (op : BinOp) (a b c d : Nat) (κ : V → R) : R := br (br (Nat.ble (Nat.succ b) c) true (Nat.ble (Nat.succ d) a)) (apEq op κ (ivAny op κ)) (ivAny op κ)
def ivXb (op : BinOp) (x y : V) (κ : V → R) : R :=
  asIv x fun k a b => asIv y fun j c d => br (kbeq k j) (br (onside (Hk k) a b) (br (onside (Hk k) c d) (ivOp op (keyI (Hk k) (Mk k) a) (keyI (Hk k) (Mk k) b) (keyI (Hk k) (Mk k) c) (keyI (Hk k) (Mk k) d) κ) (apOp op a b c d κ)) (apOp op a b c d κ)) (.fail "kinds")
def ivAdd (x y : V) (κ : V → R) : R :=
  asIv x fun k a b => asIv y fun j c d => br (kbeq k j) (forceN (Nat.add a c) fun lo => forceN (Nat.add b d) fun hi => br (Nat.ble (Nat.succ hi) (Hk k)) (κ (.oth (.iv k lo hi))) (forceN (Nat.sub (Mk k) 1) fun m => κ (.oth (.iv k 0 m)))) (.fail "kinds")
def ivSub (x y : V) (κ : V → R) : R :=
  asIv x fun k a b => asIv y fun j c d => br (kbeq k j) (br (Nat.ble d a) (br (Nat.ble (Nat.succ b) (Hk k)) (forceN (Nat.sub a d) fun lo => forceN (Nat.sub b c) fun hi => κ (.oth (.iv k lo hi))) (.fail "bounds")) (.fail "bounds")) (.fail "kinds")
/-- The remainder of an integer known by bounds: below the divisor, or any. -/
def ivRem (x y : V) (κ : V → R) : R :=
  asIv x fun k a b => asI y fun j d => br (kbeq k .i64) (br (kbeq j .i64) (br (Nat.ble 1 d) (br (Nat.ble (Nat.succ d) 9223372036854775808)
    (br (Nat.ble (Nat.succ b) 9223372036854775808) (forceN (Nat.sub d 1) fun e => κ (.oth (.iv .i64 0 e))) (κ (.oth (.iv .i64 0 18446744073709551615)))) (.fail "remainder")) (.fail "remainder")) (.fail "kinds")) (.fail "kinds")
def ivX0 (op : BinOp) (x y : V) (κ : V → R) : R :=
  @BinOp.rec (fun _ => R) (ivAdd x y κ) (ivSub x y κ) (ivXb op x y κ) (ivXb op x y κ) (ivRem x y κ) (ivXb op x y κ) (ivXb op x y κ) (ivXb op x y κ) (ivXb op x y κ) (ivXb op x y κ) (ivXb op x y κ) (ivXb op x y κ) (ivXb op x y κ) (ivXb op x y κ) (ivXb op x y κ) (ivXb op x y κ) (ivXb op x y κ) op
def mxT (a b c d : Nat) (yes no : R) : R := br (Nat.ble (Nat.succ b) c) yes (br (Nat.ble d a) no (.fail "bounds"))
def mxV (u v : V) (κ : V → R) : R :=
  asIv u fun k a b => asIv v fun j c d => br (kbeq k j) (br (onside (Hk k) a b) (br (onside (Hk k) c d) (mxT (keyI (Hk k) (Mk k) a) (keyI (Hk k) (Mk k) b) (keyI (Hk k) (Mk k) c) (keyI (Hk k) (Mk k) d) (κ v) (κ u)) (.fail "bounds")) (.fail "bounds")) (.fail "kinds")
def mnV (u v : V) (κ : V → R) : R :=
  asIv u fun k a b => asIv v fun j c d => br (kbeq k j) (br (onside (Hk k) a b) (br (onside (Hk k) c d) (mxT (keyI (Hk k) (Mk k) c) (keyI (Hk k) (Mk k) d) (keyI (Hk k) (Mk k) a) (keyI (Hk k) (Mk k) b) (κ v) (κ u)) (.fail "bounds")) (.fail "bounds")) (.fail "kinds")
/-- .. of a negative one. -/
def rmN (m j b : Nat) (κ : V → R) : R := br (Nat.beq m (Nat.add 73786976294838206464 b)) (forceN (Nat.mod j 18446744073709551616) fun d => br (Nat.beq d (Nat.div j 18446744073709551616)) (br (Nat.ble 1 d) (forceN (Nat.sub 18446744073709551616 d) fun r => κ (.int .i64 r)) (.fail "remainder")) (.fail "remainder")) (.fail "remainder")
/-- The remainder of an integer that is known by it. -/
def rmX (op : BinOp) (x y : V) (κ : V → R) (e : R) : R :=
  @BinOp.rec (fun _ => R) e e e e (rsK x (fun m j => asI y fun k b => br (kbeq k .i64) (br (Nat.ble 1 b) (br (Nat.ble (Nat.succ b) 9223372036854775808) (br (Nat.beq m (Nat.add 18446744073709551616 b)) (κ (.int .i64 j)) (br (Nat.beq m b) (br (Nat.beq j 0) (κ (.int .i64 0)) (κ (.oth (.iv .i64 1 18446744073709551615)))) (rmN m j b κ))) (.fail "remainder")) (.fail "remainder")) (.fail "remainder")) e) e e e e e e e e e e e e op
def syK (v : V) (κ : IntKind → Nat → R) (e : R) : R :=
  @V.rec (fun _ => R) (fun _ => Unit) (fun _ _ => e) (fun _ => e) (fun _ _ => e) (fun _ _ _ _ _ _ => e) (fun _ _ => e) (fun _ _ => e) (fun _ => e) (fun _ => e) (fun _ _ _ => e) (fun _ _ => e) (fun o => otSy o κ e) () (fun _ _ _ _ => ()) v
/-- Two symbols that are one. -/
def sySame (x y : V) (a e : R) : R := syK x (fun k i => syK y (fun j i' => br (kbeq k j) (br (Nat.beq i i') a e) e) e) e
def syX (op : BinOp) (x y : V) (κ : V → R) (e : R) : R := @BinOp.rec (fun _ => R) e e e e e e e e e e e (sySame x y (κ (.bool true)) e) (sySame x y (κ (.bool false)) e) e e e e op
def ivX (op : BinOp) (x y : V) (κ : V → R) : R := syX op x y κ (rmX op x y κ (ivX0 op x y κ))
/-- A text that is not looked into held against one that is. -/
def ssBin (op : BinOp) (l0 l1 n c m d : Nat) (κ : V → R) : R :=
  br (br (Nat.ble l0 m) (br (Nat.ble m l1) (br (Nat.beq m n) (Nat.beq d c) false) true) true)
    (@BinOp.rec (fun _ => R) (.fail "texts") (.fail "texts") (.fail "texts") (.fail "texts") (.fail "texts") (.fail "texts") (.fail "texts") (.fail "texts") (.fail "texts") (.fail "texts") (.fail "texts") (κ (.bool false)) (κ (.bool true)) (.fail "texts") (.fail "texts") (.fail "texts") (.fail "texts") op) (.fail "texts")
def othBin (op : BinOp) (x y : V) (κ : V → R) : R := ssK x (fun l0 l1 n c => asStr y fun m d => ssBin op l0 l1 n c m d κ) (ivX op x y κ)
def binK (op : BinOp) (x y : V) (κ : V → R) : R :=
  @V.rec (fun _ => R) (fun _ => Unit) (fun k r => @V.rec (fun _ => R) (fun _ => Unit) (fun j b => ibin op k r j b κ) (fF1 "int expected") (fF2 "int expected") (fF6 "int expected") (fF2 "int expected") (fF2 "int expected") (fF1 "int expected") (fF1 "int expected") (fF3 "int expected") (fF2 "int expected") (fun _ => ivX op x y κ) () (fun _ _ _ _ => ()) y) (fF1 "an operator") (fF2 "an operator") (fF6 "an operator") (fun n c => asStr y fun m d => sbin op n c m d κ) (fF2 "an operator") (fF1 "an operator") (fF1 "an operator") (fF3 "an operator") (fF2 "an operator") (fun _ => othBin op x y κ) () (fun _ _ _ _ => ()) x
def eqI (x y : V) (κ : Bool → R) : R := asI x fun k a => asI y fun j b => br (kbeq k j) (forceB (Nat.beq a b) κ) (.fail "kinds")
def eqS (x y : V) (κ : Bool → R) : R := asStr x fun n c => asStr y fun m d => forceB (seqB n c m d) κ
def eqB (x y : V) (κ : Bool → R) : R := asB x fun b => asB y fun c => br b (br c (κ true) (κ false)) (br c (κ false) (κ true))
def eqSc (k : Sc) : V → V → (Bool → R) → R := @Sc.rec (fun _ => V → V → (Bool → R) → R) eqI eqS eqB k
def Nl.ix (w : Nl) : Nat := @Nl.rec (fun _ => Nat) 0 1 2 3 4 w
/-- A reference of that sort: nil, or another one. -/
def asRef (w : Nl) (v : V) (κn κo : R) : R :=
  @V.rec (fun _ => R) (fun _ => Unit) (fF2 "reference") (fF1 "reference") (fun p off => br (Nat.beq w.ix 0) κo (.fail "reference")) (fun p off len cap ex esz => br (Nat.beq w.ix 1) κo (.fail "reference")) (fF2 "reference") (fF2 "reference") (fun w' => br (Nat.beq w'.ix w.ix) κn (.fail "reference")) (fun p => br (Nat.beq w.ix 2) κo (.fail "reference")) (fun f caps _i => br (Nat.beq w.ix 3) κo (.fail "reference")) (fF2 "reference") (fF1 "reference") () (fun _ _ _ _ => ()) v
def refK (w : Nl) (x y : V) (κ : Bool → R) : R :=
  asRef w x (asRef w y (κ true) (κ false)) (asRef w y (κ false) (asP x fun p o => asP y fun q o' => br (K4.beq p q) (forceB (Nat.beq o o') κ) (.fail "two objects")))
def eqAt (fs : List (Nat × Sc)) (x y : List V) (κ : Bool → R) : R :=
  @List.rec (Nat × Sc) (fun _ => R) (κ true) (fun f _ ih => @Prod.rec Nat Sc (fun _ => R) (fun o k => nthK o x fun u => nthK o y fun v => eqSc k u v fun r => br r ih (κ false)) f) fs
/-- Structs that are scalars throughout, cell by cell. -/
def eqLs (ks : List Sc) : List V → List V → (Bool → R) → R :=
  @List.rec Sc (fun _ => List V → List V → (Bool → R) → R)
    (fun a b κ => @List.rec V (fun _ => R) (@List.rec V (fun _ => R) (κ true) (fF3 "cells") b) (fF3 "cells") a)
    (fun k _ ih a b κ => @List.rec V (fun _ => R) (.fail "cells") (fun u a _ => @List.rec V (fun _ => R) (.fail "cells") (fun v b _ => eqSc k u v fun r => br r (ih a b κ) (κ false)) b) a) ks
def eqK (pl : Plan) (x y : V) (κ : Bool → R) : R :=
  @Plan.rec (fun _ => R) (fun k => eqSc k x y κ) (fun fs => asAgg x fun a => asAgg y fun b => eqAt fs a b κ) (fun l => asAgg x fun a => asAgg y fun b => eqLs l a b κ) (fun w => refK w x y κ) pl
def eqLen (ks : List Sc) : List V → R → R :=
  @List.rec Sc (fun _ => List V → R → R) (fun a κ => @List.rec V (fun _ => R) κ (fF3 "cells") a) (fun _ _ ih a κ => @List.rec V (fun _ => R) (.fail "cells") (fun _ l _ => ih l κ) a) ks
/-- Is it such a key? -/
def keyK (pl : Plan) (v : V) (κ : R) : R :=
  @Plan.rec (fun _ => R) (fun k => @Sc.rec (fun _ => R) (asI v fun _ _ => κ) (asStr v fun _ _ => κ) (asB v fun _ => κ) k) (fF1 "key") (fun l => asAgg v fun a => eqLen l a κ) (fF1 "key") pl
def lookK (pl : Plan) (k : V) (es : List (V × V)) (κf : V → R) (κn : R) : R :=
  @List.rec (V × V) (fun _ => R) κn (fun e _ ih => @Prod.rec V V (fun _ => R) (fun a b => eqK pl k a fun r => br r (κf b) ih) e) es
def updK (pl : Plan) (k v : V) (es : List (V × V)) : (List (V × V) → R) → R :=
  @List.rec (V × V) (fun _ => (List (V × V) → R) → R) (fun κ => κ [(k, v)])
    (fun e tl ih κ => @Prod.rec V V (fun _ => R) (fun a _ => eqK pl k a fun r => br r (κ ((k, v) :: tl)) (ih fun l => κ (e :: l))) e) es
def delK (pl : Plan) (k : V) (es : List (V × V)) : (List (V × V) → R) → R :=
  @List.rec (V × V) (fun _ => (List (V × V) → R) → R) (fun κ => κ [])
    (fun e tl ih κ => @Prod.rec V V (fun _ => R) (fun a _ => eqK pl k a fun r => br r (κ tl) (ih fun l => κ (e :: l))) e) es
/-- The stamps behind an update: of an entry that is new the clock, else as they were. -/
def sameLn (es : List (V × V)) : List Nat → Bool :=
  @List.rec (V × V) (fun _ => List Nat → Bool) (fun bs => @List.rec Nat (fun _ => Bool) true (fun _ _ _ => false) bs) (fun _ _ ih bs => @List.rec Nat (fun _ => Bool) false (fun _ bs _ => ih bs) bs) es
def snocN (bs : List Nat) (c : Nat) : (List Nat → R) → R :=
  @List.rec Nat (fun _ => (List Nat → R) → R) (fun κ => κ [c]) (fun b _ ih κ => ih fun l => κ (b :: l)) bs
def bsU (es : List (V × V)) (bs : List Nat) (c : Nat) (κ : List Nat → Nat → R) : R :=
  br (sameLn es bs) (κ bs c) (snocN bs c fun bs => forceN (Nat.succ c) fun c => κ bs c)
/-- .. and behind a removal. -/
def delB (pl : Plan) (k : V) (es : List (V × V)) : List Nat → (List Nat → R) → R :=
  @List.rec (V × V) (fun _ => List Nat → (List Nat → R) → R) (fun bs κ => κ bs)
    (fun e _ ih bs κ => @List.rec Nat (fun _ => R) (.fail "stamps") (fun b tl _ => @Prod.rec V V (fun _ => R) (fun a _ => eqK pl k a fun r => br r (κ tl) (ih tl fun l => κ (b :: l))) e) bs) es
def lenM (es : List (V × V)) : (Nat → R) → R :=
  @List.rec (V × V) (fun _ => (Nat → R) → R) (fun κ => κ 0) (fun _ _ ih κ => ih fun n => forceN (Nat.succ n) κ) es
def obK (p : K4) (h : Heap) (κ : Cs → Bool → Option K4 → R) : R :=
  hgetK p h fun o => @Option.rec Ob (fun _ => R) (.fail "no object") (fun o => @Ob.rec (fun _ => R) κ (fF3 "cells expected") (fF4 "cells expected") (.fail "cells expected") (fF2 "cells expected") o) o
def mpK (p : K4) (h : Heap) (κ : List (V × V) → List Nat → Nat → R) : R :=
  hgetK p h fun o => @Option.rec Ob (fun _ => R) (.fail "no object") (fun o => @Ob.rec (fun _ => R) (fF3 "map expected") κ (fF4 "map expected") (.fail "map expected") (fF2 "map expected") o) o
def newK (h : Heap) (n : K4) (o : Ob) (κ : Heap → K4 → R) : R := hput n h (some o) fun h' => n.nx fun n' => κ h' n'
def killK (prev : Option K4) (h : Heap) (κ : Heap → R) : R := @Option.rec K4 (fun _ => R) (κ h) (fun q => hput q h none κ) prev
def storeK (h : Heap) (p : K4) (off : Nat) (y : Cs) (κ : Heap → R) : R :=
  obK p h fun cs sup prev => br sup (.fail "a store to memory that may be shared") (splC cs off y fun cs' => killK prev h fun h => hput p h (some (.c cs' false none)) κ)
/-- An index: not negative. -/
def ixK (v : V) (κ : Nat → R) : R := asI v fun k r => br (Nat.ble (Nat.succ r) (Hk k)) (κ r) (.fail "negative index")
def optK (o : Option Opd) (t : Regs) (d : Nat) (κ : Nat → R) : R := @Option.rec Opd (fun _ => R) (κ d) (fun x => evK x t fun v => ixK v κ) o
def intK (n : Nat) (κ : V → R) : R := br (Nat.ble (Nat.succ n) 9223372036854775808) (κ (.int .i64 n)) (.fail "a great length")
def splL (xs : List V) (off : Nat) (ys : List V) (κ : List V → R) : R :=
  takeK off xs fun a => lenK ys fun m => forceN (Nat.add off m) fun j => dropK j xs fun b => appK ys b fun t => appK a t κ
def buildK (parts : List Part) (t : Regs) : List V → (List V → R) → R :=
  @List.rec Part (fun _ => List V → (List V → R) → R) (fun z κ => κ z)
    (fun p _ ih z κ => @Part.rec (fun _ => R) (fun off size x => evK x t fun v => cellsK v fun l => lenK l fun m => br (Nat.beq m size) (splL z off l fun z => ih z κ) (.fail "a part of another size")) p) parts
def apD (i j : Nat) (κ : V → R) : R := br (Nat.ble (Nat.succ j) (tdN i)) (forceN (tdM i) fun m => br (Nat.ble (Nat.succ m) 18446744073709551616) (forceN (tdD i j) fun d => κ (.oth (.rs m d))) (.fail "a remainder")) (κ (.oth (.iv .i64 0 18446744073709551615)))
def apC (i j : Nat) (κ : V → R) : R := br (Nat.ble i 36893488147419103232) (κ (.oth (.iv .i64 0 18446744073709551615))) (br (Nat.beq j (tcQ i))
  (forceN (tcM i) fun m => forceN (tcT i) fun t => br (Nat.ble (Nat.succ m) t) (forceN (Nat.sub t m) fun d => κ (.oth (.rs (Nat.add 18446744073709551616 m) d)))
    (br (Nat.beq t m) (br (Nat.ble 1 m) (κ (.oth (.rs m 0))) (.fail "a remainder")) (forceN (Nat.sub m t) fun d => κ (.oth (.rs (Nat.add 73786976294838206464 m) (Nat.add (Nat.mul d 18446744073709551616) d))))))
  (κ (.oth (.iv .i64 0 18446744073709551615))))
/-- A cell of memory that stays. -/
def apK (i j : Nat) (κ : V → R) : R := br (Nat.beq i 0) (κ (.oth .bl)) (br (Nat.ble i 18446744073709551615) (forceN (Nat.add i j) fun q => κ (.oth (.sy .i64 q)))
  (br (Nat.ble i 36893488147419103231) (br (Nat.ble (Nat.succ j) (Nat.div (Nat.sub i 18446744073709551616) 4294967296)) (br (toldB i j) (κ (.bool true)) (κ (.bool false))) (κ (.oth .bl))) (br (Nat.ble i 73786976294838206463) (apC i j κ) (apD i j κ))))
def symsL (m : Nat) : Nat → List V := @Nat.rec (fun _ => Nat → List V) (fun _ => []) (fun _ ih i => .oth (.sy .i64 i) :: ih (Nat.succ i)) m
/-- The cells of a slice or string, and how many elements they are. -/
def srcK (esz : Nat) (v : V) (h : Heap) (κ : Nat → Cs → R) : R :=
  @V.rec (fun _ => R) (fun _ => Unit) (fF2 "source") (fF1 "source") (fF2 "source") (fun p off len cap ex esz' => br (Nat.beq esz' esz) (obK p h fun cs _ _ => forceN (Nat.mul len esz) fun m => rangeC cs off m fun y => κ len y) (.fail "element")) (fun n c => br (Nat.beq esz 1) (κ n (.b n c)) (.fail "a string appended")) (fF2 "source") (fun w => @Nl.rec (fun _ => R) (.fail "source") (κ 0 (.l [])) (.fail "source") (.fail "source") (.fail "source") w) (fF1 "source") (fF3 "source") (fF2 "source") (fun o => otAs o (fun i l0 l1 z => br (Nat.beq z esz) (br (Nat.beq l0 l1) (br (and (Nat.ble 1 i) (Nat.ble i 18446744073709551615)) (forceN (Nat.mul l0 esz) fun m => κ l0 (.l (symsL m i))) (.fail "source")) (.fail "source")) (.fail "source")) (.fail "source")) () (fun _ _ _ _ => ()) v
/-- What an append gives that was given the cells. -/
def appendK (esz eb : Nat) (x : V) (m : Nat) (y : Cs) (h : Heap) (n : K4) (κ : KV) : R :=
  asSl x
    (br (Nat.beq m 0) (κ (.nil .sl) h n) (br (Nat.ble (Nat.mul (Nat.add (Nat.mul 4 m) 4096) eb) 281474976710656) (newK h n (.c y false none) fun h' n' => κ (.sl n 0 m m false esz) h' n') (.fail "a long append")))
    (fun p off len cap ex esz' => br (Nat.beq esz' esz) (br (Nat.beq m 0) (κ x h n) (forceN (Nat.add len m) fun need =>
      br (Nat.ble need cap)
        (forceN (Nat.add off (Nat.mul len esz)) fun j => storeK h p j y fun h' => κ (.sl p off need cap ex esz) h' n)
        (br (Nat.ble (Nat.mul (Nat.add (Nat.mul 4 need) 4096) eb) 281474976710656)
          (obK p h fun cs sup prev => forceN (Nat.mul len esz) fun l => rangeC cs off l fun a => appC a y fun z =>
            br ex
              (newK h n (.c z false none) fun h' n' => κ (.sl n 0 need need false esz) h' n')
              (br sup (.fail "an append to memory that may be shared")
                (forceN (Nat.add off l) fun j => rangeC cs 0 j fun old => killK prev h fun h => hput p h (some (.c old true none)) fun h =>
                  newK h n (.c z false (some p)) fun h' n' => κ (.sl n 0 need need false esz) h' n')))
          (.fail "a long append")))) (.fail "element"))
abbrev CF := Nat → List V → Heap → K4 → R
def k_mv (x : Opd) (cf : CF) (t : Regs) (h : Heap) (n : K4) (κ : KV) : R :=
  evK x t fun v => κ v h n
def k_pick (c a b : Opd) (cf : CF) (t : Regs) (h : Heap) (n : K4) (κ : KV) : R :=
  evK c t fun v => asB v fun q => br q (evK a t fun v => κ v h n) (evK b t fun v => κ v h n)
def k_alc (cs : Cs) (cf : CF) (t : Regs) (h : Heap) (n : K4) (κ : KV) : R :=
  newK h n (.c cs false none) fun h' n' => κ (.ptr n 0) h' n'
def k_box (x : Opd) (cf : CF) (t : Regs) (h : Heap) (n : K4) (κ : KV) : R :=
  evK x t fun v => cellsK v fun l => newK h n (.c (.l l) false none) fun h' n' => κ (.ptr n 0) h' n'
def k_build (zero : List V) (parts : List Part) (cf : CF) (t : Regs) (h : Heap) (n : K4) (κ : KV) : R :=
  buildK parts t zero fun l => κ (.agg l) h n
def k_bslice (u8 : Bool) (len esz : Nat) (zero : List V) (parts : List Part) (cf : CF) (t : Regs) (h : Heap) (n : K4) (κ : KV) : R :=
  buildK parts t zero fun l => br u8 (packK l (fun m c => newK h n (.c (.b m c) false none) fun h' n' => κ (.sl n 0 len len true esz) h' n') (.fail "bytes")) (newK h n (.c (.l l) false none) fun h' n' => κ (.sl n 0 len len true esz) h' n')
def k_ld (x : Opd) (cf : CF) (t : Regs) (h : Heap) (n : K4) (κ : KV) : R :=
  evK x t fun v => asPo v (fun p off => obK p h fun cs _ _ => getC cs off fun v => κ v h n) (fun o => otAp o (fun i j m => br (Nat.ble 1 m) (apK i j fun v => κ v h n) (.fail "a cell that stays")) (.fail "pointer expected"))
def k_ldn (m : Nat) (x : Opd) (cf : CF) (t : Regs) (h : Heap) (n : K4) (κ : KV) : R :=
  evK x t fun v => asP v fun p off => obK p h fun cs _ _ => rangeC cs off m fun y => listC y fun l => κ (.agg l) h n
def k_st (m : Nat) (a x : Opd) (cf : CF) (t : Regs) (h : Heap) (n : K4) (κ : KV) : R :=
  evK a t fun u => asP u fun p off => evK x t fun v => cellsK v fun l => lenK l fun k => br (Nat.beq k m) (storeK h p off (.l l) fun h' => κ undV h' n) (.fail "a store of another size")
def k_nilck (x : Opd) (cf : CF) (t : Regs) (h : Heap) (n : K4) (κ : KV) : R :=
  evK x t fun v => @V.rec (fun _ => R) (fun _ => Unit) (fF2 "nil") (fF1 "nil") (fun p off => κ v h n) (fF6 "nil") (fF2 "nil") (fF2 "nil") (fF1 "nil") (fF1 "nil") (fun f caps _i => κ v h n) (fF2 "nil") (fF1 "nil") () (fun _ _ _ _ => ()) v
def k_bin (op : BinOp) (x y : Opd) (cf : CF) (t : Regs) (h : Heap) (n : K4) (κ : KV) : R :=
  evK x t fun u => evK y t fun v => binK op u v fun r => κ r h n
def k_eq (neg : Bool) (pl : Plan) (x y : Opd) (cf : CF) (t : Regs) (h : Heap) (n : K4) (κ : KV) : R :=
  evK x t fun u => evK y t fun v => eqK pl u v fun r => br neg (br r (κ (.bool false) h n) (κ (.bool true) h n)) (κ (.bool r) h n)
def k_not (x : Opd) (cf : CF) (t : Regs) (h : Heap) (n : K4) (κ : KV) : R :=
  evK x t fun v => asB v fun q => br q (κ (.bool false) h n) (κ (.bool true) h n)
def k_neg (x : Opd) (cf : CF) (t : Regs) (h : Heap) (n : K4) (κ : KV) : R :=
  evK x t fun v => asI v fun k r => isub k 0 k r fun v => κ v h n
def k_com (x : Opd) (cf : CF) (t : Regs) (h : Heap) (n : K4) (κ : KV) : R :=
  evK x t fun v => asI v fun k r => forceN (Nat.xor (Nat.sub (Mk k) 1) r) fun r => κ (.int k r) h n
def k_cvi (k : IntKind) (x : Opd) (cf : CF) (t : Regs) (h : Heap) (n : K4) (κ : KV) : R :=
  evK x t fun v => asI v fun j r => br (Nat.ble (Nat.succ r) (Hk j)) (forceN (Nat.mod r (Mk k)) fun r => κ (.int k r) h n) (br (Nat.ble (Mk k) (Mk j)) (forceN (Nat.mod r (Mk k)) fun r => κ (.int k r) h n) (forceN (Nat.sub (Mk k) (Nat.sub (Mk j) r)) fun r => κ (.int k r) h n))
def k_b2s (x : Opd) (cf : CF) (t : Regs) (h : Heap) (n : K4) (κ : KV) : R :=
  evK x t fun v => asSl v (κ (.str 0 0) h n) (fun p off len cap ex esz => br (Nat.beq esz 1) (obK p h fun cs _ _ => rangeC cs off len fun y => listC y fun l => packK l (fun m c => κ (.str m c) h n) (.fail "bytes")) (.fail "element"))
def k_s2b (x : Opd) (cf : CF) (t : Regs) (h : Heap) (n : K4) (κ : KV) : R :=
  evK x t fun v => asStr v fun m c => newK h n (.c (.b m c) false none) fun h' n' => κ (.sl n 0 m m false 1) h' n'
def k_idn (x : Opd) (cf : CF) (t : Regs) (h : Heap) (n : K4) (κ : KV) : R :=
  evK x t fun v => asStr v fun _ _ => κ v h n
def k_bsl (x : Opd) (cf : CF) (t : Regs) (h : Heap) (n : K4) (κ : KV) : R :=
  evK x t fun v => asSl v (.fail "bytes") (fun p _ _ _ _ _ => obK p h fun _ _ _ => κ v h n)
def k_mkfn (f : Nat) (caps : List Opd) (cf : CF) (t : Regs) (h : Heap) (n : K4) (κ : KV) : R :=
  evsK caps t fun l => κ (.fn f l) h n
def k_mkmap  (cf : CF) (t : Regs) (h : Heap) (n : K4) (κ : KV) : R :=
  newK h n (.m [] [] 0) fun h' n' => κ (.map n) h' n'
def k_mksl (eb : Nat) (u8 : Bool) (zero : List V) (l c : Opd) (cf : CF) (t : Regs) (h : Heap) (n : K4) (κ : KV) : R :=
  evK l t fun u => ixK u fun a => evK c t fun v => ixK v fun b => br (Nat.ble a b) (br (Nat.ble (Nat.mul eb b) 281474976710656) (zerosC u8 zero b fun y => newK h n (.c y false none) fun h' n' => lenK zero fun esz => κ (.sl n 0 a b true esz) h' n') (.fail "a long slice")) (.fail "len and cap")
def k_slS (x : Opd) (lo hi : Option Opd) (cf : CF) (t : Regs) (h : Heap) (n : K4) (κ : KV) : R :=
  evK x t fun v => ssK v (fun l0 l1 _ _ => br (br (isSomeO hi) true (Nat.beq l0 l1)) (optK hi t l0 fun b => optK lo t 0 fun a => br (Nat.ble a b) (br (Nat.ble b l0) (forceN (Nat.sub b a) fun l => κ (.oth (.ss l l (Nat.succ l) 0)) h n) (.fail "slice bounds")) (.fail "slice bounds")) (.fail "slice bounds")) <| asStr v fun m c => optK hi t m fun b => optK lo t 0 fun a => br (Nat.ble a b) (br (Nat.ble b m) (forceN (Nat.sub b a) fun l => forceN (Ev.lo (sh c a) l) fun r => κ (.str l r) h n) (.fail "slice bounds")) (.fail "slice bounds")
def k_slL (esz : Nat) (x : Opd) (lo hi : Option Opd) (cf : CF) (t : Regs) (h : Heap) (n : K4) (κ : KV) : R :=
  evK x t fun v => osK v (fun l0 l1 => br (br (isSomeO hi) true (Nat.beq l0 l1)) (optK hi t l0 fun b => optK lo t 0 fun a => br (Nat.ble a b) (br (Nat.ble b l0) (forceN (Nat.sub b a) fun l => κ (.oth (.os l l)) h n) (.fail "slice bounds")) (.fail "slice bounds")) (.fail "slice bounds")) <| asSl v (optK hi t 0 fun b => optK lo t 0 fun a => br (Nat.beq b 0) (br (Nat.beq a 0) (κ (.nil .sl) h n) (.fail "slice bounds")) (.fail "slice bounds")) (fun p off len cap ex esz' => optK hi t len fun b => optK lo t 0 fun a => br (Nat.beq esz' esz) (br (Nat.ble a b) (br (Nat.ble b cap) (forceN (Nat.sub b a) fun l => forceN (Nat.sub cap a) fun c => forceN (Nat.add off (Nat.mul a esz)) fun o => κ (.sl p o l c ex esz) h n) (.fail "slice bounds")) (.fail "slice bounds")) (.fail "element"))
def k_slA (m esz : Nat) (x : Opd) (lo hi : Option Opd) (cf : CF) (t : Regs) (h : Heap) (n : K4) (κ : KV) : R :=
  evK x t fun v => asP v fun p off => obK p h fun cs _ _ => lenC cs fun z => br (Nat.ble (Nat.add off (Nat.mul m esz)) z) (optK hi t m fun b => optK lo t 0 fun a => br (Nat.ble a b) (br (Nat.ble b m) (forceN (Nat.sub b a) fun l => forceN (Nat.sub m a) fun c => forceN (Nat.add off (Nat.mul a esz)) fun o => κ (.sl p o l c true esz) h n) (.fail "slice bounds")) (.fail "slice bounds")) (.fail "array")
def k_fad (off : Nat) (x : Opd) (cf : CF) (t : Regs) (h : Heap) (n : K4) (κ : KV) : R :=
  evK x t fun v => asPo v (fun p o => forceN (Nat.add o off) fun o => κ (.ptr p o) h n) (fun o => otAp o (fun i j m => br (Nat.ble (Nat.succ off) m) (forceN (Nat.add j off) fun j => forceN (Nat.sub m off) fun m => κ (.oth (.ap i j m)) h n) (.fail "a cell that stays")) (.fail "pointer expected"))
def k_fld (off size : Nat) (ag : Bool) (x : Opd) (cf : CF) (t : Regs) (h : Heap) (n : K4) (κ : KV) : R :=
  evK x t fun v => asAgg v fun l => br ag (dropK off l fun r => takeK size r fun r => κ (.agg r) h n) (nthK off l fun v => κ v h n)
def k_ixS (esz : Nat) (x i : Opd) (cf : CF) (t : Regs) (h : Heap) (n : K4) (κ : KV) : R :=
  evK x t fun v => evK i t fun u => ixK u fun a => asSlo v (.fail "index") (fun p off len cap ex esz' => br (Nat.beq esz' esz) (br (Nat.ble (Nat.succ a) len) (forceN (Nat.add off (Nat.mul a esz)) fun o => κ (.ptr p o) h n) (.fail "index")) (.fail "element")) (fun o => otAs o (fun i lo hi z => br (Nat.beq z esz) (br (Nat.ble (Nat.succ a) lo) (forceN (Nat.mul a esz) fun j => κ (.oth (.ap i j esz)) h n) (.fail "index")) (.fail "element")) (.fail "slice expected"))
def k_ixA (m esz : Nat) (x i : Opd) (cf : CF) (t : Regs) (h : Heap) (n : K4) (κ : KV) : R :=
  evK x t fun v => evK i t fun u => ixK u fun a => asP v fun p off => br (Nat.ble (Nat.succ a) m) (forceN (Nat.add off (Nat.mul a esz)) fun o => κ (.ptr p o) h n) (.fail "index")
def k_idS (x i : Opd) (cf : CF) (t : Regs) (h : Heap) (n : K4) (κ : KV) : R :=
  evK x t fun v => evK i t fun u => ixK u fun a => asStr v fun m c => br (Nat.ble (Nat.succ a) m) (forceN (Ev.lo (sh c a) 1) fun r => κ (.int .u8 r) h n) (.fail "index")
def k_idA (m esz : Nat) (ag : Bool) (x i : Opd) (cf : CF) (t : Regs) (h : Heap) (n : K4) (κ : KV) : R :=
  evK x t fun v => evK i t fun u => ixK u fun a => asAgg v fun l => br (Nat.ble (Nat.succ a) m) (forceN (Nat.mul a esz) fun j => br ag (dropK j l fun r => takeK esz r fun r => κ (.agg r) h n) (nthK j l fun v => κ v h n)) (.fail "index")
def k_lk (pl : Plan) (zero : V) (ok : Bool) (m k : Opd) (cf : CF) (t : Regs) (h : Heap) (n : K4) (κ : KV) : R :=
  evK m t fun u => evK k t fun v => keyK pl v <| asMap u (br ok (κ (.tup [zero, .bool false]) h n) (κ zero h n)) (fun p => mpK p h fun es _ _ => lookK pl v es (fun r => br ok (κ (.tup [r, .bool true]) h n) (κ r h n)) (br ok (κ (.tup [zero, .bool false]) h n) (κ zero h n)))
def k_mu (pl : Plan) (m k v : Opd) (cf : CF) (t : Regs) (h : Heap) (n : K4) (κ : KV) : R :=
  evK m t fun u => evK k t fun a => evK v t fun b => keyK pl a <| asMap u (.fail "a store to a nil map") (fun p => mpK p h fun es bs c => updK pl a b es fun es => bsU es bs c fun bs c => hput p h (some (.m es bs c)) fun h' => κ undV h' n)
def k_del (pl : Plan) (m k : Opd) (cf : CF) (t : Regs) (h : Heap) (n : K4) (κ : KV) : R :=
  evK m t fun u => evK k t fun a => keyK pl a <| asMap u (κ (.tup []) h n) (fun p => mpK p h fun es bs c => delK pl a es fun es' => delB pl a es bs fun bs => hput p h (some (.m es' bs c)) fun h' => κ (.tup []) h' n)
def k_ext (i : Nat) (x : Opd) (cf : CF) (t : Regs) (h : Heap) (n : K4) (κ : KV) : R :=
  evK x t fun v => asTup v fun l => nthK i l fun v => κ v h n
def k_call (f : Nat) (args : List Opd) (cf : CF) (t : Regs) (h : Heap) (n : K4) (κ : KV) : R :=
  evsK args t fun l => @R.rec (fun _ => R) (fF4 "a call") (fun v h n => κ v h n) (fun w => .fail w) (fF4 "orders") (cf f l h n)
def k_calld (x : Opd) (args : List Opd) (cf : CF) (t : Regs) (h : Heap) (n : K4) (κ : KV) : R :=
  evK x t fun v => asFn v fun f caps => evsK args t fun l => appK l caps fun l => @R.rec (fun _ => R) (fF4 "a call") (fun v h n => κ v h n) (fun w => .fail w) (fF4 "orders") (cf f l h n)
def k_lnS (x : Opd) (cf : CF) (t : Regs) (h : Heap) (n : K4) (κ : KV) : R :=
  evK x t fun v => ssK v (fun l0 l1 _ _ => br (Nat.ble (Nat.succ l1) 9223372036854775808) (κ (.oth (.iv .i64 l0 l1)) h n) (.fail "a great length")) <| asStr v fun m _ => intK m fun v => κ v h n
def k_lnL (x : Opd) (cf : CF) (t : Regs) (h : Heap) (n : K4) (κ : KV) : R :=
  evK x t fun v => asSlo v (κ (.int .i64 0) h n) (fun p off len cap ex esz => intK len fun v => κ v h n) (fun o => otOs o (fun l0 l1 => br (Nat.ble (Nat.succ l1) 9223372036854775808) (κ (.oth (.iv .i64 l0 l1)) h n) (.fail "a great length")) (otAs o (fun i l0 l1 z => br (Nat.ble (Nat.succ l1) 9223372036854775808) (br (Nat.beq l0 l1) (κ (.int .i64 l0) h n) (κ (.oth (.iv .i64 l0 l1)) h n)) (.fail "a great length")) (.fail "slice expected")))
def k_lnM (x : Opd) (cf : CF) (t : Regs) (h : Heap) (n : K4) (κ : KV) : R :=
  evK x t fun v => asMap v (κ (.int .i64 0) h n) (fun p => mpK p h fun es _ _ => lenM es fun m => intK m fun v => κ v h n)
def k_min (x y : Opd) (cf : CF) (t : Regs) (h : Heap) (n : K4) (κ : KV) : R :=
  evK x t fun u => evK y t fun v => mnV u v fun v => κ v h n
def k_max (x y : Opd) (cf : CF) (t : Regs) (h : Heap) (n : K4) (κ : KV) : R :=
  evK x t fun u => evK y t fun v => mxV u v fun v => κ v h n
def k_app (esz eb : Nat) (x y : Opd) (cf : CF) (t : Regs) (h : Heap) (n : K4) (κ : KV) : R :=
  evK x t fun u => evK y t fun v => srcK esz v h fun m y => appendK esz eb u m y h n κ
def k_appz (esz eb : Nat) (u8 : Bool) (zero : List V) (x c : Opd) (cf : CF) (t : Regs) (h : Heap) (n : K4) (κ : KV) : R :=
  evK x t fun u => evK c t fun v => ixK v fun m => br (Nat.ble (Nat.mul eb m) 281474976710656) (zerosC u8 zero m fun y => appendK esz eb u m y h n κ) (.fail "a long append")
def k_cpy (esz : Nat) (x y : Opd) (cf : CF) (t : Regs) (h : Heap) (n : K4) (κ : KV) : R :=
  evK x t fun u => evK y t fun v => srcK esz v h fun m y => asSl u (κ (.int .i64 0) h n) (fun p off len cap ex esz' => br (Nat.beq esz' esz) (forceN (@Bool.rec (fun _ => Nat) len m (Nat.ble m len)) fun k => br (Nat.beq k 0) (κ (.int .i64 0) h n) (forceN (Nat.mul k esz) fun j => rangeC y 0 j fun y => storeK h p off y fun h => intK k fun v => κ v h n)) (.fail "element"))
def k_max3 (x y z : Opd) (cf : CF) (t : Regs) (h : Heap) (n : K4) (κ : KV) : R :=
  evK x t fun u => evK y t fun v => evK z t fun w => asI u fun k a => asI v fun j b => asI w fun i c => br (kbeq k j) (br (kbeq k i) (br (ltI k a b) (br (ltI k b c) (κ w h n) (κ v h n)) (br (ltI k a c) (κ w h n) (κ u h n))) (.fail "kinds")) (.fail "kinds")
def k_cpL (x : Opd) (cf : CF) (t : Regs) (h : Heap) (n : K4) (κ : KV) : R :=
  evK x t fun v => asSl v (κ (.int .i64 0) h n) (fun p off len cap ex esz => br ex (intK cap fun v => κ v h n) (.fail "a capacity"))
def k_clr (u8 : Bool) (zero : List V) (x : Opd) (cf : CF) (t : Regs) (h : Heap) (n : K4) (κ : KV) : R :=
  evK x t fun v => asSl v (κ (.tup []) h n) (fun p off len cap ex esz => lenK zero fun m => br (Nat.beq m esz) (br (Nat.beq len 0) (κ (.tup []) h n) (zerosC u8 zero len fun y => storeK h p off y fun h => κ (.tup []) h n)) (.fail "element"))
def k_bad (why : String) (cf : CF) (t : Regs) (h : Heap) (n : K4) (κ : KV) : R :=
  .fail "an operation that is not taken"
def evk (o : AK) : CF → Regs → Heap → K4 → KV → R :=
  @AK.rec (fun _ => CF → Regs → Heap → K4 → KV → R) k_mv k_pick k_alc k_box k_build k_bslice k_ld k_ldn k_st k_nilck k_bin k_eq k_not k_neg k_com k_cvi k_b2s k_s2b k_idn k_bsl k_mkfn k_mkmap k_mksl k_slS k_slL k_slA k_fad k_fld k_ixS k_ixA k_idS k_idA k_lk k_mu k_del k_ext k_call k_calld k_lnS k_lnL k_lnM k_min k_max k_app k_appz k_cpy k_max3 k_cpL k_clr k_bad o
end Go.Ev

namespace Go.Ev
set_option linter.unusedVariables false
structure AOp where
  dst : Option K2
  g : Option (K2 × Bool)
  k : AK
/-- One step of a region that draws its order, in one order: a reading (or what hangs on registers alone); an effect; what makes memory, at a place kept for it; a reading made again, which must tell the same; a place kept that must be free; a reading of what was made at a place kept. -/
inductive Item where
  | rd (i : Nat) (o : AOp)
  | ef (i : Nat) (o : AOp)
  | al (i : Nat) (j : D) (o : AOp)
  | ck (i : Nat) (o : AOp)
  | no (j : D)
  | rn (i : Nat) (j : D) (o : AOp)
/-- What begins a range over a map, goes on with it, tells its entry; a call that may come to many ways; a call of what is told. -/
inductive Sp where
  | rng (x : Opd)
  | nxt (x : Opd)
  | ent (x : Opd)
  | tcl (f : Nat) (l : List Opd)
  | dcl (x : Opd) (l : List Opd)
inductive AC where
  | skip
  | seq (a b : AC)
  | ops (l : List AOp)
  | drawn (al : Bool) (l : List Item)
  | cond (c : Opd) (a b : AC)
  | block (id : Nat) (b : AC)
  | loop (b : AC)
  | exit (id : Nat)
  | ret
  | bad (why : String)
  | spl (pre : List AOp) (sp : Sp) (d : Option K2) (post : List AOp)
inductive ARes where
  | tmp (p : K2)
  | cel (p : K2) (m : Option Nat)
structure AFn where
  ps : List K2
  code : AC
  rs : List ARes
abbrev Prim := List V → Heap → K4 → R
/-- Is the operation wanted? Its guard is what another one of the region has told. -/
def guardK (g : Option (K2 × Bool)) (t : Regs) (yes no : R) : R :=
  @Option.rec (K2 × Bool) (fun _ => R) yes (fun p => @Prod.rec K2 Bool (fun _ => R) (fun r want => rgetK r t fun v =>
    @V.rec (fun _ => R) (fun _ => Unit) (fun _ _ => no) (fun b => br (Bool.rec (Bool.rec true false b) b want) yes no) (fun _ _ => no) (fun _ _ _ _ _ _ => no) (fun _ _ => no) (fun _ _ => no) (fun _ => no) (fun _ => no) (fun _ _ _ => no) (fun _ _ => no) (fun o => .fail "guard") () (fun _ _ _ _ => ()) v) p) g
/-- Two open values are one: both any, both some bool, or integers between the same bounds. -/
def asO (v : V) (κ : Ot → R) : R :=
  @V.rec (fun _ => R) (fun _ => Unit) (fun _ _ => (.fail "unlike")) (fun _ => (.fail "unlike")) (fun _ _ => (.fail "unlike")) (fun _ _ _ _ _ _ => (.fail "unlike")) (fun _ _ => (.fail "unlike")) (fun _ _ => (.fail "unlike")) (fun _ => (.fail "unlike")) (fun _ => (.fail "unlike")) (fun _ _ _ => (.fail "unlike")) (fun _ _ => (.fail "unlike")) (fun o => κ o) () (fun _ _ _ _ => ()) v
def otAny (u : Ot) (κ : R) : R := @Ot.rec (fun _ => R) κ (fun _ => (.fail "unlike")) (fun _ => (.fail "unlike")) (.fail "unlike") (fun _ _ _ => (.fail "unlike")) (fun _ _ => (.fail "unlike")) (.fail "unlike") (fun _ _ => (.fail "unlike")) (fun _ _ _ _ => (.fail "unlike")) (fun _ _ _ _ => (.fail "unlike")) (fun _ _ _ => (.fail "unlike")) (fun _ _ => (.fail "unlike")) u
def otBl (u : Ot) (κ : R) : R := @Ot.rec (fun _ => R) (.fail "unlike") (fun _ => (.fail "unlike")) (fun _ => (.fail "unlike")) (.fail "unlike") (fun _ _ _ => (.fail "unlike")) (fun _ _ => (.fail "unlike")) κ (fun _ _ => (.fail "unlike")) (fun _ _ _ _ => (.fail "unlike")) (fun _ _ _ _ => (.fail "unlike")) (fun _ _ _ => (.fail "unlike")) (fun _ _ => (.fail "unlike")) u
def otIv (u : Ot) (κ : IntKind → Nat → Nat → R) : R := @Ot.rec (fun _ => R) (.fail "unlike") (fun _ => (.fail "unlike")) (fun _ => (.fail "unlike")) (.fail "unlike") (fun k lo hi => κ k lo hi) (fun _ _ => (.fail "unlike")) (.fail "unlike") (fun _ _ => (.fail "unlike")) (fun _ _ _ _ => (.fail "unlike")) (fun _ _ _ _ => (.fail "unlike")) (fun _ _ _ => (.fail "unlike")) (fun _ _ => (.fail "unlike")) u
def sameOt (o u : Ot) (κ : R) : R :=
  @Ot.rec (fun _ => R) (otAny u κ) (fun _ => (.fail "unlike")) (fun _ => (.fail "unlike")) (.fail "unlike") (fun k lo hi => otIv u fun k' lo' hi' => br (kbeq k k') (br (Nat.beq lo lo') (br (Nat.beq hi hi') κ (.fail "unlike")) (.fail "unlike")) (.fail "unlike")) (fun _ _ => (.fail "unlike")) (otBl u κ) (fun _ _ => (.fail "unlike")) (fun _ _ _ _ => (.fail "unlike")) (fun _ _ _ _ => (.fail "unlike")) (fun _ _ _ => (.fail "unlike")) (fun _ _ => (.fail "unlike")) o
/-- Two abstract values are one. -/
def sameV (x : V) : V → R → R :=
  @V.rec (fun _ => V → R → R) (fun _ => List V → R → R)
    (fun k r y κ => asI y fun j b => br (kbeq k j) (br (Nat.beq r b) κ (.fail "unlike")) (.fail "unlike"))
    (fun b y κ => asB y fun c => br (Bool.rec (Bool.rec true false b) b c) κ (.fail "unlike"))
    (fun p off y κ => asP y fun q o => br (K4.beq p q) (br (Nat.beq off o) κ (.fail "unlike")) (.fail "unlike"))
    (fun p off len cap ex esz y κ => asSl y (.fail "unlike") fun q o l c e z => br (K4.beq p q) (br (and (Nat.beq off o) (and (Nat.beq len l) (and (Nat.beq cap c) (and (Bool.rec (Bool.rec true false ex) ex e) (Nat.beq esz z))))) κ (.fail "unlike")) (.fail "unlike"))
    (fun n c y κ => asStr y fun m d => br (seqB n c m d) κ (.fail "unlike"))
    (fun _ ih y κ => asAgg y fun l => ih l κ)
    (fun w y κ => @V.rec (fun _ => R) (fun _ => Unit) (fF2 "unlike") (fF1 "unlike") (fF2 "unlike") (fF6 "unlike") (fF2 "unlike") (fF2 "unlike")
      (fun u => br (Nat.beq (@Nl.rec (fun _ => Nat) 0 1 2 3 4 w) (@Nl.rec (fun _ => Nat) 0 1 2 3 4 u)) κ (.fail "unlike")) (fF1 "unlike") (fF3 "unlike") (fF2 "unlike") (fF1 "unlike") () (fun _ _ _ _ => ()) y)
    (fun p y κ => asMap y (.fail "unlike") fun q => br (K4.beq p q) κ (.fail "unlike"))
    (fun f _ ih y κ => asFn y fun g l => br (Nat.beq f g) (ih l κ) (.fail "unlike"))
    (fun _ ih y κ => asTup y fun l => ih l κ)
    (fun o y κ => asO y fun u => sameOt o u κ)
    (fun l κ => @List.rec V (fun _ => R) κ (fF3 "unlike") l)
    (fun _ _ ihx ihl l κ => @List.rec V (fun _ => R) (.fail "unlike") (fun y ys _ => ihx y (ihl ys κ)) l) x
/-- The value alone. -/
def rv0 : KV := fun v _ _ => .rv v hempty ⟨.d0, .d0, .d0, .d0⟩
/-- An operation's value and what it leaves. -/
def atK (r : R) (κ : V → Heap → K4 → R) : R := @R.rec (fun _ => R) (fF4 "item") (fun v h n => κ v h n) (fun w => .fail w) (fF4 "orders") r
def freeK (o : Option Ob) (κ : R) : R := @Option.rec Ob (fun _ => R) κ (fF1 "a place that is taken") o
def obS (o : Option Ob) (κ : Ob → R) : R := @Option.rec Ob (fun _ => R) (.fail "nothing was made") κ o
def someK (d : Option K2) (κ : K2 → R) : R := @Option.rec K2 (fun _ => R) (.fail "check") κ d
/-- Rounds of a loop. -/
def itK (body : S → Heap → K4 → R) (m : Nat) : S → Heap → K4 → R :=
  @Nat.rec (fun _ => S → Heap → K4 → R) (fF3 "rounds")
    (fun _ rec t h n => @R.rec (fun _ => R) (fun e t h n => @Ex.rec (fun _ => R) (rec t h n) (fun id => .ok (.exit id) t h n) (.ok .ret t h n) e) (fF3 "round") (fun w => .fail w) (fun _ _ a b => .both a b) (body t h n)) m
def argK (args : List V) : List K2 → Regs → (Regs → R) → R :=
  @List.rec V (fun _ => List K2 → Regs → (Regs → R) → R) (fun ps t κ => @List.rec K2 (fun _ => R) (κ t) (fF3 "arguments") ps)
    (fun v _ ih ps t κ => @List.rec K2 (fun _ => R) (.fail "arguments") (fun p qs _ => rput p t v fun t => ih qs t κ) ps) args
def resV (r : ARes) (t : Regs) (h : Heap) (κ : V → R) : R :=
  @ARes.rec (fun _ => R) (fun p => rgetK p t κ) (fun p m => rgetK p t fun v => asP v fun q off => obK q h fun cs _ _ =>
    @Option.rec Nat (fun _ => R) (getC cs off κ) (fun m => rangeC cs off m fun y => listC y fun l => κ (.agg l)) m) r
def resL (rs : List ARes) (t : Regs) (h : Heap) : (List V → R) → R :=
  @List.rec ARes (fun _ => (List V → R) → R) (fun κ => κ []) (fun r _ ih κ => resV r t h fun v => ih fun vs => κ (v :: vs)) rs
def resK (rs : List ARes) (t : Regs) (h : Heap) (n : K4) : R :=
  resL rs t h fun l => @List.rec V (fun _ => R) (.rv (.tup []) h n) (fun v vs _ => @List.rec V (fun _ => R) (.rv v h n) (fun _ _ _ => .rv (.tup l) h n) vs) l
end Go.Ev

namespace Go.Ev
set_option linter.unusedVariables false
def cScalar (v : Value) : Option V :=
  match v with
  | .bool b => some (.bool b)
  | .int k n => match n with
    | .ofNat m => if Nat.ble (Nat.succ m) (Hk k) then some (.int k m) else none
    | .negSucc m => if Nat.ble (Nat.add (Hk k) (Nat.succ m)) (Mk k) then some (.int k (Nat.sub (Mk k) (Nat.succ m))) else none
  | .string s => some (.str s.size (encL s.data.toList))
  | .pointer none => some (.nil .ptr)
  | .slice none 0 0 => some (.nil .sl)
  | .map none => some (.nil .map)
  | .nilFunc => some (.nil .fn)
  | .nilIface => some (.nil .iface)
  | _ => none
def cList : List Value → Option (List V)
  | [] => some []
  | v :: l => match cScalar v, cList l with
    | some x, some xs => some (x :: xs)
    | _, _ => none
def cConst (v : Value) : Option V :=
  match v with
  | .agg cs => (cList cs.toList).map .agg
  | .tuple cs => if cs.toList.isEmpty then some (.tup []) else none
  | .func (.func f) first caps => if first.toList.isEmpty && caps.toList.isEmpty then some (.fn f []) else none
  | v => cScalar v
section
variable (P : Program) (N : Nat)
def cSlot (t : Nat) : Option K2 := if t < N then K2.ofN t else none
def cOpd : Operand → Option Opd
  | .tmp t => (cSlot N t).map .t
  | .const v => (cConst v).map .c
  | .func f => some (.c (.fn f []))
  | .global _ => none
def cOpds : List Operand → Option (List Opd)
  | [] => some []
  | o :: l => match cOpd N o, cOpds l with
    | some x, some xs => some (x :: xs)
    | _, _ => none
def cOpdO : Option Operand → Option (Option Opd)
  | none => some none
  | some o => (cOpd N o).map some
def cZero (t : TypeId) : Option (List V) := ((P.info? t).bind (·.zero)).bind fun z => cList z.cells.toList
def cSize (t : TypeId) : Option Nat := (P.info? t).map (·.size)
def cBytes (t : TypeId) : Option Nat := (P.info? t).map (·.bytes)
def cAgg (t : TypeId) : Option Bool := (P.underlying t).map fun d => match d with | .struct _ | .array _ _ => true | _ => false
def cU8 (t : TypeId) : Bool := match P.underlying t with | some (.int .u8) => true | _ => false
def cSc (t : TypeId) : Option Sc :=
  match P.underlying t with
  | some (.int _) => some .i
  | some .string => some .s
  | some .bool => some .b
  | _ => none
/-- The offsets of a struct's fields, all of them scalars. -/
def cOffs : List Field → Option (List (Nat × Sc))
  | [] => some []
  | f :: l => if f.name ≠ "_" then
      match cSc P f.type, cOffs l with
      | some k, some r => some ((f.offset, k) :: r)
      | _, _ => none
    else none
def cPlan (t : TypeId) : Option Plan :=
  match P.underlying t with
  | some .bool => some (.sc .b)
  | some (.struct fs) => if P.stoodInHeld t then none else (cOffs P fs.toList).map .st
  | some (.pointer e) => match cSize P e with
    | some (_ + 1) => some (.rf .ptr)
    | _ => none
  | some (.slice _) => some (.rf .sl)
  | some (.map _ _) => some (.rf .map)
  | some (.func _ _ _) => some (.rf .fn)
  | _ => none
def cKey (t : TypeId) : Option Plan :=
  match P.underlying t with
  | some (.struct fs) =>
    if P.stoodInHeld t then none else
    match cOffs P fs.toList with
    | some offs => if offs.map (·.1) = List.range offs.length then some (.ks (offs.map (·.2))) else none
    | none => none
  | _ => (cSc P t).map .sc
def cParts (place : Nat → Option (Nat × Nat)) : List (Nat × Operand) → Option (List Part)
  | [] => some []
  | (i, o) :: l => match place i, cOpd N o, cParts place l with
    | some (off, size), some x, some xs => some (⟨off, size, x⟩ :: xs)
    | _, _, _ => none
/-- So many elements' zero cells. -/
def cZeros (z : List V) : Nat → List V
  | 0 => []
  | n + 1 => z ++ cZeros z n
/-- The zero of a byte. -/
def isZ : List V → Bool
  | [.int .u8 0] => true
  | _ => false
def cBuiltin (b : Builtin) (argTypes : Array TypeId) (args : List Opd) : Option AK :=
  match b, argTypes.toList, args with
  | .len, t :: _, x :: _ =>
    match P.underlying t with
    | some .string => some (.lnS x)
    | some (.slice _) => some (.lnL x)
    | some (.map _ _) => some (.lnM x)
    | _ => none
  | .min, _, [x, y] => some (.min x y)
  | .max, _, [x, y] => some (.max x y)
  | .max, _, [x, y, z] => some (.max3 x y z)
  | .append, [t, u], [x, y] =>
    match P.underlying t, P.underlying u with
    | some (.slice e), some (.int _) =>
      match cSize P e, cBytes P e, cZero P e with
      | some s, some b, some z => if s == z.length && 0 < s && 0 < b then some (.appz s b (isZ z) z x y) else none
      | _, _, _ => none
    | some (.slice e), some _ =>
      match cSize P e, cBytes P e, cZero P e with
      | some s, some b, some z => if s == z.length && 0 < s && 0 < b then some (.app s b x y) else none
      | _, _, _ => none
    | _, _ => none
  | .copy, t :: _, [x, y] =>
    match P.underlying t with
    | some (.slice e) => match cSize P e with
      | some s => if 0 < s then some (.cpy s x y) else none
      | none => none
    | _ => none
  | .delete, t :: _, [m, k] =>
    match P.underlying t with
    | some (.map kt _) => (cKey P kt).map fun pl => .del pl m k
    | _ => none
  | .cap, t :: _, x :: _ =>
    match P.underlying t with
    | some (.slice _) => some (.cpL x)
    | _ => none
  | .clear, t :: _, x :: _ =>
    match P.underlying t with
    | some (.slice e) => match cSize P e, cZero P e with
      | some s, some z => if s == z.length && 0 < s then some (.clr (isZ z) z x) else none
      | _, _ => none
    | _ => none
  | _, _, _ => none
def cKind (o : Oper) : Option AK :=
  match o.op with
  | .move x | .assign x => (cOpd N x).map .mv
  | .pick c a b => match cOpd N c, cOpd N a, cOpd N b with
    | some c, some a, some b => some (.pick c a b)
    | _, _, _ => none
  | .alloc e => (cZero P e).map fun z => .alc (.l z)
  | .box _ x => (cOpd N x).map .box
  | .build t parts =>
    match P.underlying t, cZero P t with
    | some (.struct fs), some z => (fs.toList.mapM fun f => (P.info? f.type).map fun i => (f.offset, i.size)).bind fun places => (cParts N (places.toArray[·]?) parts.toList).map fun ps => .build z ps
    | some (.array _ e), some z => (cSize P e).bind fun s => (cParts N (fun i => some (i * s, s)) parts.toList).map fun ps => .build z ps
    | _, _ => none
  | .buildSlice t len parts =>
    match P.underlying t with
    | some (.slice e) =>
      match cSize P e, cZero P e with
      | some s, some z => if s == z.length && 0 < s && len * s ≤ 2 ^ 24 then
          (cParts N (fun i => some (i * s, s)) parts.toList).map fun ps => .bslice (cU8 P e && s == 1) len s (cZeros z len) ps else none
      | _, _ => none
    | _ => none
  | .load t a => match cAgg P t, cSize P t, cOpd N a with
    | some true, some s, some a => some (.ldn s a)
    | some false, _, some a => some (.ld a)
    | _, _, _ => none
  | .store t a x => match cSize P t, cOpd N a, cOpd N x with
    | some s, some a, some x => some (.st s a x)
    | _, _, _ => none
  | .nilCheck x => (cOpd N x).map .nilck
  | .binOp op t x y _ =>
    match cOpd N x, cOpd N y with
    | some a, some b =>
      match op, P.underlying t with
      | .eql, some (.int _) | .eql, some .string => some (.bin .eql a b)
      | .neq, some (.int _) | .neq, some .string => some (.bin .neq a b)
      | .eql, _ => if P.eqGuardType P.depth t then none else (cPlan P t).map fun pl => .eq false pl a b
      | .neq, _ => if P.eqGuardType P.depth t then none else (cPlan P t).map fun pl => .eq true pl a b
      | op, _ => some (.bin op a b)
    | _, _ => none
  | .unOp op _ x =>
    match op, cOpd N x with
    | .not, some x => some (.not x)
    | .neg, some x => some (.neg x)
    | .xor, some x => some (.com x)
    | _, _ => none
  | .convert src dst x =>
    match P.underlying src, P.underlying dst, cOpd N x with
    | some (.int _), some (.int k), some x => some (.cvi k x)
    | some .string, some .string, some x => some (.idn x)
    | some .string, some (.slice e), some x => if cU8 P e then some (.s2b x) else none
    | some (.slice e), some .string, some x => if cU8 P e then some (.b2s x) else none
    | some (.slice _), some (.slice e), some x => if src == dst && cU8 P e then some (.bsl x) else none
    | _, _, _ => none
  | .makeFunc fn first caps =>
    match fn, first.toList, cOpds N caps.toList with
    | .func f, [], some l => some (.mkfn f l)
    | _, _, _ => none
  | .makeMap _ none => some .mkmap
  | .makeSlice t l c =>
    match P.underlying t, cOpd N l, cOpd N c with
    | some (.slice e), some l, some c =>
      match cSize P e, cBytes P e, cZero P e with
      | some s, some b, some z => if s == z.length && 0 < s && 0 < b then some (.mksl b (isZ z) z l c) else none
      | _, _, _ => none
    | _, _, _ => none
  | .slice t x lo hi none =>
    match P.underlying t, cOpd N x, cOpdO N lo, cOpdO N hi with
    | some .string, some x, some lo, some hi => some (.slS x lo hi)
    | some (.slice e), some x, some lo, some hi => (cSize P e).map fun s => .slL s x lo hi
    | some (.array m e), some x, some lo, some hi => (cSize P e).map fun s => .slA m s x lo hi
    | _, _, _, _ => none
  | .fieldAddr s x f =>
    match P.underlying s, cOpd N x with
    | some (.struct fs), some x => (fs[f]?).bind fun f => match cSize P f.type with
      | some (_ + 1) => some (.fad f.offset x)
      | _ => none
    | _, _ => none
  | .field s x f =>
    match P.underlying s, cOpd N x with
    | some (.struct fs), some x => (fs[f]?).bind fun f => match cAgg P f.type, cSize P f.type with
      | some ag, some sz => some (.fld f.offset sz ag x)
      | _, _ => none
    | _, _ => none
  | .indexAddr t x i =>
    match P.underlying t, cOpd N x, cOpd N i with
    | some (.slice e), some x, some i => (cSize P e).map fun s => .ixS s x i
    | some (.array m e), some x, some i => (cSize P e).map fun s => .ixA m s x i
    | _, _, _ => none
  | .index t x i =>
    match P.underlying t, cOpd N x, cOpd N i with
    | some .string, some x, some i => some (.idS x i)
    | some (.array m e), some x, some i => match cAgg P e, cSize P e with
      | some ag, some s => some (.idA m s ag x i)
      | _, _ => none
    | _, _, _ => none
  | .lookup t m k ok =>
    match P.underlying t, cOpd N m, cOpd N k with
    | some (.map kt e), some m, some k =>
      match cKey P kt, (P.info? e).bind (·.zero) with
      | some pl, some z => (cConst z).map fun z => .lk pl z ok m k
      | _, _ => none
    | _, _, _ => none
  | .mapUpdate t m k v | .insert t m k v =>
    match P.underlying t, cOpd N m, cOpd N k, cOpd N v with
    | some (.map kt _), some m, some k, some v => (cKey P kt).map fun pl => .mu pl m k v
    | _, _, _, _ => none
  | .extract x i => (cOpd N x).map fun x => .ext i x
  | .call c =>
    match c.callee, cOpds N c.args.toList with
    | .builtin b, some args => cBuiltin P b c.argTypes args
    | .value (.func f), some args => some (.call f args)
    | .value x, some args => (cOpd N x).map fun x => .calld x args
    | _, _ => none
  | _ => none
/-- An operation, its guard read off the region's other operations. -/
def cOper (ops : Array Oper) (o : Oper) : Option AOp :=
  match (match o.dst with | none => some none | some d => (cSlot N d).map some : Option (Option K2)),
    (match o.guard with | none => some none | some (j, w) => ((ops[j]?).bind (·.dst)).bind fun d => (cSlot N d).map fun s => some (s, w) : Option (Option (K2 × Bool))) with
  | some d, some g => some ⟨d, g, (cKind P N o).getD (.bad o.pos)⟩
  | _, _ => none
def cOps (ops : Array Oper) : List Oper → Option (List AOp)
  | [] => some []
  | o :: l => match cOper P N ops o, cOps ops l with
    | some x, some xs => some (x :: xs)
    | _, _ => none
/-- 0: it hangs on registers alone; 1: it reads; 2: it makes memory; 3: it does more. -/
def AK.sort : AK → Nat
  | .ld _ | .ldn _ _ | .b2s _ | .slA _ _ _ _ _ | .lk _ _ _ _ _ | .lnM _ => 1
  | .alc _ | .box _ | .bslice _ _ _ _ _ | .s2b _ | .mkmap | .mksl _ _ _ _ _ => 2
  | .st _ _ _ | .mu _ _ _ _ | .del _ _ _ | .call _ _ | .calld _ _ | .app _ _ _ _ | .appz _ _ _ _ _ _ | .cpy _ _ _ | .clr _ _ _ | .bsl _ | .bad _ => 3
  | _ => 0
def depsOf (o : Oper) : List Nat := o.after.toList.filterMap fun e => if Region.binds .any e then some e.on else none
/-- Of each operation all that stand ahead of it, as bits. -/
def ancs (deps : List (List Nat)) : List Nat :=
  deps.foldl (fun acc ds => acc ++ [ds.foldl (fun s d => s ||| 2 ^ d ||| acc.getD d 0) 0]) []
def AK.opds : AK → List Opd
  | .mv x | .box x | .ld x | .ldn _ x | .nilck x | .not x | .neg x | .com x | .cvi _ x | .b2s x | .s2b x | .idn x | .bsl x | .fad _ x | .fld _ _ _ x | .ext _ x | .lnS x | .lnL x | .lnM x | .cpL x | .clr _ _ x => [x]
  | .pick c a b | .max3 c a b => [c, a, b]
  | .alc _ | .mkmap | .bad _ => []
  | .build _ ps | .bslice _ _ _ _ ps => ps.map (·.x)
  | .st _ a x | .bin _ a x | .eq _ _ a x | .ixS _ a x | .ixA _ _ a x | .idS a x | .idA _ _ _ a x | .lk _ _ _ a x | .del _ a x | .min a x | .max a x | .app _ _ a x | .appz _ _ _ _ a x | .cpy _ a x
  | .mksl _ _ _ a x => [a, x]
  | .mu _ m k v => [m, k, v]
  | .mkfn _ l | .call _ l => l
  | .calld x l => x :: l
  | .slS x lo hi | .slL _ x lo hi | .slA _ _ x lo hi => x :: (lo.toList ++ hi.toList)
def K2.beq (p q : K2) : Bool := and (p.b.beq q.b) (p.a.beq q.a)
def memS (p : K2) (l : List K2) : Bool := l.any (K2.beq p)
/-- The registers that an operation reads. -/
def AOp.slots (o : AOp) : List K2 :=
  (o.k.opds.filterMap fun x => match x with | .t p => some p | .c _ => none) ++ (match o.g with | some (p, _) => [p] | none => [])
/-- The items of a drawn region, told by numbers. -/
inductive SI where
  | rd (i : Nat)
  | ef (i : Nat)
  | al (i : Nat) (j : D)
  | ck (i : Nat)
  | no (j : D)
  | rn (i a : Nat) (j : D)
def SI.ix : SI → Option Nat
  | .rd i => some i
  | .ef i => some i
  | .al i _ => some i
  | .rn i _ _ => some i
  | _ => none
def SI.isEf : SI → Bool
  | .ef _ => true
  | _ => false
def SI.isAl : SI → Bool
  | .al _ _ => true
  | _ => false
/-- What is read here, first or again. -/
def SI.reads : SI → Option Nat
  | .rd i => some i
  | .ck i => some i
  | _ => none
def SI.isCk (i : Nat) : SI → Bool
  | .ck j => Nat.beq i j
  | _ => false
def badOp : AOp := ⟨none, none, .bad "no such operation"⟩
def real (os : List AOp) : SI → Item
  | .rd i => .rd i (os.getD i badOp)
  | .ef i => .ef i (os.getD i badOp)
  | .al i j => .al i j (os.getD i badOp)
  | .ck i => .ck i (os.getD i badOp)
  | .no j => .no j
  | .rn i _ j => .rn i j (os.getD i badOp)
/-- What is known of a drawn region: sorts, registers written and read, what each hangs on, ancestors, the items. -/
structure Plot where
  so : List Nat
  ds : List (Option K2)
  sl : List (List K2)
  de : List (List Nat)
  an : List Nat
  sk : List SI
namespace Plot
variable (p : Plot)
def m : Nat := p.so.length
def sort (i : Nat) : Nat := p.so.getD i 9
def dst (i : Nat) : Option K2 := p.ds.getD i none
def slots (i : Nat) : List K2 := p.sl.getD i []
def deps (i : Nat) : List Nat := p.de.getD i []
def anc (i d : Nat) : Bool := (p.an.getD i 0).testBit d
def pos (i : Nat) : Nat := p.sk.findIdx fun x => match x.ix with | some j => Nat.beq i j | none => false
/-- How many effects stand ahead of a place. -/
def bat (l : Nat) : Nat := ((p.sk.take l).filter SI.isEf).length
def effs : List Nat := p.sk.filterMap fun x => match x with | .ef i => some i | _ => none
def all (f : Nat → Bool) : Bool := (List.range p.m).all f
/-- What depends on nothing but its number, kept. -/
structure Tab where
  po : List Nat
  ba : List Nat
  ef : List Nat
def tab : Tab := ⟨(List.range p.m).map p.pos, (List.range (p.sk.length + 1)).map p.bat, p.effs⟩
def writes (w : Nat) (l : List K2) : Bool := match p.dst w with | some d => memS d l | none => false
def okDst : Bool := p.all fun i => p.all fun j => Nat.beq i j || match p.dst i with | some d => !(match p.dst j with | some e => d.beq e | none => false) | none => true
def okDeps : Bool := p.all fun i => (p.deps i).all fun d => Nat.blt d i
def okAnc : Bool := p.all fun i => p.all fun d => !p.anc i d || (p.deps i).any fun c => Nat.beq c d || p.anc c d
def okPos (t : Tab) : Bool := p.all fun i => match p.sk[t.po.getD i 0]? with
  | some (.ef j) => Nat.beq i j && Nat.beq (p.sort i) 3
  | some (.al j _) => Nat.beq i j && Nat.beq (p.sort i) 2
  | some (.rd j) => Nat.beq i j && Nat.ble (p.sort i) 1
  | some (.rn j a d) => Nat.beq i j && (Nat.ble (p.sort i) 1 && (Nat.blt a p.m && (p.anc i a && (Nat.blt (t.po.getD a 0) (t.po.getD i 0) && (Nat.beq (t.ba.getD (t.po.getD a 0) 0) (t.ba.getD (t.po.getD i 0) 0) &&
      match p.sk[t.po.getD a 0]? with | some (.al a' d') => Nat.beq a a' && d.beq d' | _ => false)))))
  | _ => false
def okUniq (t : Tab) : Bool := (List.range p.sk.length).all fun l => match p.sk[l]? with
  | some x => match x.ix with
    | some i => Nat.blt i p.m && Nat.beq (t.po.getD i 0) l
    | none => match x with
      | .ck i => Nat.blt i p.m && Nat.blt (t.po.getD i 0) l && Nat.ble (p.sort i) 1
      | _ => true
  | none => false
def okSlots (t : Tab) : Bool := p.all fun i => p.all fun w => !p.writes w (p.slots i) || (!Nat.beq i w && ((p.anc i w && Nat.blt (t.po.getD w 0) (t.po.getD i 0)) ||
  (p.anc w i && Nat.blt (t.po.getD i 0) (t.po.getD w 0) && (List.range p.sk.length).all fun l => match p.sk[l]? with | some x => !x.isCk i || Nat.blt l (t.po.getD w 0) | none => true)))
def okEff (t : Tab) : Bool := t.ef.all fun i => t.ef.all fun j => !Nat.blt (t.po.getD i 0) (t.po.getD j 0) || p.anc j i
/-- With j effects done the operation cannot be next. -/
def never (t : Tab) (i j : Nat) : Bool := t.ef.any fun e => (p.anc i e && Nat.ble j (t.ba.getD (t.po.getD e 0) 0)) || (p.anc e i && Nat.blt (t.ba.getD (t.po.getD e 0) 0) j)
/-- What was made in a later batch, or in this one, is read. -/
def fresh (t : Tab) (i j : Nat) : Bool := match p.sk[t.po.getD i 0]? with | some (.rn _ a _) => Nat.ble j (t.ba.getD (t.po.getD a 0) 0) | _ => false
def okRead (t : Tab) : Bool := p.all fun i => !Nat.beq (p.sort i) 1 || (List.range (t.ef.length + 1)).all fun j => p.never t i j || p.fresh t i j ||
  (List.range p.sk.length).any fun l => Nat.beq (t.ba.getD l 0) j && match p.sk[l]? with | some x => (match x.reads with | some i' => Nat.beq i i' | none => false) | none => false
def okAl (t : Tab) : Bool := p.all fun i => !Nat.beq (p.sort i) 2 || match p.sk[t.po.getD i 0]? with
  | some (.al _ d) => ((List.range (t.ef.length + 1)).all fun j => if Nat.ble j (t.ba.getD (t.po.getD i 0) 0) then
        (List.range p.sk.length).any fun l => Nat.beq (t.ba.getD l 0) j && match p.sk[l]? with | some (.no d') => d.beq d' | _ => false
      else t.ef.any fun e => p.anc e i && Nat.blt (t.ba.getD (t.po.getD e 0) 0) j) &&
    p.all fun i' => Nat.beq i i' || match p.sk[t.po.getD i' 0]? with | some (.al _ d') => !d.beq d' | _ => true
  | _ => false
def ok : Bool :=
  let t := p.tab
  p.okDst && (p.okDeps && (p.okAnc && (p.okPos t && (p.okUniq t && (p.okSlots t && (p.okEff t && (p.okRead t && p.okAl t)))))))
end Plot
/-- How many of the effects stand ahead. -/
def loOf (effs : List Nat) (anc : Nat) : Nat := (effs.filter (anc.testBit ·)).length
/-- How many effects there are ahead of the first one that it stands ahead of. -/
def hiOf (effs : List (Nat × Nat)) (i : Nat) : Nat := (effs.takeWhile fun e => !e.2.testBit i).length
/-- The batches: effects as their number (from 1), readings as early as they may, what makes memory as late, the rest behind what it hangs on. -/
def batches (effs : List (Nat × Nat)) : List (Nat × List Nat × Nat × Nat) → List Nat → List Nat
  | [], acc => acc
  | (i, deps, anc, sort) :: l, acc =>
    let b := deps.foldl (fun m d => max m (acc.getD d 0)) 0
    let b := match sort with
      | 1 => max b (loOf (effs.map (·.1)) anc)
      | 2 => max b (hiOf effs i)
      | 3 => loOf (effs.map (·.1)) anc + 1
      | _ => b
    batches effs l (acc ++ [b])
/-- The plot of a region. -/
def plotSk (so : List Nat) (de : List (List Nat)) (an : List Nat) (ro : List (Option Nat)) : List SI :=
  let idx := List.range so.length
  let ef := (idx.filter fun i => so.getD i 0 == 3).map fun i => (i, an.getD i 0)
  let ba := batches ef (idx.map fun i => (i, de.getD i [], an.getD i 0, so.getD i 0)) []
  let al := idx.filter fun i => so.getD i 0 == 2
  let dig := fun i => D.ofN (al.takeWhile (· != i)).length
  let item := fun i => if so.getD i 0 == 2 then SI.al i (dig i) else match ro.getD i none with
    | some a => if so.getD i 0 == 1 && ba.getD i 0 == ba.getD a 0 then SI.rn i a (dig a) else SI.rd i
    | none => SI.rd i
  (List.range (ef.length + 1)).flatMap fun j =>
    ((idx.filter fun i => so.getD i 0 == 3 && ba.getD i 0 == j).map SI.ef) ++
    ((al.filter fun i => Nat.ble j (ba.getD i 0)).map fun i => SI.no (dig i)) ++
    ((idx.filter fun i => so.getD i 0 != 3 && ba.getD i 0 == j).map item) ++
    ((idx.filter fun i => so.getD i 0 == 1 && Nat.blt (ba.getD i 0) j && Nat.ble j (hiOf ef i)).map SI.ck)
/-- What an operation reads, or leads to. -/
def AK.base : AK → Option K2
  | .ld (.t p) | .ldn _ (.t p) | .b2s (.t p) | .slA _ _ (.t p) _ _ | .lk _ _ _ (.t p) _ | .lnM (.t p) | .ixS _ (.t p) _ | .ixA _ _ (.t p) _ | .fad _ (.t p) | .slL _ (.t p) _ _ | .nilck (.t p) | .idn (.t p) => some p
  | _ => none
/-- The operation that made what is read. -/
def rootOf (os : List AOp) : Nat → Nat → Option Nat
  | 0, _ => none
  | fuel + 1, i => match os[i]? with
    | some o => match o.k.base with
      | some q =>
        let j := os.findIdx fun x => match x.dst with | some d => d.beq q | none => false
        match os[j]? with
        | some x => if x.k.sort == 2 then some j else if Nat.blt j i then rootOf os fuel j else none
        | none => none
      | none => none
    | none => none
def plotOf (deps : List (List Nat)) (os : List AOp) : Plot :=
  let so := os.map (·.k.sort)
  let an := ancs deps
  ⟨so, os.map (·.dst), os.map AOp.slots, deps, an, plotSk so deps an ((List.range so.length).map fun i => if so.getD i 0 == 1 then rootOf os 6 i else none)⟩
def cRegion0 (ops : Array Oper) (draw : Bool) : AC :=
  match cOps P N ops ops.toList with
  | none => .bad "a region of it registers"
  | some os =>
    if draw then
      let p := plotOf (ops.toList.map depsOf) os
      if p.ok then .drawn (p.sk.any SI.isAl) (p.sk.map (real os)) else .bad "a region of it order"
    else .ops os
/-- Functions whose result hangs on the order in which a map tells its keys. -/
def treeFn (f : FuncId) : Bool := match P.funcs[f]? with
  | some fn => fn.origin == "slices.Collect" || fn.origin == "slices.AppendSeq" || fn.name == "stillroom/stillroomtop.small"
  | none => false
def cSp (o : Oper) : Option Sp := match o.op with
  | .range ty x => match P.underlying ty with | some (.map _ _) => (cOpd N x).map .rng | _ => none
  | .next x s => if s then none else (cOpd N x).map .nxt
  | .entry x => (cOpd N x).map .ent
  | .call ct => match ct.callee with
    | .value (.func f) => if treeFn P f then (cOpds N ct.args.toList).map (.tcl f) else none
    | .value (.tmp s) => match cOpd N (.tmp s), cOpds N ct.args.toList with
      | some x, some l => some (.dcl x l)
      | _, _ => none
    | _ => none
  | _ => none
def cDst (o : Oper) : Option (Option K2) := match o.dst with | none => some none | some d => (cSlot N d).map some
def cSpl (ops : Array Oper) : List Oper → Option (List AOp × Sp × Option K2 × List AOp)
  | [] => none
  | o :: l => match cSp P N o with
    | some sp => match o.guard, cDst N o, cOps P N ops l with
      | none, some d, some post => some ([], sp, d, post)
      | _, _, _ => none
    | none => match cSpl ops l with
      | none => none
      | some r => match cOper P N ops o with
        | some x => some (x :: r.1, r.2)
        | none => none
def cRegion (ops : Array Oper) (draw : Bool) : AC :=
  if draw then cRegion0 P N ops true else match cSpl P N ops ops.toList with
  | some r => .spl r.1 r.2.1 r.2.2.1 r.2.2.2
  | none => cRegion0 P N ops false
def cCode : Code → AC
  | .skip => .skip
  | .region _ ops draw => cRegion P N ops draw
  | .seq a b => .seq (cCode a) (cCode b)
  | .cond c a b => match cOpd N c with
    | some c => .cond c (cCode a) (cCode b)
    | none => .bad "a test"
  | .block id b => .block id (cCode b)
  | .loop b => .loop (cCode b)
  | .exit id => .exit id
  | .label _ => .skip
  | .ret => .ret
  | .rangeFunc _ _ _ _ => .bad "a range over a function"
  | .scope _ => .bad "a scope"
  | .goto _ => .bad "a goto"
  | .refuse why => .bad why
def cSlots : List Nat → Option (List K2)
  | [] => some []
  | t :: l => match cSlot N t, cSlots l with
    | some x, some xs => some (x :: xs)
    | _, _ => none
def cResults : List ResultVar → Option (List ARes)
  | [] => some []
  | .tmp t :: l => match cSlot N t, cResults l with
    | some x, some xs => some (.tmp x :: xs)
    | _, _ => none
  | .cell t ty :: l => match cSlot N t, cAgg P ty, cSize P ty, cResults l with
    | some x, some ag, some m, some xs => some (.cel x (if ag then some m else none) :: xs)
    | _, _, _, _ => none
end
/-- A function. -/
def cFunc (P : Program) (f : FuncId) : Option AFn :=
  match P.funcs[f]? with
  | some fn =>
    match fn.body, cSlots fn.ntmps (List.range (fn.params.size + fn.nfree)), cResults P fn.ntmps fn.results.toList with
    | some c, some ps, some rs => if fn.name == "runtime.NumGoroutine" then none else some ⟨ps, cCode P fn.ntmps c, rs⟩
    | _, _, _ => none
  | none => none
end Go.Ev

namespace Go.Ev
set_option linter.unusedVariables false
section
variable {ρ : Env}
def Emb.le (φ φ' : Emb) : Prop := ∀ p x, φ p = some x → φ' p = some x
theorem Emb.le_refl (φ : Emb) : Emb.le φ φ := fun _ _ h => h
theorem Emb.le_trans {a b c : Emb} (h : Emb.le a b) (k : Emb.le b c) : Emb.le a c := fun p x hx => k p x (h p x hx)
mutual
theorem rel_mono {φ φ' : Emb} (h : Emb.le φ φ') : ∀ {v : V} {x : Value}, rel ρ φ v x → rel ρ φ' v x
  | .int _ _, _, r => by simpa only [rel] using r
  | .bool _, _, r => by simpa only [rel] using r
  | .ptr _ _, _, r => by
    simp only [rel] at r ⊢
    obtain ⟨b, s, tot, hp, e⟩ := r
    exact ⟨b, s, tot, h _ _ hp, e⟩
  | .sl _ _ _ _ _ _, _, r => by
    simp only [rel] at r ⊢
    obtain ⟨b, s, tot, o, c, hp, e⟩ := r
    exact ⟨b, s, tot, o, c, h _ _ hp, e⟩
  | .str _ _, _, r => by simpa only [rel] using r
  | .agg l, _, r => by
    simp only [rel] at r ⊢
    obtain ⟨cs, e, hl, ho⟩ := r
    exact ⟨cs, e, rels_mono h hl, ho⟩
  | .nil _, _, r => by simpa only [rel] using r
  | .map _, _, r => by
    simp only [rel] at r ⊢
    obtain ⟨b, s, tot, hp, e⟩ := r
    exact ⟨b, s, tot, h _ _ hp, e⟩
  | .fn _ l, _, r => by
    simp only [rel] at r ⊢
    obtain ⟨cs, e, hl⟩ := r
    exact ⟨cs, e, rels_mono h hl⟩
  | .tup l, _, r => by
    simp only [rel] at r ⊢
    obtain ⟨cs, e, hl⟩ := r
    exact ⟨cs, e, rels_mono h hl⟩
  | .oth o, _, r => by
    cases o with
    | yl p =>
      simp only [rel] at r ⊢
      obtain ⟨b, s, tot, hp, e⟩ := r
      exact ⟨b, s, tot, h _ _ hp, e⟩
    | _ => simp only [rel] at r ⊢ <;> exact r
theorem rels_mono {φ φ' : Emb} (h : Emb.le φ φ') : ∀ {l : List V} {xs : List Value}, rels ρ φ l xs → rels ρ φ' l xs
  | [], _, r => by simpa only [rels] using r
  | v :: l, _, r => by
    simp only [rels] at r ⊢
    obtain ⟨y, ys, e, hy, hys⟩ := r
    exact ⟨y, ys, e, rel_mono h hy, rels_mono h hys⟩
end
theorem rels_nil {φ : Emb} {xs : List Value} : rels ρ φ [] xs ↔ xs = [] := by simp only [rels]
theorem rels_cons {φ : Emb} {v : V} {l : List V} {xs : List Value} : rels ρ φ (v :: l) xs ↔ ∃ y ys, xs = y :: ys ∧ rel ρ φ v y ∧ rels ρ φ l ys := by simp only [rels]
theorem rels_length {φ : Emb} {l : List V} : ∀ {xs : List Value}, rels ρ φ l xs → xs.length = l.length := by
  induction l with
  | nil => intro xs h; rw [rels_nil] at h; rw [h]; rfl
  | cons v l ih => intro xs h; obtain ⟨y, ys, rfl, _, h⟩ := rels_cons.1 h; simp [ih h]
theorem rels_iff {φ : Emb} {l : List V} : ∀ {xs : List Value}, rels ρ φ l xs ↔ xs.length = l.length ∧ ∀ (i : Nat) (v : V), l[i]? = some v → ∃ x, xs[i]? = some x ∧ rel ρ φ v x := by
  induction l with
  | nil =>
    intro xs; rw [rels_nil]; constructor
    · rintro rfl; exact ⟨rfl, fun i v h => by simp at h⟩
    · rintro ⟨h, _⟩; exact List.eq_nil_of_length_eq_zero h
  | cons v l ih =>
    intro xs
    rw [rels_cons]
    constructor
    · rintro ⟨y, ys, rfl, hy, hys⟩
      obtain ⟨h1, h2⟩ := ih.1 hys
      refine ⟨by simp [h1], fun i u hu => ?_⟩
      cases i with
      | zero => simp at hu; subst hu; exact ⟨y, rfl, hy⟩
      | succ i => simpa using h2 i u (by simpa using hu)
    · rintro ⟨h1, h2⟩
      cases xs with
      | nil => simp at h1
      | cons y ys =>
        obtain ⟨x, hx, hr⟩ := h2 0 v rfl
        simp at hx; subst hx
        exact ⟨y, ys, rfl, hr, ih.2 ⟨by simpa using h1, fun i u hu => by simpa using h2 (i + 1) u (by simpa using hu)⟩⟩
theorem rels_append {φ : Emb} {a b : List V} {xs ys : List Value} (h : rels ρ φ a xs) (k : rels ρ φ b ys) : rels ρ φ (a ++ b) (xs ++ ys) := by
  induction a generalizing xs with
  | nil => rw [rels_nil] at h; subst h; exact k
  | cons v a ih => obtain ⟨y, zs, rfl, hy, h⟩ := rels_cons.1 h; exact rels_cons.2 ⟨y, zs ++ ys, rfl, hy, ih h⟩
theorem rels_drop {φ : Emb} {a : List V} {xs : List Value} (h : rels ρ φ a xs) (k : Nat) : rels ρ φ (a.drop k) (xs.drop k) := by
  induction k generalizing a xs with
  | zero => simpa using h
  | succ k ih => cases a with
    | nil => rw [rels_nil] at h; subst h; simpa using rels_nil.2 rfl
    | cons v a => obtain ⟨y, zs, rfl, hy, h⟩ := rels_cons.1 h; simpa using ih h
theorem rels_take {φ : Emb} {a : List V} {xs : List Value} (h : rels ρ φ a xs) (k : Nat) : rels ρ φ (a.take k) (xs.take k) := by
  induction k generalizing a xs with
  | zero => simpa using rels_nil.2 rfl
  | succ k ih => cases a with
    | nil => rw [rels_nil] at h; subst h; simpa using rels_nil.2 rfl
    | cons v a => obtain ⟨y, zs, rfl, hy, h⟩ := rels_cons.1 h; simpa using rels_cons.2 ⟨y, zs.take k, rfl, hy, ih h⟩
/-- Symbols stand for values of one cell. -/
def OneSym (ρ : Env) : Prop := ∀ i, (ρ.v i).oneCell' = true
theorem rel_cells {φ : Emb} (hρ : OneSym ρ) {v : V} (hv : v.celled) {x : Value} (h : rel ρ φ v x) :
    rels ρ φ v.cl x.cells.toList ∧ ∀ y ∈ x.cells.toList, y.oneCell' = true := by
  cases v with
  | agg l =>
    simp only [rel] at h
    obtain ⟨cs, rfl, hl, ho⟩ := h
    exact ⟨hl, ho⟩
  | tup l => exact hv.elim
  | int k r =>
    have h' := h; simp only [rel] at h'; obtain ⟨_, rfl⟩ := h'
    exact ⟨rels_cons.2 ⟨_, [], rfl, h, rels_nil.2 rfl⟩, by simp [Value.cells, Value.oneCell']⟩
  | bool b =>
    have h' := h; simp only [rel] at h'; subst h'
    exact ⟨rels_cons.2 ⟨_, [], rfl, h, rels_nil.2 rfl⟩, by simp [Value.cells, Value.oneCell']⟩
  | ptr p o =>
    have h' := h; simp only [rel] at h'; obtain ⟨_, _, _, _, rfl⟩ := h'
    exact ⟨rels_cons.2 ⟨_, [], rfl, h, rels_nil.2 rfl⟩, by simp [Value.cells, Value.oneCell']⟩
  | sl p o l c e z =>
    have h' := h; simp only [rel] at h'; obtain ⟨_, _, _, _, _, _, rfl, _⟩ := h'
    exact ⟨rels_cons.2 ⟨_, [], rfl, h, rels_nil.2 rfl⟩, by simp [Value.cells, Value.oneCell']⟩
  | str n c =>
    have h' := h; simp only [rel] at h'; obtain ⟨_, rfl, _⟩ := h'
    exact ⟨rels_cons.2 ⟨_, [], rfl, h, rels_nil.2 rfl⟩, by simp [Value.cells, Value.oneCell']⟩
  | nil w =>
    have h' := h; simp only [rel] at h'; subst h'
    exact ⟨rels_cons.2 ⟨_, [], by cases w <;> rfl, h, rels_nil.2 rfl⟩, by cases w <;> simp [nilOf, Value.cells, Value.oneCell']⟩
  | map p =>
    have h' := h; simp only [rel] at h'; obtain ⟨_, _, _, _, rfl⟩ := h'
    exact ⟨rels_cons.2 ⟨_, [], rfl, h, rels_nil.2 rfl⟩, by simp [Value.cells, Value.oneCell']⟩
  | fn f l =>
    have h' := h; simp only [rel] at h'; obtain ⟨_, rfl, _⟩ := h'
    exact ⟨rels_cons.2 ⟨_, [], rfl, h, rels_nil.2 rfl⟩, by simp [Value.cells, Value.oneCell']⟩
  | oth o =>
    cases o with
    | any => exact hv.elim
    | yl p => exact hv.elim
    | no => exact hv.elim
    | sym i =>
      have h' := h; simp only [rel] at h'; subst h'
      have hone := hρ i
      have hc : (ρ.v i).cells = #[ρ.v i] := by
        cases hx : ρ.v i <;> first | rfl | (rw [hx] at hone; simp [Value.oneCell'] at hone)
      rw [hc]
      exact ⟨rels_cons.2 ⟨_, [], rfl, h, rels_nil.2 rfl⟩, by simpa using hone⟩
    | iv k lo hi =>
      have h' := h; simp only [rel] at h'; obtain ⟨_, _, _, _, rfl⟩ := h'
      exact ⟨rels_cons.2 ⟨_, [], rfl, h, rels_nil.2 rfl⟩, by simp [Value.cells, Value.oneCell']⟩
    | os lo hi =>
      have h' := h; simp only [rel] at h'; obtain ⟨_, _, _, rfl, _⟩ := h'
      exact ⟨rels_cons.2 ⟨_, [], rfl, h, rels_nil.2 rfl⟩, by simp [Value.cells, Value.oneCell']⟩
    | bl =>
      have h' := h; simp only [rel] at h'; obtain ⟨_, rfl⟩ := h'
      exact ⟨rels_cons.2 ⟨_, [], rfl, h, rels_nil.2 rfl⟩, by simp [Value.cells, Value.oneCell']⟩
    | rs m j =>
      have h' := h; simp only [rel] at h'; obtain ⟨_, rfl, _⟩ := h'
      exact ⟨rels_cons.2 ⟨_, [], rfl, h, rels_nil.2 rfl⟩, by simp [Value.cells, Value.oneCell']⟩
    | ss lo hi n c =>
      have h' := h; simp only [rel] at h'; obtain ⟨_, rfl, _⟩ := h'
      exact ⟨rels_cons.2 ⟨_, [], rfl, h, rels_nil.2 rfl⟩, by simp [Value.cells, Value.oneCell']⟩
    | ro i lo hi z =>
      have h' := h; simp only [rel] at h'; obtain ⟨_, _, _, _, _, _, _, rfl, _⟩ := h'
      exact ⟨rels_cons.2 ⟨_, [], rfl, h, rels_nil.2 rfl⟩, by simp [Value.cells, Value.oneCell']⟩
    | ap i j m =>
      have h' := h; simp only [rel] at h'; obtain ⟨_, _, _, _, _, rfl, _⟩ := h'
      exact ⟨rels_cons.2 ⟨_, [], rfl, h, rels_nil.2 rfl⟩, by simp [Value.cells, Value.oneCell']⟩
    | sy k i =>
      have h' := h; simp only [rel] at h'; obtain ⟨_, _, _, rfl⟩ := h'
      exact ⟨rels_cons.2 ⟨_, [], rfl, h, rels_nil.2 rfl⟩, by simp [Value.cells, Value.oneCell']⟩
def prevOf : Ob → Option K4
  | .c _ _ p => p
  | _ => none
def supOf : Ob → Bool
  | .c _ s _ => s
  | _ => false
/-- The bytes that may not be written lie behind the cells. -/
def Frz (fr : Nat × Nat) (tot : Nat) : Prop := fr.1 = fr.2 ∨ tot ≤ fr.1
def EsOK (ρ : Env) (φ : Emb) : List (V × V) → List MapEntry → Prop
  | [], l => l = []
  | e :: es, l => ∃ y ys, l = y :: ys ∧ rel ρ φ e.1 y.key ∧ rel ρ φ e.2 y.val ∧ EsOK ρ φ es ys
def CsOK (ρ : Env) (φ : Emb) (cs : Cs) (f : Nat → Option Value) : Prop :=
  ∀ i v, cs.at i = some v → ∃ x, f i = some x ∧ rel ρ φ v x ∧ x.oneCell' = true
def ObOK (ρ : Env) (φ : Emb) (w : World) (o : Ob) (b s tot : Nat) : Prop :=
  match o with
  | .c cs _ _ => ∃ c e fr, w.heap[b]? = some (.cells c e fr) ∧ c.size = tot ∧ s + cs.len ≤ tot ∧ Frz fr tot ∧ CsOK ρ φ cs fun i => c[s + i]?
  | .m es bs clk => ∃ ents, w.heap[b]? = some (.map ents clk) ∧ EsOK ρ φ es ents.toList ∧ ents.toList.map (·.born) = bs
  | .it p since seen c => ∃ bm sm tm, φ p = some (bm, sm, tm) ∧ s = 0 ∧ w.heap[b]? = some (.mapIter (some bm) since seen.reverse.toArray c)
  | .it0 => s = 0 ∧ w.heap[b]? = some (.mapIter none 0 #[] 0)
  | .lp f box => s = 0 ∧ ∃ (A : ApC) (fn : FuncId) (tmps : Array Value) (D : Nat), ρ.ap f = some A ∧ w.heap[b]? = some (.loop { state := .ready, pending := none, fn, tmps, params := #[A.par], assign := A.asg, body := A.bod, defers := D }) ∧
      tmps.size = A.ntm ∧ rel ρ φ (.ptr box 0) (tmps.getD A.box undef)
theorem EsOK_mono {φ φ' : Emb} (h : Emb.le φ φ') {es : List (V × V)} : ∀ {l : List MapEntry}, EsOK ρ φ es l → EsOK ρ φ' es l := by
  induction es with
  | nil => exact fun h => h
  | cons e es ih => rintro l ⟨y, ys, rfl, h1, h2, h3⟩; exact ⟨y, ys, rfl, rel_mono h h1, rel_mono h h2, ih h3⟩
theorem CsOK_mono {φ φ' : Emb} (h : Emb.le φ φ') {cs : Cs} {f : Nat → Option Value} (k : CsOK ρ φ cs f) : CsOK ρ φ' cs f :=
  fun i v hv => let ⟨x, h1, h2, h3⟩ := k i v hv; ⟨x, h1, rel_mono h h2, h3⟩
theorem ObOK_mono {φ φ' : Emb} (h : Emb.le φ φ') {w : World} {o : Ob} {b s tot : Nat} (k : ObOK ρ φ w o b s tot) : ObOK ρ φ' w o b s tot := by
  cases o with
  | c cs sup prev =>
    obtain ⟨c, e, fr, h1, h2, h3, h4, h5⟩ := k
    exact ⟨c, e, fr, h1, h2, h3, h4, CsOK_mono h h5⟩
  | m es bs clk =>
    obtain ⟨ents, h1, h2, h3⟩ := k
    exact ⟨ents, h1, EsOK_mono h h2, h3⟩
  | it p since seen c =>
    obtain ⟨bm, sm, tm, h1, h2, h3⟩ := k
    exact ⟨bm, sm, tm, h _ _ h1, h2, h3⟩
  | it0 => exact k
  | lp f box =>
    obtain ⟨h0, A, fn, tmps, D, h1, h2, h3, h4⟩ := k
    exact ⟨h0, A, fn, tmps, D, h1, h2, h3, rel_mono h h4⟩
theorem ObOK_heap {φ : Emb} {w w' : World} {o : Ob} {b s tot : Nat} (h : w'.heap[b]? = w.heap[b]?) (k : ObOK ρ φ w o b s tot) : ObOK ρ φ w' o b s tot := by
  cases o with
  | c cs sup prev => obtain ⟨c, e, fr, h1, h2⟩ := k; exact ⟨c, e, fr, h.trans h1, h2⟩
  | m es bs clk => obtain ⟨ents, h1, h2⟩ := k; exact ⟨ents, h.trans h1, h2⟩
  | it p since seen c => obtain ⟨bm, sm, tm, h1, h2, h3⟩ := k; exact ⟨bm, sm, tm, h1, h2, h.trans h3⟩
  | it0 => exact ⟨k.1, h.trans k.2⟩
  | lp f box => obtain ⟨h0, A, fn, tmps, D, h1, h2, h3⟩ := k; exact ⟨h0, A, fn, tmps, D, h1, h.trans h2, h3⟩
structure Gam (ρ : Env) (B : Nat) (h : Heap) (n : K4) (φ : Emb) (w : World) : Prop where
  base : B ≤ w.heap.size
  dom : ∀ p x, φ p = some x → p.toN < n.toN
  blk : ∀ p b s tot, φ p = some (b, s, tot) → B ≤ b ∧ b < w.heap.size
  obj : ∀ p o b s tot, hget p h = some o → φ p = some (b, s, tot) → ObOK ρ φ w o b s tot
  sep : ∀ p q o o' b s tot s' tot', p ≠ q → hget p h = some o → hget q h = some o' → φ p = some (b, s, tot) → φ q = some (b, s', tot') → prevOf o = some q ∨ prevOf o' = some p
  sup : ∀ p q o o' b s tot s' tot', hget p h = some o → prevOf o = some q → hget q h = some o' → φ p = some (b, s, tot) → φ q = some (b, s', tot') → supOf o' = true
  glob : ∀ b c e fr, ρ.gl b = some (c, e, fr) → b < B ∧ w.heap[b]? = some (.cells c e fr)
/-- What a step leaves as it was. -/
structure Fr (h h' : Heap) (φ φ' : Emb) (n n' : K4) (w w' : World) : Prop where
  ext : Emb.le φ φ'
  new : ∀ p x, φ' p = some x → φ p = some x ∨ (n.toN ≤ p.toN ∧ p.toN < n'.toN)
  nn : n.toN ≤ n'.toN
  os : w'.os = w.os
  tape : w'.tape = w.tape
  out : w'.output = w.output
  size : w.heap.size ≤ w'.heap.size
  old : ∀ b, b < w.heap.size → (∀ p s tot, φ p = some (b, s, tot) → hget p h = none) → w'.heap[b]? = w.heap[b]?
  fresh : ∀ p b s tot, φ' p = some (b, s, tot) → φ p = some (b, s, tot) ∨ w.heap.size ≤ b ∨ ∃ q s' tot', φ q = some (b, s', tot') ∧ hget q h ≠ none
  dm : ∀ p, φ p ≠ none → hget p h = none → hget p h' = none
theorem Fr.refl (h : Heap) (φ : Emb) (n : K4) (w : World) : Fr h h φ φ n n w w :=
  ⟨Emb.le_refl φ, fun _ _ h => .inl h, Nat.le_refl _, rfl, rfl, rfl, Nat.le_refl _, fun _ _ _ => rfl, fun _ _ _ _ h => .inl h, fun _ _ h => h⟩
theorem Fr.trans {h h1 h2 : Heap} {φ φ1 φ2 : Emb} {n n1 n2 : K4} {w w1 w2 : World} (a : Fr h h1 φ φ1 n n1 w w1) (c : Fr h1 h2 φ1 φ2 n1 n2 w1 w2) : Fr h h2 φ φ2 n n2 w w2 where
  ext := Emb.le_trans a.ext c.ext
  new := fun p x hx => by
    rcases c.new p x hx with h' | ⟨h1, h2⟩
    · rcases a.new p x h' with h' | ⟨h1, h2⟩
      · exact .inl h'
      · exact .inr ⟨h1, Nat.lt_of_lt_of_le h2 c.nn⟩
    · exact .inr ⟨Nat.le_trans a.nn h1, h2⟩
  nn := Nat.le_trans a.nn c.nn
  os := c.os.trans a.os
  tape := c.tape.trans a.tape
  out := c.out.trans a.out
  size := Nat.le_trans a.size c.size
  old := fun b hb hn => by
    rw [← a.old b hb hn]
    refine c.old b (Nat.lt_of_lt_of_le hb a.size) fun p s tot hp => ?_
    rcases a.fresh p b s tot hp with h' | h' | ⟨q, s', tot', hq, hne⟩
    · exact a.dm p (by rw [h']; simp) (hn p s tot h')
    · omega
    · exact absurd (hn q s' tot' hq) hne
  fresh := fun p b s tot hp => by
    rcases c.fresh p b s tot hp with h' | h' | ⟨q, s', tot', hq, hne⟩
    · exact a.fresh p b s tot h'
    · exact .inr (.inl (Nat.le_trans a.size h'))
    · rcases a.fresh q b s' tot' hq with h' | h' | h'
      · refine .inr (.inr ⟨q, s', tot', h', fun hn => hne (a.dm q (by rw [h']; simp) hn)⟩)
      · exact .inr (.inl h')
      · exact .inr (.inr h')
  dm := fun p hp hn => c.dm p (by
    cases hx : φ p with
    | none => exact absurd hx hp
    | some x => rw [a.ext p x hx]; simp) (a.dm p hp hn)
/-- A draw. -/
theorem Fr.drew {h : Heap} {φ : Emb} {n : K4} {w : World} : Fr h h φ φ n n w w.drew :=
  ⟨Emb.le_refl φ, fun _ _ h => .inl h, Nat.le_refl _, rfl, rfl, rfl, Nat.le_refl _, fun _ _ _ => rfl, fun _ _ _ _ h => .inl h, fun _ _ h => h⟩
theorem Gam.drew {B : Nat} {h : Heap} {φ : Emb} {n : K4} {w : World} (g : Gam ρ B h n φ w) : Gam ρ B h n φ w.drew :=
  ⟨g.base, g.dom, g.blk, fun p o b s tot h1 h2 => ObOK_heap (w := w) rfl (g.obj p o b s tot h1 h2), g.sep, g.sup, g.glob⟩
/-- A greater next place. -/
theorem Gam.nx {B : Nat} {h : Heap} {φ : Emb} {n n' : K4} {w : World} (g : Gam ρ B h n φ w) (hn : n.toN ≤ n'.toN) : Gam ρ B h n' φ w :=
  ⟨g.base, fun p x hx => Nat.lt_of_lt_of_le (g.dom p x hx) hn, g.blk, g.obj, g.sep, g.sup, g.glob⟩
def updE (φ : Emb) (p : K4) (x : Nat × Nat × Nat) : Emb := fun q => if p.beq q then some x else φ q
theorem updE_same (φ : Emb) (p : K4) (x : Nat × Nat × Nat) : updE φ p x p = some x := if_pos (K4.beq_iff.2 rfl)
theorem updE_ne {φ : Emb} {p q : K4} {x : Nat × Nat × Nat} (h : p ≠ q) : updE φ p x q = φ q := if_neg fun e => h (K4.beq_iff.1 e)
theorem updE_le {φ : Emb} {p : K4} {x : Nat × Nat × Nat} (h : φ p = none) : Emb.le φ (updE φ p x) := fun q y hy => by
  rw [updE_ne fun e => by rw [e, hy] at h; cases h]; exact hy
theorem updE_inv {φ : Emb} {p q : K4} {x y : Nat × Nat × Nat} (h : updE φ p x q = some y) : (p = q ∧ x = y) ∨ (p ≠ q ∧ φ q = some y) := by
  by_cases e : p = q
  · subst e; rw [updE_same] at h; exact .inl ⟨rfl, by simpa using h⟩
  · rw [updE_ne e] at h; exact .inr ⟨e, h⟩
theorem hget_inv {h : Heap} {p q : K4} {o : Option Ob} {x : Ob} (k : hget q (hputS p h o) = some x) : (p = q ∧ o = some x) ∨ (p ≠ q ∧ hget q h = some x) := by
  by_cases e : p = q
  · subst e; rw [hget_hputS_same] at k; exact .inl ⟨rfl, k⟩
  · rw [hget_hputS_ne _ _ e] at k; exact .inr ⟨e, k⟩
/-- A new block. -/
theorem Gam.alloc {B : Nat} {h : Heap} {φ : Emb} {n n' p : K4} {w : World} (g : Gam ρ B h n φ w) (hp : φ p = none) (hpn : p.toN < n'.toN) (hn : n.toN ≤ n'.toN)
    (o : Ob) (ho : prevOf o = none) (O : Obj) (tot : Nat)
    (hok : ∀ φ' : Emb, Emb.le φ φ' → ∀ w' : World, w'.heap[w.heap.size]? = some O → ObOK ρ φ' w' o w.heap.size 0 tot) :
    Gam ρ B (hputS p h (some o)) n' (updE φ p (w.heap.size, 0, tot)) (w.alloc O) where
  base := by have := g.base; rw [World.size_alloc]; omega
  glob := fun b c e fr hb => ⟨(g.glob b c e fr hb).1, by rw [Go.RowKit.Below.heap_alloc w O b (by have := (g.glob b c e fr hb).1; have := g.base; omega)]; exact (g.glob b c e fr hb).2⟩
  dom := fun q x hx => by
    rcases updE_inv hx with ⟨rfl, _⟩ | ⟨_, hx⟩
    · exact hpn
    · exact Nat.lt_of_lt_of_le (g.dom q x hx) hn
  blk := fun q b s t hx => by
    rw [World.size_alloc]
    rcases updE_inv hx with ⟨rfl, e⟩ | ⟨_, hx⟩
    · simp only [Prod.mk.injEq] at e; have := g.base; omega
    · have := g.blk q b s t hx; omega
  obj := fun q o' b s t hq hx => by
    rcases updE_inv hx with ⟨rfl, e⟩ | ⟨hne, hx⟩
    · rw [hget_hputS_same] at hq
      simp only [Prod.mk.injEq] at e
      obtain ⟨rfl, rfl, rfl⟩ := e
      cases hq
      exact hok _ (updE_le hp) _ (by show (w.heap.push O)[w.heap.size]? = some O; simp)
    · rw [hget_hputS_ne _ _ hne] at hq
      have hb := (g.blk q b s t hx).2
      refine ObOK_heap (w := w) ?_ (ObOK_mono (updE_le hp) (g.obj q o' b s t hq hx))
      exact Go.RowKit.Below.heap_alloc w O b hb
  sep := fun q r o1 o2 b s t s' t' hne hq hr hx hy => by
    rcases updE_inv hx with ⟨rfl, e⟩ | ⟨hpq, hx⟩
    · rcases updE_inv hy with ⟨rfl, _⟩ | ⟨_, hy⟩
      · exact absurd rfl hne
      · simp only [Prod.mk.injEq] at e
        have := (g.blk r b s' t' hy).2; omega
    · rcases updE_inv hy with ⟨rfl, e⟩ | ⟨hpr, hy⟩
      · simp only [Prod.mk.injEq] at e
        have := (g.blk q b s t hx).2; omega
      · rw [hget_hputS_ne _ _ hpq] at hq
        rw [hget_hputS_ne _ _ hpr] at hr
        exact g.sep q r o1 o2 b s t s' t' hne hq hr hx hy
  sup := fun q r o1 o2 b s t s' t' hq hpr hr hx hy => by
    rcases updE_inv hx with ⟨rfl, e⟩ | ⟨hpq, hx⟩
    · rw [hget_hputS_same] at hq; cases hq; rw [ho] at hpr; cases hpr
    · rcases updE_inv hy with ⟨rfl, e⟩ | ⟨hpr', hy⟩
      · simp only [Prod.mk.injEq] at e; have := (g.blk q b s t hx).2; omega
      · rw [hget_hputS_ne _ _ hpq] at hq
        rw [hget_hputS_ne _ _ hpr'] at hr
        exact g.sup q r o1 o2 b s t s' t' hq hpr hr hx hy
theorem Fr.alloc {h : Heap} {φ : Emb} {n n' p : K4} {w : World} (hp : φ p = none) (hn : n.toN ≤ n'.toN) (h1 : n.toN ≤ p.toN) (h2 : p.toN < n'.toN)
    (o : Option Ob) (O : Obj) (tot : Nat) : Fr h (hputS p h o) φ (updE φ p (w.heap.size, 0, tot)) n n' w (w.alloc O) where
  ext := updE_le hp
  new := fun q x hx => by
    rcases updE_inv hx with ⟨rfl, _⟩ | ⟨_, hx⟩
    · exact .inr ⟨h1, h2⟩
    · exact .inl hx
  nn := hn
  os := rfl
  tape := rfl
  out := rfl
  size := by rw [World.size_alloc]; omega
  old := fun b hb _ => Go.RowKit.Below.heap_alloc w O b hb
  fresh := fun q b s t hx => by
    rcases updE_inv hx with ⟨rfl, e⟩ | ⟨_, hx⟩
    · simp only [Prod.mk.injEq] at e; exact .inr (.inl (by omega))
    · exact .inl hx
  dm := fun q hq hn => by
    have hne : p ≠ q := fun e => hq (e ▸ hp)
    rw [hget_hputS_ne _ _ hne]; exact hn
def killS (prev : Option K4) (h : Heap) : Heap := match prev with | none => h | some q => hputS q h none
theorem killK_eq (prev : Option K4) (h : Heap) (κ : Heap → R) : killK prev h κ = κ (killS prev h) := by
  cases prev with
  | none => rfl
  | some q => exact hput_eq q h none κ
theorem killS_inv {prev : Option K4} {h : Heap} {q : K4} {x : Ob} (k : hget q (killS prev h) = some x) : prev ≠ some q ∧ hget q h = some x := by
  cases prev with
  | none => exact ⟨by simp, k⟩
  | some r =>
    rcases hget_inv k with ⟨_, h⟩ | ⟨hne, h⟩
    · cases h
    · exact ⟨fun e => hne (by simpa using e), h⟩
theorem killS_none {prev : Option K4} {h : Heap} {q : K4} (k : hget q h = none) : hget q (killS prev h) = none := by
  cases hx : hget q (killS prev h) with
  | none => rfl
  | some x => rw [(killS_inv hx).2] at k; cases k
/-- The world with another block. -/
def wput (w : World) (b : Nat) (O : Obj) : World := { w with heap := w.heap.setIfInBounds b O }
theorem wput_same {w : World} {b : Nat} {O : Obj} (h : b < w.heap.size) : (wput w b O).heap[b]? = some O := by
  simp [wput, h]
theorem wput_ne {w : World} {b k : Nat} {O : Obj} (h : b ≠ k) : (wput w b O).heap[k]? = w.heap[k]? := by
  simp [wput, Array.getElem?_setIfInBounds_ne h]
theorem wput_size {w : World} {b : Nat} {O : Obj} : (wput w b O).heap.size = w.heap.size := by simp [wput]
/-- An object that may be written is written: what may share its memory is given up. -/
theorem Gam.write {B : Nat} {h : Heap} {φ : Emb} {n p : K4} {w : World} {o o' : Ob} {b s tot : Nat} {O : Obj} (g : Gam ρ B h n φ w) (hp : hget p h = some o) (hφ : φ p = some (b, s, tot))
    (hs : supOf o = false) (ho' : prevOf o' = none) (hok : ObOK ρ φ (wput w b O) o' b s tot) :
    Gam ρ B (hputS p (killS (prevOf o) h) (some o')) n φ (wput w b O) where
  base := by rw [wput_size]; exact g.base
  glob := fun k c e fr hk => ⟨(g.glob k c e fr hk).1, by rw [wput_ne (by have := (g.glob k c e fr hk).1; have := (g.blk p b s tot hφ).1; omega)]; exact (g.glob k c e fr hk).2⟩
  dom := g.dom
  blk := fun q b s t hx => by rw [wput_size]; exact g.blk q b s t hx
  obj := fun q o1 b1 s1 t1 hq hx => by
    rcases hget_inv hq with ⟨rfl, e⟩ | ⟨hne, hq⟩
    · rw [hφ] at hx; simp only [Option.some.injEq, Prod.mk.injEq] at hx e
      obtain ⟨rfl, rfl, rfl⟩ := hx; subst e; exact hok
    · obtain ⟨hk, hq⟩ := killS_inv hq
      have hb : b ≠ b1 := fun e => by
        subst e
        rcases g.sep p q o o1 b s tot s1 t1 hne hp hq hφ hx with h' | h'
        · exact hk h'
        · have := g.sup q p o1 o b s1 t1 s tot hq h' hp hx hφ
          rw [this] at hs; cases hs
      exact ObOK_heap (wput_ne hb) (g.obj q o1 b1 s1 t1 hq hx)
  sep := fun q r o1 o2 b1 s1 t1 s2 t2 hne hq hr hx hy => by
    rcases hget_inv hq with ⟨rfl, e⟩ | ⟨hpq, hq⟩
    · rcases hget_inv hr with ⟨rfl, e'⟩ | ⟨hpr, hr⟩
      · exact absurd rfl hne
      · obtain ⟨hk, hr⟩ := killS_inv hr
        rcases g.sep p r o o2 b1 s1 t1 s2 t2 hne hp hr hx hy with h' | h'
        · exact absurd h' hk
        · exact .inr h'
    · obtain ⟨hk, hq⟩ := killS_inv hq
      rcases hget_inv hr with ⟨rfl, e'⟩ | ⟨hpr, hr⟩
      · rcases g.sep q p o1 o b1 s1 t1 s2 t2 hne hq hp hx hy with h' | h'
        · exact .inl h'
        · exact absurd h' hk
      · obtain ⟨_, hr⟩ := killS_inv hr
        exact g.sep q r o1 o2 b1 s1 t1 s2 t2 hne hq hr hx hy
  sup := fun q r o1 o2 b1 s1 t1 s2 t2 hq hpr hr hx hy => by
    rcases hget_inv hq with ⟨rfl, e⟩ | ⟨hpq, hq⟩
    · simp only [Option.some.injEq] at e; subst e; rw [ho'] at hpr; cases hpr
    · obtain ⟨hk, hq⟩ := killS_inv hq
      rcases hget_inv hr with ⟨rfl, e⟩ | ⟨_, hr⟩
      · have := g.sup q p o1 o b1 s1 t1 s2 t2 hq hpr hp hx hy
        rw [this] at hs; cases hs
      · exact g.sup q r o1 o2 b1 s1 t1 s2 t2 hq hpr (killS_inv hr).2 hx hy
theorem Fr.write {h : Heap} {φ : Emb} {n p : K4} {w : World} {o : Ob} {o' : Option Ob} {b s tot : Nat} {O : Obj} (hp : hget p h = some o) (hφ : φ p = some (b, s, tot)) :
    Fr h (hputS p (killS (prevOf o) h) o') φ φ n n w (wput w b O) where
  ext := Emb.le_refl φ
  new := fun _ _ h => .inl h
  nn := Nat.le_refl _
  os := rfl
  tape := rfl
  out := rfl
  size := by rw [wput_size]; exact Nat.le_refl _
  old := fun k hk hn => wput_ne fun e => by
    subst e
    have := hn p s tot hφ; rw [hp] at this; cases this
  fresh := fun _ _ _ _ h => .inl h
  dm := fun q hq hn => by
    by_cases e : p = q
    · subst e; rw [hp] at hn; cases hn
    · rw [hget_hputS_ne _ _ e]; exact killS_none hn
end
end Go.Ev

namespace Go.Ev
set_option linter.unusedVariables false
theorem kb {k j : IntKind} {t : R} {s : String} (h : (br (kbeq k j) t (.fail s)).good) : k = j ∧ br (kbeq k j) t (.fail s) = t := by
  obtain ⟨h1, h2⟩ := br_good h
  exact ⟨kbeq_iff.1 h1, h2⟩
theorem lt_of_ble {a b : Nat} (h : Nat.ble (Nat.succ a) b = true) : a < b := ble_iff.1 h
/-- An operator's outcome, whatever world. -/
def BinTo (op : BinOp) (x y : Value) (v : V) : Prop :=
  ∃ r : Value, (∀ (P : Program) (t : TypeId) (w : World), (Go.binOp op t x y).run P w = .ok r w) ∧ ∀ (ρ : Env) (φ : Emb), rel ρ φ v r
theorem toInt (k : IntKind) (r : Nat) (hr : r < Mk k) (ρ : Env) (φ : Emb) : rel ρ φ (.int k r) (.int k (dec k r)) := by
  simp [rel, hr]
theorem toBool (b : Bool) (ρ : Env) (φ : Emb) : rel ρ φ (.bool b) (.bool b) := by simp only [rel]
theorem wrap_add (k : IntKind) (a b : Nat) : k.wrap (dec k a + dec k b) = dec k ((a + b) % Mk k) := by
  apply wrap_eq
  rw [Int.add_emod, dec_emod, dec_emod, ← Int.natCast_add, ← Int.natCast_emod, Nat.add_mod]; simp
theorem wrap_sub (k : IntKind) (a b : Nat) (hb : b < Mk k) : k.wrap (dec k a - dec k b) = dec k ((a + (Mk k - b)) % Mk k) := by
  apply wrap_eq
  unfold dec
  cases k <;> simp only [Mk, Hk] at * <;> (repeat' split) <;> omega
theorem wrap_mul (k : IntKind) (a b : Nat) : k.wrap (dec k a * dec k b) = dec k (a * b % Mk k) := by
  apply wrap_eq
  rw [Int.mul_emod, dec_emod, dec_emod, ← Int.natCast_mul, ← Int.natCast_emod, Nat.mul_mod]; simp
theorem pos2_good {k j : IntKind} {a b : Nat} {κ : R} (h : (pos2 k a j b κ).good) : k = j ∧ a < Hk k ∧ b < Hk k ∧ pos2 k a j b κ = κ := by
  obtain ⟨rfl, e1⟩ := kb h
  have e1 : pos2 k a k b κ = _ := e1
  rw [e1] at h
  obtain ⟨h2, e2⟩ := br_good h
  rw [e2] at h
  obtain ⟨h3, e3⟩ := br_good h
  exact ⟨rfl, lt_of_ble h2, lt_of_ble h3, e1.trans (e2.trans e3)⟩
theorem bv (k : IntKind) (a : Nat) (ha : a < Mk k) : (BitVec.ofInt k.bits (dec k a)).toNat = a := by
  rw [BitVec.toNat_ofInt]
  have h := dec_emod k a
  have e : ((2 ^ k.bits : Nat) : Int) = (Mk k : Int) := by rw [bits_Mk]
  rw [e, h, Nat.mod_eq_of_lt ha]; simp
theorem wrap_nat (k : IntKind) (r : Nat) (hr : r < Mk k) : k.wrap (r : Int) = dec k r :=
  wrap_eq (by rw [← Int.natCast_emod, Nat.mod_eq_of_lt hr])
theorem and_lt (a b m : Nat) (h : a < m) : Nat.land a b < m := Nat.lt_of_le_of_lt Nat.and_le_left h
theorem or_lt (k : IntKind) (a b : Nat) (ha : a < Mk k) (hb : b < Mk k) : Nat.lor a b < Mk k := by
  rw [bits_Mk] at *; exact Nat.or_lt_two_pow ha hb
theorem xor_lt (k : IntKind) (a b : Nat) (ha : a < Mk k) (hb : b < Mk k) : Nat.xor a b < Mk k := by
  rw [bits_Mk] at *; exact Nat.xor_lt_two_pow ha hb
theorem ibin_good (op : BinOp) (k : IntKind) (a : Nat) (j : IntKind) (b : Nat) (κ : V → R) (ha : a < Mk k) (hb : b < Mk j) (h : (ibin op k a j b κ).good) :
    ∃ v, ibin op k a j b κ = κ v ∧ BinTo op (.int k (dec k a)) (.int j (dec j b)) v := by
  cases op with
  | add =>
    obtain ⟨rfl, e⟩ := kb (show R.good (iadd k a j b κ) from h)
    refine ⟨_, (show iadd k a k b κ = _ from e).trans (forceN_eq _ _), .int k (dec k ((a + b) % Mk k)), fun P t w => ?_, toInt k _ (Nat.mod_lt _ (Mk_pos k))⟩
    simp only [binOp_add, Op.intArith, wrap_add, Sem.run_pure]
  | sub =>
    obtain ⟨rfl, e⟩ := kb (show R.good (isub k a j b κ) from h)
    refine ⟨_, (show isub k a k b κ = _ from e).trans (forceN_eq _ _), .int k (dec k ((a + (Mk k - b)) % Mk k)), fun P t w => ?_, toInt k _ (Nat.mod_lt _ (Mk_pos k))⟩
    simp only [binOp_sub, Op.intArith, wrap_sub _ _ _ hb, Sem.run_pure]
  | mul =>
    obtain ⟨rfl, e⟩ := kb (show R.good (imul k a j b κ) from h)
    refine ⟨_, (show imul k a k b κ = _ from e).trans (forceN_eq _ _), .int k (dec k (a * b % Mk k)), fun P t w => ?_, toInt k _ (Nat.mod_lt _ (Mk_pos k))⟩
    simp only [binOp_mul, Op.intArith, wrap_mul, Sem.run_pure]
  | quo =>
    obtain ⟨rfl, h1, h2, e⟩ := pos2_good (show R.good (iquo k a j b κ) from h)
    have e : iquo k a k b κ = _ := e
    have h : (iquo k a k b κ).good := h
    rw [e] at h
    obtain ⟨h3, e3⟩ := br_good h
    have h3 := ble_iff.1 h3
    refine ⟨_, e.trans (e3.trans (forceN_eq _ _)), .int k (dec k (a / b)), fun P t w => ?_, toInt k _ (Nat.lt_of_le_of_lt (Nat.div_le_self a b) ha)⟩
    have hd : a / b < Hk k := Nat.lt_of_le_of_lt (Nat.div_le_self a b) h1
    rw [binOp_quo, dec_nonneg h1, dec_nonneg h2, dec_nonneg hd]
    have hw : k.wrap ((a / b : Nat) : Int) = ((a / b : Nat) : Int) := by
      rw [wrap_nat k _ (Nat.lt_of_lt_of_le hd (Hk_le k)), dec_nonneg hd]
    simp only [Op.intDiv]
    rw [if_neg (by omega)]
    simp only [Sem.run_pure]
    rw [← hw, Int.ofNat_tdiv]
  | rem =>
    obtain ⟨rfl, h1, h2, e⟩ := pos2_good (show R.good (irem k a j b κ) from h)
    have e : irem k a k b κ = _ := e
    have h : (irem k a k b κ).good := h
    rw [e] at h
    obtain ⟨h3, e3⟩ := br_good h
    have h3 := ble_iff.1 h3
    have hd : a % b < Hk k := Nat.lt_of_le_of_lt (Nat.mod_le a b) h1
    refine ⟨_, e.trans (e3.trans (forceN_eq _ _)), .int k (dec k (a % b)), fun P t w => ?_, toInt k _ (Nat.lt_of_lt_of_le hd (Hk_le k))⟩
    rw [binOp_rem, dec_nonneg h1, dec_nonneg h2, dec_nonneg hd]
    simp only [Op.intDiv]
    rw [if_neg (by omega)]
    simp only [Sem.run_pure]
    rw [← Int.ofNat_tmod]
  | and =>
    obtain ⟨rfl, e⟩ := kb (show R.good (iand k a j b κ) from h)
    have hl : Nat.land a b < Mk k := and_lt a b _ ha
    refine ⟨_, (show iand k a k b κ = _ from e).trans (forceN_eq _ _), .int k (dec k (Nat.land a b)), fun P t w => ?_, toInt k _ hl⟩
    simp only [binOp_and, Op.intBits, BitVec.toNat_and, bv _ _ ha, bv _ _ hb, Sem.run_pure]
    rw [wrap_nat k (a &&& b) hl]; rfl
  | or =>
    obtain ⟨rfl, e⟩ := kb (show R.good (ior k a j b κ) from h)
    have hl : Nat.lor a b < Mk k := or_lt k a b ha hb
    refine ⟨_, (show ior k a k b κ = _ from e).trans (forceN_eq _ _), .int k (dec k (Nat.lor a b)), fun P t w => ?_, toInt k _ hl⟩
    simp only [binOp_or, Op.intBits, BitVec.toNat_or, bv _ _ ha, bv _ _ hb, Sem.run_pure]
    rw [wrap_nat k (a ||| b) hl]; rfl
  | xor =>
    obtain ⟨rfl, e⟩ := kb (show R.good (ixor k a j b κ) from h)
    have hl : Nat.xor a b < Mk k := xor_lt k a b ha hb
    refine ⟨_, (show ixor k a k b κ = _ from e).trans (forceN_eq _ _), .int k (dec k (Nat.xor a b)), fun P t w => ?_, toInt k _ hl⟩
    simp only [binOp_xor, Op.intBits, BitVec.toNat_xor, bv _ _ ha, bv _ _ hb, Sem.run_pure]
    rw [wrap_nat k (a ^^^ b) hl]; rfl
  | shl =>
    obtain ⟨h1, e1⟩ := br_good (show R.good (ishl k a j b κ) from h)
    have e1 : ishl k a j b κ = _ := e1
    have h1 := lt_of_ble h1
    have hr : ∀ P t w, (Go.binOp .shl t (.int k (dec k a)) (.int j (dec j b))).run P w = .ok (.int k (k.wrap (dec k a * 2 ^ min b k.bits))) w := fun P t w => by
      rw [binOp_shl, Op.shift, dec_nonneg h1, if_neg (by omega)]; simp
    by_cases hb64 : b ≤ 64
    · refine ⟨_, e1.trans ((by rw [ble_iff.2 hb64, br_true] : br (Nat.ble b 64) _ _ = _).trans (forceN_eq _ _)), .int k (dec k ((a <<< b) % Mk k)), fun P t w => ?_, toInt k _ (Nat.mod_lt _ (Mk_pos k))⟩
      rw [hr]
      congr 2
      apply wrap_eq
      rw [Nat.shiftLeft_eq]
      by_cases hbb : b ≤ k.bits
      · have e2 : ((2 : Int) ^ b) = ((2 ^ b : Nat) : Int) := by simp
        rw [Nat.min_eq_left hbb, Int.mul_emod, dec_emod, e2, ← Int.natCast_emod, ← Int.natCast_mul, ← Int.natCast_emod, ← Nat.mul_mod]
      · rw [Nat.min_eq_right (by omega), Int.mul_emod]
        have h0 : ((2 : Int) ^ k.bits) % (Mk k : Int) = 0 := by rw [bits_Mk]; simp
        have h0' : a * 2 ^ b % Mk k = 0 := by
          rw [bits_Mk, show b = k.bits + (b - k.bits) by omega, Nat.pow_add, ← Nat.mul_assoc, Nat.mul_right_comm]; exact Nat.mul_mod_left _ _
        rw [h0, h0']; simp
    · refine ⟨_, e1.trans (by rw [ble_false (by omega), br_false] : br (Nat.ble b 64) _ _ = _), .int k (dec k 0), fun P t w => ?_, toInt k _ (Mk_pos k)⟩
      rw [hr]
      congr 2
      apply wrap_eq
      have hbits : k.bits ≤ 64 := by cases k <;> simp [IntKind.bits]
      rw [Nat.min_eq_right (by omega), Int.mul_emod]
      have h0 : ((2 : Int) ^ k.bits) % (Mk k : Int) = 0 := by rw [bits_Mk]; simp
      rw [h0]; simp
  | shr =>
    obtain ⟨h1, e1⟩ := br_good (show R.good (ishr k a j b κ) from h)
    have e1 : ishr k a j b κ = _ := e1
    have h1 := lt_of_ble h1
    have h : (ishr k a j b κ).good := h
    rw [e1] at h
    obtain ⟨h2, e2⟩ := br_good h
    have h2 := lt_of_ble h2
    have hr : ∀ P t w, (Go.binOp .shr t (.int k (dec k a)) (.int j (dec j b))).run P w = .ok (.int k ((a : Int).fdiv (2 ^ min b k.bits))) w := fun P t w => by
      rw [binOp_shr, Op.shift, dec_nonneg h1, dec_nonneg h2, if_neg (by omega)]; simp
    have hf : ∀ n : Nat, (a : Int).fdiv (2 ^ n) = ((a / 2 ^ n : Nat) : Int) := fun n => by
      rw [Int.fdiv_eq_ediv_of_nonneg _ (by exact Int.le_of_lt (Int.pow_pos (by omega)))]; simp
    have hlt : ∀ n : Nat, a / 2 ^ n < Hk k := fun n => Nat.lt_of_le_of_lt (Nat.div_le_self _ _) h2
    by_cases hb64 : b ≤ 64
    · refine ⟨_, e1.trans (e2.trans ((by rw [ble_iff.2 hb64, br_true] : br (Nat.ble b 64) _ _ = _).trans (forceN_eq _ _))), .int k (dec k (a >>> b)), fun P t w => ?_, toInt k _ ?_⟩
      · rw [hr, hf, Nat.shiftRight_eq_div_pow, dec_nonneg (hlt b)]
        congr 3
        by_cases hbb : b ≤ k.bits
        · rw [Nat.min_eq_left hbb]
        · rw [Nat.min_eq_right (by omega)]
          have ha' : a < 2 ^ k.bits := by rw [← bits_Mk]; exact ha
          rw [Nat.div_eq_of_lt ha', Nat.div_eq_of_lt (Nat.lt_of_lt_of_le ha' (Nat.pow_le_pow_right (by omega) (by omega)))]
      · show a >>> b < Mk k
        rw [Nat.shiftRight_eq_div_pow]; exact Nat.lt_of_lt_of_le (hlt b) (Hk_le k)
    · refine ⟨_, e1.trans (e2.trans (by rw [ble_false (by omega), br_false] : br (Nat.ble b 64) _ _ = _)), .int k (dec k 0), fun P t w => ?_, toInt k _ (Mk_pos k)⟩
      have hbits : k.bits ≤ 64 := by cases k <;> simp [IntKind.bits]
      have ha' : a < 2 ^ k.bits := by rw [← bits_Mk]; exact ha
      rw [hr, hf, Nat.min_eq_right (by omega), Nat.div_eq_of_lt ha', dec_nonneg (by have := Hk k; cases k <;> simp [Hk])]
  | andNot =>
    obtain ⟨rfl, e⟩ := kb (show R.good (iandn k a j b κ) from h)
    have hl : Nat.land a (Mk k - 1 - b) < Mk k := and_lt a _ _ ha
    refine ⟨_, (show iandn k a k b κ = _ from e).trans (forceN_eq _ _), .int k (dec k (Nat.land a (Mk k - 1 - b))), fun P t w => ?_, toInt k _ hl⟩
    simp only [binOp_andNot, Op.intBits, BitVec.toNat_and, BitVec.toNat_not, bv _ _ ha, bv _ _ hb, Sem.run_pure, ← bits_Mk]
    rw [wrap_nat k (a &&& (Mk k - 1 - b)) hl]; rfl
  | eql =>
    obtain ⟨rfl, e⟩ := kb (show R.good (ieq k a j b κ) from h)
    refine ⟨_, (show ieq k a k b κ = _ from e).trans (forceB_eq _ _), .bool (Nat.beq a b), fun P t w => ?_, toBool _⟩
    rw [binOp_eql, Sem.run_pure]
    congr 2
    rw [Bool.eq_iff_iff, beq_iff_eq]
    exact ⟨fun h => by have := dec_inj ha hb h; subst this; exact Nat.beq_refl _, fun h => by rw [Nat.eq_of_beq_eq_true h]⟩
  | neq =>
    obtain ⟨rfl, e⟩ := kb (show R.good (ine k a j b κ) from h)
    have e : ine k a k b κ = _ := e
    by_cases hab : a = b
    · subst hab
      refine ⟨_, e.trans (by rw [Nat.beq_refl, br_true] : br (Nat.beq a a) _ _ = _), .bool false, fun P t w => ?_, toBool _⟩
      rw [binOp_neq, Sem.run_pure]; simp
    · have hf : Nat.beq a b = false := Bool.eq_false_iff.2 fun h => hab (Nat.eq_of_beq_eq_true h)
      refine ⟨_, e.trans (by rw [hf, br_false] : br (Nat.beq a b) _ _ = _), .bool true, fun P t w => ?_, toBool _⟩
      rw [binOp_neq, Sem.run_pure]
      congr 2
      rw [bne_iff_ne]
      exact fun h => hab (dec_inj ha hb h)
  | lss =>
    obtain ⟨rfl, e⟩ := kb (show R.good (ilt k a j b κ) from h)
    refine ⟨_, (show ilt k a k b κ = _ from e).trans (forceB_eq _ _), .bool (ltI k a b), fun P t w => ?_, toBool _⟩
    rw [binOp_lss, Sem.run_pure, ltI_iff ha hb]
  | gtr =>
    obtain ⟨rfl, e⟩ := kb (show R.good (igt k a j b κ) from h)
    refine ⟨_, (show igt k a k b κ = _ from e).trans (forceB_eq _ _), .bool (ltI k b a), fun P t w => ?_, toBool _⟩
    rw [binOp_gtr, Sem.run_pure, ltI_iff hb ha]
  | leq =>
    obtain ⟨rfl, e⟩ := kb (show R.good (ile k a j b κ) from h)
    have e : ile k a k b κ = _ := e
    cases hlt : ltI k b a with
    | true =>
      refine ⟨_, e.trans (by rw [hlt, br_true]), .bool false, fun P t w => ?_, toBool _⟩
      rw [ltI_iff hb ha] at hlt
      rw [binOp_leq, Sem.run_pure]
      congr 2
      exact decide_eq_false (by have := of_decide_eq_true hlt; omega)
    | false =>
      refine ⟨_, e.trans (by rw [hlt, br_false]), .bool true, fun P t w => ?_, toBool _⟩
      rw [ltI_iff hb ha] at hlt
      rw [binOp_leq, Sem.run_pure]
      congr 2
      exact decide_eq_true (by have := of_decide_eq_false hlt; omega)
  | geq =>
    obtain ⟨rfl, e⟩ := kb (show R.good (ige k a j b κ) from h)
    have e : ige k a k b κ = _ := e
    cases hlt : ltI k a b with
    | true =>
      refine ⟨_, e.trans (by rw [hlt, br_true]), .bool false, fun P t w => ?_, toBool _⟩
      rw [ltI_iff ha hb] at hlt
      rw [binOp_geq, Sem.run_pure]
      congr 2
      exact decide_eq_false (by have := of_decide_eq_true hlt; omega)
    | false =>
      refine ⟨_, e.trans (by rw [hlt, br_false]), .bool true, fun P t w => ?_, toBool _⟩
      rw [ltI_iff ha hb] at hlt
      rw [binOp_geq, Sem.run_pure]
      congr 2
      exact decide_eq_true (by have := of_decide_eq_false hlt; omega)
theorem toStr (s : ByteArray) (ρ : Env) (φ : Emb) : rel ρ φ (.str s.size (encL s.data.toList)) (.string s) := by
  simp only [rel]; exact ⟨s, rfl, rfl, rfl⟩
theorem size_data (s : ByteArray) : s.data.toList.length = s.size := by simp
theorem seqB_iff (x y : ByteArray) : seqB x.size (encL x.data.toList) y.size (encL y.data.toList) = (x.toList == y.toList) := by
  rw [ByteArray.toList_eq, ByteArray.toList_eq, Bool.eq_iff_iff, beq_iff_eq]
  simp only [seqB, Bool.and_eq_true]
  constructor
  · rintro ⟨h1, h2⟩
    exact encL_inj (by rw [size_data, size_data]; exact Nat.eq_of_beq_eq_true h1) (Nat.eq_of_beq_eq_true h2)
  · intro h
    refine ⟨?_, by rw [h]; exact Nat.beq_refl _⟩
    rw [← size_data, ← size_data, h]; exact Nat.beq_refl _
theorem sltB_iff (x y : List UInt8) : sltB x.length (encL x) y.length (encL y) = Op.bytesLess x y := by
  induction x generalizing y with
  | nil => cases y with
    | nil => rfl
    | cons b y => rfl
  | cons a x ih =>
    cases y with
    | nil => rfl
    | cons b y =>
      show br (Nat.beq (lo (encL (a :: x)) 1) (lo (encL (b :: y)) 1)) (sltB x.length (sh (encL (a :: x)) 1) y.length (sh (encL (b :: y)) 1)) (Nat.ble (Nat.succ (lo (encL (a :: x)) 1)) (lo (encL (b :: y)) 1)) = _
      have ha := a.toNat_lt; have hb := b.toNat_lt
      have l1 : lo (encL (a :: x)) 1 = a.toNat := by rw [lo_eq]; simp only [encL]; omega
      have l2 : lo (encL (b :: y)) 1 = b.toNat := by rw [lo_eq]; simp only [encL]; omega
      have s1 : sh (encL (a :: x)) 1 = encL x := by rw [sh_eq]; simp only [encL]; omega
      have s2 : sh (encL (b :: y)) 1 = encL y := by rw [sh_eq]; simp only [encL]; omega
      rw [l1, l2, s1, s2, ih, Op.bytesLess]
      by_cases hab : a = b
      · subst hab
        rw [Nat.beq_refl, br_true]; simp
      · have hne : a.toNat ≠ b.toNat := fun h => hab (UInt8.toNat_inj.1 h)
        rw [Bool.eq_false_iff.2 fun h => hne (Nat.eq_of_beq_eq_true h), br_false, ble_decide]
        have : (a == b) = false := by simpa using hab
        rw [this]; simp [UInt8.lt_iff_toNat_lt]; rfl
theorem sbin_good (op : BinOp) (x y : ByteArray) (κ : V → R) (h : (sbin op x.size (encL x.data.toList) y.size (encL y.data.toList) κ).good) :
    ∃ v, sbin op x.size (encL x.data.toList) y.size (encL y.data.toList) κ = κ v ∧ BinTo op (.string x) (.string y) v := by
  have hlt := fun (x y : ByteArray) => (by
    have := sltB_iff x.data.toList y.data.toList
    rw [size_data, size_data, ← ByteArray.toList_eq, ← ByteArray.toList_eq] at this
    rw [← ByteArray.toList_eq, ← ByteArray.toList_eq]; exact this : sltB x.size (encL x.data.toList) y.size (encL y.data.toList) = Op.bytesLess x.toList y.toList)
  have hrun : ∀ P t w, (Go.binOp op t (.string x) (.string y)).run P w = (Op.stringOp op x y).run P w := fun P t w => by cases op <;> rfl
  cases op with
  | add =>
    have e : sbin .add x.size (encL x.data.toList) y.size (encL y.data.toList) κ = _ := forceN_eq (Nat.add x.size y.size) (fun l => br (Nat.ble l 1000000000) (forceN (Nat.add (encL x.data.toList) (up (encL y.data.toList) x.size)) fun r => κ (.str l r)) (.fail "a long string"))
    rw [e] at h
    obtain ⟨h1, e1⟩ := br_good h
    have h1 : x.size + y.size ≤ 1000000000 := ble_iff.1 h1
    refine ⟨_, e.trans (e1.trans (forceN_eq _ _)), .string (x ++ y), fun P t w => ?_, fun ρ φ => ?_⟩
    · rw [hrun, Op.stringOp]
      rw [if_neg (by rw [IntKind.max_i64]; omega), Sem.run_pure]
    · have := toStr (x ++ y) ρ φ
      have e2 : (x ++ y).data.toList = x.data.toList ++ y.data.toList := by simp
      rw [e2, encL_append, size_data, ByteArray.size_append] at this
      rw [up_eq]; exact this
  | eql =>
    refine ⟨_, (forceB_eq (seqB x.size (encL x.data.toList) y.size (encL y.data.toList)) (fun r => κ (.bool r)) : sbin .eql x.size (encL x.data.toList) y.size (encL y.data.toList) κ = _), .bool (x.toList == y.toList), fun P t w => by rw [hrun]; rfl, fun ρ φ => ?_⟩
    rw [seqB_iff]; exact toBool _ ρ φ
  | neq =>
    have e : sbin .neq x.size (encL x.data.toList) y.size (encL y.data.toList) κ = br (x.toList == y.toList) (κ (.bool false)) (κ (.bool true)) := by rw [← seqB_iff]; rfl
    refine ⟨.bool !(x.toList == y.toList), ?_, .bool !(x.toList == y.toList), fun P t w => by rw [hrun]; rfl, fun ρ φ => toBool _ ρ φ⟩
    rw [e]; cases (x.toList == y.toList) <;> rfl
  | lss =>
    refine ⟨_, (forceB_eq (sltB x.size (encL x.data.toList) y.size (encL y.data.toList)) (fun r => κ (.bool r)) : sbin .lss x.size (encL x.data.toList) y.size (encL y.data.toList) κ = _), .bool (Op.bytesLess x.toList y.toList), fun P t w => by rw [hrun]; rfl, fun ρ φ => ?_⟩
    rw [hlt]; exact toBool _ ρ φ
  | geq =>
    have e : sbin .geq x.size (encL x.data.toList) y.size (encL y.data.toList) κ = br (Op.bytesLess x.toList y.toList) (κ (.bool false)) (κ (.bool true)) := by rw [← hlt]; rfl
    refine ⟨.bool !(Op.bytesLess x.toList y.toList), ?_, .bool !(Op.bytesLess x.toList y.toList), fun P t w => by rw [hrun]; rfl, fun ρ φ => toBool _ ρ φ⟩
    rw [e]; cases (Op.bytesLess x.toList y.toList) <;> rfl
  | leq => exact h.elim
  | gtr => exact h.elim
  | _ => exact h.elim
end Go.Ev

namespace Go.Ev
set_option linter.unusedVariables false
section
variable {P : Program} {ρ : Env} {φ : Emb} {w : World}
theorem addr_add (b off i : Nat) : (⟨b, off, none⟩ : Addr).add i = ⟨b, off + i, none⟩ := by
  unfold Addr.add; split
  · simp_all
  · rfl
theorem cell_at {b i : Nat} {c : Array Value} {e : TypeId} {fr : Nat × Nat} {x : Value} (h : w.heap[b]? = some (.cells c e fr)) (hx : c[i]? = some x) : w.cell? ⟨b, i, none⟩ = some x := by
  simp [World.cell?, h, hx]
theorem frozen_at {b i : Nat} {c : Array Value} {e : TypeId} {fr : Nat × Nat} (h : w.heap[b]? = some (.cells c e fr)) (hf : Frz fr c.size) (hi : i < c.size) : w.frozen? ⟨b, i, none⟩ = false := by
  obtain ⟨lo, hi'⟩ := fr
  simp only [World.frozen?, h, Bool.and_eq_false_iff, decide_eq_false_iff_not]
  rcases hf with hf | hf <;> simp at hf <;> omega
theorem wput_id {b : Nat} {O : Obj} (h : w.heap[b]? = some O) : wput w b O = w := by
  obtain ⟨hb, e⟩ := Array.getElem?_eq_some_iff.1 h
  unfold wput
  cases w with
  | mk heap tape drawn os output =>
    simp only [World.mk.injEq, and_true]
    apply Array.ext_getElem?
    intro k
    rw [Array.getElem?_setIfInBounds]
    by_cases hk : b = k
    · subst hk; rw [if_pos rfl, if_pos hb]; exact h.symm
    · rw [if_neg hk]
theorem wput_wput {b : Nat} {O O' : Obj} : wput (wput w b O) b O' = wput w b O' := by
  simp [wput]
theorem setCell_wput {b i : Nat} {c : Array Value} {e : TypeId} {fr : Nat × Nat} {v : Value} (h : w.heap[b]? = some (.cells c e fr)) :
    w.setCell ⟨b, i, none⟩ v = wput w b (.cells (c.setIfInBounds i v) e fr) := by
  obtain ⟨hb, e'⟩ := Array.getElem?_eq_some_iff.1 h
  unfold World.setCell wput
  cases w with
  | mk heap tape drawn os output =>
    congr 1
    apply Array.ext_getElem?
    intro k
    rw [Array.getElem?_modify, Array.getElem?_setIfInBounds]
    by_cases hk : b = k
    · subst hk; simp [hb, e']
    · simp [hk]
theorem freeze_wput {b off : Nat} {c : Array Value} {e : TypeId} {fr : Nat × Nat} (h : w.heap[b]? = some (.cells c e fr)) :
    w.freeze { block := b, off := off } 1 = wput w b (.cells c e (if fr.1 == fr.2 then (off, off + 1) else (min fr.1 off, max fr.2 (off + 1)))) := by
  obtain ⟨hb, e'⟩ := Array.getElem?_eq_some_iff.1 h
  unfold World.freeze wput
  cases w with
  | mk heap tape drawn os output =>
    simp only [Nat.one_ne_zero, if_false]
    congr 1
    apply Array.ext_getElem?
    intro k
    rw [Array.getElem?_modify, Array.getElem?_setIfInBounds]
    by_cases hk : b = k
    · subst hk; simp only at e'; simp [hb, e']
    · simp [hk]
theorem wput_alloc {O O' : Obj} : wput (w.alloc O) w.heap.size O' = w.alloc O' := by
  unfold wput World.alloc
  congr 1
  apply Array.ext_getElem?
  intro k
  rw [Array.getElem?_setIfInBounds]
  by_cases hk : w.heap.size = k
  · subst hk; simp
  · simp [hk, Array.getElem?_push, Ne.symm hk]
theorem alloc_at {O : Obj} : (w.alloc O).heap[w.heap.size]? = some O := by show (w.heap.push O)[w.heap.size]? = _; simp
theorem run_storeCells (vs : List Value) : ∀ (w : World) (b off i : Nat) (c : Array Value) (e : TypeId) (fr : Nat × Nat), w.heap[b]? = some (.cells c e fr) → off + i + vs.length ≤ c.size → Frz fr c.size →
    (∀ v ∈ vs, v.oneCell' = true) → ∃ c' : Array Value, c'.size = c.size ∧ (∀ j, (j < off + i ∨ off + i + vs.length ≤ j) → c'[j]? = c[j]?) ∧ (∀ (j : Nat) (v : Value), vs[j]? = some v → c'[off + i + j]? = some v) ∧
      (storeCells ⟨b, off, none⟩ vs i).run P w = .ok () (wput w b (.cells c' e fr)) := by
  induction vs with
  | nil => intro w b off i c e fr h _ _ _; exact ⟨c, rfl, fun _ _ => rfl, fun j v hv => by simp at hv, by rw [wput_id h]; rfl⟩
  | cons v vs ih =>
    intro w b off i c e fr h hl hf h1
    simp only [List.length_cons] at hl
    have hi : off + i < c.size := by omega
    have hst : (store ((⟨b, off, none⟩ : Addr).add i) v).run P w = .ok () (wput w b (.cells (c.setIfInBounds (off + i) v) e fr)) := by
      rw [addr_add, run_store P w _ v _ (h1 v (by simp)), cell_at h (Array.getElem?_eq_getElem hi)]
      simp only [frozen_at h hf hi, Bool.false_eq_true, if_false]
      rw [setCell_wput h]
    have hb : b < w.heap.size := (Array.getElem?_eq_some_iff.1 h).1
    obtain ⟨c', g1, g2, g3, g4⟩ := ih (wput w b (.cells (c.setIfInBounds (off + i) v) e fr)) b off (i + 1) (c.setIfInBounds (off + i) v) e fr (wput_same hb)
      (by simp; omega) (by simpa using hf) (fun x hx => h1 x (by simp [hx]))
    refine ⟨c', by simpa using g1, fun j hj => ?_, fun j u hu => ?_, ?_⟩
    · rw [g2 j (by simp only [List.length_cons] at hj; omega)]
      rw [Array.getElem?_setIfInBounds, if_neg (by simp only [List.length_cons] at hj; omega)]
    · cases j with
      | zero =>
        simp at hu; subst hu
        rw [g2 (off + i + 0) (by omega), Array.getElem?_setIfInBounds]; simp [hi]
      | succ j =>
        have := g3 j u (by simpa using hu)
        rw [← this]; congr 1; omega
    · rw [storeCells]
      simp only [Sem.run_bind, hst, Result.andThen_ok, g4, wput_wput]
/-- A row of cells, read. -/
theorem run_rows {b off : Nat} {c : Array Value} {e : TypeId} {fr : Nat × Nat} (vs : List Value) (h : w.heap[b]? = some (.cells c e fr)) (hv : ∀ (j : Nat) (v : Value), vs[j]? = some v → c[off + j]? = some v) :
    (loadCells ⟨b, off, none⟩ vs.length).run P w = .ok vs.toArray w :=
  run_loadCells_list w _ vs fun j v hj => by rw [addr_add]; exact cell_at h (hv j v hj)
/-- Cells that an object tells of, as a list of values. -/
theorem cs_list {cs : Cs} {f : Nat → Option Value} (h : CsOK ρ φ cs f) : ∃ vs : List Value, vs.length = cs.len ∧ (∀ (j : Nat) (v : Value), vs[j]? = some v → f j = some v) ∧ (∀ v ∈ vs, v.oneCell' = true) ∧
    (∀ l : List V, l.length = cs.len → (∀ i : Nat, l[i]? = cs.at i) → rels ρ φ l vs) := by
  have key : ∀ m, m ≤ cs.len → ∃ vs : List Value, vs.length = m ∧ ∀ (j : Nat) (v : Value), vs[j]? = some v → f j = some v ∧ v.oneCell' = true ∧ ∀ u, cs.at j = some u → rel ρ φ u v := by
    intro m
    induction m with
    | zero => exact fun _ => ⟨[], rfl, fun j v hv => by simp at hv⟩
    | succ m ih =>
      intro hm
      obtain ⟨vs, h1, h2⟩ := ih (by omega)
      obtain ⟨u, hu⟩ := Cs.at_lt (cs := cs) (i := m) (by omega)
      obtain ⟨x, hx, hr, ho⟩ := h m u hu
      refine ⟨vs ++ [x], by simp [h1], fun j v hv => ?_⟩
      by_cases hj : j < m
      · rw [List.getElem?_append_left (by omega)] at hv; exact h2 j v hv
      · rw [List.getElem?_append_right (by omega), h1] at hv
        have hjm : j = m := by
          rcases Nat.eq_or_lt_of_le (Nat.le_of_not_lt hj) with e | e
          · exact e.symm
          · rw [List.getElem?_eq_none (by simp; omega)] at hv; cases hv
        subst hjm
        simp at hv; subst hv
        exact ⟨hx, ho, fun u' hu' => by rw [hu] at hu'; cases hu'; exact hr⟩
  obtain ⟨vs, h1, h2⟩ := key cs.len (Nat.le_refl _)
  refine ⟨vs, h1, fun j v hv => (h2 j v hv).1, fun v hv => ?_, fun l hl hla => ?_⟩
  · obtain ⟨j, hj, rfl⟩ := List.getElem_of_mem hv
    exact (h2 j _ (List.getElem?_eq_getElem hj)).2.1
  · refine rels_iff.2 ⟨by omega, fun i u hu => ?_⟩
    have hi : i < vs.length := by
      rcases Nat.lt_or_ge i vs.length with h' | h'
      · exact h'
      · rw [List.getElem?_eq_none (by omega)] at hu; cases hu
    exact ⟨vs[i], List.getElem?_eq_getElem hi, (h2 i _ (List.getElem?_eq_getElem hi)).2.2 u (by rw [← hla i]; exact hu)⟩
theorem cs_range {cs y : Cs} {off m : Nat} {f : Nat → Option Value} (h : CsOK ρ φ cs f) (hl : y.len = m) (ha : ∀ i, i < m → y.at i = cs.at (off + i)) : CsOK ρ φ y fun i => f (off + i) := fun i v hv => by
  have hi := Cs.lt_of_at hv
  rw [ha i (by omega)] at hv
  exact h (off + i) v hv
end
structure TR (ρ : Env) (N : Nat) (φ : Emb) (t : Regs) (a : Act) : Prop where
  size : a.tmps.size = N
  defers : a.defers = []
  at_ : ∀ s p, s < N → K2.ofN s = some p → rel ρ φ (rget p t) (a.tmps.getD s undef)
theorem TR.mono {ρ : Env} {N : Nat} {φ φ' : Emb} {t : Regs} {a : Act} (h : TR ρ N φ t a) (hle : Emb.le φ φ') : TR ρ N φ' t a :=
  ⟨h.size, h.defers, fun s p h1 h2 => rel_mono hle (h.at_ s p h1 h2)⟩
section
variable (P : Program) (ρ : Env) (B N : Nat)
/-- One operation's step: whatever world the abstract state tells of, it comes to one that the new abstract state tells of. -/
def StepOK (o : Oper) (t : Regs) (h : Heap) (n : K4) (v : V) (h1 : Heap) (n1 : K4) : Prop :=
  ∀ (φ : Emb) (a : Act) (w : World), TR ρ N φ t a → Gam ρ B h n φ w → ∀ (K : Act → World → Prop) (Q : Exit → Act → World → Prop),
    (∀ φ' x w', Fr h h1 φ φ' n n1 w w' → Gam ρ B h1 n1 φ' w' → rel ρ φ' v x → K (a.put o.dst x) w') → o.wp P a w K Q
/-- All ways that begin well end well. -/
def Sound (o : Oper) (f : KV → R) (t : Regs) (h : Heap) (n : K4) : Prop :=
  ∀ κ : KV, (f κ).good → ∃ v h1 n1, f κ = κ v h1 n1 ∧ StepOK P ρ B N o t h n v h1 n1
/-- An operation that leaves the world as it is. -/
def PureOK (o : Oper) (t : Regs) (h : Heap) (n : K4) (v : V) : Prop :=
  ∀ φ a w, TR ρ N φ t a → Gam ρ B h n φ w → ∃ x, (execOp a.eval o).run P w = .ok (.value x) w ∧ rel ρ φ v x
def SoundP (o : Oper) (f : KV → R) (t : Regs) (h : Heap) (n : K4) : Prop :=
  ∀ κ : KV, (f κ).good → ∃ v, f κ = κ v h n ∧ PureOK P ρ B N o t h n v
end
section
variable {P : Program} {ρ : Env} {B N : Nat}
theorem StepOK.value {o : Oper} {t : Regs} {h h1 : Heap} {n n1 : K4} {v : V}
    (H : ∀ φ a w, TR ρ N φ t a → Gam ρ B h n φ w → ∃ φ' x w', (execOp a.eval o).run P w = .ok (.value x) w' ∧ Fr h h1 φ φ' n n1 w w' ∧ Gam ρ B h1 n1 φ' w' ∧ rel ρ φ' v x) : StepOK P ρ B N o t h n v h1 n1 := by
  intro φ a w ht hg K Q hK
  obtain ⟨φ', x, w', e, h1, h2, h3⟩ := H φ a w ht hg
  unfold Oper.wp
  rw [e]
  exact hK φ' x w' h1 h2 h3
theorem StepOK.skip {o : Oper} {t : Regs} {h h1 : Heap} {n n1 : K4}
    (H : ∀ φ a w, TR ρ N φ t a → Gam ρ B h n φ w → ∃ φ' w', (execOp a.eval o).run P w = .ok .skip w' ∧ Fr h h1 φ φ' n n1 w w' ∧ Gam ρ B h1 n1 φ' w') : StepOK P ρ B N o t h n undV h1 n1 := by
  intro φ a w ht hg K Q hK
  obtain ⟨φ', w', e, h1, h2⟩ := H φ a w ht hg
  unfold Oper.wp
  rw [e]
  exact hK φ' undef w' h1 h2 (by simp only [undV, rel, undef]; exact ⟨#[], rfl, by simp only [rels]⟩)
/-- Nothing of the world turns. -/
theorem StepOK.pure {o : Oper} {t : Regs} {h : Heap} {n : K4} {v : V}
    (H : ∀ φ a w, TR ρ N φ t a → Gam ρ B h n φ w → ∃ x, (execOp a.eval o).run P w = .ok (.value x) w ∧ rel ρ φ v x) : StepOK P ρ B N o t h n v h n :=
  .value fun φ a w ht hg => let ⟨x, e, hr⟩ := H φ a w ht hg; ⟨φ, x, w, e, .refl h φ n w, hg, hr⟩
theorem SoundP.sound {o : Oper} {f : KV → R} {t : Regs} {h : Heap} {n : K4} (H : SoundP P ρ B N o f t h n) : Sound P ρ B N o f t h n := fun κ hg =>
  let ⟨v, e, hp⟩ := H κ hg
  ⟨v, h, n, e, .pure hp⟩
theorem cScalar_rel {v : Value} {c : V} (h : cScalar v = some c) (φ : Emb) : rel ρ φ c v ∧ v.oneCell' = true := by
  unfold cScalar at h
  split at h
  · cases h; exact ⟨by simp only [rel], rfl⟩
  · rename_i k n
    split at h
    · split at h
      · rename_i m hm
        cases h
        have := lt_of_ble hm
        refine ⟨?_, rfl⟩
        simp only [rel]
        exact ⟨Nat.lt_of_lt_of_le this (Hk_le k), by rw [dec_nonneg this]; rfl⟩
      · cases h
    · split at h
      · rename_i m hm
        cases h
        have := ble_iff.1 hm
        simp only [Nat.add_eq] at this
        refine ⟨?_, rfl⟩
        simp only [rel]
        have hH := Mk_pos k
        refine ⟨by show Mk k - (m + 1) < Mk k; omega, ?_⟩
        rw [show Nat.sub (Mk k) (Nat.succ m) = Mk k - (m + 1) from rfl, dec_neg (by omega)]
        congr 1
        omega
      · cases h
  all_goals first
    | (cases h; exact ⟨toStr _ ρ φ, rfl⟩)
    | (cases h; exact ⟨by simp only [rel, nilOf], rfl⟩)
    | (simp at h)
theorem cList_rel : ∀ {vs : List Value} {l : List V}, cList vs = some l → ∀ φ : Emb, rels ρ φ l vs ∧ ∀ v ∈ vs, v.oneCell' = true
  | [], l, h, φ => by simp only [cList, Option.some.injEq] at h; subst h; exact ⟨rels_nil.2 rfl, by simp⟩
  | v :: vs, l, h, φ => by
    simp only [cList] at h
    split at h
    · rename_i x xs hx hxs
      cases h
      obtain ⟨h1, h2⟩ := cList_rel hxs φ
      obtain ⟨h3, h4⟩ := cScalar_rel (ρ := ρ) hx φ
      exact ⟨rels_cons.2 ⟨v, vs, rfl, h3, h1⟩, by simpa using ⟨h4, h2⟩⟩
    · cases h
theorem cConst_rel {v : Value} {c : V} (h : cConst v = some c) (φ : Emb) : rel ρ φ c v := by
  unfold cConst at h
  split at h
  · rename_i cs
    cases hl : cList cs.toList with
    | none => rw [hl] at h; cases h
    | some l =>
      rw [hl] at h; cases h
      simp only [rel]
      exact ⟨cs, rfl, (cList_rel hl φ).1, (cList_rel (ρ := ρ) hl φ).2⟩
  · rename_i cs
    split at h
    · cases h
      rename_i he
      simp only [rel]
      exact ⟨cs, rfl, rels_nil.2 (by simpa using he)⟩
    · cases h
  · rename_i f first caps
    split at h
    · cases h
      rename_i he
      simp at he
      simp only [rel]
      exact ⟨#[], by rw [he.1, he.2], by simp only [rels]⟩
    · cases h
  · exact (cScalar_rel h φ).1
theorem cOpd_rel {o : Operand} {x : Opd} (h : cOpd N o = some x) {φ : Emb} {t : Regs} {a : Act} (ht : TR ρ N φ t a) : rel ρ φ (ev x t) (a.eval o) := by
  unfold cOpd at h
  split at h
  · rename_i s
    unfold cSlot at h
    split at h
    · rename_i hs
      cases hk : K2.ofN s with
      | none => rw [hk] at h; cases h
      | some p => rw [hk] at h; cases h; exact ht.at_ s p hs hk
    · cases h
  · rename_i v
    cases hc : cConst v with
    | none => rw [hc] at h; cases h
    | some c => rw [hc] at h; cases h; exact cConst_rel hc φ
  · cases h
    simp only [ev, Act.eval, rel]
    exact ⟨#[], rfl, by simp only [rels]⟩
  · cases h
theorem cOpds_rel : ∀ {os : List Operand} {xs : List Opd}, cOpds N os = some xs → ∀ {φ : Emb} {t : Regs} {a : Act}, TR ρ N φ t a → rels ρ φ (xs.map (ev · t)) (os.map a.eval)
  | [], xs, h, φ, t, a, ht => by simp only [cOpds, Option.some.injEq] at h; subst h; exact rels_nil.2 rfl
  | o :: os, xs, h, φ, t, a, ht => by
    simp only [cOpds] at h
    split at h
    · rename_i x ys hx hys
      cases h
      exact rels_cons.2 ⟨_, _, rfl, cOpd_rel hx ht, cOpds_rel hys ht⟩
    · cases h
theorem run_sizeOf {t : TypeId} {s : Nat} (h : cSize P t = some s) (w : World) : (sizeOf t).run P w = .ok s w := by
  unfold cSize at h
  cases hi : P.info? t with
  | none => rw [hi] at h; cases h
  | some i => rw [hi] at h; cases h; simp [sizeOf, typeInfo, hi]
theorem run_isAgg {t : TypeId} {b : Bool} (h : cAgg P t = some b) (w : World) : (isAgg t).run P w = .ok b w := by
  unfold cAgg at h
  cases hi : P.underlying t with
  | none => rw [hi] at h; cases h
  | some d =>
    rw [hi] at h; cases h
    unfold isAgg
    cases d <;> simp [run_underlying hi]
theorem run_zeroValue {t : TypeId} {z : Value} (h : (P.info? t).bind (·.zero) = some z) (w : World) : (zeroValue t).run P w = .ok z w := by
  cases hi : P.info? t with
  | none => rw [hi] at h; cases h
  | some i =>
    rw [hi] at h
    simp only [Option.bind_some] at h
    simp [zeroValue, typeInfo, hi, h]
end
end Go.Ev

namespace Go.Ev
set_option linter.unusedVariables false
section
variable {P : Program} {ρ : Env} {φ : Emb} {w : World}
theorem rel_int {k : IntKind} {r : Nat} {x : Value} (h : rel ρ φ (.int k r) x) : r < Mk k ∧ x = .int k (dec k r) := by simpa only [rel] using h
theorem rel_bool {b : Bool} {x : Value} (h : rel ρ φ (.bool b) x) : x = .bool b := by simpa only [rel] using h
theorem rel_str {n c : Nat} {x : Value} (h : rel ρ φ (.str n c) x) : ∃ s : ByteArray, x = .string s ∧ s.size = n ∧ encL s.data.toList = c := by simpa only [rel] using h
theorem rel_agg {l : List V} {x : Value} (h : rel ρ φ (.agg l) x) : ∃ cs : Array Value, x = .agg cs ∧ rels ρ φ l cs.toList ∧ ∀ y ∈ cs.toList, y.oneCell' = true := by simpa only [rel] using h
theorem rel_tup {l : List V} {x : Value} (h : rel ρ φ (.tup l) x) : ∃ cs : Array Value, x = .tuple cs ∧ rels ρ φ l cs.toList := by simpa only [rel] using h
theorem rel_nil {u : Nl} {x : Value} (h : rel ρ φ (.nil u) x) : x = nilOf u := by simpa only [rel] using h
theorem rel_ptr {p : K4} {off : Nat} {x : Value} (h : rel ρ φ (.ptr p off) x) : ∃ b s tot, φ p = some (b, s, tot) ∧ x = .pointer (some ⟨b, s + off, none⟩) := by simpa only [rel] using h
theorem rel_map {p : K4} {x : Value} (h : rel ρ φ (.map p) x) : ∃ b s tot, φ p = some (b, s, tot) ∧ x = .map (some b) := by simpa only [rel] using h
theorem rel_fn {f : Nat} {l : List V} {x : Value} (h : rel ρ φ (.fn f l) x) : ∃ cs : Array Value, x = .func (.func f) #[] cs ∧ rels ρ φ l cs.toList := by simpa only [rel] using h
theorem rel_sl {p : K4} {off len cap : Nat} {ex : Bool} {esz : Nat} {x : Value} (h : rel ρ φ (.sl p off len cap ex esz) x) :
    ∃ b s tot o cap', φ p = some (b, s, tot) ∧ x = .slice (some ⟨b, o, none⟩) len cap' ∧ len ≤ cap ∧ cap ≤ cap' ∧ (ex = true → cap' = cap) ∧ (0 < cap' → o = s + off ∧ o + cap' * esz ≤ tot) := by simpa only [rel] using h
def ScEq (k : Sc) (X Y : Value) (r : Bool) : Prop :=
  match k with
  | .i => ∃ kd a b, X = .int kd a ∧ Y = .int kd b ∧ r = (a == b)
  | .s => ∃ s u, X = .string s ∧ Y = .string u ∧ r = (s.toList == u.toList)
  | .b => ∃ a b, X = .bool a ∧ Y = .bool b ∧ r = (a == b)
theorem eqSc_good {k : Sc} {x y : V} {κ : Bool → R} (h : (eqSc k x y κ).good) :
    ∃ r, (∀ κ', eqSc k x y κ' = κ' r) ∧ ∀ X Y, rel ρ φ x X → rel ρ φ y Y → ScEq k X Y r := by
  cases k with
  | i =>
    obtain ⟨kd, a, rfl, e⟩ := asI_good (show R.good (asI x _) from h)
    have h : R.good (asI y _) := h
    obtain ⟨j, b, rfl, e'⟩ := asI_good h
    have h : R.good (br (kbeq kd j) (forceB (Nat.beq a b) κ) (.fail "kinds")) := h
    obtain ⟨rfl, _⟩ := kb h
    have hk : kbeq kd kd = true := kbeq_iff.2 rfl
    refine ⟨Nat.beq a b, fun κ' => ?_, fun X Y hx hy => ?_⟩
    · show br (kbeq kd kd) (forceB (Nat.beq a b) κ') (.fail "kinds") = _
      rw [hk, br_true, forceB_eq]
    · obtain ⟨ha, rfl⟩ := rel_int hx
      obtain ⟨hb, rfl⟩ := rel_int hy
      refine ⟨kd, _, _, rfl, rfl, ?_⟩
      rw [Bool.eq_iff_iff, beq_iff_eq]
      exact ⟨fun h => by rw [Nat.eq_of_beq_eq_true h], fun h => by have := dec_inj ha hb h; subst this; exact Nat.beq_refl _⟩
  | s =>
    obtain ⟨n, c, rfl, e⟩ := asStr_good (show R.good (asStr x _) from h)
    have h : R.good (asStr y _) := h
    obtain ⟨m, d, rfl, e'⟩ := asStr_good h
    refine ⟨seqB n c m d, fun κ' => forceB_eq _ _, fun X Y hx hy => ?_⟩
    obtain ⟨s, rfl, rfl, rfl⟩ := rel_str hx
    obtain ⟨u, rfl, rfl, rfl⟩ := rel_str hy
    exact ⟨s, u, rfl, rfl, seqB_iff s u⟩
  | b =>
    obtain ⟨b, rfl, e⟩ := asB_good (show R.good (asB x _) from h)
    have h : R.good (asB y _) := h
    obtain ⟨c, rfl, e'⟩ := asB_good h
    refine ⟨b == c, fun κ' => by cases b <;> cases c <;> rfl, fun X Y hx hy => ?_⟩
    exact ⟨b, c, rel_bool hx, rel_bool hy, rfl⟩
theorem run_equalSc {k : Sc} {t : TypeId} (hk : cSc P t = some k) {X Y : Value} {r : Bool} (h : ScEq k X Y r) (d : Nat) : (Op.equalIn (d + 1) t X Y).run P w = .ok r w := by
  unfold cSc at hk
  split at hk
  · cases hk
    rename_i kd hu
    obtain ⟨kd', a, b, rfl, rfl, rfl⟩ := h
    simp [Op.equalIn, run_underlying hu]
  · cases hk
    rename_i hu
    obtain ⟨s, u, rfl, rfl, rfl⟩ := h
    simp [Op.equalIn, run_underlying hu, beq_toListBytes]
  · cases hk
    rename_i hu
    obtain ⟨s, u, rfl, rfl, rfl⟩ := h
    simp [Op.equalIn, run_underlying hu]
  · cases hk
theorem isAgg_sc {k : Sc} {t : TypeId} (hk : cSc P t = some k) : (isAgg t).run P w = .ok false w := by
  unfold cSc at hk
  split at hk
  · rename_i hu; simp [isAgg, run_underlying hu]
  · rename_i hu; simp [isAgg, run_underlying hu]
  · rename_i hu; simp [isAgg, run_underlying hu]
  · cases hk
theorem run_part_sc {k : Sc} {t : TypeId} (hk : cSc P t = some k) {cs : Array Value} {off : Nat} {v : Value} (h : cs[off]? = some v) : (part t cs off).run P w = .ok v w := by
  simp [part, isAgg_sc hk, h]
theorem eqAt_good : ∀ {fs : List Field} {offs : List (Nat × Sc)}, cOffs P fs = some offs → ∀ {a b : List V} {κ : Bool → R}, (eqAt offs a b κ).good →
    ∃ r, (∀ κ', eqAt offs a b κ' = κ' r) ∧ ∀ (xs ys : Array Value) (d : Nat) (w : World), rels ρ φ a xs.toList → rels ρ φ b ys.toList → (Op.eqFields (d + 1) xs ys fs).run P w = .ok r w
  | [], offs, ho, a, b, κ, h => by
    simp only [cOffs, Option.some.injEq] at ho; subst ho
    exact ⟨true, fun _ => rfl, fun xs ys d w _ _ => rfl⟩
  | f :: fs, offs, ho, a, b, κ, h => by
    simp only [cOffs] at ho
    split at ho
    · rename_i hn
      split at ho
      · rename_i k r hk hr
        cases ho
        obtain ⟨u, hu, e1⟩ := nthK_good (show R.good (nthK f.offset a _) from h)
        have h : R.good (nthK f.offset a _) := h
        rw [e1] at h
        obtain ⟨v, hv, e2⟩ := nthK_good h
        rw [e2] at h
        obtain ⟨q, e3, hq⟩ := eqSc_good (ρ := ρ) (φ := φ) h
        rw [e3] at h
        have unf : ∀ κ', eqAt ((f.offset, k) :: r) a b κ' = br q (eqAt r a b κ') (κ' false) := fun κ' => by
          show nthK f.offset a (fun u => nthK f.offset b fun v => eqSc k u v fun q => br q (eqAt r a b κ') (κ' false)) = _
          have n1 : ∀ (l : List V) (i : Nat) (x : V) (κ : V → R), l[i]? = some x → nthK i l κ = κ x := fun l i => by
            induction i generalizing l with
            | zero => intro x κ hx; cases l with
              | nil => simp at hx
              | cons y l => simp at hx; subst hx; rfl
            | succ i ih => intro x κ hx; cases l with
              | nil => simp at hx
              | cons y l => exact ih l x κ (by simpa using hx)
          rw [n1 _ _ _ _ hu, n1 _ _ _ _ hv, e3]
        have hrun : ∀ (xs ys : Array Value) (d : Nat) (w : World), rels ρ φ a xs.toList → rels ρ φ b ys.toList →
            (Op.eqFields (d + 1) xs ys (f :: fs)).run P w = if q then (Op.eqFields (d + 1) xs ys fs).run P w else .ok false w := fun xs ys d w hxs hys => by
          obtain ⟨X, hX, hrX⟩ := (rels_iff.1 hxs).2 _ _ hu
          obtain ⟨Y, hY, hrY⟩ := (rels_iff.1 hys).2 _ _ hv
          have := hq X Y hrX hrY
          simp only [Op.eqFields, hn, ne_eq, not_false_eq_true, if_true, Sem.run_bind, run_part_sc hk (show xs[f.offset]? = some X by simpa using hX),
            run_part_sc hk (show ys[f.offset]? = some Y by simpa using hY), Result.andThen_ok, run_equalSc hk this]
          cases q <;> simp
        cases q with
        | true =>
          have h : (eqAt r a b κ).good := h
          obtain ⟨r', g1, g2⟩ := eqAt_good hr h
          exact ⟨r', fun κ' => (unf κ').trans (g1 κ'), fun xs ys d w hxs hys => (hrun xs ys d w hxs hys).trans (g2 xs ys d w hxs hys)⟩
        | false => exact ⟨false, fun κ' => unf κ', fun xs ys d w hxs hys => hrun xs ys d w hxs hys⟩
      · cases ho
    · cases ho
theorem asRef_good {u : Nl} {v : V} {κn κo : R} (h : (asRef u v κn κo).good) :
    (v = .nil u ∧ ∀ a b : R, asRef u v a b = a) ∨ ((∀ a b : R, asRef u v a b = b) ∧ ∀ X, rel ρ φ v X → match u with
      | .ptr => ∃ a, X = .pointer (some a) | .sl => ∃ a n c, X = .slice (some a) n c | .map => ∃ b, X = .map (some b) | .fn => ∃ f a c, X = .func f a c | .iface => False) := by
  cases v with
  | nil w' =>
    left
    have h : R.good (br (Nat.beq w'.ix u.ix) κn (.fail "reference")) := h
    obtain ⟨h1, _⟩ := br_good h
    have : w' = u := by cases w' <;> cases u <;> first | rfl | exact absurd h1 (by decide)
    subst this
    exact ⟨rfl, fun a b => by cases w' <;> rfl⟩
  | ptr p o =>
    right
    cases u <;> first | exact h.elim | skip
    exact ⟨fun a b => rfl, fun X hX => by obtain ⟨_, _, _, _, rfl⟩ := rel_ptr hX; exact ⟨_, rfl⟩⟩
  | sl p o l c e z =>
    right
    cases u <;> first | exact h.elim | skip
    exact ⟨fun a b => rfl, fun X hX => by obtain ⟨_, _, _, _, _, _, rfl, _⟩ := rel_sl hX; exact ⟨_, _, _, rfl⟩⟩
  | map p =>
    right
    cases u <;> first | exact h.elim | skip
    exact ⟨fun a b => rfl, fun X hX => by obtain ⟨_, _, _, _, rfl⟩ := rel_map hX; exact ⟨_, rfl⟩⟩
  | fn f l =>
    right
    cases u <;> first | exact h.elim | skip
    exact ⟨fun a b => rfl, fun X hX => by obtain ⟨_, rfl, _⟩ := rel_fn hX; exact ⟨_, _, _, rfl⟩⟩
  | _ => exact h.elim
/-- Two references of one sort, held against each other. -/
def RefTo (P : Program) (u : Nl) (t : TypeId) : Prop :=
  match u with
  | .ptr => ∃ e s, P.underlying t = some (.pointer e) ∧ cSize P e = some (s + 1)
  | .sl => ∃ e, P.underlying t = some (.slice e)
  | .map => ∃ k e, P.underlying t = some (.map k e)
  | .fn => ∃ a b c, P.underlying t = some (.func a b c)
  | .iface => False
theorem refK_good {u : Nl} {t : TypeId} (ht : RefTo P u t) {x y : V} {κ : Bool → R} (h : (refK u x y κ).good) :
    ∃ r, (∀ κ', refK u x y κ' = κ' r) ∧ ∀ X Y d w, rel ρ φ x X → rel ρ φ y Y → (Op.equalIn (d + 1) t X Y).run P w = .ok r w := by
  rcases asRef_good (ρ := ρ) (φ := φ) (show R.good (asRef u x _ _) from h) with ⟨rfl, e1⟩ | ⟨e1, hx⟩
  · have h : R.good (asRef u (.nil u) (asRef u y (κ true) (κ false)) _) := h
    rw [e1] at h
    rcases asRef_good (ρ := ρ) (φ := φ) h with ⟨rfl, e2⟩ | ⟨e2, hy⟩
    · refine ⟨true, fun κ' => by unfold refK; rw [e1, e1], fun X Y d w hX hY => ?_⟩
      rw [rel_nil hX, rel_nil hY]
      cases u with
      | ptr => obtain ⟨e, s, hu, hs⟩ := ht; simp [Op.equalIn, run_underlying hu, nilOf]
      | sl => obtain ⟨e, hu⟩ := ht; simp [Op.equalIn, run_underlying hu, nilOf]
      | map => obtain ⟨k, e, hu⟩ := ht; simp [Op.equalIn, run_underlying hu, nilOf]
      | fn => obtain ⟨a, b, c, hu⟩ := ht; simp [Op.equalIn, run_underlying hu, nilOf]
      | iface => exact ht.elim
    · refine ⟨false, fun κ' => by unfold refK; rw [e1, e2], fun X Y d w hX hY => ?_⟩
      rw [rel_nil hX]
      have hy := hy Y hY
      cases u with
      | ptr => obtain ⟨e, s, hu, hs⟩ := ht; obtain ⟨a, rfl⟩ := hy; simp [Op.equalIn, run_underlying hu, nilOf]
      | sl => obtain ⟨e, hu⟩ := ht; obtain ⟨a, n, c, rfl⟩ := hy; simp [Op.equalIn, run_underlying hu, nilOf]
      | map => obtain ⟨k, e, hu⟩ := ht; obtain ⟨a, rfl⟩ := hy; simp [Op.equalIn, run_underlying hu, nilOf]
      | fn => obtain ⟨a, b, c, hu⟩ := ht; obtain ⟨f, n, c, rfl⟩ := hy; simp [Op.equalIn, run_underlying hu, nilOf]
      | iface => exact ht.elim
  · have h : R.good (asRef u x _ (asRef u y (κ false) (asP x fun p o => asP y fun q o' => br (K4.beq p q) (forceB (Nat.beq o o') κ) (.fail "two objects")))) := h
    rw [e1] at h
    rcases asRef_good (ρ := ρ) (φ := φ) h with ⟨rfl, e2⟩ | ⟨e2, hy⟩
    · refine ⟨false, fun κ' => by unfold refK; rw [e1, e2], fun X Y d w hX hY => ?_⟩
      rw [rel_nil hY]
      have hx := hx X hX
      cases u with
      | ptr => obtain ⟨e, s, hu, hs⟩ := ht; obtain ⟨a, rfl⟩ := hx; simp [Op.equalIn, run_underlying hu, nilOf]
      | sl => obtain ⟨e, hu⟩ := ht; obtain ⟨a, n, c, rfl⟩ := hx; simp [Op.equalIn, run_underlying hu, nilOf]
      | map => obtain ⟨k, e, hu⟩ := ht; obtain ⟨a, rfl⟩ := hx; simp [Op.equalIn, run_underlying hu, nilOf]
      | fn => obtain ⟨a, b, c, hu⟩ := ht; obtain ⟨f, n, c, rfl⟩ := hx; simp [Op.equalIn, run_underlying hu, nilOf]
      | iface => exact ht.elim
    · rw [e2] at h
      obtain ⟨p, o, rfl, e3⟩ := asP_good h
      rw [e3] at h
      obtain ⟨q, o', rfl, e4⟩ := asP_good h
      rw [e4] at h
      obtain ⟨h5, e5⟩ := br_good h
      have := K4.beq_iff.1 h5
      subst this
      refine ⟨Nat.beq o o', fun κ' => by unfold refK; rw [e1, e2]; show br (K4.beq p p) _ _ = _; rw [h5, br_true, forceB_eq], fun X Y d w hX hY => ?_⟩
      have hx := hx X hX
      obtain ⟨b, s, tot, hp, rfl⟩ := rel_ptr hX
      obtain ⟨b', s', tot', hp', rfl⟩ := rel_ptr hY
      rw [hp] at hp'; cases hp'
      cases u with
      | ptr =>
        obtain ⟨e, sz, hu, hs⟩ := ht
        simp only [Op.equalIn, Sem.run_bind, run_underlying hu, Result.andThen_ok, run_sizeOf hs, ne_eq, Nat.add_eq_zero_iff, Nat.one_ne_zero, and_false, not_false_eq_true, if_true, sameAddr, beq_self_eq_true]
        simp only [Sem.run_pure]
        congr 1
        rw [Bool.eq_iff_iff, beq_iff_eq]
        constructor
        · intro h; simp at h; rw [h]; exact Nat.beq_refl _
        · intro h; rw [Nat.eq_of_beq_eq_true h]
      | sl => obtain ⟨a, n, c, h⟩ := hx; cases h
      | map => obtain ⟨a, h⟩ := hx; cases h
      | fn => obtain ⟨f, n, c, h⟩ := hx; cases h
      | iface => exact ht.elim
end
end Go.Ev
