/- AN EVALUATOR OF THE MODEL OF Go, PROVED SOUND, PART 4: what it says of a call holds in every world, on every tape. Conditions: none of its own; each theorem bears its premises. -/
import Derived.Test.YtdgefeadbcbglaaAEv3
import Derived.Maps.RangeRun
import Derived.RangeFuncIn
import Derived.RangeFuncRecord
import Derived.TacticsIn
noncomputable section
set_option linter.unusedSimpArgs false
set_option linter.unusedVariables false
namespace Go.Ev
set_option linter.unusedVariables false
/-- Two kinds that are one: its modulus. -/
def kM0 (j:IntKind) (κ:Nat->R):R := @IntKind.rec (fun _ => R) (κ 256) (.fail "") (.fail "") (.fail "") (.fail "") (.fail "") (.fail "") (.fail "") j
def kM1 (j:IntKind) (κ:Nat->R):R := @IntKind.rec (fun _ => R) (.fail "") (κ 65536) (.fail "") (.fail "") (.fail "") (.fail "") (.fail "") (.fail "") j
def kM2 (j:IntKind) (κ:Nat->R):R := @IntKind.rec (fun _ => R) (.fail "") (.fail "") (κ 4294967296) (.fail "") (.fail "") (.fail "") (.fail "") (.fail "") j
def kM3 (j:IntKind) (κ:Nat->R):R := @IntKind.rec (fun _ => R) (.fail "") (.fail "") (.fail "") (κ 18446744073709551616) (.fail "") (.fail "") (.fail "") (.fail "") j
def kM4 (j:IntKind) (κ:Nat->R):R := @IntKind.rec (fun _ => R) (.fail "") (.fail "") (.fail "") (.fail "") (κ 256) (.fail "") (.fail "") (.fail "") j
def kM5 (j:IntKind) (κ:Nat->R):R := @IntKind.rec (fun _ => R) (.fail "") (.fail "") (.fail "") (.fail "") (.fail "") (κ 65536) (.fail "") (.fail "") j
def kM6 (j:IntKind) (κ:Nat->R):R := @IntKind.rec (fun _ => R) (.fail "") (.fail "") (.fail "") (.fail "") (.fail "") (.fail "") (κ 4294967296) (.fail "") j
def kM7 (j:IntKind) (κ:Nat->R):R := @IntKind.rec (fun _ => R) (.fail "") (.fail "") (.fail "") (.fail "") (.fail "") (.fail "") (.fail "") (κ 18446744073709551616) j
def kM (k:IntKind):IntKind->(Nat->R)->R := @IntKind.rec (fun _ => IntKind->(Nat->R)->R) kM0 kM1 kM2 kM3 kM4 kM5 kM6 kM7 k
theorem Pr (k j:IntKind) (κ:Nat->R):kM k j κ=br (AQ k j) (κ (Mk k)) (.fail "") := by cases k <;> cases j <;> rfl
/-- Two kinds that are one: where its negative numbers begin. -/
def kH0 (j:IntKind) (κ:Nat->R):R := @IntKind.rec (fun _ => R) (κ 128) (.fail "") (.fail "") (.fail "") (.fail "") (.fail "") (.fail "") (.fail "") j
def kH1 (j:IntKind) (κ:Nat->R):R := @IntKind.rec (fun _ => R) (.fail "") (κ 32768) (.fail "") (.fail "") (.fail "") (.fail "") (.fail "") (.fail "") j
def kH2 (j:IntKind) (κ:Nat->R):R := @IntKind.rec (fun _ => R) (.fail "") (.fail "") (κ 2147483648) (.fail "") (.fail "") (.fail "") (.fail "") (.fail "") j
def kH3 (j:IntKind) (κ:Nat->R):R := @IntKind.rec (fun _ => R) (.fail "") (.fail "") (.fail "") (κ 9223372036854775808) (.fail "") (.fail "") (.fail "") (.fail "") j
def kH4 (j:IntKind) (κ:Nat->R):R := @IntKind.rec (fun _ => R) (.fail "") (.fail "") (.fail "") (.fail "") (κ 256) (.fail "") (.fail "") (.fail "") j
def kH5 (j:IntKind) (κ:Nat->R):R := @IntKind.rec (fun _ => R) (.fail "") (.fail "") (.fail "") (.fail "") (.fail "") (κ 65536) (.fail "") (.fail "") j
def kH6 (j:IntKind) (κ:Nat->R):R := @IntKind.rec (fun _ => R) (.fail "") (.fail "") (.fail "") (.fail "") (.fail "") (.fail "") (κ 4294967296) (.fail "") j
def kH7 (j:IntKind) (κ:Nat->R):R := @IntKind.rec (fun _ => R) (.fail "") (.fail "") (.fail "") (.fail "") (.fail "") (.fail "") (.fail "") (κ 18446744073709551616) j
def kH (k:IntKind):IntKind->(Nat->R)->R := @IntKind.rec (fun _ => IntKind->(Nat->R)->R) kH0 kH1 kH2 kH3 kH4 kH5 kH6 kH7 k
theorem TI (k j:IntKind) (κ:Nat->R):kH k j κ=br (AQ k j) (κ (Hk k)) (.fail "") := by cases k <;> cases j <;> rfl
def Yh (H a b:Nat):Bool := br (Nat.ble H a) (br (Nat.ble H b) (Nat.ble (Nat.succ a) b) true) (br (Nat.ble H b) false (Nat.ble (Nat.succ a) b))
theorem Vq (k:IntKind) (a b:Nat):Yh (Hk k) a b=DY k a b := rfl
def Ed (v:V) (a b:R):R := @V.rec (fun _ => R) (fun _ => Unit) (As "") (fun q => @Bool.rec (fun _ => R) b a q) (As "") (DB "") (As "") (As "") (AH "") (AH "") (By "") (As "") (fun o => @Ot.rec (fun _ => R) (.fail "") (fun _ => (.fail "")) (fun _ => (.fail "")) (.fail "") (fun _ _ _ => (.fail "")) (fun _ _ => (.fail "")) (.both a b) (fun _ _ => (.fail "")) (fun _ _ _ _ => (.fail "")) (fun _ _ _ _ => (.fail "")) (fun _ _ _ => (.fail "")) (fun _ _ => (.fail "")) (fun _ _ => (.fail "")) (fun _ _ _ => (.fail "")) (fun _ => (.fail "")) o) () (fun _ _ _ _ => ()) v
def C9 (q a b:V) (κ:V->R):R := @V.rec (fun _ => R) (fun _ => Unit) (As "") (fun q => @Bool.rec (fun _ => R) (κ b) (κ a) q) (As "") (DB "") (As "") (As "") (AH "") (AH "") (By "") (As "") (AH "") () (fun _ _ _ _ => ()) q
theorem Wt (q a b:V) (κ:V->R):C9 q a b κ=Ls q fun q => br q (κ a) (κ b) := by cases q <;> rfl
def FG (u v:V) (κ:V->R):R :=
  @V.rec (fun _ => R) (fun _ => Unit) (fun k a => @V.rec (fun _ => R) (fun _ => Unit) (fun j b => kM k j fun M => Ac (Nat.mod (Nat.add a b) M) fun r => κ (.int k r)) (AH "") (As "") (DB "") (As "") (As "") (AH "") (AH "") (By "") (As "") (fun _ => L8 .add u v κ) () (fun _ _ _ _ => ()) v) (AH "") (As "") (DB "") (fun n c => AR v fun m d => Aae n c m d κ) (As "") (AH "") (AH "") (By "") (As "") (fun _ => Ca .add u v κ) () (fun _ _ _ _ => ()) u
def V9 (u v:V) (κ:V->R):R :=
  @V.rec (fun _ => R) (fun _ => Unit) (fun k a => @V.rec (fun _ => R) (fun _ => Unit) (fun j b => kM k j fun M => Ac (Nat.mod (Nat.add a (Nat.sub M b)) M) fun r => κ (.int k r)) (AH "") (As "") (DB "") (As "") (As "") (AH "") (AH "") (By "") (As "") (fun _ => L8 .sub u v κ) () (fun _ _ _ _ => ()) v) (AH "") (As "") (DB "") (fun n c => AR v fun m d => .fail "") (As "") (AH "") (AH "") (By "") (As "") (fun _ => Ca .sub u v κ) () (fun _ _ _ _ => ()) u
def Z0 (u v:V) (κ:V->R):R :=
  @V.rec (fun _ => R) (fun _ => Unit) (fun k a => @V.rec (fun _ => R) (fun _ => Unit) (fun j b => kM k j fun M => Ac (Nat.mod (Nat.mul a b) M) fun r => κ (.int k r)) (AH "") (As "") (DB "") (As "") (As "") (AH "") (AH "") (By "") (As "") (fun _ => L8 .mul u v κ) () (fun _ _ _ _ => ()) v) (AH "") (As "") (DB "") (fun n c => AR v fun m d => .fail "") (As "") (AH "") (AH "") (By "") (As "") (fun _ => Ca .mul u v κ) () (fun _ _ _ _ => ()) u
def YL (u v:V) (κ:V->R):R :=
  @V.rec (fun _ => R) (fun _ => Unit) (fun k a => @V.rec (fun _ => R) (fun _ => Unit) (fun j b => Ud k a j b κ) (AH "") (As "") (DB "") (As "") (As "") (AH "") (AH "") (By "") (As "") (fun _ => L8 .quo u v κ) () (fun _ _ _ _ => ()) v) (AH "") (As "") (DB "") (fun n c => AR v fun m d => .fail "") (As "") (AH "") (AH "") (By "") (As "") (fun _ => Ca .quo u v κ) () (fun _ _ _ _ => ()) u
def YA (u v:V) (κ:V->R):R :=
  @V.rec (fun _ => R) (fun _ => Unit) (fun k a => @V.rec (fun _ => R) (fun _ => Unit) (fun j b => MA k a j b κ) (AH "") (As "") (DB "") (As "") (As "") (AH "") (AH "") (By "") (As "") (fun _ => L8 .rem u v κ) () (fun _ _ _ _ => ()) v) (AH "") (As "") (DB "") (fun n c => AR v fun m d => .fail "") (As "") (AH "") (AH "") (By "") (As "") (fun _ => Ca .rem u v κ) () (fun _ _ _ _ => ()) u
def Zh (u v:V) (κ:V->R):R :=
  @V.rec (fun _ => R) (fun _ => Unit) (fun k a => @V.rec (fun _ => R) (fun _ => Unit) (fun j b => WD k a j b κ) (AH "") (As "") (DB "") (As "") (As "") (AH "") (AH "") (By "") (As "") (fun _ => L8 .and u v κ) () (fun _ _ _ _ => ()) v) (AH "") (As "") (DB "") (fun n c => AR v fun m d => .fail "") (As "") (AH "") (AH "") (By "") (As "") (fun _ => Ca .and u v κ) () (fun _ _ _ _ => ()) u
def Abz (u v:V) (κ:V->R):R :=
  @V.rec (fun _ => R) (fun _ => Unit) (fun k a => @V.rec (fun _ => R) (fun _ => Unit) (fun j b => ior k a j b κ) (AH "") (As "") (DB "") (As "") (As "") (AH "") (AH "") (By "") (As "") (fun _ => L8 .or u v κ) () (fun _ _ _ _ => ()) v) (AH "") (As "") (DB "") (fun n c => AR v fun m d => .fail "") (As "") (AH "") (AH "") (By "") (As "") (fun _ => Ca .or u v κ) () (fun _ _ _ _ => ()) u
def Zx (u v:V) (κ:V->R):R :=
  @V.rec (fun _ => R) (fun _ => Unit) (fun k a => @V.rec (fun _ => R) (fun _ => Unit) (fun j b => W2 k a j b κ) (AH "") (As "") (DB "") (As "") (As "") (AH "") (AH "") (By "") (As "") (fun _ => L8 .xor u v κ) () (fun _ _ _ _ => ()) v) (AH "") (As "") (DB "") (fun n c => AR v fun m d => .fail "") (As "") (AH "") (AH "") (By "") (As "") (fun _ => Ca .xor u v κ) () (fun _ _ _ _ => ()) u
def Ae9 (u v:V) (κ:V->R):R :=
  @V.rec (fun _ => R) (fun _ => Unit) (fun k a => @V.rec (fun _ => R) (fun _ => Unit) (fun j b => W9 k a j b κ) (AH "") (As "") (DB "") (As "") (As "") (AH "") (AH "") (By "") (As "") (fun _ => L8 .shl u v κ) () (fun _ _ _ _ => ()) v) (AH "") (As "") (DB "") (fun n c => AR v fun m d => .fail "") (As "") (AH "") (AH "") (By "") (As "") (fun _ => Ca .shl u v κ) () (fun _ _ _ _ => ()) u
def Adn (u v:V) (κ:V->R):R :=
  @V.rec (fun _ => R) (fun _ => Unit) (fun k a => @V.rec (fun _ => R) (fun _ => Unit) (fun j b => UO k a j b κ) (AH "") (As "") (DB "") (As "") (As "") (AH "") (AH "") (By "") (As "") (fun _ => L8 .shr u v κ) () (fun _ _ _ _ => ()) v) (AH "") (As "") (DB "") (fun n c => AR v fun m d => .fail "") (As "") (AH "") (AH "") (By "") (As "") (fun _ => Ca .shr u v κ) () (fun _ _ _ _ => ()) u
def WW (u v:V) (κ:V->R):R :=
  @V.rec (fun _ => R) (fun _ => Unit) (fun k a => @V.rec (fun _ => R) (fun _ => Unit) (fun j b => QP k a j b κ) (AH "") (As "") (DB "") (As "") (As "") (AH "") (AH "") (By "") (As "") (fun _ => L8 .andNot u v κ) () (fun _ _ _ _ => ()) v) (AH "") (As "") (DB "") (fun n c => AR v fun m d => .fail "") (As "") (AH "") (AH "") (By "") (As "") (fun _ => Ca .andNot u v κ) () (fun _ _ _ _ => ()) u
def DW (u v:V) (κ:V->R):R :=
  @V.rec (fun _ => R) (fun _ => Unit) (fun k a => @V.rec (fun _ => R) (fun _ => Unit) (fun j b => kM k j fun _ => Bv (Nat.beq a b) fun r => κ (.bool r)) (AH "") (As "") (DB "") (As "") (As "") (AH "") (AH "") (By "") (As "") (fun _ => L8 .eql u v κ) () (fun _ _ _ _ => ()) v) (AH "") (As "") (DB "") (fun n c => AR v fun m d => Aag n c m d κ) (As "") (AH "") (AH "") (By "") (As "") (fun _ => Ca .eql u v κ) () (fun _ _ _ _ => ()) u
def G2 (u v:V) (κ:V->R):R :=
  @V.rec (fun _ => R) (fun _ => Unit) (fun k a => @V.rec (fun _ => R) (fun _ => Unit) (fun j b => kM k j fun _ => br (Nat.beq a b) (κ (.bool false)) (κ (.bool true))) (AH "") (As "") (DB "") (As "") (As "") (AH "") (AH "") (By "") (As "") (fun _ => L8 .neq u v κ) () (fun _ _ _ _ => ()) v) (AH "") (As "") (DB "") (fun n c => AR v fun m d => sne n c m d κ) (As "") (AH "") (AH "") (By "") (As "") (fun _ => Ca .neq u v κ) () (fun _ _ _ _ => ()) u
def FV (u v:V) (κ:V->R):R :=
  @V.rec (fun _ => R) (fun _ => Unit) (fun k a => @V.rec (fun _ => R) (fun _ => Unit) (fun j b => kH k j fun H => Bv (Yh H a b) fun r => κ (.bool r)) (AH "") (As "") (DB "") (As "") (As "") (AH "") (AH "") (By "") (As "") (fun _ => L8 .lss u v κ) () (fun _ _ _ _ => ()) v) (AH "") (As "") (DB "") (fun n c => AR v fun m d => slt n c m d κ) (As "") (AH "") (AH "") (By "") (As "") (fun _ => Ca .lss u v κ) () (fun _ _ _ _ => ()) u
def YD (u v:V) (κ:V->R):R :=
  @V.rec (fun _ => R) (fun _ => Unit) (fun k a => @V.rec (fun _ => R) (fun _ => Unit) (fun j b => kH k j fun H => br (Yh H b a) (κ (.bool false)) (κ (.bool true))) (AH "") (As "") (DB "") (As "") (As "") (AH "") (AH "") (By "") (As "") (fun _ => L8 .leq u v κ) () (fun _ _ _ _ => ()) v) (AH "") (As "") (DB "") (fun n c => AR v fun m d => .fail "") (As "") (AH "") (AH "") (By "") (As "") (fun _ => Ca .leq u v κ) () (fun _ _ _ _ => ()) u
def Pt (u v:V) (κ:V->R):R :=
  @V.rec (fun _ => R) (fun _ => Unit) (fun k a => @V.rec (fun _ => R) (fun _ => Unit) (fun j b => kH k j fun H => Bv (Yh H b a) fun r => κ (.bool r)) (AH "") (As "") (DB "") (As "") (As "") (AH "") (AH "") (By "") (As "") (fun _ => L8 .gtr u v κ) () (fun _ _ _ _ => ()) v) (AH "") (As "") (DB "") (fun n c => AR v fun m d => .fail "") (As "") (AH "") (AH "") (By "") (As "") (fun _ => Ca .gtr u v κ) () (fun _ _ _ _ => ()) u
def Zq (u v:V) (κ:V->R):R :=
  @V.rec (fun _ => R) (fun _ => Unit) (fun k a => @V.rec (fun _ => R) (fun _ => Unit) (fun j b => kH k j fun H => br (Yh H a b) (κ (.bool false)) (κ (.bool true))) (AH "") (As "") (DB "") (As "") (As "") (AH "") (AH "") (By "") (As "") (fun _ => L8 .geq u v κ) () (fun _ _ _ _ => ()) v) (AH "") (As "") (DB "") (fun n c => AR v fun m d => sge n c m d κ) (As "") (AH "") (AH "") (By "") (As "") (fun _ => Ca .geq u v κ) () (fun _ _ _ _ => ()) u
abbrev Aaf (op:BinOp):V->V->(V->R)->R := @BinOp.rec (fun _ => V->V->(V->R)->R) FG V9 Z0 YL YA Zh Abz Zx Ae9 Adn WW DW G2 FV YD Pt Zq op
theorem Yq (op:BinOp) (u v:V) (κ:V->R):Aaf op u v κ=Pc op u v κ := by
  cases u with
  | int k a =>
    cases v with
    | int j b =>
      cases op
      case add => cases k <;> cases j <;> rfl
      case sub => cases k <;> cases j <;> rfl
      case mul => cases k <;> cases j <;> rfl
      case eql => cases k <;> cases j <;> rfl
      case neq => cases k <;> cases j <;> rfl
      case lss => cases k <;> cases j <;> rfl
      case leq => cases k <;> cases j <;> rfl
      case gtr => cases k <;> cases j <;> rfl
      case geq => cases k <;> cases j <;> rfl
      all_goals rfl
    | _ => cases op <;> rfl
  | str n c => cases op <;> rfl
  | _ => cases op <;> rfl
/-- A value of one cell put at a place of a list. -/
def Br (m:Nat):List V->V->(List V->R)->R :=
  @Nat.rec (fun _ => List V->V->(List V->R)->R) (fun xs v k => @List.rec V (fun _ => R) (.fail "") (fun _ ys _ => k (v::ys)) xs)
    (fun _ ih xs v k => @List.rec V (fun _ => R) (.fail "") (fun x ys _ => ih ys v fun zs => k (x::zs)) xs) m
def SG (off size:Nat) (z:List V) (κ:List V->R) (l:List V):R := FM l fun m => br (Nat.beq m size) (MC z off l κ) (.fail "")
def Gg (off size:Nat) (v:V) (z:List V) (κ:List V->R):R := E4 v (SG off size z κ)
/-- A part of one cell. -/
def Bd (off:Nat) (v:V) (z:List V) (κ:List V->R):R :=
  @V.rec (fun _ => R) (fun _ => Unit) (fun _ _ => Br off z v κ) (fun _ => Br off z v κ) (fun _ _ => Br off z v κ) (fun _ _ _ _ _ _ => Br off z v κ) (fun _ _ => Br off z v κ) (fun l _ => SG off 1 z κ l) (fun _ => Br off z v κ) (fun _ => Br off z v κ) (fun _ _ _ => Br off z v κ) (As "") (fun o => @Ot.rec (fun _ => R) (.fail "") (fun _ => Br off z v κ) (AH "") (.fail "") (fun _ _ _ => Br off z v κ) (fun _ _ => Br off z v κ) (Br off z v κ) (fun _ _ => Br off z v κ) (fun _ _ _ _ => Br off z v κ) (fun _ _ _ _ => Br off z v κ) (fun _ _ _ => Br off z v κ) (fun _ _ => Br off z v κ) (fun _ _ => Br off z v κ) (fun _ _ _ => Br off z v κ) (fun _ => Br off z v κ) o) () (fun _ _ _ _ => ()) v
theorem Lx (off:Nat):∀ (z:List V) (v:V) (κ:List V->R), Br off z v κ=MC z off [v] κ := by
  induction off with
  | zero => intro z v κ; cases z <;> rfl
  | succ off ih =>
    intro z v κ
    cases z with
    | nil => rfl
    | cons x z =>
      have e1:Br (off+1) (x::z) v κ=Br off z v fun zs => κ (x::zs) := rfl
      rw [e1, ih]
      have e2:MC (x::z) (off+1) [v] κ=BZ (off+1) (x::z) fun a => CN (off+2) (x::z) fun b => DS [v] b fun t => DS a t κ := rfl
      have e3:MC z off [v] (fun zs => κ (x::zs))=BZ off z fun a => CN (off+1) z fun b => DS [v] b fun t => DS a t fun zs => κ (x::zs) := rfl
      rw [e2, e3]
      have e4:∀ F:List V->R, BZ (off+1) (x::z) F=BZ off z fun a => F (x::a) := fun F => rfl
      rw [e4]; rfl
theorem Rp (off:Nat) (v:V) (z:List V) (κ:List V->R):Bd off v z κ=Gg off 1 v z κ := by
  cases v with
  | agg l => rfl
  | tup l => rfl
  | oth o => cases o with
    | any => rfl
    | yl p => rfl
    | no => rfl
    | _ => exact Lx off z _ κ
  | _ => exact Lx off z _ κ
abbrev JL (off size:Nat) (v:V) (z:List V) (κ:List V->R):R := @Bool.rec (fun _ => R) (Gg off size v z κ) (Bd off v z κ) (Nat.beq size 1)
theorem RT (off size:Nat) (v:V) (z:List V) (κ:List V->R):JL off size v z κ=Gg off size v z κ := by
  unfold JL
  cases hb:Nat.beq size 1 with
  | true => rw [Nat.eq_of_beq_eq_true hb]; exact Rp off v z κ
  | false => rfl
def HA.selR (d:D):HA->(BX->R)->R :=
  @D.rec (fun _ => HA->(BX->R)->R) (fun p k => @HA.rec (fun _ => R) (fun A B C E F G I J L M N O P Q T U => k A) p) (fun p k => @HA.rec (fun _ => R) (fun A B C E F G I J L M N O P Q T U => k B) p) (fun p k => @HA.rec (fun _ => R) (fun A B C E F G I J L M N O P Q T U => k C) p) (fun p k => @HA.rec (fun _ => R) (fun A B C E F G I J L M N O P Q T U => k E) p) (fun p k => @HA.rec (fun _ => R) (fun A B C E F G I J L M N O P Q T U => k F) p) (fun p k => @HA.rec (fun _ => R) (fun A B C E F G I J L M N O P Q T U => k G) p) (fun p k => @HA.rec (fun _ => R) (fun A B C E F G I J L M N O P Q T U => k I) p) (fun p k => @HA.rec (fun _ => R) (fun A B C E F G I J L M N O P Q T U => k J) p) (fun p k => @HA.rec (fun _ => R) (fun A B C E F G I J L M N O P Q T U => k L) p) (fun p k => @HA.rec (fun _ => R) (fun A B C E F G I J L M N O P Q T U => k M) p) (fun p k => @HA.rec (fun _ => R) (fun A B C E F G I J L M N O P Q T U => k N) p) (fun p k => @HA.rec (fun _ => R) (fun A B C E F G I J L M N O P Q T U => k O) p) (fun p k => @HA.rec (fun _ => R) (fun A B C E F G I J L M N O P Q T U => k P) p) (fun p k => @HA.rec (fun _ => R) (fun A B C E F G I J L M N O P Q T U => k Q) p) (fun p k => @HA.rec (fun _ => R) (fun A B C E F G I J L M N O P Q T U => k T) p) (fun p k => @HA.rec (fun _ => R) (fun A B C E F G I J L M N O P Q T U => k U) p) d
theorem HA.selR_eq (d:D) (p:HA) (k:BX->R):HA.selR d p k=k (HA.sel d p) := by
  cases d <;> cases p <;> rfl
def HA.opR (d:D):HA->(BX->(BX->(HA->R)->R)->R)->R :=
  @D.rec (fun _ => HA->(BX->(BX->(HA->R)->R)->R)->R) (fun p k => @HA.rec (fun _ => R) (fun A B C E F G I J L M N O P Q T U => k A fun v q => q (.mk v B C E F G I J L M N O P Q T U)) p) (fun p k => @HA.rec (fun _ => R) (fun A B C E F G I J L M N O P Q T U => k B fun v q => q (.mk A v C E F G I J L M N O P Q T U)) p) (fun p k => @HA.rec (fun _ => R) (fun A B C E F G I J L M N O P Q T U => k C fun v q => q (.mk A B v E F G I J L M N O P Q T U)) p) (fun p k => @HA.rec (fun _ => R) (fun A B C E F G I J L M N O P Q T U => k E fun v q => q (.mk A B C v F G I J L M N O P Q T U)) p) (fun p k => @HA.rec (fun _ => R) (fun A B C E F G I J L M N O P Q T U => k F fun v q => q (.mk A B C E v G I J L M N O P Q T U)) p) (fun p k => @HA.rec (fun _ => R) (fun A B C E F G I J L M N O P Q T U => k G fun v q => q (.mk A B C E F v I J L M N O P Q T U)) p) (fun p k => @HA.rec (fun _ => R) (fun A B C E F G I J L M N O P Q T U => k I fun v q => q (.mk A B C E F G v J L M N O P Q T U)) p) (fun p k => @HA.rec (fun _ => R) (fun A B C E F G I J L M N O P Q T U => k J fun v q => q (.mk A B C E F G I v L M N O P Q T U)) p) (fun p k => @HA.rec (fun _ => R) (fun A B C E F G I J L M N O P Q T U => k L fun v q => q (.mk A B C E F G I J v M N O P Q T U)) p) (fun p k => @HA.rec (fun _ => R) (fun A B C E F G I J L M N O P Q T U => k M fun v q => q (.mk A B C E F G I J L v N O P Q T U)) p) (fun p k => @HA.rec (fun _ => R) (fun A B C E F G I J L M N O P Q T U => k N fun v q => q (.mk A B C E F G I J L M v O P Q T U)) p) (fun p k => @HA.rec (fun _ => R) (fun A B C E F G I J L M N O P Q T U => k O fun v q => q (.mk A B C E F G I J L M N v P Q T U)) p) (fun p k => @HA.rec (fun _ => R) (fun A B C E F G I J L M N O P Q T U => k P fun v q => q (.mk A B C E F G I J L M N O v Q T U)) p) (fun p k => @HA.rec (fun _ => R) (fun A B C E F G I J L M N O P Q T U => k Q fun v q => q (.mk A B C E F G I J L M N O P v T U)) p) (fun p k => @HA.rec (fun _ => R) (fun A B C E F G I J L M N O P Q T U => k T fun v q => q (.mk A B C E F G I J L M N O P Q v U)) p) (fun p k => @HA.rec (fun _ => R) (fun A B C E F G I J L M N O P Q T U => k U fun v q => q (.mk A B C E F G I J L M N O P Q T v)) p) d
theorem HA.opR_eq (d:D) (p:HA) (k:BX->(BX->(HA->R)->R)->R):HA.opR d p k=k (HA.sel d p) fun v q => q (HA.setS d p v) := by
  cases d <;> cases p <;> rfl
def HB.selR (d:D):HB->(HA->R)->R :=
  @D.rec (fun _ => HB->(HA->R)->R) (fun p k => @HB.rec (fun _ => R) (fun A B C E F G I J L M N O P Q T U => k A) p) (fun p k => @HB.rec (fun _ => R) (fun A B C E F G I J L M N O P Q T U => k B) p) (fun p k => @HB.rec (fun _ => R) (fun A B C E F G I J L M N O P Q T U => k C) p) (fun p k => @HB.rec (fun _ => R) (fun A B C E F G I J L M N O P Q T U => k E) p) (fun p k => @HB.rec (fun _ => R) (fun A B C E F G I J L M N O P Q T U => k F) p) (fun p k => @HB.rec (fun _ => R) (fun A B C E F G I J L M N O P Q T U => k G) p) (fun p k => @HB.rec (fun _ => R) (fun A B C E F G I J L M N O P Q T U => k I) p) (fun p k => @HB.rec (fun _ => R) (fun A B C E F G I J L M N O P Q T U => k J) p) (fun p k => @HB.rec (fun _ => R) (fun A B C E F G I J L M N O P Q T U => k L) p) (fun p k => @HB.rec (fun _ => R) (fun A B C E F G I J L M N O P Q T U => k M) p) (fun p k => @HB.rec (fun _ => R) (fun A B C E F G I J L M N O P Q T U => k N) p) (fun p k => @HB.rec (fun _ => R) (fun A B C E F G I J L M N O P Q T U => k O) p) (fun p k => @HB.rec (fun _ => R) (fun A B C E F G I J L M N O P Q T U => k P) p) (fun p k => @HB.rec (fun _ => R) (fun A B C E F G I J L M N O P Q T U => k Q) p) (fun p k => @HB.rec (fun _ => R) (fun A B C E F G I J L M N O P Q T U => k T) p) (fun p k => @HB.rec (fun _ => R) (fun A B C E F G I J L M N O P Q T U => k U) p) d
theorem HB.selR_eq (d:D) (p:HB) (k:HA->R):HB.selR d p k=k (HB.sel d p) := by
  cases d <;> cases p <;> rfl
def HB.opR (d:D):HB->(HA->(HA->(HB->R)->R)->R)->R :=
  @D.rec (fun _ => HB->(HA->(HA->(HB->R)->R)->R)->R) (fun p k => @HB.rec (fun _ => R) (fun A B C E F G I J L M N O P Q T U => k A fun v q => q (.mk v B C E F G I J L M N O P Q T U)) p) (fun p k => @HB.rec (fun _ => R) (fun A B C E F G I J L M N O P Q T U => k B fun v q => q (.mk A v C E F G I J L M N O P Q T U)) p) (fun p k => @HB.rec (fun _ => R) (fun A B C E F G I J L M N O P Q T U => k C fun v q => q (.mk A B v E F G I J L M N O P Q T U)) p) (fun p k => @HB.rec (fun _ => R) (fun A B C E F G I J L M N O P Q T U => k E fun v q => q (.mk A B C v F G I J L M N O P Q T U)) p) (fun p k => @HB.rec (fun _ => R) (fun A B C E F G I J L M N O P Q T U => k F fun v q => q (.mk A B C E v G I J L M N O P Q T U)) p) (fun p k => @HB.rec (fun _ => R) (fun A B C E F G I J L M N O P Q T U => k G fun v q => q (.mk A B C E F v I J L M N O P Q T U)) p) (fun p k => @HB.rec (fun _ => R) (fun A B C E F G I J L M N O P Q T U => k I fun v q => q (.mk A B C E F G v J L M N O P Q T U)) p) (fun p k => @HB.rec (fun _ => R) (fun A B C E F G I J L M N O P Q T U => k J fun v q => q (.mk A B C E F G I v L M N O P Q T U)) p) (fun p k => @HB.rec (fun _ => R) (fun A B C E F G I J L M N O P Q T U => k L fun v q => q (.mk A B C E F G I J v M N O P Q T U)) p) (fun p k => @HB.rec (fun _ => R) (fun A B C E F G I J L M N O P Q T U => k M fun v q => q (.mk A B C E F G I J L v N O P Q T U)) p) (fun p k => @HB.rec (fun _ => R) (fun A B C E F G I J L M N O P Q T U => k N fun v q => q (.mk A B C E F G I J L M v O P Q T U)) p) (fun p k => @HB.rec (fun _ => R) (fun A B C E F G I J L M N O P Q T U => k O fun v q => q (.mk A B C E F G I J L M N v P Q T U)) p) (fun p k => @HB.rec (fun _ => R) (fun A B C E F G I J L M N O P Q T U => k P fun v q => q (.mk A B C E F G I J L M N O v Q T U)) p) (fun p k => @HB.rec (fun _ => R) (fun A B C E F G I J L M N O P Q T U => k Q fun v q => q (.mk A B C E F G I J L M N O P v T U)) p) (fun p k => @HB.rec (fun _ => R) (fun A B C E F G I J L M N O P Q T U => k T fun v q => q (.mk A B C E F G I J L M N O P Q v U)) p) (fun p k => @HB.rec (fun _ => R) (fun A B C E F G I J L M N O P Q T U => k U fun v q => q (.mk A B C E F G I J L M N O P Q T v)) p) d
theorem HB.opR_eq (d:D) (p:HB) (k:HA->(HA->(HB->R)->R)->R):HB.opR d p k=k (HB.sel d p) fun v q => q (HB.setS d p v) := by
  cases d <;> cases p <;> rfl
def HC.selR (d:D):HC->(HB->R)->R :=
  @D.rec (fun _ => HC->(HB->R)->R) (fun p k => @HC.rec (fun _ => R) (fun A B C E F G I J L M N O P Q T U => k A) p) (fun p k => @HC.rec (fun _ => R) (fun A B C E F G I J L M N O P Q T U => k B) p) (fun p k => @HC.rec (fun _ => R) (fun A B C E F G I J L M N O P Q T U => k C) p) (fun p k => @HC.rec (fun _ => R) (fun A B C E F G I J L M N O P Q T U => k E) p) (fun p k => @HC.rec (fun _ => R) (fun A B C E F G I J L M N O P Q T U => k F) p) (fun p k => @HC.rec (fun _ => R) (fun A B C E F G I J L M N O P Q T U => k G) p) (fun p k => @HC.rec (fun _ => R) (fun A B C E F G I J L M N O P Q T U => k I) p) (fun p k => @HC.rec (fun _ => R) (fun A B C E F G I J L M N O P Q T U => k J) p) (fun p k => @HC.rec (fun _ => R) (fun A B C E F G I J L M N O P Q T U => k L) p) (fun p k => @HC.rec (fun _ => R) (fun A B C E F G I J L M N O P Q T U => k M) p) (fun p k => @HC.rec (fun _ => R) (fun A B C E F G I J L M N O P Q T U => k N) p) (fun p k => @HC.rec (fun _ => R) (fun A B C E F G I J L M N O P Q T U => k O) p) (fun p k => @HC.rec (fun _ => R) (fun A B C E F G I J L M N O P Q T U => k P) p) (fun p k => @HC.rec (fun _ => R) (fun A B C E F G I J L M N O P Q T U => k Q) p) (fun p k => @HC.rec (fun _ => R) (fun A B C E F G I J L M N O P Q T U => k T) p) (fun p k => @HC.rec (fun _ => R) (fun A B C E F G I J L M N O P Q T U => k U) p) d
theorem HC.selR_eq (d:D) (p:HC) (k:HB->R):HC.selR d p k=k (HC.sel d p) := by
  cases d <;> cases p <;> rfl
def HC.opR (d:D):HC->(HB->(HB->(HC->R)->R)->R)->R :=
  @D.rec (fun _ => HC->(HB->(HB->(HC->R)->R)->R)->R) (fun p k => @HC.rec (fun _ => R) (fun A B C E F G I J L M N O P Q T U => k A fun v q => q (.mk v B C E F G I J L M N O P Q T U)) p) (fun p k => @HC.rec (fun _ => R) (fun A B C E F G I J L M N O P Q T U => k B fun v q => q (.mk A v C E F G I J L M N O P Q T U)) p) (fun p k => @HC.rec (fun _ => R) (fun A B C E F G I J L M N O P Q T U => k C fun v q => q (.mk A B v E F G I J L M N O P Q T U)) p) (fun p k => @HC.rec (fun _ => R) (fun A B C E F G I J L M N O P Q T U => k E fun v q => q (.mk A B C v F G I J L M N O P Q T U)) p) (fun p k => @HC.rec (fun _ => R) (fun A B C E F G I J L M N O P Q T U => k F fun v q => q (.mk A B C E v G I J L M N O P Q T U)) p) (fun p k => @HC.rec (fun _ => R) (fun A B C E F G I J L M N O P Q T U => k G fun v q => q (.mk A B C E F v I J L M N O P Q T U)) p) (fun p k => @HC.rec (fun _ => R) (fun A B C E F G I J L M N O P Q T U => k I fun v q => q (.mk A B C E F G v J L M N O P Q T U)) p) (fun p k => @HC.rec (fun _ => R) (fun A B C E F G I J L M N O P Q T U => k J fun v q => q (.mk A B C E F G I v L M N O P Q T U)) p) (fun p k => @HC.rec (fun _ => R) (fun A B C E F G I J L M N O P Q T U => k L fun v q => q (.mk A B C E F G I J v M N O P Q T U)) p) (fun p k => @HC.rec (fun _ => R) (fun A B C E F G I J L M N O P Q T U => k M fun v q => q (.mk A B C E F G I J L v N O P Q T U)) p) (fun p k => @HC.rec (fun _ => R) (fun A B C E F G I J L M N O P Q T U => k N fun v q => q (.mk A B C E F G I J L M v O P Q T U)) p) (fun p k => @HC.rec (fun _ => R) (fun A B C E F G I J L M N O P Q T U => k O fun v q => q (.mk A B C E F G I J L M N v P Q T U)) p) (fun p k => @HC.rec (fun _ => R) (fun A B C E F G I J L M N O P Q T U => k P fun v q => q (.mk A B C E F G I J L M N O v Q T U)) p) (fun p k => @HC.rec (fun _ => R) (fun A B C E F G I J L M N O P Q T U => k Q fun v q => q (.mk A B C E F G I J L M N O P v T U)) p) (fun p k => @HC.rec (fun _ => R) (fun A B C E F G I J L M N O P Q T U => k T fun v q => q (.mk A B C E F G I J L M N O P Q v U)) p) (fun p k => @HC.rec (fun _ => R) (fun A B C E F G I J L M N O P Q T U => k U fun v q => q (.mk A B C E F G I J L M N O P Q T v)) p) d
theorem HC.opR_eq (d:D) (p:HC) (k:HB->(HB->(HC->R)->R)->R):HC.opR d p k=k (HC.sel d p) fun v q => q (HC.setS d p v) := by
  cases d <;> cases p <;> rfl
def Heap.selR (d:D):Heap->(HC->R)->R :=
  @D.rec (fun _ => Heap->(HC->R)->R) (fun p k => @Heap.rec (fun _ => R) (fun A B C E F G I J L M N O P Q T U => k A) p) (fun p k => @Heap.rec (fun _ => R) (fun A B C E F G I J L M N O P Q T U => k B) p) (fun p k => @Heap.rec (fun _ => R) (fun A B C E F G I J L M N O P Q T U => k C) p) (fun p k => @Heap.rec (fun _ => R) (fun A B C E F G I J L M N O P Q T U => k E) p) (fun p k => @Heap.rec (fun _ => R) (fun A B C E F G I J L M N O P Q T U => k F) p) (fun p k => @Heap.rec (fun _ => R) (fun A B C E F G I J L M N O P Q T U => k G) p) (fun p k => @Heap.rec (fun _ => R) (fun A B C E F G I J L M N O P Q T U => k I) p) (fun p k => @Heap.rec (fun _ => R) (fun A B C E F G I J L M N O P Q T U => k J) p) (fun p k => @Heap.rec (fun _ => R) (fun A B C E F G I J L M N O P Q T U => k L) p) (fun p k => @Heap.rec (fun _ => R) (fun A B C E F G I J L M N O P Q T U => k M) p) (fun p k => @Heap.rec (fun _ => R) (fun A B C E F G I J L M N O P Q T U => k N) p) (fun p k => @Heap.rec (fun _ => R) (fun A B C E F G I J L M N O P Q T U => k O) p) (fun p k => @Heap.rec (fun _ => R) (fun A B C E F G I J L M N O P Q T U => k P) p) (fun p k => @Heap.rec (fun _ => R) (fun A B C E F G I J L M N O P Q T U => k Q) p) (fun p k => @Heap.rec (fun _ => R) (fun A B C E F G I J L M N O P Q T U => k T) p) (fun p k => @Heap.rec (fun _ => R) (fun A B C E F G I J L M N O P Q T U => k U) p) d
theorem Heap.selR_eq (d:D) (p:Heap) (k:HC->R):Heap.selR d p k=k (Heap.sel d p) := by
  cases d <;> cases p <;> rfl
def Heap.opR (d:D):Heap->(HC->(HC->(Heap->R)->R)->R)->R :=
  @D.rec (fun _ => Heap->(HC->(HC->(Heap->R)->R)->R)->R) (fun p k => @Heap.rec (fun _ => R) (fun A B C E F G I J L M N O P Q T U => k A fun v q => q (.mk v B C E F G I J L M N O P Q T U)) p) (fun p k => @Heap.rec (fun _ => R) (fun A B C E F G I J L M N O P Q T U => k B fun v q => q (.mk A v C E F G I J L M N O P Q T U)) p) (fun p k => @Heap.rec (fun _ => R) (fun A B C E F G I J L M N O P Q T U => k C fun v q => q (.mk A B v E F G I J L M N O P Q T U)) p) (fun p k => @Heap.rec (fun _ => R) (fun A B C E F G I J L M N O P Q T U => k E fun v q => q (.mk A B C v F G I J L M N O P Q T U)) p) (fun p k => @Heap.rec (fun _ => R) (fun A B C E F G I J L M N O P Q T U => k F fun v q => q (.mk A B C E v G I J L M N O P Q T U)) p) (fun p k => @Heap.rec (fun _ => R) (fun A B C E F G I J L M N O P Q T U => k G fun v q => q (.mk A B C E F v I J L M N O P Q T U)) p) (fun p k => @Heap.rec (fun _ => R) (fun A B C E F G I J L M N O P Q T U => k I fun v q => q (.mk A B C E F G v J L M N O P Q T U)) p) (fun p k => @Heap.rec (fun _ => R) (fun A B C E F G I J L M N O P Q T U => k J fun v q => q (.mk A B C E F G I v L M N O P Q T U)) p) (fun p k => @Heap.rec (fun _ => R) (fun A B C E F G I J L M N O P Q T U => k L fun v q => q (.mk A B C E F G I J v M N O P Q T U)) p) (fun p k => @Heap.rec (fun _ => R) (fun A B C E F G I J L M N O P Q T U => k M fun v q => q (.mk A B C E F G I J L v N O P Q T U)) p) (fun p k => @Heap.rec (fun _ => R) (fun A B C E F G I J L M N O P Q T U => k N fun v q => q (.mk A B C E F G I J L M v O P Q T U)) p) (fun p k => @Heap.rec (fun _ => R) (fun A B C E F G I J L M N O P Q T U => k O fun v q => q (.mk A B C E F G I J L M N v P Q T U)) p) (fun p k => @Heap.rec (fun _ => R) (fun A B C E F G I J L M N O P Q T U => k P fun v q => q (.mk A B C E F G I J L M N O v Q T U)) p) (fun p k => @Heap.rec (fun _ => R) (fun A B C E F G I J L M N O P Q T U => k Q fun v q => q (.mk A B C E F G I J L M N O P v T U)) p) (fun p k => @Heap.rec (fun _ => R) (fun A B C E F G I J L M N O P Q T U => k T fun v q => q (.mk A B C E F G I J L M N O P Q v U)) p) (fun p k => @Heap.rec (fun _ => R) (fun A B C E F G I J L M N O P Q T U => k U fun v q => q (.mk A B C E F G I J L M N O P Q T v)) p) d
theorem Heap.opR_eq (d:D) (p:Heap) (k:HC->(HC->(Heap->R)->R)->R):Heap.opR d p k=k (Heap.sel d p) fun v q => q (Heap.setS d p v) := by
  cases d <;> cases p <;> rfl
def AT (p:K4) (h:Heap) (κ:BX->R):R :=
  @K4.rec (fun _ => R) (fun a b c d => Heap.selR a h fun x => HC.selR b x fun y => HB.selR c y fun z => HA.selR d z κ) p
theorem AB (p:K4) (h:Heap) (κ:BX->R):AT p h κ=κ (A8 p h) := by
  cases p; simp only [AT, Heap.selR_eq, HC.selR_eq, HB.selR_eq, HA.selR_eq, A8]
/-- What stands at a place, and how another thing is put there. -/
def Xa (p:K4) (h:Heap) (κ:BX->(BX->(Heap->R)->R)->R):R :=
  @K4.rec (fun _ => R) (fun a b c d => Heap.opR a h fun x px => HC.opR b x fun y py => HB.opR c y fun z pz => HA.opR d z fun o po => κ o fun o k => po o fun z => pz z fun y => py y fun x => px x k) p
theorem P3 (p:K4) (h:Heap) (κ:BX->(BX->(Heap->R)->R)->R):Xa p h κ=κ (A8 p h) fun o k => k (Af p h o) := by
  cases p
  simp only [Xa, Heap.opR_eq, HC.opR_eq, HB.opR_eq, HA.opR_eq, A8, Af, DQ, Heap.setK_eq, HC.setK_eq, HB.setK_eq, HA.setK_eq, Heap.selK_eq, HC.selK_eq, HB.selK_eq]
  rfl
def AV (p:K4) (h:Heap) (o:BX) (κ:Heap->R):R := Xa p h fun _ put => put o κ
theorem Bf (p:K4) (h:Heap) (o:BX) (κ:Heap->R):AV p h o κ=DQ p h o κ := by
  rw [AV, P3, AA]
def GD (p:K4) (h:Heap) (κ:Cs->Bool->Option K4->R):R :=
  AT p h fun o => @Option.rec Ob (fun _ => R) (.fail "") (fun o => @Ob.rec (fun _ => R) κ (By "") (Fl "") (.fail "") (As "") o) o
theorem DC:GD=GW := by
  funext p h κ
  rw [GD, AB, GW, Cz]
def J5 (p:K4) (h:Heap) (κ:List (V×V)->List Nat->Nat->R):R :=
  AT p h fun o => @Option.rec Ob (fun _ => R) (.fail "") (fun o => @Ob.rec (fun _ => R) (By "") κ (Fl "") (.fail "") (As "") o) o
theorem FD:J5=Qy := by
  funext p h κ
  rw [J5, AB, Qy, Cz]
def DR (h:Heap) (n:K4) (o:Ob) (κ:Heap->K4->R):R := AV n h (some o) fun h' => n.nx fun n' => κ h' n'
theorem I4:DR=CY := by
  funext h n o κ
  rw [DR, Bf, CY]
def Pd (h:Heap) (p:K4) (f:Cs->(Cs->R)->R) (κ:Heap->R):R :=
  Xa p h fun o put => @Option.rec Ob (fun _ => R) (.fail "") (fun o => @Ob.rec (fun _ => R) (fun cs sup prev => br sup (.fail "") (f cs fun cs' =>
    @Option.rec K4 (fun _ => R) (put (some (.c cs' false none)) κ) (fun q => AV q h none fun h => AV p h (some (.c cs' false none)) κ) prev)) (By "") (Fl "") (.fail "") (As "") o) o
theorem Ku (h:Heap) (p:K4) (f:Cs->(Cs->R)->R) (κ:Heap->R):Pd h p f κ=GW p h fun cs sup prev => br sup (.fail "") (f cs fun cs' => JF prev h fun h => DQ p h (some (.c cs' false none)) κ) := by
  rw [Pd, P3, GW, Cz]
  cases A8 p h with
  | none => rfl
  | some o => cases o with
    | m es bs c => rfl
    | it _ _ _ _ => rfl
    | it0 => rfl
    | lp _ _ => rfl
    | c cs sup prev =>
      show br sup _ (f cs fun cs' => _)=br sup _ (f cs fun cs' => _)
      congr 2; funext cs'
      cases prev with
      | none => exact (AA _ _ _ _).symm
      | some q => exact (Bf _ _ _ _).trans (congrArg _ (funext fun h => Bf _ _ _ _))
def Dt (h:Heap) (p:K4) (off:Nat) (y:Cs) (κ:Heap->R):R := Pd h p (fun cs k => MD cs off y k) κ
theorem D1:Dt=CZ := by
  funext h p off y κ
  exact Ku _ _ _ _
/-- One cell put among others. -/
def YF (cs:Cs) (off:Nat) (v:V) (κ:Cs->R):R :=
  @Cs.rec (fun _ => R) (fun xs => Br off xs v fun zs => κ (.l zs)) (fun n c => OJ v (fun r => Po n c off 1 r κ) (.fail "")) cs
theorem Vj (cs:Cs) (off:Nat) (v:V) (κ:Cs->R):YF cs off v κ=MD cs off (.l [v]) κ := by
  cases cs with
  | l xs => exact Lx off xs v _
  | b n c =>
    show OJ v (fun r => Po n c off 1 r κ) _=OJ v (fun r => Ac (Nat.succ 0) fun n' => Ac (Nat.add r (Nat.mul 256 0)) fun d => Po n c off n' d κ) _
    congr 1; funext r
    rw [Aa, Aa]; rfl
def Bz (esz eb:Nat) (x:V) (m:Nat) (y:Cs) (h:Heap) (n:K4) (κ:KV):R :=
  D0 x
    (br (Nat.beq m 0) (κ (.nil .sl) h n) (br (Nat.ble (Nat.mul (Nat.add (Nat.mul 4 m) 4096) eb) 281474976710656) (DR h n (.c y false none) fun h' n' => κ (.sl n 0 m m false esz) h' n') (.fail "")))
    (fun p off len cap ex esz' => br (Nat.beq esz' esz) (br (Nat.beq m 0) (κ x h n) (Ac (Nat.add len m) fun need =>
      br (Nat.ble need cap)
        (Ac (Nat.add off (Nat.mul len esz)) fun j => Dt h p j y fun h' => κ (.sl p off need cap ex esz) h' n)
        (br (Nat.ble (Nat.mul (Nat.add (Nat.mul 4 need) 4096) eb) 281474976710656)
          (GD p h fun cs sup prev => Ac (Nat.mul len esz) fun l => AJ cs off l fun a => QT a y fun z =>
            br ex
              (DR h n (.c z false none) fun h' n' => κ (.sl n 0 need need false esz) h' n')
              (br sup (.fail "")
                (Ac (Nat.add off l) fun j => AJ cs 0 j fun old => JF prev h fun h => DQ p h (some (.c old true none)) fun h =>
                  DR h n (.c z false (some p)) fun h' n' => κ (.sl n 0 need need false esz) h' n')))
          (.fail "")))) (.fail ""))
theorem Ra:Bz=Ef := by
  funext esz eb x m y h n κ
  rw [Bz, I4, D1, DC]; rfl
def DT (v:V) (h:Heap) (n:K4) (κ:KV):R :=
  E4 v fun l => DR h n (.c (.l l) false none) fun h' n' => κ (.ptr n 0) h' n'
def FW (cs:Cs) (h:Heap) (n:K4) (κ:KV):R :=
  DR h n (.c cs false none) fun h' n' => κ (.ptr n 0) h' n'
def EE (u8:Bool) (len esz:Nat) (l:List V) (h:Heap) (n:K4) (κ:KV):R :=
  br u8 (CO l (fun m c => DR h n (.c (.b m c) false none) fun h' n' => κ (.sl n 0 len len true esz) h' n') (.fail "")) (DR h n (.c (.l l) false none) fun h' n' => κ (.sl n 0 len len true esz) h' n')
def AP (v:V) (h:Heap) (κ:V->R):R :=
  @V.rec (fun _ => R) (fun _ => Unit) (As "") (AH "") (fun p off => GD p h fun cs _ _ => Gt cs off κ) (DB "") (As "") (As "") (AH "") (AH "") (By "") (As "") (fun o => Up o (fun i j m => br (Nat.ble 1 m) (YV i j κ) (.fail "")) (LZ o (fun l => WL l κ) (.fail ""))) () (fun _ _ _ _ => ()) v
def BA (m:Nat) (v:V) (h:Heap) (κ:V->R):R :=
  MT v (fun p off => GD p h fun cs _ _ => AJ cs off m fun y => DJ y fun l => κ (.agg l)) (fun o => LZ o (fun l => br (Nat.ble m l.length) (κ (.agg ((l.take m).map RV.v))) (.fail "")) (.fail ""))
def Gh (m:Nat) (u v:V) (h:Heap) (κ:Heap->R):R :=
  J7 u fun p off => E4 v fun l => FM l fun k => br (Nat.beq k m) (Dt h p off (.l l) κ) (.fail "")
def Jr (h:Heap) (p:K4) (off:Nat) (v:V) (κ:Heap->R):R :=
  Pd h p (fun cs k => YF cs off v k) κ
def Dj (u v:V) (h:Heap) (κ:Heap->R):R :=
  @V.rec (fun _ => R) (fun _ => Unit) (As "") (AH "") (fun p off => @V.rec (fun _ => R) (fun _ => Unit) (fun _ _ => Jr h p off v κ) (fun _ => Jr h p off v κ) (fun _ _ => Jr h p off v κ) (fun _ _ _ _ _ _ => Jr h p off v κ) (fun _ _ => Jr h p off v κ) (fun l _ => FM l fun k => br (Nat.beq k 1) (Dt h p off (.l l) κ) (.fail "")) (fun _ => Jr h p off v κ) (fun _ => Jr h p off v κ) (fun _ _ _ => Jr h p off v κ) (As "") (fun o => @Ot.rec (fun _ => R) (.fail "") (fun _ => Jr h p off v κ) (AH "") (.fail "") (fun _ _ _ => Jr h p off v κ) (fun _ _ => Jr h p off v κ) (Jr h p off v κ) (fun _ _ => Jr h p off v κ) (fun _ _ _ _ => Jr h p off v κ) (fun _ _ _ _ => Jr h p off v κ) (fun _ _ _ => Jr h p off v κ) (fun _ _ => Jr h p off v κ) (fun _ _ => Jr h p off v κ) (fun _ _ _ => Jr h p off v κ) (fun _ => Jr h p off v κ) o) () (fun _ _ _ _ => ()) v) (DB "") (As "") (As "") (AH "") (AH "") (By "") (As "") (AH "") () (fun _ _ _ _ => ()) u
theorem RW (h:Heap) (p:K4) (off:Nat) (v:V) (κ:Heap->R):Jr h p off v κ=Dt h p off (.l [v]) κ := by
  rw [D1, Jr, Ku]
  simp only [Vj]; rfl
theorem VO (u v:V) (h:Heap) (κ:Heap->R):Dj u v h κ=Gh 1 u v h κ := by
  cases u with
  | ptr p off =>
    cases v with
    | agg l => rfl
    | tup l => rfl
    | oth o => cases o with
      | any => rfl
      | yl p => rfl
      | no => rfl
      | _ => exact RW _ _ _ _ _
    | _ => exact RW _ _ _ _ _
  | _ => rfl
abbrev Zp {β:Type} (c:Bool) (t f:β):β := @Bool.rec (fun _ => β) f t c
abbrev We (m:Nat) (u v:V) (h:Heap) (κ:Heap->R):R := Zp (Nat.beq m 1) (Dj u v h κ) (Gh m u v h κ)
theorem VV (m:Nat) (u v:V) (h:Heap) (κ:Heap->R):We m u v h κ=Gh m u v h κ := by
  unfold We
  cases hb:Nat.beq m 1 with
  | true => rw [Nat.eq_of_beq_eq_true hb]; exact VO u v h κ
  | false => rfl
def PM (p:K4) (h:Heap) (f:List (V×V)->List Nat->Nat->(List (V×V)->List Nat->Nat->R)->R) (κ:Heap->R):R :=
  Xa p h fun o put => @Option.rec Ob (fun _ => R) (.fail "") (fun o => @Ob.rec (fun _ => R) (By "") (fun es bs c => f es bs c fun es bs c => put (some (.m es bs c)) κ) (Fl "") (.fail "") (As "") o) o
theorem Jx (p:K4) (h:Heap) (f:List (V×V)->List Nat->Nat->(List (V×V)->List Nat->Nat->R)->R) (κ:Heap->R):PM p h f κ=Qy p h fun es bs c => f es bs c fun es bs c => DQ p h (some (.m es bs c)) κ := by
  rw [PM, P3, Qy, Cz]
  simp only [AA]
def AL (v:V) (κ:V->R):R :=
  @V.rec (fun _ => R) (fun _ => Unit) (As "") (AH "") (fun p off => κ v) (DB "") (As "") (As "") (AH "") (AH "") (fun f caps _i => κ v) (As "") (fun o => LZ o (fun _ => κ v) (.fail "")) () (fun _ _ _ _ => ()) v
def Hl (neg:Bool) (pl:Plan) (u v:V) (κ:V->R):R :=
  K0 pl u v fun r => br neg (br r (κ (.bool false)) (κ (.bool true))) (κ (.bool r))
def Hy (v:V) (κ:V->R):R :=
  @V.rec (fun _ => R) (fun _ => Unit) (As "") (fun q => @Bool.rec (fun _ => R) (κ (.bool true)) (κ (.bool false)) q) (As "") (DB "") (As "") (As "") (AH "") (AH "") (By "") (As "") (AH "") () (fun _ _ _ _ => ()) v
def Acq (v:V) (κ:V->R):R :=
  Ey v fun k r => P2 k 0 k r κ
def Aeb (v:V) (κ:V->R):R :=
  Ey v fun k r => Ac (Nat.xor (Nat.sub (Mk k) 1) r) fun r => κ (.int k r)
def Yw (k:IntKind) (v:V) (κ:V->R):R :=
  Ey v fun j r => br (Nat.ble (Nat.succ r) (Hk j)) (Ac (Nat.mod r (Mk k)) fun r => κ (.int k r)) (br (Nat.ble (Mk k) (Mk j)) (Ac (Nat.mod r (Mk k)) fun r => κ (.int k r)) (Ac (Nat.sub (Mk k) (Nat.sub (Mk j) r)) fun r => κ (.int k r)))
def SK (v:V) (h:Heap) (κ:V->R):R :=
  DZ v (κ (.str 0 0)) (fun p off len cap ex esz => br (Nat.beq esz 1) (GD p h fun cs _ _ => AJ cs off len fun y => @Cs.rec (fun _ => R) (fun l => CO l (fun m c => κ (.str m c)) (.fail "")) (fun m c => κ (.str m c)) y) (.fail "")) (fun o => Il o (fun m c => κ (.str m c)) (.fail ""))
def YS (v:V) (h:Heap) (n:K4) (κ:KV):R :=
  AR v fun m c => DR h n (.c (.b m c) false none) fun h' n' => κ (.sl n 0 m m false 1) h' n'
def Adg (v:V) (κ:V->R):R :=
  AR v fun _ _ => κ v
def WB (v:V) (h:Heap) (κ:V->R):R :=
  D0 v (.fail "") (fun p _ _ _ _ _ => GD p h fun _ _ _ => κ v)
def Lc (h:Heap) (n:K4) (κ:KV):R :=
  DR h n (.m [] [] 0) fun h' n' => κ (.map n) h' n'
def Xe (eb:Nat) (u8:Bool) (zero:List V) (u v:V) (h:Heap) (n:K4) (κ:KV):R :=
  JZ u fun a => JZ v fun b => br (Nat.ble a b) (br (Nat.ble (Nat.mul eb b) 281474976710656) (Fy u8 zero b fun y => DR h n (.c y false none) fun h' n' => FM zero fun esz => κ (.sl n 0 a b true esz) h' n') (.fail "")) (.fail "")
def DP (o:Option V) (d:Nat) (κ:Nat->R):R :=
  @Option.rec V (fun _ => R) (κ d) (fun v => JZ v κ) o
def Tw (v:V) (lo hi:Option V) (κ:V->R):R :=
  XF v (fun l0 l1 _ _ => br (br (Ee hi) true (Nat.beq l0 l1)) (DP hi l0 fun b => DP lo 0 fun a => br (Nat.ble a b) (br (Nat.ble b l0) (Ac (Nat.sub b a) fun l => κ (.oth (.ss l l (Nat.succ l) 0))) (.fail "")) (.fail "")) (.fail "")) <| AR v fun m c => DP hi m fun b => DP lo 0 fun a => br (Nat.ble a b) (br (Nat.ble b m) (Ac (Nat.sub b a) fun l => Ac (Ev.lo (sh c a) l) fun r => κ (.str l r)) (.fail "")) (.fail "")
def Z1 (esz:Nat) (v:V) (mx hi:Option V) (κ:V->R):R :=
  D0 v (.fail "") (fun p off len cap ex esz' => DP hi len fun b => DP mx cap fun c => br (Nat.beq esz' esz) (br (Nat.ble b c) (br (Nat.ble c cap) (κ (.sl p off b c true esz)) (.fail "")) (.fail "")) (.fail ""))
def H9 (esz:Nat) (v:V) (lo hi:Option V) (κ:V->R):R :=
  br (Nat.ble 4294967296 esz) (Z1 (Nat.sub esz 4294967296) v lo hi κ) <|
  osK v (fun l0 l1 => br (br (Ee hi) true (Nat.beq l0 l1)) (DP hi l0 fun b => DP lo 0 fun a => br (Nat.ble a b) (br (Nat.ble b l0) (Ac (Nat.sub b a) fun l => κ (.oth (.os l l))) (.fail "")) (.fail "")) (.fail "")) <| DZ v (DP hi 0 fun b => DP lo 0 fun a => br (Nat.beq b 0) (br (Nat.beq a 0) (κ (.nil .sl)) (.fail "")) (.fail "")) (fun p off len cap ex esz' => DP hi len fun b => DP lo 0 fun a => br (Nat.beq esz' esz) (br (Nat.ble a b) (br (Nat.ble b cap) (Ac (Nat.sub b a) fun l => Ac (Nat.sub cap a) fun c => Ac (Nat.add off (Nat.mul a esz)) fun o => κ (.sl p o l c ex esz)) (.fail "")) (.fail "")) (.fail "")) (fun o => KX o (fun l m z => DP hi m fun b => DP lo 0 fun a => br (Nat.beq z esz) (br (Nat.ble a b) (br (Nat.ble b m) (Ac (Nat.sub b a) fun k => Ac (Nat.mul a esz) fun j => Ac (Nat.mul k esz) fun q => κ (.oth (.rx ((l.drop j).take q) k esz))) (.fail "")) (.fail "")) (.fail "")) (Il o (fun m c => DP hi m fun b => DP lo 0 fun a => br (Nat.beq esz 1) (br (Nat.ble a b) (br (Nat.ble b m) (Ac (Nat.sub b a) fun k => Ac (Ev.lo (sh c a) k) fun r => κ (.oth (.rb k r))) (.fail "")) (.fail "")) (.fail "")) (.fail "")))
def Vl (m esz:Nat) (v:V) (lo hi:Option V) (h:Heap) (κ:V->R):R :=
  J7 v fun p off => GD p h fun cs _ _ => Aan cs fun z => br (Nat.ble (Nat.add off (Nat.mul m esz)) z) (DP hi m fun b => DP lo 0 fun a => br (Nat.ble a b) (br (Nat.ble b m) (Ac (Nat.sub b a) fun l => Ac (Nat.sub m a) fun c => Ac (Nat.add off (Nat.mul a esz)) fun o => κ (.sl p o l c true esz)) (.fail "")) (.fail "")) (.fail "")
def Ax (off:Nat) (v:V) (κ:V->R):R :=
  @V.rec (fun _ => R) (fun _ => Unit) (As "") (AH "") (fun p o => Ac (Nat.add o off) fun o => κ (.ptr p o)) (DB "") (As "") (As "") (AH "") (AH "") (By "") (As "") (fun o => Up o (fun i j m => br (Nat.ble (Nat.succ off) m) (Ac (Nat.add j off) fun j => Ac (Nat.sub m off) fun m => κ (.oth (.ap i j m))) (.fail "")) (LZ o (fun l => br (Nat.ble (Nat.succ off) l.length) (κ (.oth (.rp (l.drop off)))) (.fail "")) (.fail ""))) () (fun _ _ _ _ => ()) v
def Zf (off size:Nat) (ag:Bool) (v:V) (κ:V->R):R :=
  asAgg v fun l => br ag (CN off l fun r => BZ size r fun r => κ (.agg r)) (BK off l κ)
def BP (esz:Nat) (v u:V) (κ:V->R):R :=
  JZ u fun a => DZ v (.fail "") (fun p off len cap ex esz' => br (Nat.beq esz' esz) (br (Nat.ble (Nat.succ a) len) (Ac (Nat.add off (Nat.mul a esz)) fun o => κ (.ptr p o)) (.fail "")) (.fail "")) (fun o => QY o (fun i lo hi z => br (Nat.beq z esz) (br (Nat.ble (Nat.succ a) lo) (Ac (Nat.mul a esz) fun j => κ (.oth (.ap i j esz))) (.fail "")) (.fail "")) (KX o (fun l m z => br (Nat.beq z esz) (br (Nat.ble (Nat.succ a) m) (Ac (Nat.mul a esz) fun j => κ (.oth (.rp (l.drop j)))) (.fail "")) (.fail "")) (Il o (fun m c => br (Nat.beq esz 1) (br (Nat.ble (Nat.succ a) m) (Ac (Ev.lo (sh c a) 1) fun r => κ (.oth (.rp [.i .u8 r]))) (.fail "")) (.fail "")) (.fail ""))))
def Ac3 (m esz:Nat) (v u:V) (κ:V->R):R :=
  JZ u fun a => J7 v fun p off => br (Nat.ble (Nat.succ a) m) (Ac (Nat.add off (Nat.mul a esz)) fun o => κ (.ptr p o)) (.fail "")
def Abj (v u:V) (κ:V->R):R :=
  JZ u fun a => AR v fun m c => br (Nat.ble (Nat.succ a) m) (Ac (Ev.lo (sh c a) 1) fun r => κ (.int .u8 r)) (.fail "")
def Adw (m esz:Nat) (ag:Bool) (v u:V) (κ:V->R):R :=
  JZ u fun a => asAgg v fun l => br (Nat.ble (Nat.succ a) m) (Ac (Nat.mul a esz) fun j => br ag (CN j l fun r => BZ esz r fun r => κ (.agg r)) (BK j l κ)) (.fail "")
def QL (pl:Plan) (zero:V) (ok:Bool) (u v:V) (h:Heap) (κ:V->R):R :=
  Ln pl v <| CX u (br ok (κ (.tup [zero, .bool false])) (κ zero)) (fun p => J5 p h fun es _ _ => BR pl v es (fun r => br ok (κ (.tup [r, .bool true])) (κ r)) (br ok (κ (.tup [zero, .bool false])) (κ zero)))
def U4 (pl:Plan) (u a b:V) (h:Heap) (κ:Heap->R):R :=
  Ln pl a <| CX u (.fail "") (fun p => PM p h (fun es bs c k => GF pl a b es fun es => Xv es bs c fun bs c => k es bs c) κ)
def PQ (pl:Plan) (u a:V) (h:Heap) (κ:Heap->R):R :=
  Ln pl a <| CX u (κ h) (fun p => PM p h (fun es bs c k => GV pl a es fun es2 => GN pl a es bs fun bs => k es2 bs c) κ)
def Do (i:Nat) (v:V) (κ:V->R):R :=
  LK v fun l => BK i l κ
def AG (r:R) (κ:KV):R :=
  @R.rec (fun _ => R) (Fl "") (fun v h n => κ v h n) (fun w => .fail w) (Fl "") r
def V8 (v:V) (κ:V->R):R :=
  XF v (fun l0 l1 _ _ => br (Nat.ble (Nat.succ l1) 9223372036854775808) (κ (.oth (.iv .i64 l0 l1))) (.fail "")) <| AR v fun m _ => DK m κ
def Bx (v:V) (κ:V->R):R :=
  DZ v (κ (.int .i64 0)) (fun p off len cap ex esz => DK len κ) (fun o => Aa4 o (fun l0 l1 => br (Nat.ble (Nat.succ l1) 9223372036854775808) (κ (.oth (.iv .i64 l0 l1))) (.fail "")) (QY o (fun i l0 l1 z => br (Nat.ble (Nat.succ l1) 9223372036854775808) (br (Nat.beq l0 l1) (κ (.int .i64 l0)) (κ (.oth (.iv .i64 l0 l1)))) (.fail "")) (KX o (fun l m z => DK m κ) (Il o (fun m c => DK m κ) (.fail "")))))
def TD (v:V) (h:Heap) (κ:V->R):R :=
  CX v (κ (.int .i64 0)) (fun p => J5 p h fun es _ _ => PL es fun m => DK m κ)
def Zo (u v:V) (κ:V->R):R := mnV u v κ
def ZE (u v:V) (κ:V->R):R := mxV u v κ
def ZM (u v w:V) (κ:V->R):R :=
  Ey u fun k a => Ey v fun j b => Ey w fun i c => br (AQ k j) (br (AQ k i) (br (DY k a b) (br (DY k b c) (κ w) (κ v)) (br (DY k a c) (κ w) (κ u))) (.fail "")) (.fail "")
def Adi (v:V) (κ:V->R):R :=
  D0 v (κ (.int .i64 0)) (fun p off len cap ex esz => br ex (DK cap κ) (.fail ""))
def Zc (u8:Bool) (zero:List V) (v:V) (h:Heap) (κ:Heap->R):R :=
  D0 v (κ h) (fun p off len cap ex esz => FM zero fun m => br (Nat.beq m esz) (br (Nat.beq len 0) (κ h) (Fy u8 zero len fun y => Dt h p off y κ)) (.fail ""))
def Dk (esz eb:Nat) (u v:V) (h:Heap) (n:K4) (κ:KV):R :=
  L5 esz v h fun m y => Bz esz eb u m y h n κ
def WU (esz eb:Nat) (u8:Bool) (zero:List V) (u v:V) (h:Heap) (n:K4) (κ:KV):R :=
  JZ v fun m => br (Nat.ble (Nat.mul eb m) 281474976710656) (Fy u8 zero m fun y => Bz esz eb u m y h n κ) (.fail "")
def Zy (esz:Nat) (u v:V) (h:Heap) (κ:V->Heap->R):R :=
  L5 esz v h fun m y => D0 u (κ (.int .i64 0) h) (fun p off len cap ex esz' => br (Nat.beq esz' esz) (Ac (@Bool.rec (fun _ => Nat) len m (Nat.ble m len)) fun k => br (Nat.beq k 0) (κ (.int .i64 0) h) (Ac (Nat.mul k esz) fun j => AJ y 0 j fun y => Dt h p off y fun h => DK k fun v => κ v h)) (.fail ""))
abbrev JH := Opd->(V->R)->R
abbrev Gl (ε:JH) (l:List Opd):(List V->R)->R :=
  @List.rec Opd (fun _ => (List V->R)->R) (fun κ => κ []) (fun o _ ih κ => ε o fun v => ih fun vs => κ (v::vs)) l
abbrev Gy (ε:JH) (o:Option Opd) (κ:Option V->R):R := @Option.rec Opd (fun _ => R) (κ none) (fun x => ε x fun v => κ (some v)) o
abbrev M4 (ε:JH) (l:List Part):List V->(List V->R)->R :=
  @List.rec Part (fun _ => List V->(List V->R)->R) (fun z κ => κ z) (fun p _ ih z κ => @Part.rec (fun _ => R) (fun off size x => ε x fun v => JL off size v z fun z => ih z κ) p) l
/-- The number of a function, as digits. -/
structure K3 where
  a:D
  b:D
  c:D
def AI (f:Nat):K3 := ⟨D.ofN (f / 256), D.ofN (f / 16 % 16), D.ofN (f % 16)⟩
abbrev FL := K3->List V->Heap->K4->R
def ON (cf:FL) (v:V) (l:List V) (h:Heap) (n:K4) (κ:KV):R := Lz v fun f caps => DS l caps fun l => AG (cf (AI f) l h n) κ
theorem Qz (n:Nat):∀ (c:Nat) (κ:Nat->Nat->R) (e:R), F1 n c (fun l => CO l κ e)=κ n (c % 256 ^ n) := by
  induction n with
  | zero => intro c κ e; show κ 0 0=_; rw [Nat.pow_zero, Nat.mod_one]
  | succ n ih =>
    intro c κ e
    have e1:F1 (n+1) c (fun l => CO l κ e)=Ac (lo c 1) fun r => Ac (sh c 1) fun d => F1 n d fun zs => CO (.int .u8 r::zs) κ e := rfl
    rw [e1, Aa, Aa]
    have hr:lo c 1<256 := by rw [FH]; omega
    have e2:∀ zs, CO (.int .u8 (lo c 1)::zs) κ e=CO zs (fun n m => Ac (Nat.succ n) fun n => Ac (Nat.add (lo c 1) (Nat.mul 256 m)) fun c => κ n c) e := fun zs => by
      have:CO (.int .u8 (lo c 1)::zs) κ e=br (AQ .u8 .u8) (br (Nat.ble (lo c 1) 255) (CO zs (fun n m => Ac (Nat.succ n) fun n => Ac (Nat.add (lo c 1) (Nat.mul 256 m)) fun c => κ n c) e) e) e := rfl
      rw [this, A9.2 (show lo c 1≤255 by omega)]; rfl
    simp only [e2]
    rw [ih, Aa, Aa]
    have e3:Nat.add (lo c 1) (Nat.mul 256 (sh c 1 % 256 ^ n))=c % 256 ^ (n+1) := by
      rw [FH, HF, Nat.pow_one, Nat.pow_succ', Nat.mod_mul]; rfl
    rw [e3]
theorem UW (v:V) (h:Heap) (κ:V->R):SK v h κ=DZ v (κ (.str 0 0)) (fun p off len cap ex esz => br (Nat.beq esz 1) (GW p h fun cs _ _ => AJ cs off len fun y => DJ y fun l => CO l (fun m c => κ (.str m c)) (.fail "")) (.fail "")) (fun o => Il o (fun m c => κ (.str m c)) (.fail "")) := by
  unfold SK
  rw [DC]
  congr 1
  funext p off len cap ex esz
  congr 1; congr 1
  funext cs sup prev
  cases cs with
  | l xs => rfl
  | b n c =>
    show br (Nat.ble (Nat.add off len) n) (Ac (lo (sh c off) len) fun r => κ (.str len r)) (.fail "")=br (Nat.ble (Nat.add off len) n) (Ac (lo (sh c off) len) fun r => F1 len r fun l => CO l (fun m c => κ (.str m c)) (.fail "")) (.fail "")
    rw [Aa, Aa, Qz, FH, Nat.mod_mod]
/-- An operation whose operands are told by ε. -/
abbrev GU (o:AK):FL->JH->Heap->K4->KV->R := @AK.rec (fun _ => FL->JH->Heap->K4->KV->R)
  (fun x cf ε h n κ => ε x fun v => κ v h n)
  (fun c a b cf ε h n κ => ε c fun q => ε a fun x => ε b fun y => C9 q x y fun v => κ v h n)
  (fun cs cf ε h n κ => FW cs h n κ)
  (fun x cf ε h n κ => ε x fun v => DT v h n κ)
  (fun zero parts cf ε h n κ => M4 ε parts zero fun l => κ (.agg l) h n)
  (fun u8 len esz zero parts cf ε h n κ => M4 ε parts zero fun l => EE u8 len esz l h n κ)
  (fun x cf ε h n κ => ε x fun v => AP v h fun v => κ v h n)
  (fun m x cf ε h n κ => ε x fun v => BA m v h fun v => κ v h n)
  (fun m a x cf ε h n κ => ε a fun u => ε x fun v => We m u v h fun h => κ B8 h n)
  (fun x cf ε h n κ => ε x fun v => AL v fun v => κ v h n)
  (fun op x y cf ε h n κ => ε x fun u => ε y fun v => Aaf op u v fun v => κ v h n)
  (fun neg pl x y cf ε h n κ => ε x fun u => ε y fun v => Hl neg pl u v fun v => κ v h n)
  (fun x cf ε h n κ => ε x fun v => Hy v fun v => κ v h n)
  (fun x cf ε h n κ => ε x fun v => Acq v fun v => κ v h n)
  (fun x cf ε h n κ => ε x fun v => Aeb v fun v => κ v h n)
  (fun k x cf ε h n κ => ε x fun v => Yw k v fun v => κ v h n)
  (fun x cf ε h n κ => ε x fun v => SK v h fun v => κ v h n)
  (fun x cf ε h n κ => ε x fun v => YS v h n κ)
  (fun x cf ε h n κ => ε x fun v => Adg v fun v => κ v h n)
  (fun x cf ε h n κ => ε x fun v => WB v h fun v => κ v h n)
  (fun f caps cf ε h n κ => Gl ε caps fun l => κ (.fn f l) h n)
  (fun  cf ε h n κ => Lc h n κ)
  (fun eb u8 zero l c cf ε h n κ => ε l fun u => ε c fun v => Xe eb u8 zero u v h n κ)
  (fun x lo hi cf ε h n κ => ε x fun v => Gy ε lo fun a => Gy ε hi fun b => Tw v a b fun v => κ v h n)
  (fun esz x lo hi cf ε h n κ => ε x fun v => Gy ε lo fun a => Gy ε hi fun b => H9 esz v a b fun v => κ v h n)
  (fun m esz x lo hi cf ε h n κ => ε x fun v => Gy ε lo fun a => Gy ε hi fun b => Vl m esz v a b h fun v => κ v h n)
  (fun off x cf ε h n κ => ε x fun v => Ax off v fun v => κ v h n)
  (fun off size ag x cf ε h n κ => ε x fun v => Zf off size ag v fun v => κ v h n)
  (fun esz x i cf ε h n κ => ε x fun v => ε i fun u => BP esz v u fun v => κ v h n)
  (fun m esz x i cf ε h n κ => ε x fun v => ε i fun u => Ac3 m esz v u fun v => κ v h n)
  (fun x i cf ε h n κ => ε x fun v => ε i fun u => Abj v u fun v => κ v h n)
  (fun m esz ag x i cf ε h n κ => ε x fun v => ε i fun u => Adw m esz ag v u fun v => κ v h n)
  (fun pl zero ok m k cf ε h n κ => ε m fun u => ε k fun v => QL pl zero ok u v h fun v => κ v h n)
  (fun pl m k v cf ε h n κ => ε m fun u => ε k fun a => ε v fun b => U4 pl u a b h fun h => κ B8 h n)
  (fun pl m k cf ε h n κ => ε m fun u => ε k fun a => PQ pl u a h fun h => κ (.tup []) h n)
  (fun i x cf ε h n κ => ε x fun v => Do i v fun v => κ v h n)
  (fun f args cf ε h n κ => Gl ε args fun l => AG (cf (AI f) l h n) κ)
  (fun x args cf ε h n κ => ε x fun v => Gl ε args fun l => ON cf v l h n κ)
  (fun x cf ε h n κ => ε x fun v => V8 v fun v => κ v h n)
  (fun x cf ε h n κ => ε x fun v => Bx v fun v => κ v h n)
  (fun x cf ε h n κ => ε x fun v => TD v h fun v => κ v h n)
  (fun x y cf ε h n κ => ε x fun u => ε y fun v => Zo u v fun v => κ v h n)
  (fun x y cf ε h n κ => ε x fun u => ε y fun v => ZE u v fun v => κ v h n)
  (fun esz eb x y cf ε h n κ => ε x fun u => ε y fun v => Dk esz eb u v h n κ)
  (fun esz eb u8 zero x c cf ε h n κ => ε x fun u => ε c fun v => WU esz eb u8 zero u v h n κ)
  (fun esz x y cf ε h n κ => ε x fun u => ε y fun v => Zy esz u v h fun v h => κ v h n)
  (fun x y z cf ε h n κ => ε x fun u => ε y fun v => ε z fun w => ZM u v w fun v => κ v h n)
  (fun x cf ε h n κ => ε x fun v => Adi v fun v => κ v h n)
  (fun u8 zero x cf ε h n κ => ε x fun v => Zc u8 zero v h fun h => κ (.tup []) h n)
  (fun why cf ε h n κ => .fail "")
  o
section
variable {cf:CF} {cf2:FL} {ε:JH} {t:Regs} {h:Heap} {n:K4} {κ:KV}
theorem Gv {l:List Opd} {κ:List V->R} (hh:∀ x∈l, ∀ κ, ε x κ=κ (ev x t)):Gl ε l κ=κ (l.map (ev · t)) := by
  induction l generalizing κ with
  | nil => rfl
  | cons o l ih =>
    show ε o (fun v => Gl ε l fun vs => κ (v::vs))=_
    rw [hh o (List.mem_cons_self ..), ih fun x hx => hh x (List.mem_cons_of_mem _ hx)]; rfl
theorem GC {o:Option Opd} {κ:Option V->R} (hh:∀ x∈o.toList, ∀ κ, ε x κ=κ (ev x t)):Gy ε o κ=κ (o.map (ev · t)) := by
  cases o with
  | none => rfl
  | some x => exact hh x (by simp) _
theorem Qg {l:List Part}:∀ {z:List V} {κ:List V->R}, (∀ p∈l, ∀ κ, ε p.x κ=κ (ev p.x t))->M4 ε l z κ=Dd l t z κ := by
  induction l with
  | nil => intro z κ _; rfl
  | cons p l ih =>
    intro z κ hh
    obtain ⟨off, size, x⟩ := p
    have e1:M4 ε (⟨off, size, x⟩::l) z κ=ε x fun v => JL off size v z fun z => M4 ε l z κ := rfl
    have e2:Dd (⟨off, size, x⟩::l) t z κ=Gg off size (ev x t) z fun z => Dd l t z κ := Ap x t _
    have e3:ε x (fun v => JL off size v z fun z => M4 ε l z κ)=_ := hh ⟨off, size, x⟩ (by simp) _
    rw [e1, e2, e3, RT]
    congr 1; funext z
    exact ih fun p hp => hh p (by simp [hp])
theorem Rz {o:Option Opd} {d:Nat} {κ:Nat->R}:Bm o t d κ=DP (o.map (ev · t)) d κ := by
  cases o with
  | none => rfl
  | some x => exact Ap x t _
theorem Ia {k:AK} (hh:∀ x∈k.opds, ∀ κ, ε x κ=κ (ev x t)) (hcf:∀ f, cf2 (AI f)=cf f):GU k cf2 ε h n κ=Ik k cf t h n κ := by
  cases k
  case build z ps => exact Qg fun p hp => hh p.x (List.mem_map.2 ⟨p, hp, rfl⟩)
  case bslice u8 len esz z ps =>
    have e1:GU (.bslice u8 len esz z ps) cf2 ε h n κ=M4 ε ps z fun l => EE u8 len esz l h n κ := rfl
    rw [e1, Qg fun p hp => hh p.x (List.mem_map.2 ⟨p, hp, rfl⟩)]
    simp only [EE, I4]; rfl
  case mkfn f l =>
    show Gl ε l (fun l => κ (.fn f l) h n)=QN l t fun l => κ (.fn f l) h n
    rw [Gv (l := l) (t := t) hh, G8]
  case call f l =>
    show Gl ε l (fun l => AG (cf2 (AI f) l h n) κ)=QN l t fun l => AG (cf f l h n) κ
    rw [Gv (l := l) (t := t) hh, G8, hcf]
  case calld x l =>
    have h1:∀ κ, ε x κ=κ (ev x t) := hh x (by simp [AK.opds])
    have h2:∀ y∈l, ∀ κ, ε y κ=κ (ev y t) := fun y hy => hh y (by simp [AK.opds, hy])
    show ε x (fun v => Gl ε l fun l => ON cf2 v l h n κ)=ET x l cf t h n κ
    rw [h1, Gv h2]
    simp only [ET, Ap, G8, ON, hcf]; rfl
  case slS x lo hi =>
    have h1:∀ κ, ε x κ=κ (ev x t) := hh x (by simp [AK.opds])
    have h2:∀ y∈lo.toList, ∀ κ, ε y κ=κ (ev y t) := fun y hy => hh y (by simp [AK.opds]; simp at hy; simp [hy])
    have h3:∀ y∈hi.toList, ∀ κ, ε y κ=κ (ev y t) := fun y hy => hh y (by simp [AK.opds]; simp at hy; simp [hy])
    show ε x (fun v => Gy ε lo fun a => Gy ε hi fun b => Tw v a b fun v => κ v h n)=Je x lo hi cf t h n κ
    rw [h1, GC h2, GC h3]
    simp only [Je, Ap, Rz]
    cases hi <;> rfl
  case slL e x lo hi =>
    have h1:∀ κ, ε x κ=κ (ev x t) := hh x (by simp [AK.opds])
    have h2:∀ y∈lo.toList, ∀ κ, ε y κ=κ (ev y t) := fun y hy => hh y (by simp [AK.opds]; simp at hy; simp [hy])
    have h3:∀ y∈hi.toList, ∀ κ, ε y κ=κ (ev y t) := fun y hy => hh y (by simp [AK.opds]; simp at hy; simp [hy])
    show ε x (fun v => Gy ε lo fun a => Gy ε hi fun b => H9 e v a b fun v => κ v h n)=He e x lo hi cf t h n κ
    rw [h1, GC h2, GC h3]
    simp only [He, SR, Ap, Rz]
    cases hi <;> rfl
  case slA m e x lo hi =>
    have h1:∀ κ, ε x κ=κ (ev x t) := hh x (by simp [AK.opds])
    have h2:∀ y∈lo.toList, ∀ κ, ε y κ=κ (ev y t) := fun y hy => hh y (by simp [AK.opds]; simp at hy; simp [hy])
    have h3:∀ y∈hi.toList, ∀ κ, ε y κ=κ (ev y t) := fun y hy => hh y (by simp [AK.opds]; simp at hy; simp [hy])
    show ε x (fun v => Gy ε lo fun a => Gy ε hi fun b => Vl m e v a b h fun v => κ v h n)=JY m e x lo hi cf t h n κ
    rw [h1, GC h2, GC h3]
    simp only [JY, Ap, Rz, Vl, DC]
  case pick c a b =>
    have h1:∀ κ, ε c κ=κ (ev c t) := hh c (by simp [AK.opds])
    have h2:∀ κ, ε a κ=κ (ev a t) := hh a (by simp [AK.opds])
    have h3:∀ κ, ε b κ=κ (ev b t) := hh b (by simp [AK.opds])
    show ε c (fun q => ε a fun x => ε b fun y => C9 q x y fun v => κ v h n)=J1 c a b cf t h n κ
    rw [h1, h2, h3, Wt]
    simp only [J1, Ap]
  case b2s x =>
    have h1:∀ κ, ε x κ=κ (ev x t) := hh x (by simp [AK.opds])
    show ε x (fun v => SK v h fun v => κ v h n)=KU x cf t h n κ
    rw [h1, UW]
    simp only [KU, Ap]
  case bin op x y =>
    have h1:∀ κ, ε x κ=κ (ev x t) := hh x (by simp [AK.opds])
    have h2:∀ κ, ε y κ=κ (ev y t) := hh y (by simp [AK.opds])
    show ε x (fun u => ε y fun v => Aaf op u v fun v => κ v h n)=LD op x y cf t h n κ
    rw [h1, h2, Yq]
    simp only [LD, Ap]
  all_goals
    simp only [AK.opds, List.mem_cons, List.not_mem_nil, or_false, forall_eq_or_imp, forall_eq] at hh
    simp only [GU, Ik, FW, DT, AP, BA, VV, Gh, EE, WB, YS, Lc, Xe, QL, U4, PQ, TD, Dk, WU, Zy, Jx, I4, DC, FD, D1, Ra, Y3, QE, JC, U2, O7, TV, CM, Us, N4, OE, Ow, Ng, KU, JD, NA, Nj, Jv, GY, Na, N7, OA, OB, N6, NY, Uo, UJ, NX, NE, Oc, MU, NS, Oi, Nr, Nz, Kt, N0, Kw, Nm, OH, Zc, SH, Ap, hh]
    try rfl
end
end Go.Ev

namespace Go.Ev
set_option linter.unusedVariables false
/-- The place of a register that is kept. -/
structure SL where
  a:O8
  b:O4
def S.get (s:SL) (t:S):V := SQ.sel s.b (S.sel s.a t)
def S.put (s:SL) (t:S) (v:V):S := S.setS s.a t (SQ.setS s.b (S.sel s.a t) v)
theorem S.get_put_same (s:SL) (t:S) (v:V):S.get s (S.put s t v)=v := by
  simp only [S.get, S.put, S.sel_setS_same, SQ.sel_setS_same]
theorem S.get_put_ne {s s':SL} (t:S) (v:V) (h:s≠s'):S.get s' (S.put s t v)=S.get s' t := by
  obtain ⟨a, b⟩ := s
  obtain ⟨a', b'⟩ := s'
  simp only [S.get, S.put]
  by_cases ha:a=a'
  · subst ha
    rw [S.sel_setS_same]
    by_cases hb:b=b'
    · subst hb; exact absurd rfl h
    · rw [SQ.sel_setS_ne _ _ hb]
  · rw [S.sel_setS_ne _ _ ha]
abbrev Yf (b:O4) (κ:V->R) (x:SQ):R := @SQ.rec (fun _ => R) (fun d0 d1 d2 d3 => @O4.rec (fun _ => R) (κ d0) (κ d1) (κ d2) (κ d3) b) x
abbrev XH (p:SL) (t:S) (κ:V->R):R := @SL.rec (fun _ => R) (fun a b => @S.rec (fun _ => R) (fun c0 c1 c2 c3 c4 c5 c6 c7 => @O8.rec (fun _ => R) (Yf b κ c0) (Yf b κ c1) (Yf b κ c2) (Yf b κ c3) (Yf b κ c4) (Yf b κ c5) (Yf b κ c6) (Yf b κ c7) a) t) p
abbrev Xy (b:O4) (v:V) (x:SQ) (k:SQ->R):R := @SQ.rec (fun _ => R) (fun d0 d1 d2 d3 => @O4.rec (fun _ => R) (k (.mk v d1 d2 d3)) (k (.mk d0 v d2 d3)) (k (.mk d0 d1 v d3)) (k (.mk d0 d1 d2 v)) b) x
abbrev XY (p:SL) (t:S) (v:V) (k:S->R):R := @SL.rec (fun _ => R) (fun a b => @S.rec (fun _ => R) (fun c0 c1 c2 c3 c4 c5 c6 c7 => @O8.rec (fun _ => R) (Xy b v c0 fun x => k (.mk x c1 c2 c3 c4 c5 c6 c7)) (Xy b v c1 fun x => k (.mk c0 x c2 c3 c4 c5 c6 c7)) (Xy b v c2 fun x => k (.mk c0 c1 x c3 c4 c5 c6 c7)) (Xy b v c3 fun x => k (.mk c0 c1 c2 x c4 c5 c6 c7)) (Xy b v c4 fun x => k (.mk c0 c1 c2 c3 x c5 c6 c7)) (Xy b v c5 fun x => k (.mk c0 c1 c2 c3 c4 x c6 c7)) (Xy b v c6 fun x => k (.mk c0 c1 c2 c3 c4 c5 x c7)) (Xy b v c7 fun x => k (.mk c0 c1 c2 c3 c4 c5 c6 x)) a) t) p
theorem Aa2 (b:O4) (κ:V->R) (x:SQ):Yf b κ x=κ (SQ.sel b x) := by cases x; cases b <;> rfl
theorem XT (p:SL) (t:S) (κ:V->R):XH p t κ=κ (S.get p t) := by
  obtain ⟨a, b⟩ := p
  cases t
  cases a <;> exact Aa2 _ _ _
theorem ZV (b:O4) (v:V) (x:SQ) (k:SQ->R):Xy b v x k=k (SQ.setS b x v) := by cases x; cases b <;> rfl
theorem Yj (p:SL) (t:S) (v:V) (k:S->R):XY p t v k=k (S.put p t v) := by
  obtain ⟨a, b⟩ := p
  have e1:XY ⟨a, b⟩ t v k=Xy b v (S.sel a t) fun x => k (S.setS a t x) := by cases t; cases a <;> rfl
  rw [e1, ZV]; rfl
/-- The registers that are kept, and where. -/
abbrev SM := List (K2×SL)
abbrev J2 (p:K2) (sm:SM) (κ:SL->R) (e:R):R :=
  @List.rec (K2×SL) (fun _ => R) e (fun x _ ih => @Prod.rec K2 SL (fun _ => R) (fun q s => Zp (K2.beq q p) (κ s) ih) x) sm
def C8 (p:K2):SM->Option SL
  | [] => none
  | x::l => br (K2.beq x.1 p) (some x.2) (C8 p l)
theorem Od (p:K2) (sm:SM) (κ:SL->R) (e:R):J2 p sm κ e=match C8 p sm with | some s => κ s | none => e := by
  induction sm with
  | nil => rfl
  | cons x l ih =>
    obtain ⟨q, s⟩ := x
    have e1:J2 p ((q, s)::l) κ e=Zp (K2.beq q p) (κ s) (J2 p l κ e) := rfl
    rw [e1, ih]
    simp only [C8]
    cases K2.beq q p <;> rfl
def O8.beq (a b:O8):Bool := Nat.beq (@O8.rec (fun _ => Nat) 0 1 2 3 4 5 6 7 a) (@O8.rec (fun _ => Nat) 0 1 2 3 4 5 6 7 b)
def O4.beq (a b:O4):Bool := Nat.beq (@O4.rec (fun _ => Nat) 0 1 2 3 a) (@O4.rec (fun _ => Nat) 0 1 2 3 b)
theorem O8.beq_self (a:O8):a.beq a=true := by cases a <;> rfl
theorem O4.beq_self (a:O4):a.beq a=true := by cases a <;> rfl
def SL.beq (s s':SL):Bool := and (s.a.beq s'.a) (s.b.beq s'.b)
/-- No two registers at one place. -/
def S6:SM->Bool
  | [] => true
  | x::l => (l.all fun y => !SL.beq x.2 y.2)&&S6 l
theorem HY {p:K2} {s:SL}:∀ {sm:SM}, C8 p sm=some s->(p, s)∈sm
  | [], h => by cases h
  | x::l, h => by
    simp only [C8] at h
    cases hb:K2.beq x.1 p with
    | true =>
      rw [hb] at h
      have h:some x.2=some s := h
      cases h
      rw [←K2.beq_iff.1 hb]
      exact List.mem_cons_self ..
    | false => rw [hb] at h; exact List.mem_cons_of_mem _ (HY h)
theorem PF:∀ {sm:SM}, S6 sm=true->∀ {p q:K2} {s:SL}, C8 p sm=some s->C8 q sm=some s->p=q
  | [], _, p, q, s, h, _ => by cases h
  | x::l, hok, p, q, s, hp, hq => by
    simp only [S6, Bool.and_eq_true] at hok
    have no:∀ r, (r, x.2) ∉ l := fun r hr => by
      have := List.all_eq_true.1 hok.1 _ hr
      simp [SL.beq, O8.beq_self, O4.beq_self] at this
    simp only [C8] at hp hq
    cases hbp:K2.beq x.1 p with
    | true =>
      rw [hbp] at hp
      have hp:some x.2=some s := hp
      cases hp
      cases hbq:K2.beq x.1 q with
      | true => rw [←K2.beq_iff.1 hbp, ←K2.beq_iff.1 hbq]
      | false => rw [hbq] at hq; exact absurd (HY hq) (no _)
    | false =>
      rw [hbp] at hp
      cases hbq:K2.beq x.1 q with
      | true =>
        rw [hbq] at hq
        have hq:some x.2=some s := hq
        cases hq
        exact absurd (HY hp) (no _)
      | false => rw [hbq] at hq; exact PF hok.2 hp hq
abbrev Ren := List (K2×V)
abbrev VL (p:K2) (env:Ren) (κ:V->R) (e:R):R :=
  @List.rec (K2×V) (fun _ => R) e (fun x _ ih => @Prod.rec K2 V (fun _ => R) (fun q v => Zp (K2.beq q p) (κ v) ih) x) env
abbrev B5 (sm:SM) (env:Ren) (t:S):JH := fun o κ => @Opd.rec (fun _ => R) (fun p => VL p env κ (J2 p sm (fun s => XH s t κ) (.fail ""))) (fun v => κ v) o
abbrev Df (sm:SM) (d:Option K2) (t:S) (v:V) (κ:S->R):R :=
  @Option.rec K2 (fun _ => R) (κ t) (fun p => J2 p sm (fun s => XY s t v κ) (κ t)) d
abbrev Bw (d:Option K2) (v:V) (env:Ren):Ren := @Option.rec K2 (fun _ => Ren) env (fun p => (p, v)::env) d
def OK (w:Bool) (v:V) (yes no:R):R :=
  @V.rec (fun _ => R) (fun _ => Unit) (fun _ _ => no) (fun b => br (Bool.rec (Bool.rec true false b) b w) yes no) (fun _ _ => no) (fun _ _ _ _ _ _ => no) (fun _ _ => no) (fun _ _ => no) (fun _ => no) (fun _ => no) (fun _ _ _ => no) (fun _ _ => no) (fun o => .fail "") () (fun _ _ _ _ => ()) v
/-- A guarded operation and what comes behind it. -/
def gd (w:Bool) (v:V) (F:KV->R) (κ:KV) (h:Heap) (n:K4):R := OK w v (F κ) (κ B8 h n)
def FJ (w:Bool) (v:V) (F:(V->R)->R) (κ:V->R):R := OK w v (F κ) (κ B8)
def gd0 (w:Bool) (v:V) (F:R->R) (κ:R):R := OK w v (F κ) κ
abbrev IC (g:Option (K2×Bool)) (ε:JH) (F:KV->R) (κ:KV) (h:Heap) (n:K4):R :=
  @Option.rec (K2×Bool) (fun _ => R) (F κ) (fun p => @Prod.rec K2 Bool (fun _ => R) (fun r w => ε (.t r) fun v => gd w v F κ h n) p) g
abbrev Li (g:Option (K2×Bool)) (ε:JH) (F:(V->R)->R) (κ:V->R):R :=
  @Option.rec (K2×Bool) (fun _ => R) (F κ) (fun p => @Prod.rec K2 Bool (fun _ => R) (fun r w => ε (.t r) fun v => FJ w v F κ) p) g
abbrev RX (g:Option (K2×Bool)) (ε:JH) (F:R->R) (κ:R):R :=
  @Option.rec (K2×Bool) (fun _ => R) (F κ) (fun p => @Prod.rec K2 Bool (fun _ => R) (fun r w => ε (.t r) fun v => gd0 w v F κ) p) g
abbrev Dh (sm:SM) (cf:FL) (l:List AOp):Ren->S->Heap->K4->(Ren->S->Heap->K4->R)->R :=
  @List.rec AOp (fun _ => Ren->S->Heap->K4->(Ren->S->Heap->K4->R)->R) (fun env t h n κ => κ env t h n)
    (fun o _ ih env t h n κ => @AOp.rec (fun _ => R) (fun d g k => IC g (B5 sm env t) (GU k cf (B5 sm env t) h n) (fun v h n => Df sm d t v fun t => ih (Bw d v env) t h n κ) h n) o) l
def AM (r:R) (κ:V->R):R := @R.rec (fun _ => R) (Fl "") (fun v h n => κ v) (fun w => .fail w) (Fl "") r
abbrev Gb (sm:SM) (cf:FL) (b:K4) (i:Item) (env:Ren) (t:S) (h0 h1:Heap) (n:K4) (κ:Ren->S->Heap->Heap->K4->R):R :=
  @Item.rec (fun _ => R)
    (fun _ o => @AOp.rec (fun _ => R) (fun d g k => Li g (B5 sm env t) (AM (GU k cf (B5 sm env t) h0 n Le)) (fun v => Df sm d t v fun t => κ (Bw d v env) t h0 h1 n)) o)
    (fun _ o => @AOp.rec (fun _ => R) (fun d g k => IC g (B5 sm env t) (Ij (GU k cf (B5 sm env t) h1 n R.rv)) (fun v h n => Df sm d t v fun t => κ (Bw d v env) t h h n) h1 n) o)
    (fun _ j o => @AOp.rec (fun _ => R) (fun d g k => IC g (B5 sm env t) (fun κ => b.at j fun r => AT r h1 fun x => Gp x (Ij (GU k cf (B5 sm env t) h1 r R.rv) κ)) (fun v h _ => Df sm d t v fun t => κ (Bw d v env) t h0 h n) h1 n) o)
    (fun _ o => @AOp.rec (fun _ => R) (fun d g k => RX g (B5 sm env t) (fun e => UY d fun p => AM (GU k cf (B5 sm env t) h0 n Le) fun v => B5 sm env t (.t p) fun x => AN x v e) (κ env t h0 h1 n)) o)
    (fun j => b.at j fun r => AT r h0 fun x => Gp x (κ env t h0 h1 n))
    (fun _ j o => @AOp.rec (fun _ => R) (fun d g k => Li g (B5 sm env t) (fun κ => b.at j fun r => AT r h1 fun x => obS x fun ob => AV r Aq (some ob) fun hx => AM (GU k cf (B5 sm env t) hx n Le) κ) (fun v => Df sm d t v fun t => κ (Bw d v env) t h0 h1 n)) o) i
abbrev DD (sm:SM) (cf:FL) (b:K4) (l:List Item):Ren->S->Heap->Heap->K4->(Ren->S->Heap->Heap->K4->R)->R :=
  @List.rec Item (fun _ => Ren->S->Heap->Heap->K4->(Ren->S->Heap->Heap->K4->R)->R) (fun env t h0 h1 n κ => κ env t h0 h1 n)
    (fun i _ ih env t h0 h1 n κ => Gb sm cf b i env t h0 h1 n fun env t h0 h1 n => ih env t h0 h1 n κ) l
def Iy (sm:SM) (p:K2):Bool := @Option.rec SL (fun _ => Bool) false (fun _ => true) (C8 p sm)
def DI (sm:SM) (dom:List K2) (p:K2):Bool := Ym p dom || Iy sm p
def Rl (sm:SM) (dom:List K2) (o:AOp):Bool := o.slots.all (DI sm dom)
def GH (d:Option K2) (dom:List K2):List K2 := match d with | none => dom | some p => p::dom
def Hd (sm:SM):List AOp->List K2->Bool
  | [], _ => true
  | o::l, dom => Rl sm dom o&&Hd sm l (GH o.dst dom)
def CJ:List AOp->List K2->List K2
  | [], dom => dom
  | o::l, dom => CJ l (GH o.dst dom)
def Item.op:Item->Option AOp
  | .rd _ o => some o
  | .ef _ o => some o
  | .al _ _ o => some o
  | .rn _ _ o => some o
  | _ => none
def QZ (sm:SM) (dom:List K2):Item->Bool
  | .rd _ o => Rl sm dom o
  | .ef _ o => Rl sm dom o
  | .al _ _ o => Rl sm dom o
  | .rn _ _ o => Rl sm dom o
  | .ck _ o => Rl sm dom o&&match o.dst with | some p => DI sm dom p | none => true
  | .no _ => true
def P6 (i:Item) (dom:List K2):List K2 := match i.op with | some o => GH o.dst dom | none => dom
def JB (sm:SM):List Item->List K2->Bool
  | [], _ => true
  | i::l, dom => QZ sm dom i&&JB sm l (P6 i dom)
def Jy:List Item->List K2->List K2
  | [], dom => dom
  | i::l, dom => Jy l (P6 i dom)
section
variable {P:Program} {ρ:Env} {B N:Nat} {cf:CF} {cf2:FL} {sm:SM}
def G0 (p:K2):Ren->Option V
  | [] => none
  | x::l => br (K2.beq x.1 p) (some x.2) (G0 p l)
theorem Dw {p:K2} {v:V} {env:Ren}:G0 p ((p, v)::env)=some v := by
  simp only [G0, K2.beq_iff.2 rfl]; rfl
theorem Gz {p q:K2} {v:V} {env:Ren} (h:p≠q):G0 q ((p, v)::env)=G0 q env := by
  have:K2.beq p q=false := by
    cases hb:K2.beq p q with
    | false => rfl
    | true => exact absurd (K2.beq_iff.1 hb) h
  simp only [G0, this]; rfl
theorem Yi (p:K2) (env:Ren) (κ:V->R) (e:R):VL p env κ e=match G0 p env with | some v => κ v | none => e := by
  induction env with
  | nil => rfl
  | cons x l ih =>
    obtain ⟨q, v⟩ := x
    have e1:VL p ((q, v)::l) κ e=Zp (K2.beq q p) (κ v) (VL p l κ e) := rfl
    rw [e1, ih]
    by_cases h:q=p
    · subst h; rw [Dw, K2.beq_iff.2 rfl]
    · rw [Gz h]
      have:K2.beq q p=false := by
        cases hb:K2.beq q p with
        | false => rfl
        | true => exact absurd (K2.beq_iff.1 hb) h
      rw [this]
/-- The full registers t, those kept t', and what the region has told. -/
structure RI (sm:SM) (dom:List K2) (env:Ren) (t:Regs) (t':S):Prop where
  inj:∀ {p q s}, C8 p sm=some s->C8 q sm=some s->p=q
  told:∀ p v, G0 p env=some v->B3 p t=v
  dom:∀ p, p∈dom->∃ v, G0 p env=some v
  keep:∀ p s, C8 p sm=some s->S.get s t'=B3 p t
theorem R1 {p:K2} (h:Iy sm p=true):∃ s, C8 p sm=some s := by
  unfold Iy at h
  cases hf:C8 p sm with
  | none => rw [hf] at h; cases h
  | some s => exact ⟨s, rfl⟩
theorem RI.tell {dom:List K2} {env:Ren} {t:Regs} {t':S} (r:RI sm dom env t t') {p:K2} (h:DI sm dom p=true) (κ:V->R):B5 sm env t' (.t p) κ=κ (B3 p t) := by
  have e1:B5 sm env t' (.t p) κ=VL p env κ (J2 p sm (fun s => XH s t' κ) (.fail "")) := rfl
  rw [e1, Yi, Od]
  cases hf:G0 p env with
  | some v => rw [r.told p v hf]
  | none =>
    have hk:Iy sm p=true := by
      unfold DI at h
      rw [Bool.or_eq_true] at h
      rcases h with h | h
      · obtain ⟨v, hv⟩ := r.dom p (Qi.1 h); rw [hf] at hv; cases hv
      · exact h
    obtain ⟨s, hs⟩ := R1 hk
    rw [hs]
    show XH s t' κ=_
    rw [XT, r.keep p s hs]
theorem RI.tells {dom:List K2} {env:Ren} {t:Regs} {t':S} (r:RI sm dom env t t') {o:AOp} (h:Rl sm dom o=true):(∀ x∈o.k.opds, ∀ κ, B5 sm env t' x κ=κ (ev x t))∧(∀ p w, o.g=some (p, w)->∀ κ, B5 sm env t' (.t p) κ=κ (B3 p t)) := by
  have h := List.all_eq_true.1 h
  refine ⟨fun x hx κ => ?_, fun p w hg κ => r.tell (h p ?_) κ⟩
  · cases x with
    | c v => rfl
    | t p => exact r.tell (h p (List.mem_append_left _ (List.mem_filterMap.2 ⟨.t p, hx, rfl⟩))) κ
  · refine List.mem_append_right _ ?_
    rw [hg]; simp
theorem RI.start (hi:∀ {p q s}, C8 p sm=some s->C8 q sm=some s->p=q) {t:Regs} {t':S} (h:∀ p s, C8 p sm=some s->S.get s t'=B3 p t):RI sm [] [] t t' :=
  ⟨hi, fun p v h => (by simp [G0] at h), fun p h => (by simp at h), h⟩
theorem RI.put {dom:List K2} {env:Ren} {t:Regs} {t':S} (r:RI sm dom env t t') (d:Option K2) (v:V) (κ:S->R) :
    ∃ t1', Df sm d t' v κ=κ t1'∧RI sm (GH d dom) (Bw d v env) (Dp d t v) t1' := by
  cases d with
  | none => exact ⟨t', rfl, r⟩
  | some p =>
    have e1:Df sm (some p) t' v κ=J2 p sm (fun s => XY s t' v κ) (κ t') := rfl
    have e2:Bw (some p) v env=(p, v)::env := rfl
    have told:∀ q u, G0 q ((p, v)::env)=some u->B3 q (Dp (some p) t v)=u := fun q u hq => by
      by_cases e:p=q
      · subst e; rw [Dw] at hq; cases hq; exact AX _ _ _
      · rw [Gz e] at hq
        rw [show B3 q (Dp (some p) t v)=B3 q t from Bh _ _ e]; exact r.told q u hq
    have dm:∀ q, q∈GH (some p) dom->∃ u, G0 q ((p, v)::env)=some u := fun q hq => by
      by_cases e:p=q
      · subst e; exact ⟨v, Dw⟩
      · rw [Gz e]
        rcases List.mem_cons.1 hq with h | h
        · exact absurd h.symm e
        · exact r.dom q h
    rw [e1, Od]
    cases hk:C8 p sm with
    | some s =>
      refine ⟨S.put s t' v, Yj _ _ _ _, ?_⟩
      rw [e2]
      refine ⟨r.inj, told, dm, fun q s' hq => ?_⟩
      show S.get s' (S.put s t' v)=B3 q (EG p t v)
      by_cases e:p=q
      · subst e
        rw [hk] at hq; cases hq
        rw [AX, S.get_put_same]
      · have hs:s≠s' := fun hs => e (r.inj (hs ▸ hk) hq)
        rw [Bh _ _ e, S.get_put_ne _ _ hs]; exact r.keep q s' hq
    | none =>
      refine ⟨t', rfl, ?_⟩
      rw [e2]
      refine ⟨r.inj, told, dm, fun q s' hq => ?_⟩
      have e:p≠q := fun e => by subst e; rw [hk] at hq; cases hq
      show S.get s' t'=B3 q (EG p t v)
      rw [Bh _ _ e]; exact r.keep q s' hq
theorem Ki {p:K2} {w:Bool} {t:Regs} {yes no:R}:OK w (B3 p t) yes no=CG (some (p, w)) t yes no := (Cw p t _).symm
theorem Kd {g:Option (K2×Bool)} {ε:JH} {t:Regs} {F:KV->R} {κ:KV} {h:Heap} {n:K4} (hh:∀ p w, g=some (p, w)->∀ κ, ε (.t p) κ=κ (B3 p t)):IC g ε F κ h n=CG g t (F κ) (κ B8 h n) := by
  cases g with
  | none => rfl
  | some pw =>
    obtain ⟨p, w⟩ := pw
    exact (hh p w rfl _).trans Ki
theorem NG {g:Option (K2×Bool)} {ε:JH} {t:Regs} {F:(V->R)->R} {κ:V->R} (hh:∀ p w, g=some (p, w)->∀ κ, ε (.t p) κ=κ (B3 p t)):Li g ε F κ=CG g t (F κ) (κ B8) := by
  cases g with
  | none => rfl
  | some pw =>
    obtain ⟨p, w⟩ := pw
    exact (hh p w rfl _).trans Ki
theorem UI {g:Option (K2×Bool)} {ε:JH} {t:Regs} {F:R->R} {κ:R} (hh:∀ p w, g=some (p, w)->∀ κ, ε (.t p) κ=κ (B3 p t)):RX g ε F κ=CG g t (F κ) κ := by
  cases g with
  | none => rfl
  | some pw =>
    obtain ⟨p, w⟩ := pw
    exact (hh p w rfl _).trans Ki
def Qh (cf:CF) (o:AOp) (t:Regs) (h:Heap) (n:K4) (κ:KV):R := CG o.g t (Ik o.k cf t h n κ) (κ B8 h n)
theorem Rm (hρ:B4 ρ) (hcf:E8 P ρ B cf) {ops:Array Oper} {o:Oper} {ao:AOp} (hc:KT P N ops o=some ao) {t:Regs} {h:Heap} {n:K4} {κ:KV} (hg:(Qh cf ao t h n κ).good) :
    ∃ v h1 n1, Qh cf ao t h n κ=κ v h1 n1 ∧ ∀ φ a w, TR ρ N φ t a->Gam ρ B h n φ w->∀ (K:Act->World->Prop) (Q:Exit->Act->World->Prop),
      (∀ φ' a' w', Fr h h1 φ φ' n n1 w w'->Gam ρ B h1 n1 φ' w'->TR ρ N φ' (Dp ao.dst t v) a'->K a' w')->BF P ops o a w K Q := by
  obtain ⟨hd, hgd, hk⟩ := Bn hc
  rcases HR (ρ := ρ) (o := o) (show R.good (CG _ _ _ _) from hg) hgd with ⟨e1, hw⟩ | ⟨e1, hw⟩
  · have e1:Qh cf ao t h n κ=_ := e1
    rw [e1] at hg
    have hs:Cv P ρ B N o (Ik ao.k cf t h n) t h n := by
      rcases hk with hk | ⟨why, hk⟩
      · exact Mp hρ hcf hk
      · rw [hk]; exact Uk (cf := cf) (why := why)
    obtain ⟨v, h1, n1, e2, hstep⟩ := hs _ hg
    refine ⟨v, h1, n1, e1.trans e2, fun φ a w hT g K Q hK => ?_⟩
    unfold BF
    rw [if_pos (hw φ a hT)]
    exact hstep φ a w hT g K Q fun φ' x w' f1 g1 r1 => hK φ' _ w' f1 g1 ((hT.mono f1.ext).puts hd r1)
  · have e1:Qh cf ao t h n κ=_ := e1
    refine ⟨B8, h, n, e1, fun φ a w hT g K Q hK => ?_⟩
    unfold BF
    rw [if_neg (by rw [hw φ a hT]; simp)]
    exact hK φ _ w (Fr.refl h φ n w) g (hT.puts hd F9)
/-- A list of operations, and what comes behind it. -/
def G6 (P:Program) (ops:Array Oper) (Q:Exit->Act->World->Prop) (K:Act->World->Prop):List Oper->Act->World->Prop
  | [], a, w => K a w
  | o::rest, a, w => if Region.wanted o (yielded ops a.tmps)=true then o.wp P a w (G6 P ops Q K rest) Q else G6 P ops Q K rest (a.put o.dst undef) w
theorem GE {ops:Array Oper} {Q:Exit->Act->World->Prop} {r:List Oper}:∀ {l:List Oper} {a:Act} {w:World}, G6 P ops Q (wpList P ops Q r) l a w->wpList P ops Q (l++r) a w
  | [], _, _, h => h
  | o::l, a, w, h => by
    show wpList P ops Q (o::(l++r)) a w
    simp only [wpList]
    unfold G6 at h
    split
    · rw [if_pos (by assumption)] at h
      refine .inl ?_
      exact Oper.wp_mono (fun a w h => GE h) h
    · rw [if_neg (by assumption)] at h; exact GE h
theorem DA (hρ:B4 ρ) (hcf:E8 P ρ B cf) (h2:∀ f, cf2 (AI f)=cf f) {ops:Array Oper}:∀ {l:List Oper} {al:List AOp} {dom:List K2} {env:Ren} {t:Regs} {t':S} {h:Heap} {n:K4} {κ:Ren->S->Heap->K4->R},
    Ip P N ops l=some al->Hd sm al dom=true->RI sm dom env t t'->(Dh sm cf2 al env t' h n κ).good →
    ∃ env1 t1 t1' h1 n1, Dh sm cf2 al env t' h n κ=κ env1 t1' h1 n1∧RI sm (CJ al dom) env1 t1 t1' ∧ ∀ φ a w, TR ρ N φ t a->Gam ρ B h n φ w->∀ (Q:Exit->Act->World->Prop) (K:Act->World->Prop),
      (∀ φ' a' w', Fr h h1 φ φ' n n1 w w'->Gam ρ B h1 n1 φ' w'->TR ρ N φ' t1 a'->K a' w')->G6 P ops Q K l a w
  | [], al, dom, env, t, t', h, n, κ, hc, hok, ri, hg => by
    simp only [Ip, Option.some.injEq] at hc; subst hc
    exact ⟨env, t, t', h, n, rfl, ri, fun φ a w hT g Q K hQ => hQ φ a w (Fr.refl h φ n w) g hT⟩
  | o::l, al, dom, env, t, t', h, n, κ, hc, hok, ri, hg => by
    simp only [Ip] at hc
    split at hc
    · rename_i ao al' ho hl
      cases hc
      simp only [Hd, Bool.and_eq_true] at hok
      have ht := ri.tells hok.1
      have e0:Dh sm cf2 (ao::al') env t' h n κ=IC ao.g (B5 sm env t') (GU ao.k cf2 (B5 sm env t') h n) (fun v h n => Df sm ao.dst t' v fun t => Dh sm cf2 al' (Bw ao.dst v env) t h n κ) h n := by cases ao; rfl
      have e1:Dh sm cf2 (ao::al') env t' h n κ=Qh cf ao t h n (fun v h n => Df sm ao.dst t' v fun t => Dh sm cf2 al' (Bw ao.dst v env) t h n κ) := by
        rw [e0, Kd ht.2, Ia ht.1 h2]; rfl
      rw [e1] at hg ⊢
      obtain ⟨v, h1, n1, e2, H1⟩ := Rm (B := B) hρ hcf ho hg
      rw [e2] at hg ⊢
      obtain ⟨t1', e3, ri1⟩ := ri.put ao.dst v (fun t => Dh sm cf2 al' (Bw ao.dst v env) t h1 n1 κ)
      rw [e3] at hg ⊢
      obtain ⟨env2, t2, t2', hh2, n2, e4, ri2, H2⟩ := DA hρ hcf h2 hl hok.2 ri1 hg
      refine ⟨env2, t2, t2', hh2, n2, e4, ri2, fun φ a w hT g Q K hQ => ?_⟩
      have := H1 φ a w hT g (G6 P ops Q K l) Q fun φ' a' w' f1 g1 T1 => H2 φ' a' w' T1 g1 Q K fun φ2 a2 w2 f2 g2 T2 => hQ φ2 a2 w2 (Fr.trans f1 f2) g2 T2
      exact this
    · cases hc
theorem RF (hρ:B4 ρ) (hcf:E8 P ρ B cf) (h2:∀ f, cf2 (AI f)=cf f) {ops:Array Oper} {l:List Oper} {al:List AOp} {dom:List K2} {env:Ren} {t:Regs} {t':S} {h:Heap} {n:K4} {κ:Ren->S->Heap->K4->R}
    (hc:Ip P N ops l=some al) (hok:Hd sm al dom=true) (ri:RI sm dom env t t') (hg:(Dh sm cf2 al env t' h n κ).good) :
    ∃ env1 t1 t1' h1 n1, Dh sm cf2 al env t' h n κ=κ env1 t1' h1 n1∧RI sm (CJ al dom) env1 t1 t1' ∧ ∀ φ a w, TR ρ N φ t a->Gam ρ B h n φ w->∀ (Q:Exit->Act->World->Prop),
      (∀ φ' a' w', Fr h h1 φ φ' n n1 w w'->Gam ρ B h1 n1 φ' w'->TR ρ N φ' t1 a'->Q .normal a' w')->wpList P ops Q l a w := by
  obtain ⟨env1, t1, t1', h1, n1, e1, ri1, H⟩ := DA hρ hcf h2 hc hok ri hg
  exact ⟨env1, t1, t1', h1, n1, e1, ri1, fun φ a w hT g Q hQ => by have := GE (r := []) (H φ a w hT g Q (wpList P ops Q []) hQ); rwa [List.append_nil] at this⟩
theorem Mn {r:R} {κ:V->R} (hg:(AM r κ).good):∃ v h n, r = .rv v h n∧AM r κ=κ v := by
  cases r with
  | ok e t h n => exact hg.elim
  | rv v h n => exact ⟨v, h, n, rfl, rfl⟩
  | fail w => exact hg.elim
  | both a b => exact hg.elim
theorem Q3 (h2:∀ f, cf2 (AI f)=cf f) {b:K4} {i:Item} {dom:List K2} {env:Ren} {s:St} {t':S} {κ:Ren->S->Heap->Heap->K4->R} (hok:QZ sm dom i=true) (ri:RI sm dom env s.t t') (hg:(Gb sm cf2 b i env t' s.h0 s.h1 s.n κ).good) :
    ∃ s' env1 t1', JR cf b i s s'∧RI sm (P6 i dom) env1 s'.t t1'∧Gb sm cf2 b i env t' s.h0 s.h1 s.n κ=κ env1 t1' s'.h0 s'.h1 s'.n := by
  obtain ⟨t, h0, h1, n⟩ := s
  cases i with
  | rd i o =>
    have ht := ri.tells hok
    have e0:Gb sm cf2 b (.rd i o) env t' h0 h1 n κ=Li o.g (B5 sm env t') (AM (GU o.k cf2 (B5 sm env t') h0 n Le)) (fun v => Df sm o.dst t' v fun t => κ (Bw o.dst v env) t h0 h1 n) := by cases o; rfl
    simp only [e0] at hg ⊢
    rw [NG ht.2, Ia ht.1 h2] at hg ⊢
    rcases Fo hg with hy | hn
    · rw [hy] at hg
      obtain ⟨v, h, n', e1, e2⟩ := Mn hg
      obtain ⟨t1', e3, ri1⟩ := ri.put o.dst v (fun t => κ (Bw o.dst v env) t h0 h1 n)
      exact ⟨_, _, _, .inl ⟨hy, v, h, n', e1, rfl⟩, ri1, by rw [hy, e2, e3]⟩
    · obtain ⟨t1', e3, ri1⟩ := ri.put o.dst B8 (fun t => κ (Bw o.dst B8 env) t h0 h1 n)
      exact ⟨_, _, _, .inr ⟨hn, rfl⟩, ri1, by rw [hn, e3]⟩
  | ef i o =>
    have ht := ri.tells hok
    have e0:Gb sm cf2 b (.ef i o) env t' h0 h1 n κ=IC o.g (B5 sm env t') (Ij (GU o.k cf2 (B5 sm env t') h1 n R.rv)) (fun v h n => Df sm o.dst t' v fun t => κ (Bw o.dst v env) t h h n) h1 n := by cases o; rfl
    simp only [e0] at hg ⊢
    rw [Kd ht.2, Ia ht.1 h2] at hg ⊢
    rcases Fo hg with hy | hn
    · rw [hy] at hg
      obtain ⟨v, h, n', e1, e2⟩ := PA hg
      obtain ⟨t1', e3, ri1⟩ := ri.put o.dst v (fun t => κ (Bw o.dst v env) t h h n')
      exact ⟨_, _, _, .inl ⟨hy, v, h, n', e1, rfl⟩, ri1, by rw [hy, e2, e3]⟩
    · obtain ⟨t1', e3, ri1⟩ := ri.put o.dst B8 (fun t => κ (Bw o.dst B8 env) t h1 h1 n)
      exact ⟨_, _, _, .inr ⟨hn, rfl⟩, ri1, by rw [hn, e3]⟩
  | al i j o =>
    have ht := ri.tells hok
    have e0:Gb sm cf2 b (.al i j o) env t' h0 h1 n κ=IC o.g (B5 sm env t') (fun κ => Gp (A8 (Ec b j) h1) (Ij (GU o.k cf2 (B5 sm env t') h1 (Ec b j) R.rv) κ)) (fun v h _ => Df sm o.dst t' v fun t => κ (Bw o.dst v env) t h0 h n) h1 n := by
      have:∀ κ:KV, (b.at j fun r => AT r h1 fun x => Gp x (Ij (GU o.k cf2 (B5 sm env t') h1 r R.rv) κ))=Gp (A8 (Ec b j) h1) (Ij (GU o.k cf2 (B5 sm env t') h1 (Ec b j) R.rv) κ) := fun κ => by
        rw [K4.at_eq, AB]; rfl
      cases o
      simp only [←this]
    simp only [e0] at hg ⊢
    rw [Kd ht.2, Ia ht.1 h2] at hg ⊢
    rcases Fo hg with hy | hn
    · rw [hy] at hg
      obtain ⟨h3, e3⟩ := Lp hg
      rw [e3] at hg
      obtain ⟨v, h, n', e1, e2⟩ := PA hg
      obtain ⟨t1', e4, ri1⟩ := ri.put o.dst v (fun t => κ (Bw o.dst v env) t h0 h n)
      exact ⟨_, _, _, .inl ⟨hy, h3, v, h, n', e1, rfl⟩, ri1, by rw [hy, e3, e2, e4]⟩
    · obtain ⟨t1', e3, ri1⟩ := ri.put o.dst B8 (fun t => κ (Bw o.dst B8 env) t h0 h1 n)
      exact ⟨_, _, _, .inr ⟨hn, rfl⟩, ri1, by rw [hn, e3]⟩
  | ck i o =>
    simp only [QZ, Bool.and_eq_true] at hok
    have ht := ri.tells hok.1
    have e0:Gb sm cf2 b (.ck i o) env t' h0 h1 n κ=RX o.g (B5 sm env t') (fun e => UY o.dst fun p => AM (GU o.k cf2 (B5 sm env t') h0 n Le) fun v => B5 sm env t' (.t p) fun x => AN x v e) (κ env t' h0 h1 n) := by cases o; rfl
    simp only [e0] at hg ⊢
    rw [UI ht.2, Ia ht.1 h2] at hg ⊢
    rcases Fo hg with hy | hn
    · rw [hy] at hg
      cases hd:o.dst with
      | none => rw [hd] at hg; exact hg.elim
      | some p =>
        have hkn:DI sm dom p=true := by have := hok.2; rw [hd] at this; exact this
        rw [hd] at hg
        have e5:(UY (some p) fun p => AM (Ik o.k cf t h0 n Le) fun v => B5 sm env t' (.t p) fun x => AN x v (κ env t' h0 h1 n))=AM (Ik o.k cf t h0 n Le) fun v => AN (B3 p t) v (κ env t' h0 h1 n) := by
          show AM _ (fun v => B5 sm env t' (.t p) fun x => AN x v (κ env t' h0 h1 n))=_
          congr 1; funext v
          exact ri.tell hkn _
        rw [e5] at hg
        obtain ⟨v, h, n', e1, e2⟩ := Mn hg
        rw [e2] at hg
        obtain ⟨e3, e4⟩ := Eb hg
        exact ⟨_, env, t', ⟨rfl, .inl ⟨hy, p, h, n', hd, by show Ik o.k cf t h0 n Le = .rv (B3 p t) h n'; rw [e3]; exact e1⟩⟩, ri, by rw [hy]; exact e5.trans (e2.trans e4)⟩
    · exact ⟨_, env, t', ⟨rfl, .inr hn⟩, ri, by rw [hn]⟩
  | no j =>
    have e0:Gb sm cf2 b (.no j) env t' h0 h1 n κ=Gp (A8 (Ec b j) h0) (κ env t' h0 h1 n) := by
      show b.at j (fun r => AT r h0 _)=_
      rw [K4.at_eq, AB]; rfl
    simp only [e0] at hg ⊢
    obtain ⟨h3, e3⟩ := Lp hg
    exact ⟨_, env, t', ⟨rfl, h3⟩, ri, e3⟩
  | rn i j o =>
    have ht := ri.tells hok
    have e0:Gb sm cf2 b (.rn i j o) env t' h0 h1 n κ=Li o.g (B5 sm env t') (fun κ => obS (A8 (Ec b j) h1) fun ob => AM (GU o.k cf2 (B5 sm env t') (Af (Ec b j) Aq (some ob)) n Le) κ) (fun v => Df sm o.dst t' v fun t => κ (Bw o.dst v env) t h0 h1 n) := by
      have:∀ κ:V->R, (b.at j fun r => AT r h1 fun x => obS x fun ob => AV r Aq (some ob) fun hx => AM (GU o.k cf2 (B5 sm env t') hx n Le) κ)=obS (A8 (Ec b j) h1) fun ob => AM (GU o.k cf2 (B5 sm env t') (Af (Ec b j) Aq (some ob)) n Le) κ := fun κ => by
        simp only [K4.at_eq, AB, Bf, AA]; rfl
      cases o
      simp only [←this]
    simp only [e0] at hg ⊢
    simp only [Ia ht.1 h2] at hg ⊢
    rw [NG ht.2] at hg ⊢
    rcases Fo hg with hy | hn
    · rw [hy] at hg
      obtain ⟨ob, h3, e3⟩ := W4 hg
      rw [e3] at hg
      obtain ⟨v, h, n', e1, e2⟩ := Mn hg
      obtain ⟨t1', e4, ri1⟩ := ri.put o.dst v (fun t => κ (Bw o.dst v env) t h0 h1 n)
      exact ⟨_, _, _, .inl ⟨hy, ob, v, h, n', h3, e1, rfl⟩, ri1, by rw [hy, e3, e2, e4]⟩
    · obtain ⟨t1', e3, ri1⟩ := ri.put o.dst B8 (fun t => κ (Bw o.dst B8 env) t h0 h1 n)
      exact ⟨_, _, _, .inr ⟨hn, rfl⟩, ri1, by rw [hn, e3]⟩
theorem Jp (h2:∀ f, cf2 (AI f)=cf f) {b:K4}:∀ {l:List Item} {dom:List K2} {env:Ren} {s:St} {t':S} {κ:Ren->S->Heap->Heap->K4->R}, JB sm l dom=true->RI sm dom env s.t t'->(DD sm cf2 b l env t' s.h0 s.h1 s.n κ).good →
    ∃ (st:Nat->St) (env1:Ren) (t1':S), st 0=s∧(∀ i x, l[i]? = some x->JR cf b x (st i) (st (i+1)))∧RI sm (Jy l dom) env1 (st l.length).t t1'∧DD sm cf2 b l env t' s.h0 s.h1 s.n κ=κ env1 t1' (st l.length).h0 (st l.length).h1 (st l.length).n
  | [], dom, env, s, t', κ, hok, ri, hg => ⟨fun _ => s, env, t', rfl, fun i x hx => by simp at hx, ri, rfl⟩
  | x::l, dom, env, s, t', κ, hok, ri, hg => by
    simp only [JB, Bool.and_eq_true] at hok
    have e0:DD sm cf2 b (x::l) env t' s.h0 s.h1 s.n κ=Gb sm cf2 b x env t' s.h0 s.h1 s.n fun env t h0 h1 n => DD sm cf2 b l env t h0 h1 n κ := rfl
    rw [e0] at hg
    obtain ⟨s', env1, t1', hs, ri1, e1⟩ := Q3 h2 hok.1 ri hg
    rw [e1] at hg
    obtain ⟨st, env2, t2', h1, h3, ri2, h4⟩ := Jp h2 hok.2 ri1 hg
    refine ⟨fun i => match i with | 0 => s | i+1 => st i, env2, t2', rfl, fun i y hy => ?_, ri2, ?_⟩
    · cases i with
      | zero => simp at hy; subst hy; show JR cf b x s (st 0); rw [h1]; exact hs
      | succ i => exact h3 i y (by simpa using hy)
    · rw [e0, e1, h4]; rfl
end
end Go.Ev

namespace Go.Ev
open Go.ChangeMaps (setBlock)
set_option linter.unusedVariables false
/-- All that it may come to is DI, and meets a condition. -/
def R.sat (Φ:R->Prop):R->Prop
  | .fail _ => False
  | .both a b => a.sat Φ∧b.sat Φ
  | .ok e t h n => Φ (.ok e t h n)
  | .rv v h n => Φ (.rv v h n)
theorem R.sat_good {Φ:R->Prop} {r:R} (h:r.sat Φ):r.good := by cases r <;> first | exact h.elim | trivial
theorem R.sat_mono {Φ Ψ:R->Prop} (H:∀ r, Φ r->Ψ r):∀ {r:R}, r.sat Φ->r.sat Ψ
  | .fail _, h => h.elim
  | .both a b, h => ⟨R.sat_mono H h.1, R.sat_mono H h.2⟩
  | .ok _ _ _ _, h => H _ h
  | .rv _ _ _, h => H _ h
def QK (q:K4) (h:Heap) (κ0:R) (κ:K4->Nat->List Nat->Nat->R):R :=
  AT q h fun o => @Option.rec Ob (fun _ => R) (.fail "") (fun o => @Ob.rec (fun _ => R) (By "") (By "") κ κ0 (As "") o) o
def Rj (v:V) (h:Heap) (n:K4) (κ:KV):R :=
  CX v (DR h n .it0 fun h' n' => κ (.ptr n 0) h' n') (fun p => J5 p h fun _ _ c => DR h n (.it p c [] c) fun h' n' => κ (.ptr n 0) h' n')
def DX (s:Nat) (es:List (V×V)):List Nat->(V->V->R)->R :=
  @List.rec (V×V) (fun _ => List Nat->(V->V->R)->R) (As "")
    (fun e _ ih bs κ => @List.rec Nat (fun _ => R) (.fail "") (fun b tl _ => br (Nat.beq b s) (@Prod.rec V V (fun _ => R) κ e) (ih tl κ)) bs) es
def JP (v:V) (h:Heap) (n:K4) (κ:KV):R :=
  J7 v fun q off => br (Nat.beq off 0) (QK q h (.fail "") fun p since seen c => J5 p h fun es bs clk => br (Nat.beq clk c)
    (@List.rec Nat (fun _ => R) (.fail "") (fun s _ _ => DX s es bs fun k x => κ (.tup [k, x]) h n) seen) (.fail "")) (.fail "")
/-- Are all stamps elder? -/
def DH (since:Nat) (bs:List Nat):Bool := @List.rec Nat (fun _ => Bool) true (fun b _ ih => br (Nat.ble (Nat.succ b) since) ih false) bs
def Ch (b:Nat) (l:List Nat):Bool := @List.rec Nat (fun _ => Bool) false (fun x _ ih => br (Nat.beq x b) true ih) l
def LY (q p:K4) (since:Nat) (seen:List Nat) (clk:Nat) (h:Heap) (n:K4) (κ:KV) (e:V×V) (b:Nat):R :=
  AV q h (some (.it p since (b::seen) clk)) fun h' => @Prod.rec V V (fun _ => R) (fun k x => κ (.tup [.bool true, k, x]) h' n) e
def DO (seen:List Nat) (leaf:V×V->Nat->R) (es:List (V×V)):List Nat->R->R :=
  @List.rec (V×V) (fun _ => List Nat->R->R) (fun _ acc => acc)
    (fun e _ ih bs acc => @List.rec Nat (fun _ => R) (.fail "") (fun b tl _ => br (Ch b seen) (ih tl acc) (ih tl (.both acc (leaf e b)))) bs) es
def Fn (seen:List Nat) (leaf:V×V->Nat->R) (es:List (V×V)):List Nat->R->R :=
  @List.rec (V×V) (fun _ => List Nat->R->R) (fun _ none => none)
    (fun e es ih bs none => @List.rec Nat (fun _ => R) (.fail "") (fun b tl _ => br (Ch b seen) (ih tl none) (DO seen leaf es tl (leaf e b))) bs) es
def IF (v:V) (h:Heap) (n:K4) (κ:KV):R :=
  J7 v fun q off => br (Nat.beq off 0) (QK q h (κ (.tup [.bool false]) h n) fun p since seen c => J5 p h fun es bs clk => br (DH since bs) (br (Nat.ble since c)
    (Fn seen (LY q p since seen clk h n κ) es bs (κ (.tup [.bool false]) h n)) (.fail "")) (.fail "")) (.fail "")
section
variable {P:Program} {ρ:Env} {B N:Nat} {o:Oper} {t:Regs} {h:Heap} {n:K4}
theorem Qr {q:K4} {κ0:R} {κ:K4->Nat->List Nat->Nat->R} (hg:(QK q h κ0 κ).good) :
    (A8 q h=some .it0∧QK q h κ0 κ=κ0) ∨ ∃ p s l c, A8 q h=some (.it p s l c)∧QK q h κ0 κ=κ p s l c := by
  have e:QK q h κ0 κ=@Option.rec Ob (fun _ => R) (.fail "") (fun o => @Ob.rec (fun _ => R) (By "") (By "") κ κ0 (As "") o) (A8 q h) := AB _ _ _
  rw [e] at hg
  cases hx:A8 q h with
  | none => rw [hx] at hg; exact hg.elim
  | some ob =>
    rw [hx] at hg e
    cases ob with
    | c _ _ _ => exact hg.elim
    | m _ _ _ => exact hg.elim
    | it p s l c => exact .inr ⟨p, s, l, c, rfl, e⟩
    | it0 => exact .inl ⟨rfl, e⟩
    | lp _ _ => exact hg.elim
/-- One step of a range. -/
def V3 (P:Program) (ρ:Env) (B N:Nat) (o:Oper) (t:Regs) (h:Heap) (n:K4) (f:KV->R):Prop :=
  ∀ (κ:KV) (Φ:R->Prop), (f κ).sat Φ->∀ (φ:AF) (a:Act) (w:World), TR ρ N φ t a->Gam ρ B h n φ w->∀ (K:Act->World->Prop) (Q:Exit->Act->World->Prop),
    (∀ v h1 n1, (κ v h1 n1).sat Φ->∀ φ' x w', Fr h h1 φ φ' n n1 w w'->Gam ρ B h1 n1 φ' w'->Aj ρ φ' v x->K (a.put o.dst x) w')->o.wp P a w K Q
theorem Cv.sp {f:KV->R} (H:Cv P ρ B N o f t h n):V3 P ρ B N o t h n f := fun κ Φ hs φ a w hT g K Q hK => by
  obtain ⟨v, h1, n1, e, st⟩ := H κ (R.sat_good hs)
  rw [e] at hs
  exact st φ a w hT g K Q fun φ' x w' f1 g1 r1 => hK v h1 n1 hs φ' x w' f1 g1 r1
theorem U5 {ty kt e:TypeId} {x:Operand} {x':Opd} (ho:o.op = .range ty x) (hx:At N x=some x') (ht:P.underlying ty=some (.map kt e)):Cv P ρ B N o (Rj (ev x' t) h n) t h n := by
  intro κ hg
  unfold Rj at hg ⊢
  rw [I4, FD] at hg ⊢
  rcases Dv hg with ⟨hv, e1⟩ | ⟨p, hv, e1⟩
  · rw [e1] at hg
    obtain ⟨n', hn, e2⟩ := Ba hg
    refine ⟨_, _, _, e1.trans e2, .value fun φ a w hT g => ?_⟩
    have g1 := Ae hx hT
    rw [hv] at g1
    have gx := Bs g1
    refine ⟨_, .pointer (some ⟨w.heap.size, 0, none⟩), w.alloc (.mapIter none 0 #[] 0), ?_, Fr.alloc g.at_n (by omega) (Nat.le_refl _) (by omega) _ _ 0, g.alloc g.at_n (by omega) (by omega) .it0 rfl _ 0 fun φ' hle w' hw' => ⟨rfl, hw'⟩, CT⟩
    simp [execOp, ho, gx, BB, Instr.range, run_underlying ht, run_newObj]
  · rw [e1] at hg
    obtain ⟨es, bs, c, hpm, e2⟩ := Eo hg
    rw [e2] at hg
    obtain ⟨n', hn, e3⟩ := Ba hg
    refine ⟨_, _, _, e1.trans (e2.trans e3), .value fun φ a w hT g => ?_⟩
    have g1 := Ae hx hT
    rw [hv] at g1
    obtain ⟨b, s, tot, hφ, gx⟩ := G1 g1
    obtain ⟨ents, k1, k2, k3⟩ := g.obj p _ b s tot hpm hφ
    have hgo:(getObj b).run P w = .ok (.map ents c) w := by simp [getObj, Sem.run, k1]
    refine ⟨_, .pointer (some ⟨w.heap.size, 0, none⟩), w.alloc (.mapIter (some b) c #[] c), ?_, Fr.alloc g.at_n (by omega) (Nat.le_refl _) (by omega) _ _ 0, g.alloc g.at_n (by omega) (by omega) (.it p c [] c) rfl _ 0 fun φ' hle w' hw' => ⟨b, s, tot, hle _ _ hφ, rfl, hw'⟩, CT⟩
    simp only [execOp, ho, gx, Instr.range, Sem.run_bind, run_underlying ht, Result.andThen_ok, hgo]
    simp [run_newObj]
theorem Lh {s:Nat}:∀ {es:List (V×V)} {bs:List Nat} {κ:V->V->R}, (DX s es bs κ).good->∃ (i:Nat) (e:V×V), es[i]? = some e∧bs[i]? = some s∧(∀ j, j<i->bs[j]? ≠ some s)∧DX s es bs κ=κ e.1 e.2
  | [], bs, κ, h => h.elim
  | (k, x)::es, [], κ, h => h.elim
  | (k, x)::es, b::bs, κ, h => by
    have h:R.good (br (Nat.beq b s) (κ k x) (DX s es bs κ)) := h
    cases hb:Nat.beq b s with
    | true =>
      refine ⟨0, (k, x), rfl, by rw [Nat.eq_of_beq_eq_true hb]; rfl, fun j hj => by omega, ?_⟩
      show br (Nat.beq b s) (κ k x) (DX s es bs κ)=_
      rw [hb]; rfl
    | false =>
      rw [hb] at h
      obtain ⟨i, e, h1, h2, h3, h4⟩ := Lh (show R.good (DX s es bs κ) from h)
      refine ⟨i+1, e, by simpa using h1, by simpa using h2, fun j hj => ?_, ?_⟩
      · cases j with
        | zero => intro e; simp at e; subst e; simp at hb
        | succ j => simpa using h3 j (by omega)
      · show br (Nat.beq b s) (κ k x) (DX s es bs κ)=_
        rw [hb]; exact h4
theorem Yl {l:List MapEntry} {s:Nat}:∀ {i:Nat} {m:MapEntry}, l[i]? = some m->m.born=s->(∀ j, j<i->(l.map (·.born))[j]? ≠ some s)->l.find? (·.born == s)=some m := by
  induction l with
  | nil => intro i m h; simp at h
  | cons x l ih =>
    intro i m h hm hj
    cases i with
    | zero => simp at h; subst h; simp [hm]
    | succ i =>
      have h0 := hj 0 (by omega)
      simp at h0
      rw [List.find?_cons]
      have:(x.born == s)=false := by simpa using h0
      rw [this]
      exact ih (by simpa using h) hm fun j hj' => by have := hj (j+1) (by omega); simpa using this
theorem UD {x:Operand} {x':Opd} (ho:o.op = .entry x) (hx:At N x=some x'):Cv P ρ B N o (JP (ev x' t) h n) t h n := by
  intro κ hg
  unfold JP at hg ⊢
  rw [FD] at hg ⊢
  obtain ⟨q, off, hv, e1⟩ := Ct hg
  rw [e1] at hg
  obtain ⟨h0, e2⟩ := Ad hg
  rw [e2] at hg
  have h0 := Nat.eq_of_beq_eq_true h0
  subst h0
  rcases Qr hg with ⟨hq, e3⟩ | ⟨p, since, seen, c, hq, e3⟩
  · rw [e3] at hg; exact hg.elim
  rw [e3] at hg
  obtain ⟨es, bs, clk, hp, e4⟩ := Eo hg
  rw [e4] at hg
  obtain ⟨h5, e5⟩ := Ad hg
  rw [e5] at hg
  have h5 := Nat.eq_of_beq_eq_true h5
  subst h5
  cases seen with
  | nil => exact hg.elim
  | cons s seen =>
    obtain ⟨i, ee, k1, k2, k3, e6⟩ := Lh (show R.good (DX s es bs fun k x => κ (.tup [k, x]) h n) from hg)
    refine ⟨_, h, n, e1.trans (e2.trans (e3.trans (e4.trans (e5.trans e6)))), .pure fun φ a w hT g => ?_⟩
    have g1 := Ae hx hT
    rw [hv] at g1
    obtain ⟨b, sq, tot, hφ, gx⟩ := C0 g1
    have := g.obj q _ b sq tot hq hφ
    obtain ⟨bm, sm, tm, hφm, hs0, hit⟩ := this
    subst hs0
    obtain ⟨ents, m1, m2, m3⟩ := g.obj p _ bm sm tm hp hφm
    obtain ⟨mm, hmm, hk, hvv⟩ := JT m2 k1
    have hborn:mm.born=s := by
      have:(ents.toList.map (·.born))[i]? = some s := by rw [m3]; exact k2
      rw [List.getElem?_map, hmm] at this
      simpa using this
    have hf:ents.find? (·.born == s)=some mm := by
      rw [←Array.find?_toList]
      exact Yl hmm hborn fun j hj => by rw [m3]; exact k3 j hj
    have hgo1:(getObj b).run P w = .ok (.mapIter (some bm) since (s::seen).reverse.toArray clk) w := by simp [getObj, Sem.run, hit]
    have hgo2:(getObj bm).run P w = .ok (.map ents clk) w := by simp [getObj, Sem.run, m1]
    have hback:(s::seen).reverse.toArray.back? = some s := by simp
    refine ⟨.tuple #[mm.key, mm.val], ?_, by simp only [Aj, Bi]; exact ⟨_, rfl, _, _, rfl, hk, _, _, rfl, hvv, rfl⟩⟩
    simp only [execOp, ho, gx, Instr.entry, Nat.zero_add, Sem.run_bind, hgo1, Result.andThen_ok, hback, hgo2]
    simp [hf]
theorem OM (b:Nat):∀ l:List Nat, Ch b l=l.contains b
  | [] => rfl
  | x::l => by
    show br (Nat.beq x b) true (Ch b l)=_
    rw [OM b l, List.contains_cons]
    cases hb:Nat.beq x b with
    | true => rw [Nat.eq_of_beq_eq_true hb]; simp [br]
    | false =>
      have:(b == x)=false := by
        cases h:b == x with
        | false => rfl
        | true => have := eq_of_beq h; subst this; rw [Nat.beq_refl] at hb; cases hb
      rw [this]; rfl
theorem Nt {since:Nat}:∀ {bs:List Nat}, DH since bs=true->∀ b∈bs, b<since
  | [], _, b, hb => by simp at hb
  | x::bs, h, b, hb => by
    have h:br (Nat.ble (Nat.succ x) since) (DH since bs) false=true := h
    cases hx:Nat.ble (Nat.succ x) since with
    | false => rw [hx] at h; cases h
    | true =>
      rw [hx] at h
      rcases List.mem_cons.1 hb with e | hb
      · subst e; exact A9.1 hx
      · exact Nt (show DH since bs=true from h) b hb
section
variable {seen:List Nat} {leaf:V×V->Nat->R} {Φ:R->Prop}
theorem IQ:∀ {es:List (V×V)} {bs:List Nat} {acc:R}, (DO seen leaf es bs acc).sat Φ->acc.sat Φ ∧ ∀ (i:Nat) (e:V×V) (b:Nat), es[i]? = some e->bs[i]? = some b->Ch b seen=false->(leaf e b).sat Φ
  | [], bs, acc, h => ⟨h, fun i e b he => by simp at he⟩
  | e0::es, [], acc, h => h.elim
  | e0::es, b0::bs, acc, h => by
    have h:(br (Ch b0 seen) (DO seen leaf es bs acc) (DO seen leaf es bs (.both acc (leaf e0 b0)))).sat Φ := h
    cases hm:Ch b0 seen with
    | true =>
      rw [hm] at h
      obtain ⟨h1, h2⟩ := IQ (show (DO seen leaf es bs acc).sat Φ from h)
      refine ⟨h1, fun i e b he hb hn => ?_⟩
      cases i with
      | zero => simp at he hb; subst he hb; rw [hm] at hn; cases hn
      | succ i => exact h2 i e b (by simpa using he) (by simpa using hb) hn
    | false =>
      rw [hm] at h
      obtain ⟨h1, h2⟩ := IQ (show (DO seen leaf es bs (.both acc (leaf e0 b0))).sat Φ from h)
      refine ⟨h1.1, fun i e b he hb hn => ?_⟩
      cases i with
      | zero => simp at he hb; subst he hb; exact h1.2
      | succ i => exact h2 i e b (by simpa using he) (by simpa using hb) hn
theorem Lm:∀ {es:List (V×V)} {bs:List Nat} {none:R}, (Fn seen leaf es bs none).sat Φ->((∀ b∈bs, Ch b seen=true)->es.length=bs.length->none.sat Φ) ∧ ∀ (i:Nat) (e:V×V) (b:Nat), es[i]? = some e->bs[i]? = some b->Ch b seen=false->(leaf e b).sat Φ
  | [], bs, acc, h => ⟨fun _ _ => h, fun i e b he => by simp at he⟩
  | e0::es, [], acc, h => h.elim
  | e0::es, b0::bs, acc, h => by
    have h:(br (Ch b0 seen) (Fn seen leaf es bs acc) (DO seen leaf es bs (leaf e0 b0))).sat Φ := h
    cases hm:Ch b0 seen with
    | true =>
      rw [hm] at h
      obtain ⟨h1, h2⟩ := Lm (show (Fn seen leaf es bs acc).sat Φ from h)
      refine ⟨fun ha hl => h1 (fun b hb => ha b (List.mem_cons_of_mem _ hb)) (by simpa using hl), fun i e b he hb hn => ?_⟩
      cases i with
      | zero => simp at he hb; subst he hb; rw [hm] at hn; cases hn
      | succ i => exact h2 i e b (by simpa using he) (by simpa using hb) hn
    | false =>
      rw [hm] at h
      obtain ⟨h1, h2⟩ := IQ (show (DO seen leaf es bs (leaf e0 b0)).sat Φ from h)
      refine ⟨fun ha _ => absurd (ha b0 (List.mem_cons_self ..)) (by rw [hm]; simp), fun i e b he hb hn => ?_⟩
      cases i with
      | zero => simp at he hb; subst he hb; exact h1
      | succ i => exact h2 i e b (by simpa using he) (by simpa using hb) hn
end
theorem ZQ {x:Operand} {x':Opd} (ho:o.op = .next x false) (hx:At N x=some x'):V3 P ρ B N o t h n (IF (ev x' t) h n) := by
  intro κ Φ hs φ a w hT g K Q hK
  unfold IF at hs
  rw [FD] at hs
  obtain ⟨q, off, hv, e1⟩ := Ct (R.sat_good hs)
  rw [e1] at hs
  obtain ⟨h0, e2⟩ := Ad (R.sat_good hs)
  rw [e2] at hs
  have h0 := Nat.eq_of_beq_eq_true h0
  subst h0
  have g1 := Ae hx hT
  rw [hv] at g1
  obtain ⟨b, sq, tot, hφ, gx⟩ := C0 g1
  rcases Qr (R.sat_good hs) with ⟨hq, e3⟩ | ⟨p, since, seen, c, hq, e3⟩
  · rw [e3] at hs
    obtain ⟨hs0, hit⟩ := g.obj q _ b sq tot hq hφ
    subst hs0
    have hgo1:(getObj b).run P w = .ok (.mapIter none 0 #[] 0) w := by simp [getObj, Sem.run, hit]
    have hrun:(execOp a.eval o).run P w = .ok (.value (.tuple #[.bool false])) w := by
      simp only [execOp, ho, gx, Instr.next, Nat.zero_add, Sem.run_bind, hgo1, Result.andThen_ok]
      simp
    unfold Oper.wp
    rw [hrun]
    exact hK _ _ _ hs φ _ w (Fr.refl h φ n w) g (by simp only [Aj, Bi]; exact ⟨_, rfl, _, _, rfl, rfl, rfl⟩)
  · rw [e3] at hs
    obtain ⟨es, bs, clk, hp, e4⟩ := Eo (R.sat_good hs)
    rw [e4] at hs
    obtain ⟨h5, e5⟩ := Ad (R.sat_good hs)
    rw [e5] at hs
    obtain ⟨h6, e6⟩ := Ad (R.sat_good hs)
    rw [e6] at hs
    obtain ⟨c1, c2⟩ := Lm hs
    obtain ⟨bm, sm, tm, hφm, hs0, hit⟩ := g.obj q _ b sq tot hq hφ
    subst hs0
    obtain ⟨ents, m1, m2, m3⟩ := g.obj p _ bm sm tm hp hφm
    have hold:∀ x∈ents.toList, x.born<since := fun x hx => Nt h5 _ (by rw [←m3]; exact List.mem_map.2 ⟨x, hx, rfl⟩)
    have hlen:es.length=bs.length := by rw [←G7 m2, ←m3, List.length_map]
    have hcon:∀ k:Nat, seen.reverse.toArray.contains k=Ch k seen := fun k => by rw [OM]; simp
    rcases run_next_at (P := P) w o.type b bm since c seen.reverse.toArray ents clk hit m1 hold (A9.1 h6) with ⟨hz, hrun⟩ | ⟨e, he, w1, hal, hrun⟩
    · have hall:∀ k∈bs, Ch k seen=true := fun k hk => by
        rw [←m3] at hk
        obtain ⟨x, hx, rfl⟩ := List.mem_map.1 hk
        cases hm:Ch x.born seen with
        | true => rfl
        | false =>
          have:x∈leftOf ents seen.reverse.toArray := by
            unfold leftOf
            rw [Array.mem_filter]
            exact ⟨by simpa using hx, by rw [hcon, hm]; rfl⟩
          rw [Array.eq_empty_of_size_eq_zero hz] at this
          simp at this
      have hx:(execOp a.eval o).run P w = .ok (.value (.tuple #[.bool false])) w := by
        simp only [execOp, ho, gx, Nat.zero_add, Sem.run_bind, hrun, Result.andThen_ok]
        simp
      unfold Oper.wp
      rw [hx]
      exact hK _ _ _ (c1 hall hlen) φ _ w (Fr.refl h φ n w) g (by simp only [Aj, Bi]; exact ⟨_, rfl, _, _, rfl, rfl, rfl⟩)
    · have he':e∈ents.toList∧Ch e.born seen=false := by
        unfold leftOf at he
        have he := Array.mem_filter.1 (Array.mem_toList_iff.1 he)
        refine ⟨by simpa using he.1, ?_⟩
        have := he.2
        rw [hcon] at this
        simpa using this
      obtain ⟨i, hi⟩ := List.getElem?_of_mem he'.1
      have hil:i<es.length := by rw [←G7 m2]; exact (List.getElem?_eq_some_iff.1 hi).1
      obtain ⟨mm, hmm, hk1, hk2⟩ := JT m2 (List.getElem?_eq_getElem hil)
      rw [hi] at hmm; cases hmm
      have hb:bs[i]? = some e.born := by rw [←m3, List.getElem?_map, hi]; rfl
      have leaf := c2 i _ _ (List.getElem?_eq_getElem hil) hb he'.2
      unfold LY at leaf
      rw [Bf, AA] at leaf
      have g1:Gam ρ B h n φ w1 := by
        rcases hal with e | e
        · rw [e]; exact g
        · rw [e]; exact g.drew
      have f1:Fr h h φ φ n n w w1 := by
        rcases hal with e | e
        · rw [e]; exact Fr.refl h φ n _
        · rw [e]; exact Fr.drew
      have hw:setBlock w1 b (.mapIter (some bm) since (seen.reverse.toArray.push e.born) clk)=Cf w1 b (.mapIter (some bm) since (e.born::seen).reverse.toArray clk) := by
        have:seen.reverse.toArray.push e.born=(e.born::seen).reverse.toArray := by simp
        rw [this]; rfl
      rw [hw] at hrun
      have hbl := (g1.blk q b 0 tot hφ).2
      have g2:Gam ρ B (Af q h (some (.it p since (e.born::seen) clk))) n φ (Cf w1 b (.mapIter (some bm) since (e.born::seen).reverse.toArray clk)) :=
        g1.write (o := .it p since seen c) (o' := .it p since (e.born::seen) clk) hq hφ rfl rfl ⟨bm, sm, tm, hφm, rfl, CA hbl⟩
      have f2:Fr h (Af q h (some (.it p since (e.born::seen) clk))) φ φ n n w1 (Cf w1 b (.mapIter (some bm) since (e.born::seen).reverse.toArray clk)) :=
        Fr.write (o := .it p since seen c) hq hφ
      have hx:(execOp a.eval o).run P w = .ok (.value (.tuple #[.bool true, e.key, e.val])) (Cf w1 b (.mapIter (some bm) since (e.born::seen).reverse.toArray clk)) := by
        simp only [execOp, ho, gx, Nat.zero_add, Sem.run_bind, hrun, Result.andThen_ok]
        simp
      unfold Oper.wp
      rw [hx]
      exact hK _ _ _ leaf φ _ _ (Fr.trans f1 f2) g2 (by simp only [Aj, Bi]; exact ⟨_, rfl, _, _, rfl, rfl, _, _, rfl, hk1, _, _, rfl, hk2, rfl⟩)
end
end Go.Ev

namespace Go.Ev
set_option linter.unusedVariables false
def BY (r:R) (κ:KV):R := @R.rec (fun _ => R) (Fl "") (fun v h n => κ v h n) (fun w => .fail w) (fun _ _ a b => .both a b) r
/-- A round: its arguments are the box and what has come; it says true. -/
def ZR (cf:FL) (p:K4) (l:List V) (h:Heap) (n:K4) (κ:KV):R :=
  AT p h fun o => @Option.rec Ob (fun _ => R) (.fail "") (fun o => @Ob.rec (fun _ => R) (By "") (By "") (Fl "") (.fail "")
    (fun f box => @List.rec V (fun _ => R) (.fail "") (fun x l _ => @List.rec V (fun _ => R)
      (AV p h none fun h => BY (cf (AI f) [.oth .no, .ptr box 0, x] h n) fun v h n => AV p h (some (.lp f box)) fun h => κ v h n) (By "") l) l) o) o
def Uw (cf:FL) (v:V) (l:List V) (h:Heap) (n:K4) (κ:KV):R :=
  @V.rec (fun _ => R) (fun _ => Unit) (As "") (AH "") (As "") (DB "") (As "") (As "") (AH "") (AH "")
    (fun f caps _ => DS l caps fun l => BY (cf (AI f) l h n) κ) (As "")
    (fun o => @Ot.rec (fun _ => R) (.fail "") (AH "") (fun p => ZR cf p l h n κ) (.fail "") (By "") (As "") (.fail "") (As "") (Fl "") (Fl "") (By "") (As "") (As "") (By "") (AH "") o) () (fun _ _ _ _ => ()) v
abbrev spE (cf:FL) (sp:Sp) (ε:JH) (h:Heap) (n:K4) (κ:KV):R :=
  @Sp.rec (fun _ => R) (fun x => ε x fun v => Rj v h n κ) (fun x => ε x fun v => IF v h n κ) (fun x => ε x fun v => JP v h n κ)
    (fun f l => Gl ε l fun l => BY (cf (AI f) l h n) κ) (fun x l => ε x fun v => Gl ε l fun l => Uw cf v l h n κ) sp
section
variable {P:Program} {ρ:Env} {B N:Nat}
def NQ:Option Nat->Fence
  | none => Fence.wide
  | some l => Fence.wide.inRound l
theorem X6 (l:Option Nat) (f:FuncId):(NQ l).fn f := by cases l <;> trivial
theorem TU (l:Option Nat):(NQ l).depth=none := by cases l <;> rfl
theorem PI {l:Option Nat} {n:Nat} {f:FuncId} {args:Array Value} {w:World} {R:Ending->World->Prop} (h:Calls P f args w R):CallsIn (NQ l) n P f args w R := by
  cases l with
  | none => exact callsIn_wide.2 h
  | some l => exact (show CallsIn Fence.wide n P f args w R from callsIn_wide.2 h)
theorem Yv {l:Option Nat} {n:Nat} {o:Oper} {a:Act} {K K':Act->World->Prop} {Q:Exit->Act->World->Prop} (hK:∀ a w, K a w->K' a w):∀ {r:Result Next}, o.upon P a K Q r->o.uponIn (NQ l) n P a K' Q r := by
  have hd:(NQ l).depth.isSome=true->1≤n := fun h => by rw [TU] at h; cases h
  intro r h
  cases r with
  | ok x w =>
    cases x with
    | value v => exact hK _ _ h
    | skip => exact hK _ _ h
    | defer d => exact hK _ _ h
    | enter f args =>
      refine ⟨hd, (PI (show Calls P f args w _ from h)).mono fun e w' he => ?_⟩
      cases e with
      | returned v => exact hK _ _ he
      | panicked c => exact he
      | outgrown => exact he
    | row row args =>
      refine ⟨hd, fun c cs _ => ?_⟩
      obtain ⟨v, w', hr, hs⟩ := (show Rows P row args w _ from h) c cs
      refine ⟨v, w', hK _ _ hr, ?_⟩
      cases l with
      | none => exact stepsIn_wide.2 hs
      | some l => exact (show StepsIn (Machine.fenced P Fence.wide) P _ _ from stepsIn_wide.2 hs)
    | _ => exact h.elim
  | halt x w => cases x <;> first | exact h | exact h.elim
theorem Td {l:Option Nat} {n:Nat} {o:Oper} {a:Act} {w:World} {K K':Act->World->Prop} {Q:Exit->Act->World->Prop} (hd:l=none ∨ ∀ c, o.op ≠ .defer c) (hK:∀ a w, K a w->K' a w) (h:o.wp P a w K Q):o.wpIn (NQ l) n P a w K' Q := by
  refine ⟨fun f _ => X6 l f, ?_⟩
  have e:o.semAt (NQ l).round a.eval=execOp a.eval o := by
    cases l with
    | none => rfl
    | some l =>
      rcases hd with h | h
      · cases h
      · exact Oper.semAt_eq _ _ _ h
  rw [e]
  exact Yv hK h
theorem E9 {l:Option Nat} {n:Nat} {ops:Array Oper} {Q:Exit->Act->World->Prop} {r:List Oper}:∀ {os:List Oper} {a:Act} {w:World}, (l=none ∨ ∀ o∈os, ∀ c, o.op ≠ .defer c) →
    G6 P ops Q (wpListIn (NQ l) n P ops Q r) os a w->wpListIn (NQ l) n P ops Q (os++r) a w
  | [], _, _, _, h => h
  | o::os, a, w, hd, h => by
    show wpListIn (NQ l) n P ops Q (o::(os++r)) a w
    simp only [wpListIn]
    unfold G6 at h
    have hd1:l=none ∨ ∀ c, o.op ≠ .defer c := hd.imp id fun h => h o (List.mem_cons_self ..)
    have hd2:l=none ∨ ∀ o∈os, ∀ c, o.op ≠ .defer c := hd.imp id fun h o ho => h o (List.mem_cons_of_mem _ ho)
    split
    · rw [if_pos (by assumption)] at h
      exact Td hd1 (fun a w h => E9 hd2 h) h
    · rw [if_neg (by assumption)] at h
      exact ⟨fun f _ => X6 l f, E9 hd2 h⟩
/-- A call's ways. -/
def Jd (P:Program) (ρ:Env) (B:Nat) (cf:CF):Prop :=
  ∀ f args h n (Φ:R->Prop), (cf f args h n).sat Φ->∀ φ w (xs:Array Value), Gam ρ B h n φ w->Bi ρ φ args xs.toList →
    L3 P f xs w fun x w' => ∃ v h1 n1 φ', Φ (.rv v h1 n1)∧Fr h h1 φ φ' n n1 w w'∧Gam ρ B h1 n1 φ' w'∧Aj ρ φ' v x
theorem Jd.ok {cf:CF} (H:Jd P ρ B cf):E8 P ρ B cf := fun f args h n v h1 n1 hr φ w xs g hx o a K Q hK => by
  refine H f args h n (fun r => r = .rv v h1 n1) (by rw [hr]; exact rfl) φ w xs g hx o a K Q fun x w' ⟨v', h', n', φ', e, f1, g1, r1⟩ => hK x w' ?_
  cases e
  exact ⟨φ', f1, g1, r1⟩
/-- The record of a loop over a function, between two rounds. -/
def G4 (A:ApC) (f:FuncId) (tmps:Array Value) (D:Nat):Loop := { state := .ready, pending := none, fn := f, tmps, params := #[A.par], assign := A.asg, body := A.bod, defers := D }
/-- A round is sound: its record is none of the objects. -/
def Jt (P:Program) (ρ:Env) (B:Nat) (cf:CF):Prop :=
  ∀ f A fn, ρ.ap f=some A->∀ box x h n (Φ:R->Prop), (cf f [.oth .no, .ptr box 0, x] h n).sat Φ->∀ φ w (tmps:Array Value) X l D, Gam ρ B h n φ w->w.heap[l]? = some (.loop (G4 A fn tmps D)) →
    (∀ q s tot, φ q=some (l, s, tot)->A8 q h=none)->tmps.size=A.ntm->Aj ρ φ (.ptr box 0) (tmps.getD A.box undef)->Aj ρ φ x X →
    RoundIn Fence.wide 0 P l fn (tmps.setIfInBounds A.par X) A.asg A.bod w fun e w' => e = .returned (.bool true) ∧
      ∃ v h1 n1 φ', v = .bool true∧Φ (.rv v h1 n1)∧Fr h h1 φ φ' n n1 w w'∧Gam ρ B h1 n1 φ' w'
/-- One step, inside the fence. -/
def Aa0 (P:Program) (ρ:Env) (B N:Nat) (o:Oper) (t:Regs) (h:Heap) (n:K4) (f:KV->R):Prop :=
  ∀ (κ:KV) (Φ:R->Prop), (f κ).sat Φ->∀ (φ:AF) (a:Act) (w:World), TR ρ N φ t a->Gam ρ B h n φ w->∀ (K:Act->World->Prop) (Q:Exit->Act->World->Prop),
    (∀ v h1 n1, (κ v h1 n1).sat Φ->∀ φ' x w', Fr h h1 φ φ' n n1 w w'->Gam ρ B h1 n1 φ' w'->Aj ρ φ' v x->K (a.put o.dst x) w')->o.wpIn (NQ none) 0 P a w K Q
section
variable {o:Oper} {t:Regs} {h:Heap} {n:K4} {cf:CF} {cf2:FL}
theorem V3.in_ {f:KV->R} (H:V3 P ρ B N o t h n f):Aa0 P ρ B N o t h n f := fun κ Φ hs φ a w hT g K Q hK => Td (.inl rfl) (fun _ _ h => h) (H κ Φ hs φ a w hT g K Q hK)
/-- What is asked of a call's ways. -/
def YQ (κ:KV) (Φ:R->Prop):R->Prop
  | .rv v h n => (κ v h n).sat Φ
  | _ => False
theorem E5 {κ:KV} {Φ:R->Prop}:∀ {r:R}, (BY r κ).sat Φ->r.sat (YQ κ Φ)
  | .ok _ _ _ _, h => h.elim
  | .rv _ _ _, h => h
  | .fail _, h => h.elim
  | .both a b, h => ⟨E5 (r := a) h.1, E5 (r := b) h.2⟩
theorem Aap {ct:Call} {f:FuncId} {args:List Opd} (hcf:Jd P ρ B cf) (h2:∀ f, cf2 (AI f)=cf f) (ho:o.op = .call ct) (hc:ct.callee = .value (.func f)) (ha:Bg N ct.args.toList=some args) :
    V3 P ρ B N o t h n fun κ => BY (cf2 (AI f) (args.map (ev · t)) h n) κ := by
  intro κ Φ hs φ a w hT g K Q hK
  have hs := E5 hs
  rw [h2] at hs
  have := hcf f _ h n _ hs φ w (ct.args.map a.eval) g (by rw [Array.toList_map]; exact Fa ha hT) o a K Q (fun x w' ⟨v, h1, n1, φ', hΦ, f1, g1, r1⟩ => hK v h1 n1 hΦ φ' x w' f1 g1 r1)
  unfold Oper.wp
  have e3:(execOp a.eval o).run P w=(callFunc f (ct.args.map a.eval)).run P w := by
    simp [execOp, ho, resolve, hc, Act.eval, Deferred.ofValue, invoke]
  rw [e3]; exact this
/-- What was put aside is laid back. -/
theorem Gam.back {h1:Heap} {n1 p:K4} {φ φ1:AF} {w w1:World} {ob:Ob} {b s tot:Nat} (g:Gam ρ B h n φ w) (hp:A8 p h=some ob) (hφ:φ p=some (b, s, tot)) (hsup:Js ob=false) (hprev:Bu ob=none)
    (f1:Fr (Af p h none) h1 φ φ1 n n1 w w1) (g1:Gam ρ B h1 n1 φ1 w1) (hw:w1.heap[b]? = w.heap[b]?) :
    Gam ρ B (Af p h1 (some ob)) n1 φ1 w1∧Fr h (Af p h1 (some ob)) φ φ1 n n1 w w1 := by
  have out:∀ q o' s' tot', p≠q->A8 q h1=some o'->φ1 q=some (b, s', tot')->False := fun q o' s' tot' hne hq hx => by
    have key:∀ r o2 sr tr, p≠r->A8 r h=some o2->φ r=some (b, sr, tr)->False := fun r o2 sr tr hpr hr hxr => by
      rcases g.sep p r ob o2 b s tot sr tr hpr hp hr hφ hxr with e | e
      · rw [hprev] at e; cases e
      · have := g.sup r p o2 ob b sr tr s tot hr e hp hxr hφ
        rw [hsup] at this; cases this
    rcases f1.fresh q b s' tot' hx with e | e | ⟨r, sr, tr, hr, hne'⟩
    · cases hq':A8 q h with
      | none =>
        have := f1.dm q (by rw [e]; simp) (by rw [A6 _ _ hne]; exact hq')
        rw [this] at hq; cases hq
      | some o2 => exact key q o2 s' tot' hne hq' e
    · have := (g.blk p b s tot hφ).2; omega
    · by_cases e:p=r
      · subst e; exact hne' (A7 _ _ _)
      · rw [A6 _ _ e] at hne'
        cases hr':A8 r h with
        | none => exact hne' hr'
        | some o2 => exact key r o2 sr tr e hr' hr
  have hφ1 := f1.ext _ _ hφ
  refine ⟨⟨g1.base, g1.dom, g1.blk, fun q o' b' s' tot' hq hx => ?_, fun q r o1 o2 b' s1 t1 s2 t2 hne hq hr hx hy => ?_, fun q r o1 o2 b' s1 t1 s2 t2 hq hpr hr hx hy => ?_, g1.glob⟩,
    ⟨f1.ext, f1.new, f1.nn, f1.os, f1.tape, f1.out, f1.size, fun b' hb hn => f1.old b' hb fun q s' tot' hx => ?_, fun q b' s' tot' hx => ?_, fun q hq hn => ?_⟩⟩
  · rcases Bl hq with ⟨rfl, e⟩ | ⟨hne, hq⟩
    · cases e
      rw [hφ1] at hx; cases hx
      exact BN hw (E7 f1.ext (g.obj p _ _ _ _ hp hφ))
    · exact g1.obj q o' b' s' tot' hq hx
  · rcases Bl hq with ⟨rfl, e⟩ | ⟨hq', hq⟩
    · rw [hφ1] at hx; cases hx
      rcases Bl hr with ⟨e', _⟩ | ⟨hr', hr⟩
      · exact absurd e' hne
      · exact (out r o2 s2 t2 hr' hr hy).elim
    · rcases Bl hr with ⟨rfl, e⟩ | ⟨hr', hr⟩
      · rw [hφ1] at hy; cases hy
        exact (out q o1 s1 t1 hq' hq hx).elim
      · exact g1.sep q r o1 o2 b' s1 t1 s2 t2 hne hq hr hx hy
  · rcases Bl hq with ⟨rfl, e⟩ | ⟨hq', hq⟩
    · cases e; rw [hprev] at hpr; cases hpr
    · rcases Bl hr with ⟨rfl, e⟩ | ⟨hr', hr⟩
      · rw [hφ1] at hy; cases hy
        exact (out q o1 s1 t1 hq' hq hx).elim
      · exact g1.sup q r o1 o2 b' s1 t1 s2 t2 hq hpr hr hx hy
  · by_cases e:p=q
    · subst e; exact A7 _ _ _
    · rw [A6 _ _ e]; exact hn q s' tot' hx
  · rcases f1.fresh q b' s' tot' hx with e | e | ⟨r, sr, tr, hr, hne'⟩
    · exact .inl e
    · exact .inr (.inl e)
    · refine .inr (.inr ⟨r, sr, tr, hr, fun hn => hne' ?_⟩)
      by_cases e:p=r
      · subst e; exact A7 _ _ _
      · rw [A6 _ _ e]; exact hn
  · have hne:p≠q := fun e => by subst e; rw [hp] at hn; cases hn
    rw [A6 _ _ hne]
    exact f1.dm q hq (by rw [A6 _ _ hne]; exact hn)
/-- An object is put aside. -/
theorem Gam.aside {p:K4} {φ:AF} {w:World} (g:Gam ρ B h n φ w):Gam ρ B (Af p h none) n φ w := by
  have get:∀ q o, A8 q (Af p h none)=some o->A8 q h=some o := fun q o hq => by
    rcases Bl hq with ⟨_, e⟩ | ⟨_, hq⟩
    · cases e
    · exact hq
  exact ⟨g.base, g.dom, g.blk, fun q o b s t hq hx => g.obj q o b s t (get q o hq) hx, fun q r o o' b s t s' t' hne hq hr hx hy => g.sep q r o o' b s t s' t' hne (get q o hq) (get r o' hr) hx hy,
    fun q r o o' b s t s' t' hq hpr hr hx hy => g.sup q r o o' b s t s' t' (get q o hq) hpr (get r o' hr) hx hy, g.glob⟩
theorem Aa3 {ct:Call} {x:Operand} {x':Opd} {args:List Opd} (hcf:Jd P ρ B cf) (hR:Jt P ρ B cf) (h2:∀ f, cf2 (AI f)=cf f) (ho:o.op = .call ct) (hc:ct.callee = .value x) (hx:At N x=some x') (ha:Bg N ct.args.toList=some args) :
    Aa0 P ρ B N o t h n fun κ => Uw cf2 (ev x' t) (args.map (ev · t)) h n κ := by
  intro κ Φ hs φ a w hT g K Q hK
  have g1 := Ae hx hT
  have gargs := Fa ha hT
  cases hv:ev x' t with
  | fn f caps =>
    rw [hv] at g1 hs
    have hs:(DS (args.map (ev · t)) caps fun l => BY (cf2 (AI f) l h n) κ).sat Φ := hs
    rw [Cp] at hs
    have hs := E5 hs
    rw [h2] at hs
    obtain ⟨cs, gx, hcs⟩ := ID g1
    refine Td (.inl rfl) (fun _ _ h => h) ?_
    have := hcf f _ h n _ hs φ w (ct.args.map a.eval++cs) g (by rw [Array.toList_append, Array.toList_map]; exact G3 gargs hcs) o a K Q (fun x w' ⟨v, h1, n1, φ', hΦ, f1, g1, r1⟩ => hK v h1 n1 hΦ φ' x w' f1 g1 r1)
    unfold Oper.wp
    have e3:(execOp a.eval o).run P w=(callFunc f (ct.args.map a.eval++cs)).run P w := by
      simp [execOp, ho, resolve, hc, gx, Deferred.ofValue, invoke]
    rw [e3]; exact this
  | oth ot =>
    rw [hv] at g1 hs
    cases ot with
    | any => exact hs.elim
    | sym i => exact hs.elim
    | no => exact hs.elim
    | iv k lo hi => exact hs.elim
    | os lo hi => exact hs.elim
    | bl => exact hs.elim
    | rs m j => exact hs.elim
    | ss lo hi n c => exact hs.elim
    | ro i lo hi z => exact hs.elim
    | ap i j m => exact hs.elim
    | sy k i => exact hs.elim
    | rb n c => exact hs.elim
    | rx l m z => exact hs.elim
    | rp l => exact hs.elim
    | yl p =>
      have hs:(ZR cf2 p (args.map (ev · t)) h n κ).sat Φ := hs
      unfold ZR at hs
      rw [AB] at hs
      cases hob:A8 p h with
      | none => rw [hob] at hs; exact hs.elim
      | some ob =>
        rw [hob] at hs
        cases ob with
        | c _ _ _ => exact hs.elim
        | m _ _ _ => exact hs.elim
        | it _ _ _ _ => exact hs.elim
        | it0 => exact hs.elim
        | lp f box =>
          generalize hal:args.map (ev · t)=al at hs gargs
          match al, hs, gargs, hal with
          | [], hs, _, _ => exact hs.elim
          | _::_::_, hs, _, _ => exact hs.elim
          | [y], hs, gargs, hal =>
            have hs:(AV p h none fun h => BY (cf2 (AI f) [.oth .no, .ptr box 0, y] h n) fun v h n => AV p h (some (.lp f box)) fun h => κ v h n).sat Φ := hs
            rw [Bf, AA] at hs
            have hs := E5 hs
            rw [h2] at hs
            have g1:∃ b s tot, φ p=some (b, s, tot)∧a.eval x = .func (.yield b) #[] #[] := by simpa only [Aj] using g1
            obtain ⟨b, s, tot, hφ, gx⟩ := g1
            obtain ⟨hs0, A, fn, tmps, D, hA, hrec, hsz, hbox⟩ := g.obj p _ b s tot hob hφ
            subst hs0
            obtain ⟨X, l0, hX, rX, h0⟩ := Ak.1 gargs
            have h0 := Ao.1 h0
            subst h0
            have hargs:ct.args.map a.eval = #[X] := by
              have:(ct.args.map a.eval).toList=[X] := by rw [Array.toList_map]; exact hX
              cases hh:ct.args.map a.eval with
              | mk l => rw [hh] at this; simp at this; rw [this]
            have unc:∀ q s tot, φ q=some (b, s, tot)->A8 q (Af p h none)=none := fun q s' tot' hq => by
              by_cases e:p=q
              · subst e; exact A7 _ _ _
              · rw [A6 _ _ e]
                cases hq':A8 q h with
                | none => rfl
                | some o2 =>
                  rcases g.sep p q _ o2 b 0 tot s' tot' e hob hq' hφ hq with e | e
                  · cases e
                  · have := g.sup q p o2 _ b s' tot' 0 tot hq' e hob hq hφ; cases this
            have rnd := hR f A fn hA box y _ n _ hs φ w tmps X b D g.aside hrec unc hsz hbox rX
            refine ⟨fun f _ => trivial, ?_⟩
            have e3:(o.semAt (NQ none).round a.eval).run P w = .ok (.round b fn (tmps.setIfInBounds A.par X) A.asg A.bod) w := by
              have e4:(Instr.yield b #[X]).run P w = .ok (.round b fn (tmps.setIfInBounds A.par X) A.asg A.bod) w := by
                have := run_yield (P := P) (args := #[X]) hrec rfl
                simpa [G4] using this
              show (execOp a.eval o).run P w=_
              simp [execOp, ho, resolve, hc, gx, Deferred.ofValue, invoke, hargs, e4]
            rw [e3]
            refine ⟨fun h => (by cases h), rnd.mono fun e w' ⟨he, v, h1, n1, φ', hv, hΦ, f1, g1⟩ => ?_⟩
            subst he
            have hΦ:(AV p h1 (some (.lp f box)) fun h => κ v h n1).sat Φ := hΦ
            rw [Bf, AA] at hΦ
            subst hv
            have hbl := (g.blk p b 0 tot hφ).2
            have hw':w'.heap[b]? = w.heap[b]? := f1.old b hbl unc
            obtain ⟨g2, f2⟩ := g.back hob hφ rfl rfl f1 g1 hw'
            exact hK _ _ _ hΦ φ' (.bool true) w' f2 g2 (by simp only [Aj])
  | _ => rw [hv] at hs; exact hs.elim
end
end
end Go.Ev

namespace Go.Ev
set_option linter.unusedVariables false
abbrev P8 := Ren->S->Heap->K4->R
abbrev r0:P8 := fun _ t h n => .ok .nrm t h n
/-- It comes to its end by no other way than an exit. -/
def AC.ends (c:AC):Bool := @AC.rec (fun _ => Bool) false (fun _ _ x y => or x y) (fun _ => false) (fun _ _ => false) (fun _ _ _ x y => and x y) (fun _ _ _ => false) (fun _ _ => true) (fun _ => true) true (fun _ => true) (fun _ _ _ _ => false) c
def CQ (r:R) (κ:S->Heap->K4->R):R :=
  @R.rec (fun _ => R) (fun e t h n => @Ex.rec (fun _ => R) (κ t h n) (fun id => .ok (.exit id) t h n) (.ok .ret t h n) e) (By "") (fun w => .fail w) (fun _ _ a b => .both a b) r
def AO (id:Nat) (r:R) (κ:S->Heap->K4->R):R :=
  @R.rec (fun _ => R) (fun e t h n => @Ex.rec (fun _ => R) (κ t h n) (fun j => br (Nat.beq j id) (κ t h n) (.ok (.exit j) t h n)) (.ok .ret t h n) e) (By "") (fun w => .fail w) (fun _ _ a b => .both a b) r
def Fp (body:S->Heap->K4->R):S->Heap->K4->R := J6 body 1000000000
def Wu (n:K4) (κ:K4->K4->R):R := n.nx16 fun b => b.nx16 fun n => κ b n
abbrev Vr (al:Bool) (n:K4) (κ:K4->K4->R):R := Zp al (Wu n κ) (κ n n)
abbrev Wq (ea eb:Bool) (v:V) (a b:P8->P8) (rest:P8) (env:Ren) (t:S) (h:Heap) (n:K4):R :=
  Zp ea (Ed v (a r0 env t h n) (b rest env t h n)) (Zp eb (Ed v (a rest env t h n) (b r0 env t h n)) (CQ (Ed v (a r0 env t h n) (b r0 env t h n)) fun t h n => rest [] t h n))
abbrev In (sm:SM) (cf:FL) (c:AC):P8->P8 :=
  @AC.rec (fun _ => P8->P8) (fun rest => rest) (fun _ _ a b rest => a (b rest)) (fun l rest env t h n => Dh sm cf l env t h n rest)
    (fun al l rest env t h n => Vr al n fun b n => DD sm cf b l env t h h n fun env t _ h n => rest env t h n)
    (fun c x y a b rest env t h n => B5 sm env t c fun v => Wq x.ends y.ends v a b rest env t h n)
    (fun id _ b rest env t h n => AO id (b r0 env t h n) fun t h n => rest [] t h n)
    (fun _ b _ _ t h n => Fp (fun t h n => b r0 [] t h n) t h n) (fun id _ _ t h n => .ok (.exit id) t h n) (fun _ _ t h n => .ok .ret t h n) (DB "")
    (fun pre sp d post rest env t h n => Dh sm cf pre env t h n fun env t h n => spE cf sp (B5 sm env t) h n fun v h n => Df sm d t v fun t => Dh sm cf post (Bw d v env) t h n rest) c
def EC (sm:SM) (dom:List K2) (c:Opd):Bool := @Opd.rec (fun _ => Bool) (fun p => DI sm dom p) (fun _ => true) c
def Tb (sm:SM) (dom:List K2) (sp:Sp):Bool := @Sp.rec (fun _ => Bool) (fun x => EC sm dom x) (fun x => EC sm dom x) (fun x => EC sm dom x) (fun _ l => l.all (EC sm dom)) (fun x l => EC sm dom x&&l.all (EC sm dom)) sp
/-- Are all registers that it reads kept, or told? -/
def La (sm:SM) (c:AC):(List K2->Bool)->List K2->Bool :=
  @AC.rec (fun _ => (List K2->Bool)->List K2->Bool) (fun r => r) (fun _ _ a b r => a (b r)) (fun l r dom => Hd sm l dom&&r (CJ l dom))
    (fun al l r dom => JB sm l dom&&r (Jy l dom))
    (fun c x y a b r dom => EC sm dom c&&br x.ends (a (fun _ => true) dom&&b r dom) (br y.ends (a r dom&&b (fun _ => true) dom) (a (fun _ => true) dom&&(b (fun _ => true) dom&&r []))))
    (fun id _ b r dom => b (fun _ => true) dom&&r []) (fun _ b _ _ => b (fun _ => true) []) (fun _ _ _ => true) (fun _ _ => true) (fun _ _ _ => true)
    (fun pre sp d post r dom => Hd sm pre dom&&(Tb sm (CJ pre dom) sp&&(Hd sm post (GH d (CJ pre dom))&&r (CJ post (GH d (CJ pre dom)))))) c
section
variable {P:Program} {ρ:Env} {B N:Nat} {cf:CF} {cf2:FL} {sm:SM}
/-- What is asked behind a piece of code whose ways are joined. -/
def Xg (κ:S->Heap->K4->R) (Φ:R->Prop):R->Prop
  | .ok .nrm t h n => (κ t h n).sat Φ
  | .ok e t h n => Φ (.ok e t h n)
  | _ => False
theorem I8 {κ:S->Heap->K4->R} {Φ:R->Prop}:∀ {r:R}, (CQ r κ).sat Φ->r.sat (Xg κ Φ)
  | .ok e t h n, hs => by cases e <;> exact hs
  | .rv _ _ _, hs => hs.elim
  | .fail _, hs => hs.elim
  | .both a b, hs => ⟨I8 (r := a) hs.1, I8 (r := b) hs.2⟩
theorem Y1 {body:S->Heap->K4->R} {k:Nat} {Φ:R->Prop} {t:S} {h:Heap} {n:K4} (hs:(J6 body (k+1) t h n).sat Φ):(body t h n).sat (Xg (J6 body k) Φ) := by
  have e:J6 body (k+1) t h n=@R.rec (fun _ => R) (fun e t h n => @Ex.rec (fun _ => R) (J6 body k t h n) (fun id => .ok (.exit id) t h n) (.ok .ret t h n) e) (By "") (fun w => .fail w) (fun _ _ a b => .both a b) (body t h n) := rfl
  rw [e] at hs
  generalize body t h n=r at hs
  clear e
  induction r with
  | ok e t h n => cases e <;> exact hs
  | rv _ _ _ => exact hs.elim
  | fail _ => exact hs.elim
  | both a b iha ihb => exact ⟨iha hs.1, ihb hs.2⟩
def Acg (id:Nat) (κ:S->Heap->K4->R) (Φ:R->Prop):R->Prop
  | .ok .nrm t h n => (κ t h n).sat Φ
  | .ok (.exit j) t h n => (j=id∧(κ t h n).sat Φ)∨(j≠id∧Φ (.ok (.exit j) t h n))
  | .ok .ret t h n => Φ (.ok .ret t h n)
  | _ => False
theorem IT {id:Nat} {κ:S->Heap->K4->R} {Φ:R->Prop}:∀ {r:R}, (AO id r κ).sat Φ->r.sat (Acg id κ Φ)
  | .ok e t h n, hs => by
    cases e with
    | nrm => exact hs
    | ret => exact hs
    | exit j =>
      have hs:(br (Nat.beq j id) (κ t h n) (R.ok (.exit j) t h n)).sat Φ := hs
      cases hj:Nat.beq j id with
      | true => rw [hj] at hs; exact .inl ⟨Nat.eq_of_beq_eq_true hj, hs⟩
      | false => rw [hj] at hs; exact .inr ⟨fun e => by subst e; simp at hj, hs⟩
  | .rv _ _ _, hs => hs.elim
  | .fail _, hs => hs.elim
  | .both a b, hs => ⟨IT (r := a) hs.1, IT (r := b) hs.2⟩
/-- What code comes to whose rest is nothing. -/
def V4 (P:Program) (ρ:Env) (B N:Nat) (sm:SM) (C:Code) (t:Regs) (h:Heap) (n:K4) (Φ:R->Prop):Prop :=
  ∀ φ a w, TR ρ N φ t a->Gam ρ B h n φ w->∀ (Q:Exit->Act->World->Prop),
    (∀ e t1 h1 n1, Φ (.ok e t1 h1 n1)->∀ φ' a' w' tf, Fr h h1 φ φ' n n1 w w'->Gam ρ B h1 n1 φ' w'->TR ρ N φ' tf a'->(∀ p s, C8 p sm=some s->S.get s t1=B3 p tf)->Q (RC e) a' w')->C.wp P Q a w
def Xn (P:Program) (ρ:Env) (B N:Nat) (sm:SM) (cf2:FL) (C:Code):Prop :=
  ∀ (rest:P8) (rOk:List K2->Bool) (dom:List K2) (env:Ren) (t:Regs) (t':S) (h:Heap) (n:K4) (Φ:R->Prop),
    La sm (AY P N C) rOk dom=true->RI sm dom env t t'->(In sm cf2 (AY P N C) rest env t' h n).sat Φ →
    ∀ φ a w, TR ρ N φ t a->Gam ρ B h n φ w->∀ (Q:Exit->Act->World->Prop),
      (∀ e t1 h1 n1, Φ (.ok e t1 h1 n1)->e ≠ .nrm->∀ φ' a' w' tf, Fr h h1 φ φ' n n1 w w'->Gam ρ B h1 n1 φ' w'->TR ρ N φ' tf a'->(∀ p s, C8 p sm=some s->S.get s t1=B3 p tf)->Q (RC e) a' w') →
      ((AY P N C).ends=false->∀ dom2 env2 t2 t2' h2 n2, rOk dom2=true->RI sm dom2 env2 t2 t2'->(rest env2 t2' h2 n2).sat Φ->∀ φ2 a2 w2, Fr h h2 φ φ2 n n2 w w2->Gam ρ B h2 n2 φ2 w2->TR ρ N φ2 t2 a2->Q .normal a2 w2) →
      C.wp P Q a w
theorem Xn.join {C:Code} (H:Xn P ρ B N sm cf2 C) {dom:List K2} {env:Ren} {t:Regs} {t':S} {h:Heap} {n:K4} {Φ:R->Prop} (hok:La sm (AY P N C) (fun _ => true) dom=true) (ri:RI sm dom env t t')
    (hx:(In sm cf2 (AY P N C) r0 env t' h n).sat Φ):V4 P ρ B N sm C t h n Φ := by
  intro φ a w hT g Q hQ
  refine H r0 _ dom env t t' h n Φ hok ri hx φ a w hT g Q (fun e t1 h1 n1 hΦ _ φ' a' w' tf f1 g1 T1 hk => hQ e t1 h1 n1 hΦ φ' a' w' tf f1 g1 T1 hk) fun _ dom2 env2 t2 t2' h2 n2 _ ri2 hr φ2 a2 w2 f2 g2 T2 => ?_
  have hr:Φ (R.ok .nrm t2' h2 n2) := hr
  exact hQ _ _ _ _ hr φ2 a2 w2 t2 f2 g2 T2 ri2.keep
theorem XQ {o:Oper} {d:Option K2} (h:ZS N o=some d):SE N o.dst d := by
  unfold ZS at h
  cases hd:o.dst with
  | none => rw [hd] at h; cases h; trivial
  | some s =>
    rw [hd] at h
    obtain ⟨p, hp, rfl⟩ := Ah h
    exact Du hp
theorem Ol {ops:Array Oper}:∀ {l:List Oper} {pre:List AOp} {sp:Sp} {d:Option K2} {post:List AOp}, Pu P N ops l=some (pre, sp, d, post) →
    ∃ l1 o l2, l=l1++o::l2∧Ip P N ops l1=some pre∧cSp P N o=some sp∧o.guard=none∧SE N o.dst d∧Ip P N ops l2=some post
  | [], pre, sp, d, post, h => by cases h
  | o::l, pre, sp, d, post, h => by
    unfold Pu at h
    split at h
    · rename_i sp' hsp
      split at h
      · rename_i d' post' hg hd hp
        cases h
        exact ⟨[], o, l, rfl, rfl, hsp, hg, XQ hd, hp⟩
      · cases h
    · split at h
      · cases h
      · rename_i r hr
        split at h
        · rename_i x hx
          obtain ⟨pre', sp', d', post'⟩ := r
          cases h
          obtain ⟨l1, o', l2, rfl, h1, h2, h3, h4, h5⟩ := Ol hr
          refine ⟨o::l1, o', l2, rfl, ?_, h2, h3, h4, h5⟩
          simp only [Ip, hx, h1]
        · cases h
/-- The kinds of maps that are ranged over are told by the program's types. -/
theorem Abs {cf:CF} {cf2:FL} (hcf:Jd P ρ B cf) (hR:Jt P ρ B cf) (h2:∀ f, cf2 (AI f)=cf f) {o:Oper} {sp:Sp} (hc:cSp P N o=some sp) {t:Regs} {h:Heap} {n:K4}:Aa0 P ρ B N o t h n (spE cf2 sp (fun x κ => κ (ev x t)) h n) := by
  have tl:∀ (l:List Opd) (κ:List V->R), Gl (fun x κ => κ (ev x t)) l κ=κ (l.map (ev · t)) := fun l κ => Gv (fun x _ κ => rfl)
  unfold cSp at hc
  split at hc
  · rename_i ty x ho
    split at hc
    · rename_i kt e ht
      obtain ⟨x', hx, rfl⟩ := Ah hc
      exact (U5 ho hx ht).sp.in_
    · cases hc
  · rename_i x s ho
    split at hc
    · cases hc
    · rename_i hs
      obtain ⟨x', hx, rfl⟩ := Ah hc
      have:s=false := by simpa using hs
      subst this
      exact (ZQ ho hx).in_
  · rename_i x ho
    obtain ⟨x', hx, rfl⟩ := Ah hc
    exact (UD ho hx).sp.in_
  · rename_i ct ho
    split at hc
    · rename_i f hcal
      split at hc
      · obtain ⟨l, hl, rfl⟩ := Ah hc
        have e:spE cf2 (.tcl f l) (fun x κ => κ (ev x t)) h n=fun κ => BY (cf2 (AI f) (l.map (ev · t)) h n) κ := by
          funext κ
          exact tl l _
        rw [e]
        exact (Aap hcf h2 ho hcal hl).in_
      · cases hc
    · rename_i s hcal
      split at hc
      · rename_i x l hx hl
        cases hc
        have e:spE cf2 (.dcl x l) (fun x κ => κ (ev x t)) h n=fun κ => Uw cf2 (ev x t) (l.map (ev · t)) h n κ := by
          funext κ
          exact tl l _
        rw [e]
        exact Aa3 hcf hR h2 ho hcal hx hl
      · cases hc
    · cases hc
  · cases hc
theorem Aas (hρ:B4 ρ) (hm:P.follows .mixedOrders=true) (hct:Jd P ρ B cf) (hR:Jt P ρ B cf) (h2:∀ f, cf2 (AI f)=cf f):∀ C:Code, Xn P ρ B N sm cf2 C := by
  have hcf := hct.ok
  intro C
  induction C with
  | skip => intro rest rOk dom env t t' h n Φ hok ri hx φ a w hT g Q hex hre; exact wp_skip (hre rfl dom env t t' h n hok ri hx φ a w (Fr.refl h φ n w) g hT)
  | label l => intro rest rOk dom env t t' h n Φ hok ri hx φ a w hT g Q hex hre; exact wp_label (hre rfl dom env t t' h n hok ri hx φ a w (Fr.refl h φ n w) g hT)
  | exit id =>
    intro rest rOk dom env t t' h n Φ hok ri hx φ a w hT g Q hex hre
    exact wp_exit (hex _ _ _ _ hx (fun h => by cases h) φ a w t (Fr.refl h φ n w) g hT ri.keep)
  | ret =>
    intro rest rOk dom env t t' h n Φ hok ri hx φ a w hT g Q hex hre
    exact wp_ret (hex _ _ _ _ hx (fun h => by cases h) φ a w t (Fr.refl h φ n w) g hT ri.keep)
  | region id ops draw =>
    intro rest rOk dom env t t' h n Φ hok ri hx φ a w hT g Q hex hre
    cases draw with
    | true =>
      have hok:La sm (C4 P N ops true) rOk dom=true := hok
      have hx:(In sm cf2 (C4 P N ops true) rest env t' h n).sat Φ := hx
      have hre:(C4 P N ops true).ends=false->_ := hre
      unfold C4 at hok hx hre
      split at hx
      · exact hx.elim
      · rename_i os hos
        simp only [hos, if_true] at hok hre
        simp only [if_true] at hx
        split at hx
        · rename_i hpl
          rw [if_pos hpl] at hok hre
          have hre := hre rfl
          have good := Plot.good_of_ok hpl
          have hok:(JB sm ((BL (ops.toList.map CV) os).sk.map (Mj os)) dom&&rOk (Jy ((BL (ops.toList.map CV) os).sk.map (Mj os)) dom))=true := hok
          rw [Bool.and_eq_true] at hok
          have run:∀ (b n0:K4), (DD sm cf2 b ((BL (ops.toList.map CV) os).sk.map (Mj os)) env t' h h n0 (fun env t _ h n => rest env t h n)).sat Φ →
              ((BL (ops.toList.map CV) os).HasAl->b.d = .d0)->((BL (ops.toList.map CV) os).HasAl->n.toN≤b.toN)->((BL (ops.toList.map CV) os).HasAl->b.toN+16≤n0.toN)->n.toN≤n0.toN->(Code.region id ops true).wp P Q a w := fun b n0 hx k1 k2 k3 k4 => by
            obtain ⟨st, env1, t1', s0, hst, ri1, e3⟩ := Jp h2 (s := ⟨t, h, h, n0⟩) hok.1 ri (R.sat_good hx)
            have e3:DD sm cf2 b ((BL (ops.toList.map CV) os).sk.map (Mj os)) env t' h h n0 (fun env t _ h n => rest env t h n)=_ := e3
            rw [e3, List.length_map] at hx
            rw [List.length_map] at ri1
            have r:Rn P N ops os (BL (ops.toList.map CV) os) cf b st := ⟨good, hos, rfl, fun l x hlx => hst l _ (by rw [List.getElem?_map, hlx]; rfl)⟩
            refine Ui (φ := φ) hρ hm hcf r s0 k1 k2 k3 k4 hT g fun φ' a' w' f1 g1 T1 => ?_
            exact hre _ env1 _ t1' _ _ hok.2 ri1 hx φ' a' w' f1 g1 T1
          have hx:(Vr ((BL (ops.toList.map CV) os).sk.any SI.isAl) n (fun b n => DD sm cf2 b ((BL (ops.toList.map CV) os).sk.map (Mj os)) env t' h h n fun env t _ h n => rest env t h n)).sat Φ := hx
          cases hal:(BL (ops.toList.map CV) os).sk.any SI.isAl with
          | false =>
            have hn := Aij good hal
            rw [hal] at hx
            exact run n n hx (fun h => absurd h hn) (fun h => absurd h hn) (fun h => absurd h hn) (Nat.le_refl _)
          | true =>
            rw [hal] at hx
            have hx:(n.nx16 (fun b => b.nx16 fun n0 => DD sm cf2 b ((BL (ops.toList.map CV) os).sk.map (Mj os)) env t' h h n0 fun env t _ h n => rest env t h n)).sat Φ := hx
            rcases K4.nx16_eq n (fun b => b.nx16 fun n0 => DD sm cf2 b ((BL (ops.toList.map CV) os).sk.map (Mj os)) env t' h h n0 fun env t _ h n => rest env t h n) with ⟨w', e1⟩ | ⟨b, hbn, hb0, e1⟩
            · rw [e1] at hx; exact hx.elim
            · rw [e1] at hx
              rcases K4.nx16_eq b (fun n0 => DD sm cf2 b ((BL (ops.toList.map CV) os).sk.map (Mj os)) env t' h h n0 fun env t _ h n => rest env t h n) with ⟨w', e2⟩ | ⟨n0, hn0, _, e2⟩
              · rw [e2] at hx; exact hx.elim
              · rw [e2] at hx
                have hbn' := UC hbn hb0 hn0
                exact run b n0 hx (fun _ => hb0) (fun _ => hbn'.1) (fun _ => by omega) (by omega)
        · exact hx.elim
    | false =>
      have hok:La sm (match Pu P N ops ops.toList with | some r => .spl r.1 r.2.1 r.2.2.1 r.2.2.2 | none => C4 P N ops false) rOk dom=true := hok
      have hx:(In sm cf2 (match Pu P N ops ops.toList with | some r => .spl r.1 r.2.1 r.2.2.1 r.2.2.2 | none => C4 P N ops false) rest env t' h n).sat Φ := hx
      have hre:AC.ends (match Pu P N ops ops.toList with | some r => .spl r.1 r.2.1 r.2.2.1 r.2.2.2 | none => C4 P N ops false)=false->_ := hre
      cases hspl:Pu P N ops ops.toList with
      | some r =>
        rw [hspl] at hok hx hre
        obtain ⟨pre, sp, d, post⟩ := r
        have hre := hre rfl
        obtain ⟨l1, o, l2, hl, c1, c2, c3, c4, c5⟩ := Ol hspl
        have hok:(Hd sm pre dom&&(Tb sm (CJ pre dom) sp&&(Hd sm post (GH d (CJ pre dom))&&rOk (CJ post (GH d (CJ pre dom))))))=true := hok
        rw [Bool.and_eq_true, Bool.and_eq_true, Bool.and_eq_true] at hok
        obtain ⟨k1, k2, k3, k4⟩ := hok
        have hx:(Dh sm cf2 pre env t' h n fun env t h n => spE cf2 sp (B5 sm env t) h n fun v h n => Df sm d t v fun t => Dh sm cf2 post (Bw d v env) t h n rest).sat Φ := hx
        obtain ⟨env1, t2, t2', h2', n2, e2, ri1, H⟩ := DA (B := B) (ops := ops) hρ hcf h2 c1 k1 ri (R.sat_good hx)
        rw [e2] at hx
        refine (wpIn_wide (n := 0)).1 (wpIn_region_list ?_)
        rw [hl]
        refine E9 (l := none) (.inl rfl) (H φ a w hT g Q (wpListIn (NQ none) 0 P ops Q (o::l2)) fun φ' a' w' f1 g1 T1 => ?_)
        have one:∀ x:Opd, EC sm (CJ pre dom) x=true->∀ κ:V->R, B5 sm env1 t2' x κ=κ (ev x t2) := fun x hk κ => by
          cases x with
          | c v => rfl
          | t p => exact ri1.tell hk κ
        have lst:∀ l:List Opd, l.all (EC sm (CJ pre dom))=true->∀ κ:List V->R, Gl (B5 sm env1 t2') l κ=Gl (fun x κ => κ (ev x t2)) l κ := fun l hk κ => by
          rw [Gv (t := t2) (fun x hx => one x (List.all_eq_true.1 hk x hx)), Gv (t := t2) (fun x _ κ => rfl)]
        have et:spE cf2 sp (B5 sm env1 t2') h2' n2=spE cf2 sp (fun x κ => κ (ev x t2)) h2' n2 := by
          funext κ
          cases sp with
          | rng x => exact one x k2 _
          | nxt x => exact one x k2 _
          | ent x => exact one x k2 _
          | tcl f l => exact lst l k2 _
          | dcl x l =>
            have k2:(EC sm (CJ pre dom) x&&l.all (EC sm (CJ pre dom)))=true := k2
            rw [Bool.and_eq_true] at k2
            exact (one x k2.1 _).trans (lst l k2.2 _)
        rw [et] at hx
        have hw:Region.wanted o (yielded ops a'.tmps)=true := by simp [Region.wanted, c3]
        have st := Abs (P := P) (ρ := ρ) (B := B) hct hR h2 c2 _ Φ hx φ' a' w' T1 g1 (wpListIn (NQ none) 0 P ops Q l2) Q fun v h3 n3 hs φ2 x w2 f2 g2 r2 => by
          obtain ⟨t3', e3, ri3⟩ := ri1.put d v (fun t => Dh sm cf2 post (Bw d v env1) t h3 n3 rest)
          have hs:(Df sm d t2' v fun t => Dh sm cf2 post (Bw d v env1) t h3 n3 rest).sat Φ := hs
          rw [e3] at hs
          obtain ⟨env4, t4, t4', h4, n4, e4, ri4, H4⟩ := DA (B := B) (ops := ops) hρ hcf h2 c5 k3 ri3 (R.sat_good hs)
          rw [e4] at hs
          have := E9 (l := none) (n := 0) (r := []) (.inl rfl) (H4 φ2 _ w2 ((T1.mono f2.ext).puts c4 r2) g2 Q (wpListIn (NQ none) 0 P ops Q []) fun φ3 a3 w3 f3 g3 T3 => hre _ env4 t4 t4' h4 n4 k4 ri4 hs φ3 a3 w3 (Fr.trans f1 (Fr.trans f2 f3)) g3 T3)
          rwa [List.append_nil] at this
        show wpListIn (NQ none) 0 P ops Q (o::l2) a' w'
        simp only [wpListIn]
        rw [if_pos hw]
        exact st
      | none =>
      rw [hspl] at hok hx hre
      have hok:La sm (C4 P N ops false) rOk dom=true := hok
      have hx:(In sm cf2 (C4 P N ops false) rest env t' h n).sat Φ := hx
      have hre:(C4 P N ops false).ends=false->_ := hre
      unfold C4 at hok hx hre
      split at hx
      · exact hx.elim
      · rename_i al hal
        simp only [hal, Bool.false_eq_true, if_false] at hok hre
        simp only [Bool.false_eq_true, if_false] at hx
        have hre := hre rfl
        have hok:(Hd sm al dom&&rOk (CJ al dom))=true := hok
        rw [Bool.and_eq_true] at hok
        have hx:(Dh sm cf2 al env t' h n rest).sat Φ := hx
        obtain ⟨env1, t2, t2', h2', n2, e2, ri1, H⟩ := RF (B := B) (ops := ops) hρ hcf h2 hal hok.1 ri (R.sat_good hx)
        rw [e2] at hx
        exact wp_region_list (H φ a w hT g Q fun φ' a' w' f1 g1 T1 => hre _ env1 t2 t2' h2' n2 hok.2 ri1 hx φ' a' w' f1 g1 T1)
  | seq x y ihx ihy =>
    intro rest rOk dom env t t' h n Φ hok ri hx φ a w hT g Q hex hre
    have hok:La sm (AY P N x) (La sm (AY P N y) rOk) dom=true := hok
    have hx:(In sm cf2 (AY P N x) (In sm cf2 (AY P N y) rest) env t' h n).sat Φ := hx
    have hre:or (AY P N x).ends (AY P N y).ends=false->_ := hre
    refine wp_seq (ihx _ _ dom env t t' h n Φ hok ri hx φ a w hT g _ (fun e t1 h1 n1 hΦ hne φ' a' w' tf f1 g1 T1 hk => ?_) fun he dom2 env2 t2 t2' h2' n2 hok2 ri2 hr φ2 a2 w2 f2 g2 T2 => ?_)
    · have := hex e t1 h1 n1 hΦ hne φ' a' w' tf f1 g1 T1 hk
      cases e with
      | nrm => exact absurd rfl hne
      | exit id => exact this
      | ret => exact this
    · exact ihy rest rOk dom2 env2 t2 t2' h2' n2 Φ hok2 ri2 hr φ2 a2 w2 T2 g2 Q (fun e t1 h1 n1 hΦ hne φ' a' w' tf f1 g1 T1 hk => hex e t1 h1 n1 hΦ hne φ' a' w' tf (Fr.trans f2 f1) g1 T1 hk)
        fun he' dom3 env3 t3 t3' h3 n3 hok3 ri3 hr3 φ3 a3 w3 f3 g3 T3 => hre (by rw [he, he']; rfl) dom3 env3 t3 t3' h3 n3 hok3 ri3 hr3 φ3 a3 w3 (Fr.trans f2 f3) g3 T3
  | cond c x y ihx ihy =>
    intro rest rOk dom env t t' h n Φ hok ri hx φ a w hT g Q hex hre
    have hok:La sm (match At N c with | some c => .cond c (AY P N x) (AY P N y) | none => .bad "a test") rOk dom=true := hok
    have hx:(In sm cf2 (match At N c with | some c => .cond c (AY P N x) (AY P N y) | none => .bad "a test") rest env t' h n).sat Φ := hx
    have hre:AC.ends (match At N c with | some c => .cond c (AY P N x) (AY P N y) | none => .bad "a test")=false->_ := hre
    split at hx
    · rename_i c' hc
      simp only [hc] at hok hre
      have hre:and (AY P N x).ends (AY P N y).ends=false->_ := hre
      have hok:(EC sm dom c'&&br (AY P N x).ends (La sm (AY P N x) (fun _ => true) dom&&La sm (AY P N y) rOk dom) (br (AY P N y).ends (La sm (AY P N x) rOk dom&&La sm (AY P N y) (fun _ => true) dom) (La sm (AY P N x) (fun _ => true) dom&&(La sm (AY P N y) (fun _ => true) dom&&rOk []))))=true := hok
      rw [Bool.and_eq_true] at hok
      have hx:(B5 sm env t' c' (fun v => Wq (AY P N x).ends (AY P N y).ends v (In sm cf2 (AY P N x)) (In sm cf2 (AY P N y)) rest env t' h n)).sat Φ := hx
      have e0:∀ κ:V->R, B5 sm env t' c' κ=κ (ev c' t) := fun κ => by
        cases c' with
        | c v => rfl
        | t p => exact ri.tell hok.1 κ
      rw [e0] at hx
      have g1 := Ae hc hT
      generalize hv:ev c' t=v at hx g1
      obtain ⟨_, hok⟩ := hok
      unfold Wq at hx
      -- the value is a bool
      have key:∀ (A C:R) (κ:R->R), (∀ s, κ (.fail s) = .fail s)->(∀ x y, κ (.both x y) = .both (κ x) (κ y))->(κ (Ed v A C)).sat Φ->∃ q, a.eval c = .bool q∧(κ (br q A C)).sat Φ := fun A C κ hκ hb hh => by
        have no:(κ (.fail "")).sat Φ->∃ q, a.eval c = .bool q∧(κ (br q A C)).sat Φ := fun hh => by rw [hκ] at hh; exact hh.elim
        cases v with
        | bool q => exact ⟨q, Es g1, by cases q <;> exact hh⟩
        | oth o => cases o with
          | bl =>
            have g1 := g1
            simp only [Aj] at g1
            obtain ⟨q, hq⟩ := g1
            have hh:(κ (.both A C)).sat Φ := hh
            rw [hb] at hh
            exact ⟨q, hq, by cases q; exact hh.2; exact hh.1⟩
          | _ => exact no hh
        | _ => exact no hh
      cases hex':(AY P N x).ends with
      | true =>
        rw [hex'] at hx hok hre
        have hok:(La sm (AY P N x) (fun _ => true) dom&&La sm (AY P N y) rOk dom)=true := hok
        rw [Bool.and_eq_true] at hok
        obtain ⟨q, hq, hx⟩ := key _ _ id (fun _ => rfl) (fun _ _ => rfl) hx
        refine wp_cond hq ?_
        cases q with
        | true => exact ihx r0 _ dom env t t' h n Φ hok.1 ri hx φ a w hT g Q hex fun he => by rw [hex'] at he; cases he
        | false => exact ihy rest rOk dom env t t' h n Φ hok.2 ri hx φ a w hT g Q hex fun he => hre (by rw [he]; rfl)
      | false =>
        rw [hex'] at hx hok hre
        have hre := hre rfl
        cases hey:(AY P N y).ends with
        | true =>
          rw [hey] at hx hok
          have hok:(La sm (AY P N x) rOk dom&&La sm (AY P N y) (fun _ => true) dom)=true := hok
          rw [Bool.and_eq_true] at hok
          obtain ⟨q, hq, hx⟩ := key _ _ id (fun _ => rfl) (fun _ _ => rfl) hx
          refine wp_cond hq ?_
          cases q with
          | true => exact ihx rest rOk dom env t t' h n Φ hok.1 ri hx φ a w hT g Q hex fun _ => hre
          | false => exact ihy r0 _ dom env t t' h n Φ hok.2 ri hx φ a w hT g Q hex fun he => by rw [hey] at he; cases he
        | false =>
          rw [hey] at hx hok
          have hok:(La sm (AY P N x) (fun _ => true) dom&&(La sm (AY P N y) (fun _ => true) dom&&rOk []))=true := hok
          rw [Bool.and_eq_true, Bool.and_eq_true] at hok
          obtain ⟨q, hq, hx⟩ := key _ _ (fun r => CQ r fun t h n => rest [] t h n) (fun _ => rfl) (fun _ _ => rfl) hx
          refine wp_cond hq ?_
          have fin:∀ (Z:Code), V4 P ρ B N sm Z t h n (Xg (fun t h n => rest [] t h n) Φ)->Z.wp P Q a w := fun Z HZ => by
            refine HZ φ a w hT g Q fun e0 t0 h0 n0 hj φ' a' w' tf f1 g1 T1 hk => ?_
            cases e0 with
            | nrm => exact hre [] [] tf t0 h0 n0 hok.2.2 (RI.start ri.inj hk) hj φ' a' w' f1 g1 T1
            | exit id => exact hex _ _ _ _ hj (fun h => by cases h) φ' a' w' tf f1 g1 T1 hk
            | ret => exact hex _ _ _ _ hj (fun h => by cases h) φ' a' w' tf f1 g1 T1 hk
          cases q with
          | true => exact fin x (ihx.join hok.1 ri (I8 hx))
          | false => exact fin y (ihy.join hok.2.1 ri (I8 hx))
    · exact hx.elim
  | block id b ih =>
    intro rest rOk dom env t t' h n Φ hok ri hx φ a w hT g Q hex hre
    have hok:(La sm (AY P N b) (fun _ => true) dom&&rOk [])=true := hok
    rw [Bool.and_eq_true] at hok
    have hx:(AO id (In sm cf2 (AY P N b) r0 env t' h n) (fun t h n => rest [] t h n)).sat Φ := hx
    have hre := hre rfl
    refine wp_block (ih.join hok.1 ri (IT hx) φ a w hT g _ fun e0 t0 h0 n0 hx φ' a' w' tf f1 g1 T1 hk => ?_)
    cases e0 with
    | nrm => exact hre [] [] tf t0 h0 n0 hok.2 (RI.start ri.inj hk) hx φ' a' w' f1 g1 T1
    | exit j =>
      show (if j=id then Q .normal a' w' else Q (.exit j) a' w')
      rcases hx with ⟨hj, hx⟩ | ⟨hj, hx⟩
      · rw [if_pos hj]; exact hre [] [] tf t0 h0 n0 hok.2 (RI.start ri.inj hk) hx φ' a' w' f1 g1 T1
      · rw [if_neg hj]; exact hex _ _ _ _ hx (fun h => by cases h) φ' a' w' tf f1 g1 T1 hk
    | ret => exact hex _ _ _ _ hx (fun h => by cases h) φ' a' w' tf f1 g1 T1 hk
  | loop b ih =>
    intro rest rOk dom env t t' h n Φ hok ri hx φ a w hT g Q hex hre
    have hok:La sm (AY P N b) (fun _ => true) []=true := hok
    have hx:(J6 (fun t h n => In sm cf2 (AY P N b) r0 [] t h n) 1000000000 t' h n).sat Φ := hx
    refine wp_loop_rounds 1000000000 ?_
    have key:∀ (k:Nat) (t:Regs) (t':S) (h:Heap) (n:K4), (∀ p s, C8 p sm=some s->S.get s t'=B3 p t)->(J6 (fun t h n => In sm cf2 (AY P N b) r0 [] t h n) k t' h n).sat Φ->∀ φ a w, TR ρ N φ t a->Gam ρ B h n φ w →
        (∀ e t1 h1 n1, Φ (.ok e t1 h1 n1)->e ≠ .nrm->∀ φ' a' w' tf, Fr h h1 φ φ' n n1 w w'->Gam ρ B h1 n1 φ' w'->TR ρ N φ' tf a'->(∀ p s, C8 p sm=some s->S.get s t1=B3 p tf)->Q (RC e) a' w')->Code.rounds P b Q k a w := by
      intro k
      induction k with
      | zero => intro t t' h n _ hx; exact hx.elim
      | succ k ihk =>
        intro t t' h n hk0 hx φ a w hT g hQ
        refine ih.join hok (RI.start ri.inj hk0) (Y1 hx) φ a w hT g _ fun e0 t0 h0 n0 hx φ' a' w' tf f1 g1 T1 hk => ?_
        cases e0 with
        | nrm => exact ihk tf t0 h0 n0 hk hx φ' a' w' T1 g1 fun e t1 h1 n1 hΦ hne φ2 a2 w2 tf2 f2 g2 T2 hk2 => hQ e t1 h1 n1 hΦ hne φ2 a2 w2 tf2 (Fr.trans f1 f2) g2 T2 hk2
        | exit id => exact hQ _ _ _ _ hx (fun h => by cases h) φ' a' w' tf f1 g1 T1 hk
        | ret => exact hQ _ _ _ _ hx (fun h => by cases h) φ' a' w' tf f1 g1 T1 hk
    exact key _ t t' h n ri.keep hx φ a w hT g hex
  | rangeFunc _ _ _ _ => intro rest rOk dom env t t' h n Φ hok ri hx; exact hx.elim
  | scope _ => intro rest rOk dom env t t' h n Φ hok ri hx; exact hx.elim
  | goto _ => intro rest rOk dom env t t' h n Φ hok ri hx; exact hx.elim
  | refuse _ => intro rest rOk dom env t t' h n Φ hok ri hx; exact hx.elim
end
end Go.Ev

namespace Go.Ev
set_option linter.unusedVariables false
def Aad (v:V):List K4->List K4 :=
  @V.rec (fun _ => List K4->List K4) (fun _ => List K4->List K4)
    (fun _ _ a => a) (fun _ a => a) (fun p _ a => p::a) (fun p _ _ _ _ _ a => p::a) (fun _ _ a => a) (fun _ ih a => ih a) (fun _ a => a) (fun p a => p::a) (fun _ _ ih a => ih a) (fun _ ih a => ih a) (fun _ a => a)
    (fun a => a) (fun _ _ ihx ihl a => ihx (ihl a)) v
def Xi (l:List V) (a:List K4):List K4 := @List.rec V (fun _ => List K4) a (fun v _ ih => Aad v ih) l
def Aaa (es:List (V×V)) (a:List K4):List K4 := @List.rec (V×V) (fun _ => List K4) a (fun e _ ih => @Prod.rec V V (fun _ => List K4) (fun x y => Aad x (Aad y ih)) e) es
def Pg (o:Ob) (a:List K4):List K4 :=
  @Ob.rec (fun _ => List K4) (fun cs _ _ => @Cs.rec (fun _ => List K4) (fun xs => Xi xs a) (fun _ _ => a) cs) (fun es _ _ => Aaa es a) (fun _ _ _ _ => a) a (fun _ _ => a) o
/-- An object that may be run on. -/
def Ez (o:Ob):Bool := @Ob.rec (fun _ => Bool) (fun _ sup _ => @Bool.rec (fun _ => Bool) true false sup) (fun _ _ _ => true) (fun _ _ _ _ => false) false (fun _ _ => false) o
/-- An object without its tie to an elder one. -/
def Kb (o:Ob):Ob := @Ob.rec (fun _ => Ob) (fun cs sup _ => .c cs sup none) (fun es bs c => .m es bs c) (fun p s l c => .it p s l c) .it0 (fun f b => .lp f b) o
theorem N2 (o:Ob):Bu (Kb o)=none := by cases o <;> rfl
theorem Tt {ρ:Env} {φ:AF} {w:World} {o:Ob} {b s tot:Nat} (h:GX ρ φ w o b s tot):GX ρ φ w (Kb o) b s tot := by cases o <;> exact h
/-- The objects that are reached. -/
def Bb (h:Heap) (k:Nat):List K4->Heap->List K4->(Heap->List K4->R)->R :=
  @Nat.rec (fun _ => List K4->Heap->List K4->(Heap->List K4->R)->R) (fun _ hs acc κ => κ hs acc)
    (fun _ ih todo hs acc κ => @List.rec K4 (fun _ => R) (κ hs acc) (fun p todo _ => AT p hs fun o => @Option.rec Ob (fun _ => R)
      (AT p h fun o => @Option.rec Ob (fun _ => R) (ih todo hs acc κ) (fun ob => br (Ez ob) (AV p hs (some (Kb ob)) fun hs => ih (Pg ob todo) hs (p::acc) κ) (ih todo hs acc κ)) o)
      (fun _ => ih todo hs acc κ) o) todo) k
def FK (p n:K4):Bool := Nat.ble (Nat.succ p.toN) n.toN
def EI (n:K4) (v:V):Bool :=
  @V.rec (fun _ => Bool) (fun _ => Bool)
    (fun _ _ => true) (fun _ => true) (fun p _ => FK p n) (fun p _ _ _ _ _ => FK p n) (fun _ _ => true) (fun _ ih => ih) (fun _ => true) (fun p => FK p n) (fun _ _ ih => ih) (fun _ ih => ih) (fun o => @Ot.rec (fun _ => Bool) true (fun _ => true) (fun p => FK p n) false (fun _ _ _ => true) (fun _ _ => true) true (fun _ _ => true) (fun _ _ _ _ => true) (fun _ _ _ _ => true) (fun _ _ _ => true) (fun _ _ => true) (fun _ _ => true) (fun _ _ _ => true) (fun _ => true) o)
    true (fun _ _ ihx ihl => br ihx ihl false) v
def JU (n:K4) (l:List V):Bool := EI n (.tup l)
def LM (p:Option K4) (κ:R):R := @Option.rec K4 (fun _ => R) κ (AH "") p
def R9 (n:K4) (a b:Cs) (κ:R):R :=
  @Cs.rec (fun _ => R) (fun xs => @Cs.rec (fun _ => R) (fun ys => br (JU n xs) (AN (.tup xs) (.tup ys) κ) (.fail "")) (As "") b)
    (fun m c => @Cs.rec (fun _ => R) (AH "") (fun m' c' => br (Nat.beq m m') (br (Nat.beq c c') κ (.fail "")) (.fail "")) b) a
def HP (n:K4) (a:List (V×V)):List (V×V)->R->R :=
  @List.rec (V×V) (fun _ => List (V×V)->R->R) (fun b κ => @List.rec (V×V) (fun _ => R) κ (By "") b)
    (fun e _ ih b κ => @List.rec (V×V) (fun _ => R) (.fail "") (fun e' b _ => @Prod.rec V V (fun _ => R) (fun x y => @Prod.rec V V (fun _ => R) (fun x' y' => br (EI n x) (br (EI n y) (AN x x' (AN y y' (ih b κ))) (.fail "")) (.fail "")) e') e) b) a
def Hn (a:List Nat):List Nat->R->R :=
  @List.rec Nat (fun _ => List Nat->R->R) (fun b κ => @List.rec Nat (fun _ => R) κ (By "") b)
    (fun x _ ih b κ => @List.rec Nat (fun _ => R) (.fail "") (fun y b _ => br (Nat.beq x y) (ih b κ) (.fail "")) b) a
def Sh (n:K4) (a b:Ob) (κ:R):R :=
  @Ob.rec (fun _ => R) (fun cs sup prev => br sup (.fail "") (LM prev (@Ob.rec (fun _ => R) (fun cs' sup' prev' => br sup' (.fail "") (LM prev' (R9 n cs cs' κ))) (By "") (Fl "") (.fail "") (As "") b)))
    (fun es bs c => @Ob.rec (fun _ => R) (By "") (fun es' bs' c' => br (Nat.beq c c') (Hn bs bs' (HP n es es' κ)) (.fail "")) (Fl "") (.fail "") (As "") b) (Fl "") (.fail "") (As "") a
def Dr (n:K4) (a b:BX) (κ:R):R :=
  @Option.rec Ob (fun _ => R) (@Option.rec Ob (fun _ => R) κ (AH "") b) (fun x => @Option.rec Ob (fun _ => R) (.fail "") (fun y => Sh n x y κ) b) a
def D7 (n:K4) (h1 h':Heap) (acc:List K4) (κ:R):R :=
  @List.rec K4 (fun _ => R) κ (fun p _ ih => AT p h1 fun a => AT p h' fun b => Dr n a b ih) acc
/-- Without the tie to memory that is new too. -/
def Adb (n:K4) (p:Option K4):Option K4 := @Option.rec K4 (fun _ => Option K4) none (fun q => @Bool.rec (fun _ => Option K4) none (some q) (FK q n)) p
def Iq (n:K4) (o:BX):BX := @Option.rec Ob (fun _ => BX) none (fun o => some (@Ob.rec (fun _ => Ob) (fun cs sup prev => .c cs sup (Adb n prev)) (fun es bs c => .m es bs c) (fun p s l c => .it p s l c) .it0 (fun f b => .lp f b) o)) o
/-- The results: alike, and nothing new in them; or two new slices that are alike. -/
def GM (n:K4) (v1:V) (h1:Heap) (v':V) (h':Heap) (κ:R):R :=
  br (EI n v1) (AN v1 v' κ) (D0 v1 (.fail "") fun p off len cap ex esz => D0 v' (.fail "") fun p' off' len' cap' ex' esz' =>
    br (FK p n) (.fail "") (br (FK p' n) (.fail "") (AN (.sl p off len cap ex esz) (.sl p off' len' cap' ex' esz') (AT p h1 fun a => AT p' h' fun b => Dr n (Iq n a) (Iq n b) κ))))
def R6 (r:R):(V->Heap->R)->R :=
  @R.rec (fun _ => (V->Heap->R)->R) (fF5 "") (fun v h _ κ => κ v h) (fun w _ => .fail w) (fun _ _ iha _ κ => iha κ) r
def MH (a b:K4) (κ:K4->R):R := br (Nat.ble a.toN b.toN) (κ b) (κ a)
def Wg (n:K4) (v1:V) (h1:Heap) (acc:List K4) (r:R):K4->(K4->R)->R :=
  @R.rec (fun _ => K4->(K4->R)->R) (DB "") (fun v h m mx κ => GM n v1 h1 v h (D7 n h1 h acc (MH m mx κ))) (fun w _ _ => .fail w) (fun _ _ iha ihb mx κ => iha mx fun mx => ihb mx κ) r
def Mo (o:Ob) (h:Heap) (κ:Heap->R):R := @Ob.rec (fun _ => R) (fun _ _ prev => @Option.rec K4 (fun _ => R) (κ h) (fun q => AV q h none κ) prev) (fun _ _ _ => κ h) (fun _ _ _ _ => κ h) (κ h) (fun _ _ => κ h) o
def G5 (h h1:Heap) (acc:List K4):(Heap->R)->R :=
  @List.rec K4 (fun _ => (Heap->R)->R) (fun κ => κ h)
    (fun p _ ih κ => ih fun hf => AT p h fun o => @Option.rec Ob (fun _ => R) (.fail "") (fun o => Mo o hf fun hf => AT p h1 fun o1 => AV p hf o1 κ) o) acc
def Q8 (n:K4) (v1:V) (h1 hf:Heap) (m:K4):R :=
  br (EI n v1) (.rv v1 hf m) (D0 v1 (.fail "") fun p off len cap ex esz => AT p h1 fun o => @Option.rec Ob (fun _ => R) (.fail "") (fun ob => AV m hf (some ob) fun hf => m.nx fun m' => .rv (.sl m off len cap ex esz) hf m') (Iq n o))
def ZY (n:K4) (h:Heap) (acc:List K4) (r:R):R :=
  R6 r fun v1 h1 => Wg n v1 h1 acc r n fun m => G5 h h1 acc fun hf => Q8 n v1 h1 hf m
def brK (k:Nat) (run:Heap->R) (args:List V) (h:Heap) (n:K4):R :=
  Bb h k (Xi args []) Aq [] fun hs acc => ZY n h acc (run hs)
section
variable {P:Program} {ρ:Env} {B:Nat}
structure Sub (h hs:Heap) (acc:List K4):Prop where
  sub:∀ p o, A8 p hs=some o->∃ o0, A8 p h=some o0∧o=Kb o0∧Ez o0=true∧p∈acc
  has:∀ p, p∈acc->∃ o, A8 p hs=some o
theorem Sub.mem {h hs:Heap} {acc:List K4} (s:Sub h hs acc) {p:K4} {o:Ob} (hp:A8 p hs=some o):p∈acc := by
  obtain ⟨_, _, _, _, m⟩ := s.sub p o hp; exact m
theorem Sub.in_h {h hs:Heap} {acc:List K4} (s:Sub h hs acc) {p:K4} {o:Ob} (hp:A8 p hs=some o):∃ o0, A8 p h=some o0 := by
  obtain ⟨o0, e, _⟩ := s.sub p o hp; exact ⟨o0, e⟩
theorem Fc {h:Heap}:∀ (k:Nat) {todo:List K4} {hs:Heap} {acc:List K4} {κ:Heap->List K4->R}, Sub h hs acc->∃ hs' acc', Sub h hs' acc'∧Bb h k todo hs acc κ=κ hs' acc'
  | 0, todo, hs, acc, κ, s => ⟨hs, acc, s, rfl⟩
  | k+1, [], hs, acc, κ, s => ⟨hs, acc, s, rfl⟩
  | k+1, p::todo, hs, acc, κ, s => by
    have e:Bb h (k+1) (p::todo) hs acc κ=AT p hs fun o => @Option.rec Ob (fun _ => R)
      (AT p h fun o => @Option.rec Ob (fun _ => R) (Bb h k todo hs acc κ) (fun ob => br (Ez ob) (AV p hs (some (Kb ob)) fun hs => Bb h k (Pg ob todo) hs (p::acc) κ) (Bb h k todo hs acc κ)) o)
      (fun _ => Bb h k todo hs acc κ) o := rfl
    rw [e, AB]
    cases h1:A8 p hs with
    | some o => exact Fc k s
    | none =>
      show ∃ hs' acc', Sub h hs' acc'∧(AT p h fun o => @Option.rec Ob (fun _ => R) (Bb h k todo hs acc κ) (fun ob => br (Ez ob) (AV p hs (some (Kb ob)) fun hs => Bb h k (Pg ob todo) hs (p::acc) κ) (Bb h k todo hs acc κ)) o)=κ hs' acc'
      rw [AB]
      cases h2:A8 p h with
      | none => exact Fc k s
      | some ob =>
        show ∃ hs' acc', Sub h hs' acc'∧br (Ez ob) (AV p hs (some (Kb ob)) fun hs => Bb h k (Pg ob todo) hs (p::acc) κ) (Bb h k todo hs acc κ)=κ hs' acc'
        cases h3:Ez ob with
        | false => exact Fc k s
        | true =>
          show ∃ hs' acc', Sub h hs' acc'∧(AV p hs (some (Kb ob)) fun hs => Bb h k (Pg ob todo) hs (p::acc) κ)=κ hs' acc'
          rw [Bf, AA]
          refine Fc k ⟨fun q o hq => ?_, fun q hq => ?_⟩
          · rcases Bl hq with ⟨rfl, e⟩ | ⟨hne, hq⟩
            · cases e; exact ⟨ob, h2, rfl, h3, List.mem_cons_self ..⟩
            · obtain ⟨o0, a, e, b, c⟩ := s.sub q o hq; exact ⟨o0, a, e, b, List.mem_cons_of_mem _ c⟩
          · by_cases e:p=q
            · subst e; exact ⟨Kb ob, A7 _ _ _⟩
            · rw [A6 _ _ e]
              rcases List.mem_cons.1 hq with e' | hq
              · exact absurd e'.symm e
              · exact s.has q hq
theorem Sub.nil {h:Heap}:Sub h Aq [] := ⟨fun p o hp => (by rw [BQ] at hp; cases hp), fun p hp => (by simp at hp)⟩
theorem Bj {p n:K4}:FK p n=true ↔ p.toN<n.toN := by unfold FK; rw [A9]; omega
mutual
theorem Fg {n:K4} {φ1 φ2:AF} (hφ:∀ p x, p.toN<n.toN->φ1 p=some x->φ2 p=some x):∀ {v:V} {x:Value}, EI n v=true->Aj ρ φ1 v x->Aj ρ φ2 v x
  | .int _ _, _, _, r => by simpa only [Aj] using r
  | .bool _, _, _, r => by simpa only [Aj] using r
  | .ptr p _, _, ho, r => by
    have ho:FK p n=true := ho
    simp only [Aj] at r ⊢
    obtain ⟨b, s, tot, hp, e⟩ := r
    exact ⟨b, s, tot, hφ _ _ (Bj.1 ho) hp, e⟩
  | .sl p _ _ _ _ _, _, ho, r => by
    have ho:FK p n=true := ho
    simp only [Aj] at r ⊢
    obtain ⟨b, s, tot, o, c, hp, e⟩ := r
    exact ⟨b, s, tot, o, c, hφ _ _ (Bj.1 ho) hp, e⟩
  | .str _ _, _, _, r => by simpa only [Aj] using r
  | .agg l, _, ho, r => by
    have ho:JU n l=true := ho
    simp only [Aj] at r ⊢
    obtain ⟨cs, e, hl, hh⟩ := r
    exact ⟨cs, e, GZ hφ ho hl, hh⟩
  | .nil _, _, _, r => by simpa only [Aj] using r
  | .map p, _, ho, r => by
    have ho:FK p n=true := ho
    simp only [Aj] at r ⊢
    obtain ⟨b, s, tot, hp, e⟩ := r
    exact ⟨b, s, tot, hφ _ _ (Bj.1 ho) hp, e⟩
  | .fn _ l, _, ho, r => by
    have ho:JU n l=true := ho
    simp only [Aj] at r ⊢
    obtain ⟨cs, e, hl⟩ := r
    exact ⟨cs, e, GZ hφ ho hl⟩
  | .tup l, _, ho, r => by
    have ho:JU n l=true := ho
    simp only [Aj] at r ⊢
    obtain ⟨cs, e, hl⟩ := r
    exact ⟨cs, e, GZ hφ ho hl⟩
  | .oth o, _, ho, r => by
    cases o with
    | yl p =>
      have ho:FK p n=true := ho
      simp only [Aj] at r ⊢
      obtain ⟨b, s, tot, hp, e⟩ := r
      exact ⟨b, s, tot, hφ _ _ (Bj.1 ho) hp, e⟩
    | _ => simp only [Aj] at r ⊢ <;> exact r
theorem GZ {n:K4} {φ1 φ2:AF} (hφ:∀ p x, p.toN<n.toN->φ1 p=some x->φ2 p=some x):∀ {l:List V} {xs:List Value}, JU n l=true->Bi ρ φ1 l xs->Bi ρ φ2 l xs
  | [], _, _, r => by simpa only [Bi] using r
  | v::l, _, ho, r => by
    have ho:br (EI n v) (JU n l) false=true := ho
    simp only [Bi] at r ⊢
    obtain ⟨y, ys, e, hy, hys⟩ := r
    cases h1:EI n v with
    | false => rw [h1] at ho; cases ho
    | true =>
      rw [h1] at ho
      exact ⟨y, ys, e, Fg hφ h1 hy, GZ hφ ho hys⟩
end
theorem Qa {n:K4}:∀ {l:List V}, JU n l=true->∀ v∈l, EI n v=true
  | [], _, v, hv => by simp at hv
  | x::l, ho, v, hv => by
    have ho:br (EI n x) (JU n l) false=true := ho
    cases h1:EI n x with
    | false => rw [h1] at ho; cases ho
    | true =>
      rw [h1] at ho
      rcases List.mem_cons.1 hv with e | hv
      · subst e; exact h1
      · exact Qa (show JU n l=true from ho) v hv
/-- An object that names nothing new, and shares its memory with no other. -/
def Kc (n:K4):Ob->Prop
  | .c (.l xs) sup prev => JU n xs=true∧sup=false∧prev=none
  | .c (.b _ _) sup prev => sup=false∧prev=none
  | .m es _ _ => ∀ e∈es, EI n e.1=true∧EI n e.2=true
  | _ => False
theorem Kc.prev {n:K4} {o:Ob} (h:Kc n o):Bu o=none := by
  cases o with
  | c cs sup prev => cases cs with
    | l xs => exact h.2.2
    | b m c => exact h.2
  | m es bs c => rfl
  | it _ _ _ _ => exact h.elim
  | it0 => exact h.elim
  | lp _ _ => exact h.elim
theorem Kc.sup {n:K4} {o:Ob} (h:Kc n o):Js o=false := by
  cases o with
  | c cs sup prev => cases cs with
    | l xs => exact h.2.1
    | b m c => exact h.1
  | m es bs c => rfl
  | it _ _ _ _ => exact h.elim
  | it0 => exact h.elim
  | lp _ _ => exact h.elim
theorem U1 {n:K4} {o:BX} {ob:Ob} (h:Iq n o=some ob):∃ obr, o=some obr∧(Bu ob=none->∀ q, Bu obr=some q->n.toN≤q.toN) ∧ ∀ {φ:AF} {w:World} {b s tot:Nat}, GX ρ φ w obr b s tot->GX ρ φ w ob b s tot := by
  cases o with
  | none => cases h
  | some obr =>
    refine ⟨obr, rfl, ?_⟩
    cases obr with
    | c cs sup prev =>
      have h:some (Ob.c cs sup (Adb n prev))=some ob := h
      cases h
      refine ⟨fun hp q hq => ?_, fun k => k⟩
      have hq:prev=some q := hq
      subst hq
      have hp:@Bool.rec (fun _ => Option K4) none (some q) (FK q n)=none := hp
      cases hl:FK q n with
      | true => rw [hl] at hp; cases hp
      | false =>
        rcases Nat.lt_or_ge q.toN n.toN with h | h
        · rw [Bj.2 h] at hl; cases hl
        · exact h
    | m _ _ _ => cases h; exact ⟨fun _ q hq => (by cases hq), fun k => k⟩
    | it _ _ _ _ => cases h; exact ⟨fun _ q hq => (by cases hq), fun k => k⟩
    | it0 => cases h; exact ⟨fun _ q hq => (by cases hq), fun k => k⟩
    | lp _ _ => cases h; exact ⟨fun _ q hq => (by cases hq), fun k => k⟩
theorem Lq {n:K4} {φ1 φ2:AF} (hφ:∀ p x, p.toN<n.toN->φ1 p=some x->φ2 p=some x) {w:World} {o:Ob} {b s tot:Nat} (ho:Kc n o) (k:GX ρ φ1 w o b s tot):GX ρ φ2 w o b s tot := by
  cases o with
  | c cs sup prev =>
    obtain ⟨c, e, fr, h1, h2, h3, h4, h5⟩ := k
    refine ⟨c, e, fr, h1, h2, h3, h4, fun i v hv => ?_⟩
    obtain ⟨x, k1, k2, k3⟩ := h5 i v hv
    refine ⟨x, k1, ?_, k3⟩
    cases cs with
    | l xs => exact Fg hφ (Qa ho.1 v (List.mem_of_getElem? hv)) k2
    | b m c =>
      by_cases hi:i<m
      · rw [Cs.b_pos hi] at hv; cases hv; exact Fg hφ rfl k2
      · rw [Cs.b_neg hi] at hv; cases hv
  | m es bs clk =>
    obtain ⟨ents, h1, h2, h3⟩ := k
    refine ⟨ents, h1, ?_, h3⟩
    have ho':∀ e∈es, EI n e.1=true∧EI n e.2=true := ho
    clear h1 h3 ho
    generalize ents.toList=l at h2
    induction es generalizing l with
    | nil => exact h2
    | cons e es ih =>
      obtain ⟨y, ys, rfl, k1, k2, k3⟩ := h2
      obtain ⟨o1, o2⟩ := ho' e (List.mem_cons_self ..)
      exact ⟨y, ys, rfl, Fg hφ o1 k1, Fg hφ o2 k2, ih (fun e he => ho' e (List.mem_cons_of_mem _ he)) _ k3⟩
  | it _ _ _ _ => exact ho.elim
  | it0 => exact ho.elim
  | lp _ _ => exact ho.elim
theorem LP {p:Option K4} {κ:R} (h:(LM p κ).good):p=none∧LM p κ=κ := by
  cases p with
  | none => exact ⟨rfl, rfl⟩
  | some q => exact h.elim
theorem KE:∀ {a b:List Nat} {κ:R}, (Hn a b κ).good->a=b∧Hn a b κ=κ
  | [], [], κ, _ => ⟨rfl, rfl⟩
  | [], _::_, κ, h => h.elim
  | _::_, [], κ, h => h.elim
  | x::a, y::b, κ, h => by
    have h:R.good (br (Nat.beq x y) (Hn a b κ) (.fail "")) := h
    obtain ⟨h1, e1⟩ := Ad h
    rw [e1] at h
    obtain ⟨h2, e2⟩ := KE h
    exact ⟨by rw [Nat.eq_of_beq_eq_true h1, h2], Eq.trans e1 e2⟩
theorem KD {n:K4}:∀ {a b:List (V×V)} {κ:R}, (HP n a b κ).good->a=b∧(∀ e∈a, EI n e.1=true∧EI n e.2=true)∧HP n a b κ=κ
  | [], [], κ, _ => ⟨rfl, fun e he => by simp at he, rfl⟩
  | [], _::_, κ, h => h.elim
  | _::_, [], κ, h => h.elim
  | (x, y)::a, (x', y')::b, κ, h => by
    have h:R.good (br (EI n x) (br (EI n y) (AN x x' (AN y y' (HP n a b κ))) (.fail "")) (.fail "")) := h
    obtain ⟨h1, e1⟩ := Ad h
    rw [e1] at h
    obtain ⟨h2, e2⟩ := Ad h
    rw [e2] at h
    obtain ⟨h3, e3⟩ := Eb h
    rw [e3] at h
    obtain ⟨h4, e4⟩ := Eb h
    rw [e4] at h
    obtain ⟨h5, h6, e5⟩ := KD h
    refine ⟨by rw [h3, h4, h5], fun e he => ?_, Eq.trans e1 (e2.trans (e3.trans (e4.trans e5)))⟩
    rcases List.mem_cons.1 he with e' | he
    · subst e'; exact ⟨h1, h2⟩
    · exact h6 e he
theorem Re {n:K4} {a b:Ob} {κ:R} (h:(Sh n a b κ).good):a=b∧Kc n a∧Sh n a b κ=κ := by
  cases a with
  | c cs sup prev =>
    have h0:R.good (br sup (.fail "") (LM prev (@Ob.rec (fun _ => R) (fun cs' sup' prev' => br sup' (.fail "") (LM prev' (R9 n cs cs' κ))) (By "") (Fl "") (.fail "") (As "") b))) := h
    obtain ⟨h1, e1⟩ := Gw h0
    rw [e1] at h0
    obtain ⟨h2, e2⟩ := LP h0
    rw [e2] at h0
    cases b with
    | c cs' sup' prev' =>
      have h0:R.good (br sup' (.fail "") (LM prev' (R9 n cs cs' κ))) := h0
      obtain ⟨h3, e3⟩ := Gw h0
      rw [e3] at h0
      obtain ⟨h4, e4⟩ := LP h0
      rw [e4] at h0
      subst h1 h2 h3 h4
      cases cs with
      | l xs => cases cs' with
        | l ys =>
          have h0:R.good (br (JU n xs) (AN (.tup xs) (.tup ys) κ) (.fail "")) := h0
          obtain ⟨h5, e5⟩ := Ad h0
          rw [e5] at h0
          obtain ⟨h6, e6⟩ := Eb h0
          cases h6
          exact ⟨rfl, ⟨h5, rfl, rfl⟩, Eq.trans e5 e6⟩
        | b m c => exact h0.elim
      | b m c => cases cs' with
        | l ys => exact h0.elim
        | b m' c' =>
          have h0:R.good (br (Nat.beq m m') (br (Nat.beq c c') κ (.fail "")) (.fail "")) := h0
          obtain ⟨h5, e5⟩ := Ad h0
          rw [e5] at h0
          obtain ⟨h6, e6⟩ := Ad h0
          exact ⟨by rw [Nat.eq_of_beq_eq_true h5, Nat.eq_of_beq_eq_true h6], ⟨rfl, rfl⟩, Eq.trans e5 e6⟩
    | m _ _ _ => exact h0.elim
    | it _ _ _ _ => exact h0.elim
    | it0 => exact h0.elim
    | lp _ _ => exact h0.elim
  | m es bs c => cases b with
    | m es' bs' c' =>
      have h0:R.good (br (Nat.beq c c') (Hn bs bs' (HP n es es' κ)) (.fail "")) := h
      obtain ⟨h1, e1⟩ := Ad h0
      rw [e1] at h0
      obtain ⟨h2, e2⟩ := KE h0
      rw [e2] at h0
      obtain ⟨h3, h4, e3⟩ := KD h0
      refine ⟨by rw [Nat.eq_of_beq_eq_true h1, h2, h3], h4, Eq.trans e1 (e2.trans e3)⟩
    | c _ _ _ => exact h.elim
    | it _ _ _ _ => exact h.elim
    | it0 => exact h.elim
    | lp _ _ => exact h.elim
  | it _ _ _ _ => exact h.elim
  | it0 => exact h.elim
  | lp _ _ => exact h.elim
theorem KS {n:K4} {a b:BX} {κ:R} (h:(Dr n a b κ).good):a=b∧(∀ o, a=some o->Kc n o)∧Dr n a b κ=κ := by
  cases a with
  | none => cases b with
    | none => exact ⟨rfl, fun o h => (by cases h), rfl⟩
    | some y => exact h.elim
  | some x => cases b with
    | none => exact h.elim
    | some y =>
      obtain ⟨h1, h2, e⟩ := Re (show R.good (Sh n x y κ) from h)
      subst h1
      exact ⟨rfl, fun o h => (by cases h; exact h2), e⟩
theorem GO {n:K4} {h1 h':Heap}:∀ {acc:List K4} {κ:R}, (D7 n h1 h' acc κ).good->(∀ p∈acc, A8 p h1=A8 p h' ∧ ∀ o, A8 p h1=some o->Kc n o)∧D7 n h1 h' acc κ=κ
  | [], κ, _ => ⟨fun p hp => by simp at hp, rfl⟩
  | q::acc, κ, h => by
    have e0:D7 n h1 h' (q::acc) κ=Dr n (A8 q h1) (A8 q h') (D7 n h1 h' acc κ) := by
      show (AT q h1 fun a => AT q h' fun b => Dr n a b (D7 n h1 h' acc κ))=_
      rw [AB, AB]
    rw [e0] at h
    obtain ⟨a1, a2, e1⟩ := KS h
    rw [e1] at h
    obtain ⟨a3, e2⟩ := GO h
    refine ⟨fun p hp => ?_, e0.trans (e1.trans e2)⟩
    rcases List.mem_cons.1 hp with e | hp
    · subst e; exact ⟨a1, a2⟩
    · exact a3 p hp
/-- Two results. -/
def Su (n:K4) (v1:V) (h1:Heap) (v':V) (h':Heap):Prop :=
  (EI n v1=true∧v1=v')∨(EI n v1=false ∧ ∃ p p' off len cap ex esz, v1 = .sl p off len cap ex esz∧v' = .sl p' off len cap ex esz∧n.toN≤p.toN∧n.toN≤p'.toN∧Iq n (A8 p h1)=Iq n (A8 p' h') ∧ ∀ o, Iq n (A8 p h1)=some o->Kc n o)
theorem J9 {n:K4} {v1 v':V} {h1 h':Heap} {κ:R} (h:(GM n v1 h1 v' h' κ).good):Su n v1 h1 v' h'∧GM n v1 h1 v' h' κ=κ := by
  unfold GM at h ⊢
  cases ho:EI n v1 with
  | true =>
    rw [ho] at h
    obtain ⟨a, e⟩ := Eb (show R.good (AN v1 v' κ) from h)
    exact ⟨.inl ⟨ho, a⟩, e⟩
  | false =>
    rw [ho] at h
    have h:R.good (D0 v1 (.fail "") fun p off len cap ex esz => D0 v' (.fail "") fun p' off' len' cap' ex' esz' => br (FK p n) (.fail "") (br (FK p' n) (.fail "") (AN (.sl p off len cap ex esz) (.sl p off' len' cap' ex' esz') (AT p h1 fun a => AT p' h' fun b => Dr n (Iq n a) (Iq n b) κ)))) := h
    show Su n v1 h1 v' h'∧(D0 v1 (.fail "") fun p off len cap ex esz => D0 v' (.fail "") fun p' off' len' cap' ex' esz' => br (FK p n) (.fail "") (br (FK p' n) (.fail "") (AN (.sl p off len cap ex esz) (.sl p off' len' cap' ex' esz') (AT p h1 fun a => AT p' h' fun b => Dr n (Iq n a) (Iq n b) κ))))=κ
    rcases C7 h with ⟨_, e1⟩ | ⟨p, off, len, cap, ex, esz, hv, e1⟩
    · rw [e1] at h; exact h.elim
    rw [e1] at h ⊢
    rcases C7 h with ⟨_, e2⟩ | ⟨p', off', len', cap', ex', esz', hv', e2⟩
    · rw [e2] at h; exact h.elim
    rw [e2] at h ⊢
    obtain ⟨a1, e3⟩ := Gw h
    rw [e3] at h ⊢
    obtain ⟨a2, e4⟩ := Gw h
    rw [e4] at h ⊢
    obtain ⟨a3, e5⟩ := Eb h
    rw [e5] at h ⊢
    rw [AB, AB] at h ⊢
    obtain ⟨a4, a5, e6⟩ := KS h
    rw [e6]
    cases a3
    have n1:n.toN≤p.toN := by
      rcases Nat.lt_or_ge p.toN n.toN with h | h
      · rw [Bj.2 h] at a1; cases a1
      · exact h
    have n2:n.toN≤p'.toN := by
      rcases Nat.lt_or_ge p'.toN n.toN with h | h
      · rw [Bj.2 h] at a2; cases a2
      · exact h
    exact ⟨.inr ⟨ho, p, p', off, len, cap, ex, esz, hv, hv', n1, n2, a4, a5⟩, rfl⟩
theorem T8 (a b:K4) (κ:K4->R):∃ m:K4, MH a b κ=κ m∧a.toN≤m.toN∧b.toN≤m.toN := by
  unfold MH
  cases h:Nat.ble a.toN b.toN with
  | true => exact ⟨b, rfl, A9.1 h, Nat.le_refl _⟩
  | false =>
    have:¬ a.toN≤b.toN := fun h' => by rw [A9.2 h'] at h; cases h
    exact ⟨a, rfl, Nat.le_refl _, by omega⟩
/-- All ways are like the first one. -/
def Wa (n:K4) (v1:V) (h1:Heap) (acc:List K4) (m:K4):R->Prop
  | .rv v h n' => Su n v1 h1 v h∧(∀ p∈acc, A8 p h1=A8 p h ∧ ∀ o, A8 p h1=some o->Kc n o)∧n'.toN≤m.toN
  | _ => False
theorem K6 {n:K4} {v1:V} {h1:Heap} {acc:List K4}:∀ {r:R} {mx:K4} {κ:K4->R}, (Wg n v1 h1 acc r mx κ).good->∃ m:K4, mx.toN≤m.toN∧r.sat (Wa n v1 h1 acc m)∧Wg n v1 h1 acc r mx κ=κ m
  | .ok _ _ _ _, mx, κ, h => h.elim
  | .fail _, mx, κ, h => h.elim
  | .rv v h0 n', mx, κ, h => by
    have h:R.good (GM n v1 h1 v h0 (D7 n h1 h0 acc (MH n' mx κ))) := h
    obtain ⟨a1, e1⟩ := J9 h
    rw [e1] at h
    obtain ⟨a2, e2⟩ := GO h
    rw [e2] at h
    obtain ⟨m, e3, l1, l2⟩ := T8 n' mx κ
    exact ⟨m, l2, ⟨a1, a2, l1⟩, Eq.trans e1 (e2.trans e3)⟩
  | .both a b, mx, κ, h => by
    have h:R.good (Wg n v1 h1 acc a mx fun mx => Wg n v1 h1 acc b mx κ) := h
    obtain ⟨m1, l1, s1, e1⟩ := K6 h
    rw [e1] at h
    obtain ⟨m2, l2, s2, e2⟩ := K6 h
    refine ⟨m2, Nat.le_trans l1 l2, ⟨R.sat_mono (fun r hr => ?_) s1, s2⟩, Eq.trans e1 e2⟩
    cases r with
    | rv v h0 n' => exact ⟨hr.1, hr.2.1, Nat.le_trans hr.2.2 l2⟩
    | ok _ _ _ _ => exact hr
    | fail _ => exact hr
    | both _ _ => exact hr
theorem KI:∀ {r:R} {κ:V->Heap->R}, (R6 r κ).good->∃ v h, R6 r κ=κ v h
  | .ok _ _ _ _, κ, h => h.elim
  | .fail _, κ, h => h.elim
  | .rv v h0 n', κ, h => ⟨v, h0, rfl⟩
  | .both a b, κ, h => KI (r := a) h
theorem Wr (o:Ob) (h:Heap) (κ:Heap->R):Mo o h κ=κ (BS (Bu o) h) := by
  cases o with
  | c cs sup prev =>
    cases prev with
    | none => rfl
    | some q => show AV q h none κ=_; rw [Bf, AA]; rfl
  | m _ _ _ => rfl
  | it _ _ _ _ => rfl
  | it0 => rfl
  | lp _ _ => rfl
/-- What is left when the ways are laid together. -/
structure PutOK (h h1:Heap) (acc:List K4) (hf:Heap):Prop where
  put:∀ q o, A8 q hf=some o->(q∈acc∧A8 q h1=some o)∨(q ∉ acc∧A8 q h=some o ∧ ∀ p∈acc, ∀ op, A8 p h=some op->Bu op≠some q)
theorem IG {h h1:Heap}:∀ {acc:List K4} {κ:Heap->R}, (G5 h h1 acc κ).good->∃ hf, PutOK h h1 acc hf∧G5 h h1 acc κ=κ hf
  | [], κ, _ => ⟨h, ⟨fun q o hq => .inr ⟨by simp, hq, fun p hp => by simp at hp⟩⟩, rfl⟩
  | p::acc, κ, hg => by
    have hg:R.good (G5 h h1 acc fun hf => AT p h fun o => @Option.rec Ob (fun _ => R) (.fail "") (fun o => Mo o hf fun hf => AT p h1 fun o1 => AV p hf o1 κ) o) := hg
    obtain ⟨hf, ok, e1⟩ := IG hg
    rw [e1] at hg
    have e0:G5 h h1 (p::acc) κ=_ := e1
    rw [e0]
    rw [AB] at hg ⊢
    cases hp:A8 p h with
    | none => rw [hp] at hg; exact hg.elim
    | some op =>
      show ∃ hf', PutOK h h1 (p::acc) hf'∧(Mo op hf fun hf => AT p h1 fun o1 => AV p hf o1 κ)=κ hf'
      rw [Wr, AB, Bf, AA]
      refine ⟨_, ⟨fun q o hq => ?_⟩, rfl⟩
      rcases Bl hq with ⟨rfl, e⟩ | ⟨hne, hq⟩
      · exact .inl ⟨List.mem_cons_self .., e⟩
      · obtain ⟨k1, hq⟩ := Db hq
        rcases ok.put q o hq with ⟨a, b⟩ | ⟨a, b, c⟩
        · exact .inl ⟨List.mem_cons_of_mem _ a, b⟩
        · refine .inr ⟨fun hm => ?_, b, fun p' hp' op' hop' => ?_⟩
          · rcases List.mem_cons.1 hm with e | hm
            · exact hne e.symm
            · exact a hm
          · rcases List.mem_cons.1 hp' with e | hp'
            · subst e; rw [hp] at hop'; cases hop'; exact k1
            · exact c p' hp' op' hop'
section
variable {h hs h1 h' hf:Heap} {acc:List K4} {n n' m:K4} {v1 v:V} {φ φ':AF} {w w':World}
theorem Gu (sub:Sub h hs acc) (put:PutOK h h1 acc hf) (g:Gam ρ B h n φ w) {q:K4} {o:Ob} (hq:q ∉ acc) (ho:A8 q hf=some o) {b s tot:Nat} (hφ:φ q=some (b, s, tot)) {p:K4} (hp:p∈acc) {s' tot':Nat} (hφp:φ p=some (b, s', tot')):False := by
  obtain ⟨op', hop⟩ := sub.has p hp
  obtain ⟨op, k1, _, k2, _⟩ := sub.sub p op' hop
  rcases put.put q o ho with ⟨a, _⟩ | ⟨_, a, c⟩
  · exact hq a
  · have hne:p≠q := fun e => hq (e ▸ hp)
    rcases g.sep p q op o b s' tot' s tot hne k1 a hφp hφ with e | e
    · exact c p hp op k1 e
    · have := g.sup q p o op b s tot s' tot' a e k1 hφ hφp
      cases op with
      | c cs sup prev =>
        have this:sup=true := this
        subst this
        cases k2
      | m _ _ _ => cases this
      | it _ _ _ _ => cases this
      | it0 => cases this
      | lp _ _ => cases this
theorem Xl (sub:Sub h hs acc) (put:PutOK h h1 acc hf) (g:Gam ρ B h n φ w) (f1:Fr hs h' φ φ' n n' w w') {q:K4} {o:Ob} (hq:q ∉ acc) (ho:A8 q hf=some o) {b s tot:Nat} (hφ:φ q=some (b, s, tot)):w'.heap[b]? = w.heap[b]? := by
  refine f1.old b (g.blk q b s tot hφ).2 fun p s' tot' hp => ?_
  cases hx:A8 p hs with
  | none => rfl
  | some o' => exact (Gu sub put g hq ho hφ (sub.mem hx) hp).elim
theorem V6 (sub:Sub h hs acc) (put:PutOK h h1 acc hf) (g:Gam ρ B h n φ w) (f1:Fr hs h' φ φ' n n' w w') (g1:Gam ρ B h' n' φ' w')
    (hacc:∀ p∈acc, A8 p h1=A8 p h' ∧ ∀ o, A8 p h1=some o->Kc n o) (hm:n.toN≤m.toN):Gam ρ B hf m φ w'∧Fr h hf φ φ n m w w' := by
  have back:∀ p x, p.toN<n.toN->φ' p=some x->φ p=some x := fun p x hp hx => by
    rcases f1.new p x hx with h | ⟨h, _⟩
    · exact h
    · omega
  have inacc:∀ q o, q∈acc->A8 q hf=some o->A8 q h'=some o∧Kc n o := fun q o hq ho => by
    rcases put.put q o ho with ⟨_, a⟩ | ⟨a, _⟩
    · exact ⟨(hacc q hq).1 ▸ a, (hacc q hq).2 o a⟩
    · exact absurd hq a
  have outacc:∀ q o, q ∉ acc->A8 q hf=some o->A8 q h=some o := fun q o hq ho => by
    rcases put.put q o ho with ⟨a, _⟩ | ⟨_, a, _⟩
    · exact absurd a hq
    · exact a
  refine ⟨⟨Nat.le_trans g.base f1.size, fun p x hx => Nat.lt_of_lt_of_le (g.dom p x hx) hm, fun p b s tot hx => ⟨(g.blk p b s tot hx).1, Nat.lt_of_lt_of_le (g.blk p b s tot hx).2 f1.size⟩, fun q o b s tot ho hx => ?_, fun p q o o' b s tot s' tot' hne ho ho' hx hy => ?_, fun p q o o' b s tot s' tot' ho hpr ho' hx hy => ?_, g1.glob⟩,
    ⟨AF.le_refl φ, fun _ _ h => .inl h, hm, f1.os, f1.tape, f1.out, f1.size, fun b hb hn => f1.old b hb fun p s tot hp => ?_, fun _ _ _ _ h => .inl h, fun p hp hn => ?_⟩⟩
  · by_cases hq:q∈acc
    · obtain ⟨a, c⟩ := inacc q o hq ho
      exact Lq back c (g1.obj q o b s tot a (f1.ext _ _ hx))
    · exact BN (Xl sub put g f1 hq ho hx) (g.obj q o b s tot (outacc q o hq ho) hx)
  · by_cases hp:p∈acc
    · by_cases hq:q∈acc
      · exact g1.sep p q o o' b s tot s' tot' hne (inacc p o hp ho).1 (inacc q o' hq ho').1 (f1.ext _ _ hx) (f1.ext _ _ hy)
      · exact (Gu sub put g hq ho' hy hp hx).elim
    · by_cases hq:q∈acc
      · exact (Gu sub put g hp ho hx hq hy).elim
      · exact g.sep p q o o' b s tot s' tot' hne (outacc p o hp ho) (outacc q o' hq ho') hx hy
  · by_cases hp:p∈acc
    · rw [(inacc p o hp ho).2.prev] at hpr; cases hpr
    · by_cases hq:q∈acc
      · exact (Gu sub put g hp ho hx hq hy).elim
      · exact g.sup p q o o' b s tot s' tot' (outacc p o hp ho) hpr (outacc q o' hq ho') hx hy
  · cases hx:A8 p hs with
    | none => rfl
    | some o' => have := hn p s tot hp; obtain ⟨o0, e0⟩ := sub.in_h hx; rw [e0] at this; cases this
  · cases hx:A8 p hf with
    | none => rfl
    | some o =>
      exfalso
      by_cases hq:p∈acc
      · obtain ⟨o', ho'⟩ := sub.has p hq
        obtain ⟨o0, e0⟩ := sub.in_h ho'
        rw [e0] at hn; cases hn
      · rw [outacc p o hq hx] at hn; cases hn
theorem WT (sub:Sub h hs acc) (put:PutOK h h1 acc hf) (g:Gam ρ B h n φ w) (f1:Fr hs h' φ φ' n n' w w') (g1:Gam ρ B h' n' φ' w') {x:Value} (r1:Aj ρ φ' v x)
    (way:Wa n v1 h1 acc m (.rv v h' n')) (hm:n.toN≤m.toN) {vf:V} {hff:Heap} {nf:K4} (hres:Q8 n v1 h1 hf m = .rv vf hff nf) :
    ∃ φ'', Fr h hff φ φ'' n nf w w'∧Gam ρ B hff nf φ'' w'∧Aj ρ φ'' vf x := by
  obtain ⟨res, hacc, hn'⟩ := way
  obtain ⟨gb, fb⟩ := V6 sub put g f1 g1 hacc hm
  have back:∀ p x, p.toN<n.toN->φ' p=some x->φ p=some x := fun p x hp hx => by
    rcases f1.new p x hx with h | ⟨h, _⟩
    · exact h
    · omega
  unfold Q8 at hres
  rcases res with ⟨ho, e⟩ | ⟨ho, p, p', off, len, cap, ex, esz, e1, e2, hp, hp', heq, hold⟩
  · subst e
    rw [ho] at hres
    have hres:R.rv v1 hf m=R.rv vf hff nf := hres
    cases hres
    exact ⟨φ, fb, gb, Fg back ho r1⟩
  · rw [ho] at hres
    subst e1 e2
    have hres:(AT p h1 fun o => @Option.rec Ob (fun _ => R) (.fail "") (fun ob => AV m hf (some ob) fun hf => m.nx fun m' => .rv (.sl m off len cap ex esz) hf m') (Iq n o)) = .rv vf hff nf := hres
    rw [AB] at hres
    cases hob:Iq n (A8 p h1) with
    | none => rw [hob] at hres; cases hres
    | some ob =>
      rw [hob] at hres
      have hres:(AV m hf (some ob) fun hf => m.nx fun m' => .rv (.sl m off len cap ex esz) hf m') = .rv vf hff nf := hres
      rw [Bf, AA] at hres
      rcases K4.nx_eq m (fun m' => .rv (.sl m off len cap ex esz) (Af m hf (some ob)) m') with ⟨why, e⟩ | ⟨m', hm', e⟩
      · rw [e] at hres; cases hres
      rw [e] at hres
      cases hres
      have hOld := hold ob hob
      obtain ⟨obr, hob', hpv, hcl⟩ := U1 (heq ▸ hob)
      obtain ⟨b', s', tot', o, cap', hφ', gx, c1, c2, c3, c4⟩ := C6 r1
      have hmn:φ m=none := by
        cases hx:φ m with
        | none => rfl
        | some x => have := g.dom m x hx; omega
      have hoblk := g1.blk p' b' s' tot' hφ'
      -- no object that was there lies in that block
      have apart:∀ q oq, A8 q hf=some oq->∀ s tot, φ q=some (b', s, tot)->False := fun q oq hq s tot hx => by
        have hqn := g.dom q _ hx
        have hne:p'≠q := fun e => by rw [e] at hp'; omega
        by_cases hqa:q∈acc
        · rcases put.put q oq hq with ⟨_, a⟩ | ⟨a, _⟩
          · have a':A8 q h'=some oq := (hacc q hqa).1 ▸ a
            rcases g1.sep p' q obr oq b' s' tot' s tot hne hob' a' hφ' (f1.ext _ _ hx) with e | e
            · have := hpv hOld.prev q e; omega
            · rw [((hacc q hqa).2 oq a).prev] at e; cases e
          · exact a hqa
        · rcases f1.fresh p' b' s' tot' hφ' with h | h | ⟨r, sr, tr, hr, hne'⟩
          · have := g.dom p' _ h; omega
          · have := (g.blk q b' s tot hx).2; omega
          · cases hx':A8 r hs with
            | none => exact hne' hx'
            | some o' => exact Gu sub put g hqa hq hx (sub.mem hx') hr
      refine ⟨EA φ m (b', s', tot'), ⟨AF.le_trans fb.ext (CP hmn), fun q y hy => ?_, by omega, fb.os, fb.tape, fb.out, fb.size, fb.old, fun q b s t hx => ?_, fun q hq hn => ?_⟩, ⟨gb.base, fun q y hy => ?_, fun q b s t hy => ?_, fun q oq b s t hq hy => ?_, fun q r oq or b s t s2 t2 hne hq hr hx hy => ?_, fun q r oq or b s t s2 t2 hq hpr hr hx hy => ?_, gb.glob⟩, ?_⟩
      · rcases Av hy with ⟨rfl, _⟩ | ⟨_, hy⟩
        · exact .inr ⟨hm, by omega⟩
        · exact .inl hy
      · rcases Av hx with ⟨rfl, e⟩ | ⟨_, hx⟩
        · cases e
          rcases f1.fresh p' b' s' tot' hφ' with h | h | ⟨r, sr, tr, hr, hne'⟩
          · have := g.dom p' _ h; omega
          · exact .inr (.inl h)
          · refine .inr (.inr ⟨r, sr, tr, hr, ?_⟩)
            cases hx':A8 r hs with
            | none => exact absurd hx' hne'
            | some o' => obtain ⟨o0, e0⟩ := sub.in_h hx'; rw [e0]; simp
        · exact .inl hx
      · have hne:m≠q := fun e => hq (e ▸ hmn)
        rw [A6 _ _ hne]
        exact fb.dm q hq hn
      · rcases Av hy with ⟨rfl, _⟩ | ⟨_, hy⟩
        · omega
        · have := gb.dom q y hy; omega
      · rcases Av hy with ⟨rfl, e⟩ | ⟨_, hy⟩
        · cases e; exact hoblk
        · exact gb.blk q b s t hy
      · rcases Av hy with ⟨rfl, e⟩ | ⟨hne, hy⟩
        · cases e
          rw [A7] at hq; cases hq
          refine Lq (φ1 := φ') (fun q y hq hy => ?_) hOld (hcl (g1.obj p' obr _ _ _ hob' hφ'))
          rw [HW fun e => by subst e; omega]
          exact back q y hq hy
        · rw [A6 _ _ hne] at hq
          exact E7 (CP hmn) (gb.obj q oq b s t hq hy)
      · rcases Av hx with ⟨rfl, e⟩ | ⟨hq', hx⟩
        · cases e
          rcases Av hy with ⟨e, _⟩ | ⟨hr', hy⟩
          · exact absurd e hne
          · rw [A6 _ _ hr'] at hr
            exact (apart r or hr s2 t2 hy).elim
        · rw [A6 _ _ hq'] at hq
          rcases Av hy with ⟨rfl, e⟩ | ⟨hr', hy⟩
          · cases e
            exact (apart q oq hq s t hx).elim
          · rw [A6 _ _ hr'] at hr
            exact gb.sep q r oq or b s t s2 t2 hne hq hr hx hy
      · rcases Av hx with ⟨rfl, e⟩ | ⟨hq', hx⟩
        · rw [A7] at hq; cases hq
          rw [hOld.prev] at hpr; cases hpr
        · rw [A6 _ _ hq'] at hq
          rcases Av hy with ⟨rfl, e⟩ | ⟨hr', hy⟩
          · cases e
            exact (apart q oq hq s t hx).elim
          · rw [A6 _ _ hr'] at hr
            exact gb.sup q r oq or b s t s2 t2 hq hpr hr hx hy
      · rw [gx]
        simp only [Aj]
        exact ⟨b', s', tot', o, cap', BE _ _ _, rfl, c1, c2, c3, c4⟩
end
/-- A CALL WHOSE WAYS ARE LAID TOGETHER IS SOUND. -/
theorem Aal {f:FuncId} {run:Heap->R} {k:Nat} {args:List V} {h:Heap} {n:K4} {v:V} {h1:Heap} {n1:K4} (hr:brK k run args h n = .rv v h1 n1) {φ:AF} {w:World} {xs:Array Value} (g:Gam ρ B h n φ w) (hxs:Bi ρ φ args xs.toList)
    (H:∀ (hs:Heap) (Φ:R->Prop), (run hs).sat Φ->Gam ρ B hs n φ w->L3 P f xs w fun x w' => ∃ v h1 n1 φ', Φ (.rv v h1 n1)∧Fr hs h1 φ φ' n n1 w w'∧Gam ρ B h1 n1 φ' w'∧Aj ρ φ' v x) :
    L3 P f xs w fun x w' => ∃ φ', Fr h h1 φ φ' n n1 w w'∧Gam ρ B h1 n1 φ' w'∧Aj ρ φ' v x := by
  unfold brK at hr
  obtain ⟨hs, acc, sub, e1⟩ := Fc k (todo := Xi args []) (κ := fun hs acc => ZY n h acc (run hs)) (Sub.nil (h := h))
  rw [e1] at hr
  unfold ZY at hr
  obtain ⟨v1, hh1, e2⟩ := KI (by rw [hr]; trivial)
  rw [e2] at hr
  obtain ⟨m, hm, sat, e3⟩ := K6 (by rw [hr]; trivial)
  rw [e3] at hr
  obtain ⟨hf, put, e4⟩ := IG (by rw [hr]; trivial)
  rw [e4] at hr
  have gs:Gam ρ B hs n φ w := by
    refine ⟨g.base, g.dom, g.blk, fun p o b s tot hp hx => ?_, fun p q o o' b s tot s' tot' hne hp hq hx hy => ?_, fun p q o o' b s tot s' tot' hp hpr hq hx hy => ?_, g.glob⟩
    · obtain ⟨o0, e0, rfl, _⟩ := sub.sub p o hp
      exact Tt (g.obj p o0 b s tot e0 hx)
    · exfalso
      obtain ⟨o0, e0, _, g0, _⟩ := sub.sub p o hp
      obtain ⟨o1, e1, _, g1, _⟩ := sub.sub q o' hq
      have no:∀ (ob:Ob), Ez ob=true->Js ob=true->False := fun ob h1 h2 => by
        cases ob with
        | c cs sup prev =>
          cases sup with
          | true => cases h1
          | false => cases h2
        | _ => cases h2
      rcases g.sep p q o0 o1 b s tot s' tot' hne e0 e1 hx hy with h | h
      · exact no o1 g1 (g.sup p q o0 o1 b s tot s' tot' e0 h e1 hx hy)
      · exact no o0 g0 (g.sup q p o1 o0 b s' tot' s tot e1 h e0 hy hx)
    · obtain ⟨o0, e0, rfl, _⟩ := sub.sub p o hp
      rw [N2] at hpr; cases hpr
  intro o a K Q hK
  refine H hs _ sat gs o a K Q fun x w' ⟨v', h', n', φ', way, f1, g1, r1⟩ => hK x w' ?_
  exact WT sub put g f1 g1 r1 way hm hr
end
end Go.Ev

namespace Go.Ev
set_option linter.unusedVariables false
open Go.RowKit
/-- One round: the parameter, then the body. -/
abbrev rdK (pb px:K2) (al bl:List AOp) (cf:FL) (b x:V) (h:Heap) (n:K4):R :=
  Dh [] cf al [(px, x), (pb, b)] Fi h n fun env t h n => Dh [] cf bl env t h n fun _ _ h n => .rv (.bool true) h n
abbrev Rd := FL->V->V->Heap->K4->R
def OZ (l:List Oper):Bool := l.all fun o => match o.op with | .defer _ => false | _ => true
theorem KB {l:List Oper} (h:OZ l=true):∀ o∈l, ∀ c, o.op ≠ .defer c := fun o ho c e => by
  have := List.all_eq_true.1 h o ho
  rw [e] at this; cases this
def Tv:Code->Option (Array Oper)
  | .region _ ops false => some ops
  | _ => none
def WP:Code->Option (Array Oper)
  | .block _ c => Tv c
  | _ => none
/-- The round's text, and whether it is one. -/
def Vs (P:Program) (A:ApC):Option Rd :=
  match Tv A.asg, WP A.bod, K2.ofN A.par, K2.ofN A.box with
  | some oa, some ob, some px, some pb => match Ip P A.ntm oa oa.toList, Ip P A.ntm ob ob.toList with
    | some al, some bl => if Hd [] al [px, pb]&&(Hd [] bl (CJ al [px, pb])&&(OZ oa.toList&&(OZ ob.toList&&(Nat.blt A.par A.ntm&&(Nat.blt A.box A.ntm && !(A.par == A.box)))))) then some (rdK pb px al bl) else none
    | _, _ => none
  | _, _, _, _ => none
theorem Lt {c:Code} {ops:Array Oper} (h:Tv c=some ops):∃ i, c = .region i ops false := by
  unfold Tv at h
  split at h
  · cases h; exact ⟨_, rfl⟩
  · cases h
theorem Ro {c:Code} {ops:Array Oper} (h:WP c=some ops):∃ i j, c = .block i (.region j ops false) := by
  unfold WP at h
  split at h
  · obtain ⟨j, rfl⟩ := Lt h; exact ⟨_, j, rfl⟩
  · cases h
/-- The function. -/
def ML (P:Program) (f:FuncId):Option ApC :=
  match P.funcs[f]? with
  | some fn => match fn.body with
    | some (.seq (.region _ r0 false) (.seq (.seq (.region _ r1 false) (.block _ (.rangeFunc (.tmp s6) ps asg bod))) (.seq (.region _ r4 false) .ret))) =>
      match r0.toList, r1.toList, r4.toList, ps.toList, fn.results.toList with
      | [o1, o2], [o3], [o4, o5], [par], [.tmp s4] => match o1.op, o2.op, o3.op, o4.op, o5.op with
        | .box _ (.tmp s0), .assign (.const c2), .move (.tmp s1), .load tL (.tmp s2), .assign (.tmp s12) =>
          if (fn.name == "runtime.NumGoroutine")=false∧fn.ntmps=13∧s6=6∧s4=4∧s0=0∧s1=1∧s2=2∧s12=12∧o1.dst=some 2∧o2.dst=some 4∧o3.dst=some 6∧o4.dst=some 12∧o5.dst=some 4 ∧
            o1.guard=none∧o2.guard=none∧o3.guard=none∧o4.guard=none∧o5.guard=none∧Ly P tL=some false then some ⟨asg, bod, par, 2, 13⟩ else none
        | _, _, _, _, _ => none
      | _, _, _, _, _ => none
    | _ => none
  | none => none
def EB (l:List V) (κ:V->List V->R):R := @List.rec V (fun _ => R) (.fail "") (fun x xs _ => κ x xs) l
def J3 (l:List V) (κ:R):R := @List.rec V (fun _ => R) κ (By "") l
def RD (v:V) (κ:R):R :=
  @V.rec (fun _ => R) (fun _ => Unit) (As "") (AH "") (As "") (DB "") (As "") (As "")
    (fun u => @Nl.rec (fun _ => R) (.fail "") κ (.fail "") (.fail "") (.fail "") u) (AH "") (By "") (As "") (AH "") () (fun _ _ _ _ => ()) v
def Vg (v:V) (κ:Nat->List V->R):R :=
  @V.rec (fun _ => R) (fun _ => Unit) (As "") (AH "") (As "") (DB "") (As "") (As "") (AH "") (AH "")
    (fun f caps _ => κ f caps) (As "") (AH "") () (fun _ _ _ _ => ()) v
def Za (o:BX) (κ:R):R := @Option.rec Ob (fun _ => R) (.fail "") (fun o => @Ob.rec (fun _ => R) (By "") (By "") (Fl "") (.fail "") (fun _ _ => κ) o) o
def Iv (g:Nat) (l:List Nat) (κ:R):R := @List.rec Nat (fun _ => R) (.fail "") (fun x _ ih => br (Nat.beq x g) κ ih) l
def Aac (f:Nat) (its:List Nat) (cf:FL) (args:List V) (h:Heap) (n:K4):R :=
  EB args fun v l => EB l fun s l => J3 l (RD v (Vg s fun g caps => Iv g its
    (AV n h (some (.c (.l [.nil .sl]) false none)) fun h => n.nx fun n1 => AV n1 h (some (.lp f n)) fun h => n1.nx fun n2 =>
      BY (cf (AI g) (.oth (.yl n1)::caps) h n2) fun _ h m =>
        AT n1 h fun o => Za o (GD n h fun cs _ _ => Gt cs 0 fun sv => AV n h none fun h => AV n1 h none fun h => .rv sv h m))))
section
variable {P:Program} {ρ:Env} {B:Nat} {h:Heap} {n:K4}
/-- No object tells of a block. -/
def YZ (φ:AF) (h:Heap) (l:Nat):Prop := ∀ q s tot, φ q=some (l, s, tot)->A8 q h=none
theorem YZ.step {φ φ1:AF} {h1:Heap} {n1:K4} {w w1:World} {l:Nat} (u:YZ φ h l) (hl:l<w.heap.size) (f:Fr h h1 φ φ1 n n1 w w1):YZ φ1 h1 l := fun q s tot hq => by
  rcases f.fresh q l s tot hq with e | e | ⟨r, s', tot', hr, hne⟩
  · exact f.dm q (by rw [e]; simp) (u q s tot e)
  · omega
  · exact absurd (u r s' tot' hr) hne
theorem Gam.poke {φ:AF} {w:World} (g:Gam ρ B h n φ w) {l:Nat} (u:YZ φ h l) (O:Obj) (hno:∀ c e fr, w.heap[l]? ≠ some (.cells c e fr)):Gam ρ B h n φ (w.putObj l O) where
  glob := fun k c e fr hk => ⟨(g.glob k c e fr hk).1, by rw [World.putObj_heap_other (fun e' => by subst e'; exact hno _ _ _ (g.glob _ c e fr hk).2)]; exact (g.glob k c e fr hk).2⟩
  base := by rw [World.putObj_size]; exact g.base
  dom := g.dom
  blk := fun p b s t hp => by rw [World.putObj_size]; exact g.blk p b s t hp
  obj := fun p o b s t hp hφ => by
    refine BN (World.putObj_heap_other fun e => ?_) (g.obj p o b s t hp hφ)
    subst e
    rw [u p s t hφ] at hp; cases hp
  sep := g.sep
  sup := g.sup
/-- A block is other for a while. -/
theorem Fr.around {h1:Heap} {n1:K4} {φ φ1:AF} {w W:World} {l:Nat} {O O0:Obj} (hl:w.heap[l]? = some O0) (f:Fr h h1 φ φ1 n n1 (w.putObj l O) W):Fr h h1 φ φ1 n n1 w (W.putObj l O0) := by
  have hlt:l<w.heap.size := by
    rcases Nat.lt_or_ge l w.heap.size with e | e
    · exact e
    · rw [Array.getElem?_eq_none e] at hl; cases hl
  have hs := f.size
  rw [World.putObj_size] at hs
  refine ⟨f.ext, f.new, f.nn, f.os, f.tape, f.out, by rw [World.putObj_size]; exact hs, fun b hb hn => ?_, fun q b s t hq => ?_, f.dm⟩
  · by_cases e:b=l
    · subst e; rw [World.putObj_heap_same (by omega), hl]
    · rw [World.putObj_heap_other e, f.old b (by rw [World.putObj_size]; exact hb) hn, World.putObj_heap_other e]
  · have := f.fresh q b s t hq
    rwa [World.putObj_size] at this
/-- A new block is other behind. -/
theorem Fr.poke {h1:Heap} {n1:K4} {φ φ1:AF} {w W:World} {l:Nat} (O:Obj) (hl:w.heap.size≤l) (f:Fr h h1 φ φ1 n n1 w W):Fr h h1 φ φ1 n n1 w (W.putObj l O) :=
  ⟨f.ext, f.new, f.nn, f.os, f.tape, f.out, by rw [World.putObj_size]; exact f.size, fun b hb hn => by rw [World.putObj_heap_other (by omega)]; exact f.old b hb hn, f.fresh, f.dm⟩
def Yn:Regs := Regs.all (VP.all (.oth .any))
theorem Uj (p:K2):B3 p Yn = .oth .any := by simp only [B3, Yn, Regs.sel_all, VP.sel_all]
/-- The round is sound. -/
theorem Aco (hρ:B4 ρ) {cf:CF} {cf2:FL} (hcf:E8 P ρ B cf) (h2:∀ f, cf2 (AI f)=cf f) {A:ApC} {rd:Rd} (hrd:Vs P A=some rd) {fn:FuncId} {box:K4} {x:V} {Φ:R->Prop}
    (hs:(rd cf2 (.ptr box 0) x h n).sat Φ) {φ:AF} {w:World} {tmps:Array Value} {X:Value} {l D:Nat} (g:Gam ρ B h n φ w) (hl:w.heap[l]? = some (.loop (G4 A fn tmps D))) (u:YZ φ h l)
    (hsz:tmps.size=A.ntm) (hbox:Aj ρ φ (.ptr box 0) (tmps.getD A.box undef)) (hX:Aj ρ φ x X) :
    RoundIn Fence.wide 0 P l fn (tmps.setIfInBounds A.par X) A.asg A.bod w fun e w' => e = .returned (.bool true) ∧
      ∃ v h1 n1 φ', v = .bool true∧Φ (.rv v h1 n1)∧Fr h h1 φ φ' n n1 w w'∧Gam ρ B h1 n1 φ' w' := by
  unfold Vs at hrd
  split at hrd
  · rename_i oa ob px pb ha hb hpx hpb
    split at hrd
    · rename_i al bl hal hbl
      split at hrd
      · rename_i hok
        cases hrd
        simp only [Bool.and_eq_true, Nat.blt_eq] at hok
        obtain ⟨ok1, ok2, nd1, nd2, lt1, lt2, hne⟩ := hok
        have hne:A.par≠A.box := by simpa using hne
        obtain ⟨i, hasg⟩ := Lt ha
        obtain ⟨j, k, hbod⟩ := Ro hb
        have hlt:l<w.heap.size := by
          rcases Nat.lt_or_ge l w.heap.size with e | e
          · exact e
          · rw [Array.getElem?_eq_none e] at hl; cases hl
        have hpp:px≠pb := fun e => hne (K2.ofN_inj hpx (e ▸ hpb))
        have ri:RI [] [px, pb] [(px, x), (pb, .ptr box 0)] (EG px (EG pb Yn (.ptr box 0)) x) Fi := by
          refine ⟨fun h => (by cases h), fun p v hp => ?_, fun p hp => ?_, fun p s h => (by cases h)⟩
          · by_cases e:px=p
            · subst e; rw [Dw] at hp; cases hp; exact AX _ _ _
            · rw [Gz e] at hp
              rw [Bh _ _ e]
              by_cases e':pb=p
              · subst e'; rw [Dw] at hp; cases hp; exact AX _ _ _
              · rw [Gz e'] at hp; simp [G0] at hp
          · by_cases e:px=p
            · subst e; exact ⟨x, Dw⟩
            · rw [Gz e]
              by_cases e':pb=p
              · subst e'; exact ⟨_, Dw⟩
              · simp at hp; rcases hp with hp | hp
                · exact absurd hp.symm e
                · exact absurd hp.symm e'
        have hT:TR ρ A.ntm φ (EG px (EG pb Yn (.ptr box 0)) x) { tmps := tmps.setIfInBounds A.par X, defers := [] } := {
          size := by simp [hsz]
          defers := rfl
          at_ := fun s p hs hp => by
            show Aj ρ φ _ ((tmps.setIfInBounds A.par X).getD s undef)
            by_cases e:A.par=s
            · subst e
              rw [hpx] at hp; cases hp
              rw [AX, Array.getD_eq_getD_getElem?, Array.getElem?_setIfInBounds_self_of_lt (by omega)]
              exact hX
            · rw [Bh _ _ (fun e' => e (K2.ofN_inj hpx (by rw [e']; exact hp))), Array.getD_eq_getD_getElem?, Array.getElem?_setIfInBounds_ne e, ←Array.getD_eq_getD_getElem?]
              by_cases e2:A.box=s
              · subst e2
                rw [hpb] at hp; cases hp
                rw [AX]; exact hbox
              · rw [Bh _ _ (fun e' => e2 (K2.ofN_inj hpb (by rw [e']; exact hp))), Uj]
                simp only [Aj] }
        have hs:(Dh [] cf2 al [(px, x), (pb, .ptr box 0)] Fi h n fun env t h n => Dh [] cf2 bl env t h n fun _ _ h n => .rv (.bool true) h n).sat Φ := hs
        obtain ⟨env1, t1, t1', h1, n1, e1, ri1, H1⟩ := DA (B := B) (ops := oa) hρ hcf h2 hal ok1 ri (R.sat_good hs)
        rw [e1] at hs
        obtain ⟨env2, t2, t2', h2', n2, e2, ri2, H2⟩ := DA (B := B) (ops := ob) hρ hcf h2 hbl ok2 ri1 (R.sat_good hs)
        rw [e2] at hs
        have hs:Φ (.rv (.bool true) h2' n2) := hs
        refine roundIn_of_wpIn trivial ?_
        rw [hasg, hbod]
        have c1 := E9 (l := some l) (n := 0) (r := []) (.inr (KB nd1)) (H1 φ _ w hT g (Exit.then (fun a₁ w₁ => ∃ w₂, (Instr.beginRound l).run P w₁ = .ok () w₂∧(Code.block j (.region k ob false)).wpIn (Fence.wide.inRound l) 0 P (roundPost P l (fun e w' => e = .returned (.bool true) ∧
            ∃ v h1 n1 φ', v = .bool true∧Φ (.rv v h1 n1)∧Fr h h1 φ φ' n n1 w w'∧Gam ρ B h1 n1 φ' w')) a₁ w₂) (fun _ _ _ => False)) (wpListIn (NQ (some l)) 0 P oa _ []) fun φ1 a1 w1 f1 g1 T1 => wpListIn_nil (F := NQ (some l)) ?_)
        · rw [List.append_nil] at c1
          exact wpIn_region_list c1
        · have u1 := u.step hlt f1
          have hl1:w1.heap[l]? = some (.loop (G4 A fn tmps D)) := (f1.old l hlt u).trans hl
          refine ⟨_, run_beginRound hl1 rfl, wpIn_block (wpIn_region_list ?_)⟩
          have g1' := g1.poke u1 (.loop { G4 A fn tmps D with state := .busy }) (fun c e fr h => by rw [hl1] at h; cases h)
          have c2 := E9 (l := some l) (n := 0) (r := []) (.inr (KB nd2)) (H2 φ1 a1 _ T1 g1' (Exit.inBlock j (roundPost P l (fun e w' => e = .returned (.bool true) ∧
            ∃ v h1 n1 φ', v = .bool true∧Φ (.rv v h1 n1)∧Fr h h1 φ φ' n n1 w w'∧Gam ρ B h1 n1 φ' w'))) (wpListIn (NQ (some l)) 0 P ob _ []) fun φ2 a2 w2 f2 g2 T2 => wpListIn_nil (F := NQ (some l)) ?_)
          · rw [List.append_nil] at c2; exact c2
          · have hlt1:l<(w1.putObj l (.loop { G4 A fn tmps D with state := .busy })).heap.size := by rw [World.putObj_size]; have := f1.size; omega
            have u2 := u1.step hlt1 f2
            have hl2:w2.heap[l]? = some (.loop { G4 A fn tmps D with state := .busy }) := (f2.old l hlt1 u1).trans (World.putObj_heap_same (by rwa [World.putObj_size] at hlt1))
            exact ⟨_, _, run_endRound none hl2, rfl, _, h2', n2, φ2, rfl, hs, Fr.trans f1 (f2.around hl1), g2.poke u2 _ (fun c e fr h => by rw [hl2] at h; cases h)⟩
      · cases hrd
    · cases hrd
  · cases hrd
/-- It has a body. -/
def Ld (P:Program) (g:FuncId):Prop := ∃ fn c, P.funcs[g]? = some fn∧fn.body=some c∧(fn.name == "runtime.NumGoroutine")=false
theorem Bt {l:List V} {κ:V->List V->R} (hg:(EB l κ).good):∃ x xs, l=x::xs∧EB l κ=κ x xs := by
  cases l with
  | nil => exact hg.elim
  | cons x xs => exact ⟨x, xs, rfl, rfl⟩
theorem DF {l:List V} {κ:R} (hg:(J3 l κ).good):l=[]∧J3 l κ=κ := by
  cases l with
  | nil => exact ⟨rfl, rfl⟩
  | cons x xs => exact hg.elim
theorem Qf {v:V} {κ:R} (hg:(RD v κ).good):v = .nil .sl∧RD v κ=κ := by
  cases v with
  | nil u => cases u with
    | sl => exact ⟨rfl, rfl⟩
    | _ => exact hg.elim
  | _ => exact hg.elim
theorem RG {v:V} {κ:Nat->List V->R} (hg:(Vg v κ).good):∃ f l, v = .fn f l∧Vg v κ=κ f l := by
  cases v with
  | fn f l => exact ⟨f, l, rfl, rfl⟩
  | _ => exact hg.elim
theorem Vn {o:BX} {κ:R} (hg:(Za o κ).good):(∃ f b, o=some (.lp f b))∧Za o κ=κ := by
  cases o with
  | none => exact hg.elim
  | some ob => cases ob with
    | lp f b => exact ⟨⟨f, b, rfl⟩, rfl⟩
    | _ => exact hg.elim
theorem Mf {g:Nat}:∀ {l:List Nat} {κ:R}, (Iv g l κ).good->g∈l∧Iv g l κ=κ
  | [], κ, hg => hg.elim
  | x::l, κ, hg => by
    have hg:R.good (br (Nat.beq x g) κ (Iv g l κ)) := hg
    show _∧br (Nat.beq x g) κ (Iv g l κ)=κ
    cases hb:Nat.beq x g with
    | true => exact ⟨by rw [Nat.eq_of_beq_eq_true hb]; exact List.mem_cons_self .., rfl⟩
    | false =>
      rw [hb] at hg
      obtain ⟨h1, h2⟩ := Mf (show R.good (Iv g l κ) from hg)
      exact ⟨List.mem_cons_of_mem _ h1, h2⟩
theorem Fv {o:Oper} {a:Act} {w w':World} {x:Value} {K:Act->World->Prop} {Q:Exit->Act->World->Prop} (hr:(execOp a.eval o).run P w = .ok (.value x) w') (hK:K (a.put o.dst x) w'):o.wpIn Fence.wide 0 P a w K Q :=
  Td (l := none) (.inl rfl) (fun _ _ h => h) (show o.wp P a w K Q by unfold Oper.wp; rw [hr]; exact hK)
/-- The function is sound. -/
theorem Adm {f:FuncId} {its:List Nat} {A:ApC} (hA:ρ.ap f=some A) (hsh:ML P f=some A) (hits:∀ g∈its, Ld P g) {cf:CF} {cf2:FL} (hcf:Jd P ρ B cf) (h2:∀ f, cf2 (AI f)=cf f) {args:List V} {Φ:R->Prop}
    (hr:(Aac f its cf2 args h n).sat Φ) {φ:AF} {w:World} {xs:Array Value} (g:Gam ρ B h n φ w) (hxs:Bi ρ φ args xs.toList) :
    L3 P f xs w fun x w' => ∃ v h1 n1 φ', Φ (.rv v h1 n1)∧Fr h h1 φ φ' n n1 w w'∧Gam ρ B h1 n1 φ' w'∧Aj ρ φ' v x := by
  unfold ML at hsh
  split at hsh
  next fn hfn =>
    split at hsh
    next i0 r0 i1 r1 b0 s6 ps asg bod i4 r4 hbody =>
      split at hsh
      next o1 o2 o3 o4 o5 par s4 e0 e1 e4 eps ers =>
        split at hsh
        next tS s0 c2 s1 tL s2 s12 p1 p2 p3 p4 p5 =>
          split at hsh
          next hc =>
            obtain ⟨hname, hnt, rfl, rfl, rfl, rfl, rfl, rfl, d1, d2, d3, d4, d5, g1, g2, g3, g4, g5, hagg⟩ := hc
            cases hsh
            have hname:(fn.name == "runtime.NumGoroutine")=false := hname
            -- the arguments
            unfold Aac at hr
            obtain ⟨v, l, rfl, q1⟩ := Bt (R.sat_good hr)
            rw [q1] at hr
            obtain ⟨s, l, rfl, q2⟩ := Bt (R.sat_good hr)
            rw [q2] at hr
            obtain ⟨rfl, q3⟩ := DF (R.sat_good hr)
            rw [q3] at hr
            obtain ⟨rfl, q4⟩ := Qf (R.sat_good hr)
            rw [q4] at hr
            obtain ⟨it, caps, rfl, q5⟩ := RG (R.sat_good hr)
            rw [q5] at hr
            obtain ⟨hmem, q6⟩ := Mf (R.sat_good hr)
            rw [q6, Bf, AA] at hr
            rcases K4.nx_eq n _ with ⟨m, e⟩ | ⟨n1, hn1, e⟩
            · rw [e] at hr; exact hr.elim
            rw [e, Bf, AA] at hr
            rcases K4.nx_eq n1 _ with ⟨m, e⟩ | ⟨n2, hn2, e'⟩
            · rw [e] at hr; exact hr.elim
            rw [e'] at hr
            have hr := E5 hr
            rw [h2] at hr
            obtain ⟨X0, l0, hx0, r0', hl0⟩ := Ak.1 hxs
            obtain ⟨X1, l1, rfl, r1', hl1⟩ := Ak.1 hl0
            have hl1 := Ao.1 hl1
            subst hl1
            have hX0 := Bs r0'
            obtain ⟨cs, hX1, rcs⟩ := ID r1'
            have hps:ps = #[par] := by cases ps; simp at eps; rw [eps]
            have hres:fn.results = #[.tmp 4] := by cases hh:fn.results with | mk l => rw [hh] at ers; simp at ers; rw [ers]
            -- the box
            obtain ⟨ga, fa⟩ := Ck g (n' := n1) hn1 (e := tS) (fr := (0, 0)) (c := #[X0]) (cs := .l [.nil .sl]) (by simp [Cs.len]) (L4 _)
              (by have := E2 (ρ := ρ) (φ := φ) (l := [.nil .sl]) (xs := [X0]) (Ak.2 ⟨X0, [], rfl, r0', Ao.2 rfl⟩) (by simp [hX0, BB, Value.oneCell']); simpa using this)
            generalize hW0:w.alloc (.cells #[X0] tS (0, 0))=W0 at ga fa
            have hb0:W0.heap[w.heap.size]? = some (.cells #[X0] tS (0, 0)) := by rw [←hW0]; exact World.alloc_heap_new w _
            have gb := ga.push (.deferred (some []))
            have fb := Fr.trans fa (Fr.push (h := Af n h (some (.c (.l [.nil .sl]) false none))) (n := n1) (φ := EA φ n (w.heap.size, 0, (#[X0]:Array Value).size)) (.deferred (some [])))
            have hs0:W0.heap.size=w.heap.size+1 := by rw [←hW0, World.size_alloc]
            generalize htm:((((#[X0, X1]:Array Value)++Array.replicate (fn.ntmps - 2) undef).setIfInBounds 2 (.pointer (some ⟨w.heap.size, 0, none⟩))).setIfInBounds 4 c2).setIfInBounds 6 X1=tm
            have htsz:tm.size=13 := by rw [←htm, hnt]; simp
            have ht2:tm.getD 2 undef = .pointer (some ⟨w.heap.size, 0, none⟩) := by rw [←htm, hnt]; simp [Array.getD_eq_getD_getElem?]
            have ht6:tm.getD 6 undef=X1 := by rw [←htm, hnt]; simp [Array.getD_eq_getD_getElem?]
            intro o a K Q hK
            have hcf':(callFunc f #[X0, X1]).run P w = .ok (.enter f #[X0, X1]) w := by
              have hname':fn.name ≠ "runtime.NumGoroutine" := by simpa using hname
              simp [callFunc, hfn, hname', hbody]
            have hxe:xs = #[X0, X1] := by cases xs; simp at hx0; rw [hx0]
            rw [hxe, hcf']
            refine (callsIn_wide (n := 0)).1 (callsIn_of_wp_marks hfn hbody trivial ?_ rfl)
            have ev0:Act.eval { tmps := (#[X0, X1]:Array Value)++Array.replicate (fn.ntmps - (#[X0, X1]:Array Value).size) undef, defers := [] } (.tmp 0)=X0 := by
              simp [Act.eval, Array.getD_eq_getD_getElem?, Array.getElem?_append]
            have hcl:X0.cells = #[X0] := by rw [hX0]; rfl
            refine wpIn_seq (wpIn_region_list ?_)
            rw [e0]
            refine wpListIn_plain g1 fun K1 hK1 => Fv (x := .pointer (some ⟨w.heap.size, 0, none⟩)) (w' := W0) (by rw [←hW0]; simp only [execOp, p1, ev0]; simp [Instr.box, newVar, Ft, hcl]) (hK1 _ _ ?_)
            refine wpListIn_plain g2 fun K2 hK2 => Fv (x := c2) (w' := W0) (by simp [execOp, p2, Act.eval]) (hK2 _ _ ?_)
            refine wpListIn_nil ?_
            refine wpIn_seq (wpIn_seq (wpIn_region_list ?_))
            rw [e1]
            refine wpListIn_plain g3 fun K3 hK3 => Fv (x := X1) (w' := W0) (by simp only [execOp, p3, Act.eval, Act.put, d1, d2, hnt]; simp [Array.getD_eq_getD_getElem?, Array.getElem?_setIfInBounds]) (hK3 _ _ ?_)
            refine wpListIn_nil ?_
            refine wpIn_block (wpIn_rangeFunc fun fn' _ => ?_)
            have hact:((({ tmps := (#[X0, X1]:Array Value)++Array.replicate (fn.ntmps - (#[X0, X1]:Array Value).size) undef, defers := [] }:Act).put o1.dst (.pointer (some ⟨w.heap.size, 0, none⟩))).put o2.dst c2).put o3.dst X1={ tmps := tm, defers := [] } := by
              rw [d1, d2, d3, ←htm]; rfl
            rw [hact]
            generalize hWb:W0.alloc (.deferred (some []))=Wb at gb fb
            have hsb:Wb.heap.size=w.heap.size+2 := by rw [←hWb, World.size_alloc, hs0]
            have hDb:Wb.heap[w.heap.size+1]? = some (.deferred (some [])) := by rw [←hWb, ←hs0]; exact World.alloc_heap_new _ _
            have hn1':EA φ n (w.heap.size, 0, (#[X0]:Array Value).size) n1=none := gb.at_n
            have gc := gb.alloc (p := n1) (n' := n2) hn1' (by omega) (by omega) (.lp f n) rfl (.loop (G4 ⟨asg, bod, par, 2, 13⟩ fn' tm W0.heap.size)) 0
              (fun φ' hle w' hw' => ⟨rfl, ⟨asg, bod, par, 2, 13⟩, fn', tm, W0.heap.size, hA, hw', htsz, by rw [ht2]; exact Fj hle CT⟩)
            have fc := Fr.trans fb (Fr.alloc (h := Af n h (some (.c (.l [.nil .sl]) false none))) (w := Wb) (n := n1) (n' := n2) (p := n1) hn1' (by omega) (Nat.le_refl _) (by omega) (some (.lp f n)) (.loop (G4 ⟨asg, bod, par, 2, 13⟩ fn' tm W0.heap.size)) 0)
            generalize hWc:Wb.alloc (.loop (G4 ⟨asg, bod, par, 2, 13⟩ fn' tm W0.heap.size))=Wc at gc fc
            have hsc:Wc.heap.size=w.heap.size+3 := by rw [←hWc, World.size_alloc, hsb]
            have hDc:Wc.heap[w.heap.size+1]? = some (.deferred (some [])) := by rw [←hWc, Below.heap_alloc _ _ _ (by omega)]; exact hDb
            have hφn:φ n=none := g.at_n
            have hφn1:φ n1=none := by
              cases hx:φ n1 with
              | none => rfl
              | some x => have := g.dom n1 x hx; omega
            generalize hφc:EA (EA φ n (w.heap.size, 0, (#[X0]:Array Value).size)) n1 (Wb.heap.size, 0, 0)=φc at gc fc
            have hcn1:φc n1=some (w.heap.size+2, 0, 0) := by rw [←hφc, BE, hsb]
            have hnn:n1≠n := fun e => by rw [e] at hn1; omega
            have hcn:φc n=some (w.heap.size, 0, 1) := by rw [←hφc, HW hnn, BE]; rfl
            have huD:YZ φc (Af n1 (Af n h (some (.c (.l [.nil .sl]) false none))) (some (.lp f n))) (w.heap.size+1) := fun q s tot hq => by
              rw [←hφc] at hq
              rcases Av hq with ⟨_, e⟩ | ⟨_, hq⟩
              · simp only [Prod.mk.injEq] at e; omega
              · rcases Av hq with ⟨_, e⟩ | ⟨_, hq⟩
                · simp only [Prod.mk.injEq] at e; omega
                · have := (g.blk q _ _ _ hq).2; omega
            obtain ⟨fng, cg, hg1, hg2, hg3⟩ := hits it hmem
            have call := Ir hg1 hg2 (by simpa using hg3) (hcf it _ _ n2 _ hr φc Wc (#[.func (.yield (w.heap.size+2)) #[] #[]]++cs) gc (by
              rw [Array.toList_append]
              exact Ak.2 ⟨_, cs.toList, rfl, by simp only [Aj]; exact ⟨_, _, _, hcn1, rfl⟩, by rw [←hφc]; exact Gx (AF.le_trans (CP hφn) (CP hn1')) rcs⟩))
            refine ⟨w.heap.size+2, [{ target := .collected (w.heap.size+1), args := #[] }], Wc, { target := .fn (.func it) cs, args := #[.func (.yield (w.heap.size+2)) #[] #[]] }, Wc, it, #[.func (.yield (w.heap.size+2)) #[] #[]]++cs, Wc, ?_, ?_, ?_, ?_, fun h => (by cases h), ?_⟩
            · have := run_enterLoop_outer (P := P) (w := W0) fn' tm ps asg bod
              rw [hs0] at this
              show (Instr.enterLoop fn' tm ps asg bod none).run P W0=_
              rw [this, hWb, hps, ←hWc, hs0]; rfl
            · have e6:Act.eval { tmps := tm, defers := [] } (.tmp 6) = .func (.func it) #[] cs := by show tm.getD 6 undef=_; rw [ht6, hX1]
              simp only [resolve, rangeCall, e6, Deferred.ofValue]
              simp [Act.eval]
            · intro _ _; trivial
            · simp [invoke, callFunc, hg1, hg2, show fng.name ≠ "runtime.NumGoroutine" by simpa using hg3]
            · refine (callsIn_wide (n := 0)).2 (call.mono fun e w3 he => ?_)
              cases e with
              | panicked c => exact he.elim
              | outgrown => exact he.elim
              | returned u =>
              obtain ⟨v, h3, n3, φ3, hΦ, f3, g3', _⟩:∃ v h1 n1 φ', YQ _ Φ (.rv v h1 n1)∧Fr _ h1 φc φ' n2 n1 Wc w3∧Gam ρ B h1 n1 φ' w3∧Aj ρ φ' v u := he
              have hΦ:(AT n1 h3 fun o => Za o (GD n h3 fun cs _ _ => Gt cs 0 fun sv => AV n h3 none fun h => AV n1 h none fun h => .rv sv h n3)).sat Φ := hΦ
              rw [AB] at hΦ
              obtain ⟨⟨f', b', hlp⟩, q7⟩ := Vn (R.sat_good hΦ)
              rw [q7, DC] at hΦ
              obtain ⟨cs3, sup3, prev3, hbx, q8⟩ := Cu (R.sat_good hΦ)
              rw [q8] at hΦ
              obtain ⟨sv, hsv, q9⟩ := Ih (R.sat_good hΦ)
              rw [q9, Bf, AA, Bf, AA] at hΦ
              have hΦ:Φ (.rv sv (Af n1 (Af n h3 none) none) n3) := hΦ
              have h3n := f3.ext _ _ hcn
              have h3n1 := f3.ext _ _ hcn1
              obtain ⟨_, A3, fn3, tm3, D3, _, hrec, _, _⟩ := g3'.obj n1 _ _ _ _ hlp h3n1
              obtain ⟨c3, e3, fr3, k1, k2, k3, k4, k5⟩ := g3'.obj n _ _ _ _ hbx h3n
              obtain ⟨SV, hSV, rSV, _⟩ := k5 0 sv hsv
              have hD3:w3.heap[w.heap.size+1]? = some (.deferred (some [])) := (f3.old _ (by omega) huD).trans hDc
              have uD3 := huD.step (by omega) f3
              have ul3:YZ φ3 (Af n1 (Af n h3 none) none) (w.heap.size+2) := fun q s tot hq => by
                by_cases e:n1=q
                · subst e; exact A7 _ _ _
                · rw [A6 _ _ e]
                  by_cases e':n=q
                  · subst e'; exact A7 _ _ _
                  · rw [A6 _ _ e']
                    cases hq':A8 q h3 with
                    | none => rfl
                    | some o2 =>
                      rcases g3'.sep n1 q _ o2 _ _ _ s tot e hlp hq' h3n1 hq with e2 | e2
                      · cases e2
                      · have := g3'.sup q n1 o2 _ _ s tot _ _ hq' e2 hlp hq h3n1; cases this
              refine ⟨none, w3.putObj (w.heap.size+2) (.loop { G4 A3 fn3 tm3 D3 with state := .exhausted }), run_endLoop hrec (by simp), ?_⟩
              refine wpIn_seq (wpIn_region_list ?_)
              rw [e4]
              generalize hw4:w3.putObj (w.heap.size+2) (.loop { G4 A3 fn3 tm3 D3 with state := .exhausted })=w4
              have hb4:w4.heap[w.heap.size]? = some (.cells c3 e3 fr3) := by rw [←hw4, World.putObj_heap_other (by omega)]; exact k1
              have hD4:w4.heap[w.heap.size+1]? = some (.deferred (some [])) := by rw [←hw4, World.putObj_heap_other (by omega)]; exact hD3
              have hld:(execOp (Act.eval { tmps := tm, defers := [{ target := .collected (w.heap.size+1), args := #[] }]++[] }) o4).run P w4 = .ok (.value SV) w4 := by
                have e2:Act.eval { tmps := tm, defers := [{ target := .collected (w.heap.size+1), args := #[] }]++[] } (.tmp 2) = .pointer (some ⟨w.heap.size, 0, none⟩) := ht2
                simp only [execOp, p4, e2]
                simp [Instr.loadAt, Instr.sureAddr, loadVar, BM hagg, H5 hb4 hSV]
              refine wpListIn_plain g4 fun K4 hK4 => Fv hld (hK4 _ _ ?_)
              refine wpListIn_plain g5 fun K5 hK5 => Fv (x := SV) (w' := w4) (by
                simp only [execOp, p5, Act.eval, Act.put, d4]; simp [Array.getD_eq_getD_getElem?, htsz]) (hK5 _ _ ?_)
              refine wpListIn_nil (wpIn_ret ?_)
              have take := run_takeDeferred (P := P) hD4
              rw [d4, d5]
              show LeavesInM Fence.wide 0 P fn _ _ [{ target := .collected (w.heap.size+1), args := #[] }] .returning w4
              unfold LeavesInM
              refine ⟨(by intro h; cases h), .inl ⟨w.heap.size+1, _, rfl, take, ?_⟩⟩
              unfold LeavesInM LeavesIn
              refine ⟨SV, ?_, ?_⟩
              · simp [results, hres, Act.put, htsz, Array.getD_eq_getD_getElem?]
              · have hna:∀ q, φ q≠none->A8 q (Af n1 (Af n h3 none) none)=A8 q h3 := fun q hq => by
                  rw [A6 _ _ (fun e:n1=q => hq (by rw [←e]; exact hφn1)), A6 _ _ (fun e:n=q => hq (by rw [←e]; exact hφn))]
                have fz := ((Fr.trans fc f3).show hna).poke (l := w.heap.size+2) (.loop { G4 A3 fn3 tm3 D3 with state := .exhausted }) (by omega)
                have gz := (g3'.aside (p := n)).aside (p := n1)
                have gz := gz.poke ul3 (.loop { G4 A3 fn3 tm3 D3 with state := .exhausted }) (fun c e fr h => by rw [hrec] at h; cases h)
                rw [hw4] at fz gz
                have uDz:YZ φ3 (Af n1 (Af n h3 none) none) (w.heap.size+1) := fun q s tot hq => by
                  by_cases e:n1=q
                  · subst e; exact A7 _ _ _
                  · rw [A6 _ _ e]
                    by_cases e':n=q
                    · subst e'; exact A7 _ _ _
                    · rw [A6 _ _ e']; exact uD3 q s tot hq
                exact hK SV _ ⟨sv, _, n3, φ3, hΦ, fz.poke _ (by omega), gz.poke uDz _ (fun c e fr h => by rw [hD4] at h; cases h), rSV⟩
          next => cases hsh
        next => cases hsh
      next => cases hsh
    next => cases hsh
  next => cases hsh
end
end Go.Ev
